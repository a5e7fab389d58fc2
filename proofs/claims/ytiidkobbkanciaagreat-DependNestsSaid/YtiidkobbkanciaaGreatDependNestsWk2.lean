/- The walks: the program does what the functions in plain form say. Part 2. -/
import Derived.Test.YtiidkobbkanciaaGreatDependNestsWk1
set_option linter.all false
namespace Go.Proofs.YtiidkobbkanciaaGreat
open Go.Lx Go.Sh
set_option linter.unusedVariables false
set_option maxRecDepth 100000
set_option maxHeartbeats 20000000
theorem depend_CheckProof_c2_ok {p0 : Int} {p1 : api_LinNode} {pb1_0 : Int} {pb1_1 : (List api_LinRow)} {pb1_2 : (List api_LinNode)} {b2 : (List (List api_LinRow))} {r : Int} (h : depend_CheckProof_c2 p0 p1 pb1_0 pb1_1 pb1_2 b2 = some r) : FunOk PP 114 [.d (.int .i64 p0), .d (api_LinNode.d p1), .bptr ⟨0, 0, 0⟩ 0] [[((0, 0), .box [.bptr ⟨0, 1, 0⟩ 0]), ((1, 0), .box [.d (.int .i64 pb1_0), .d (.sl (pb1_1.map api_LinRow.d)), .d (.sl (pb1_2.map api_LinNode.d)), .ref ⟨0, 2, 0⟩ 0 b2.length b2.length]), ((2, 0), .arr 1 false (b2.map (dL api_LinRow.d)))]] ⟨.d (.int .i64 r), []⟩ := by
  unfold depend_CheckProof_c2 at h
  refine fi Tryz.func114 rfl (by kernel_rfl) (by kernel_rfl) (by kernel_rfl) ?_
  refine sr ?_
  refine ts (bxI rfl) ?_
  refine ts (ac rfl rfl) ?_
  refine rn ?_
  refine sr ?_
  refine ts (faI fT77_1 rfl rfl) ?_
  refine ts (ldI sT48 rfl rfl) ?_
  obtain ⟨x1, hx1, h⟩ := bnd h
  refine ts (cln (f := fun _ => false) kf rfl (.c rfl le1 (.c rfl le1 .n)) rfl (slices_ContainsFunc_int__depend_CheckProof_c2_c1_ok hx1) rfl) ?_
  refine ts (as_ rfl) ?_
  refine rn ?_
  refine CWp.seq ?_
  refine sr ?_
  refine ts (mv rfl) ?_
  refine ts (mv rfl) ?_
  refine sg 5 [(16, .d (.bool (x1 || (!(depend_inside p1.At (-100000) 100000)))))] ?_ ?_
  · rcases bool_or x1 with g2 | g3
    · refine un (gn rfl rfl g2) ?_
      refine un (gn rfl rfl g2) ?_
      refine un (gn rfl rfl g2) ?_
      refine un (gn rfl rfl g2) ?_
      refine ts (pt rfl g2 rfl) ?_
      exact rn (trD 5 rfl (.c (bq (or_t g2)) .n) (by kernel_rfl))
    · refine us (gy rfl rfl g3) (faI fT77_4 rfl rfl) ?_
      refine us (gy rfl rfl g3) (ldI sT3 rfl rfl) ?_
      refine us (gy rfl rfl g3) (cln (f := fun _ => false) kf rfl (.c rfl le1 (.c rfl le1 (.c rfl le1 .n))) rfl (depend_inside_ok (rfl : depend_inside p1.At (-100000) 100000 = _)) rfl) ?_
      refine us (gy rfl rfl g3) (not_ rfl) ?_
      refine ts (pf rfl g3 rfl) ?_
      exact rn (trD 5 rfl (.c (bq (or_f g3)) .n) (by kernel_rfl))
  refine rn ?_
  rcases ite h with ⟨c4, h⟩ | ⟨c4, h⟩
  · cases h
  · refine cf rfl (vf c4) ?_
    refine CWp.skip ?_
    refine sr ?_
    refine ts (ld sT176 rfl (uw0 rfl) rfl) ?_
    refine ts (mv rfl) ?_
    obtain ⟨x5, hx5, h⟩ := bnd h
    refine ts (cln (f := fun _ => false) kf rfl (.c rfl le5 (.c rfl le1 .n)) rfl (fr_ (cc' := []) (ids := [⟨0, 1, 0⟩, ⟨0, 2, 0⟩]) (cbs := [.box [.d (.int .i64 pb1_0), .d (.sl (pb1_1.map api_LinRow.d)), .d (.sl (pb1_2.map api_LinNode.d)), .ref ⟨0, 1, 0⟩ 0 b2.length b2.length], .arr 1 false (b2.map (dL api_LinRow.d))]) (cbs' := [.box [.d (.int .i64 pb1_0), .d (.sl (pb1_1.map api_LinRow.d)), .d (.sl (pb1_2.map api_LinNode.d)), .ref ⟨0, 1, 0⟩ 0 b2.length b2.length], .arr 1 false (b2.map (dL api_LinRow.d))]) (depend_checker_isRight_ok hx5) (by first | rfl | (simp only [List.length_set, copied_len] <;> rfl)) (.inl ⟨rfl, rfl⟩) (by simp) rfl rfl rfl rfl rfl rfl rfl rfl (.c rfl (.c rfl .n)) (.keep (.keep .nil rfl (by simp)) rfl (by simp))) rfl) ?_
    refine ts (bld (v := .d (depend_rule.d (depend_rule.mk x5 19))) rfl (by kernel_rfl)) ?_
    refine ts (bsT (l := (([(depend_rule.mk x5 19)] : List depend_rule).map depend_rule.d)) lT226 rfl rfl rfl (by kernel_rfl)) ?_
    obtain ⟨x6, hx6, h⟩ := bnd h
    refine ts (cln (f := fun _ => false) kf rfl (.c rfl le2 .n) rfl (depend_broken_ok hx6) rfl) ?_
    refine ts (as_ rfl) ?_
    refine rn ?_
    refine CWp.ret ?_
    obtain rfl := some_inj h
    exact ⟨trivial, rt1 (ex := false) (by exact (.t rfl .n)) (by exact (gd (by rfl))) (by rfl) (by rfl)⟩
theorem depend_firstBad_api_LinNode__depend_CheckProof_c2_ok {p0 : (List api_LinNode)} {pb1_0 : Int} {pb1_1 : (List api_LinRow)} {pb1_2 : (List api_LinNode)} {b2 : (List (List api_LinRow))} {r : Int × Int} (h : depend_firstBad_api_LinNode__depend_CheckProof_c2 p0 pb1_0 pb1_1 pb1_2 b2 = some r) : FunOk PP 111 [.d (.sl (p0.map api_LinNode.d)), .clo 114 [.bptr ⟨0, 0, 0⟩ 0]] [[((0, 0), .box [.bptr ⟨0, 1, 0⟩ 0]), ((1, 0), .box [.d (.int .i64 pb1_0), .d (.sl (pb1_1.map api_LinRow.d)), .d (.sl (pb1_2.map api_LinNode.d)), .ref ⟨0, 2, 0⟩ 0 b2.length b2.length]), ((2, 0), .arr 1 false (b2.map (dL api_LinRow.d)))]] ⟨.tup [.d (.int .i64 r.1), .d (.int .i64 r.2)], []⟩ := by
  unfold depend_firstBad_api_LinNode__depend_CheckProof_c2 at h
  refine fi Tryz.func111 rfl (by kernel_rfl) (by kernel_rfl) (by kernel_rfl) ?_
  refine sr ?_
  refine ts (ac rfl rfl) ?_
  refine ts (ac rfl rfl) ?_
  refine rn ?_
  refine CWp.seq ?_
  refine sr ?_
  refine ts (mv rfl) ?_
  refine ts (lnD lT49 rfl rfl) ?_
  refine ts (mv rfl) ?_
  refine rn ?_
  obtain ⟨z6, hz6, h⟩ := bnd h
  refine lb (E := fun s1 => [(1, .clo 114 [.bptr ⟨0, 0, 0⟩ 0]), (9, .d (.sl (p0.map api_LinNode.d))), (10, .d (.int .i64 (p0.length : Int))), (11, .d (.int .i64 s1))]) (M := fun s1 => ⟨[], [[((0, 0), .box [.bptr ⟨0, 1, 0⟩ 0]), ((1, 0), .box [.d (.int .i64 pb1_0), .d (.sl (pb1_1.map api_LinRow.d)), .d (.sl (pb1_2.map api_LinNode.d)), .ref ⟨0, 2, 0⟩ 0 b2.length b2.length]), ((2, 0), .arr 1 false (b2.map (dL api_LinRow.d)))]], []⟩) (E' := fun y => []) (M' := fun y => ⟨[], [[((0, 0), .box [.bptr ⟨0, 1, 0⟩ 0]), ((1, 0), .box [.d (.int .i64 pb1_0), .d (.sl (pb1_1.map api_LinRow.d)), .d (.sl (pb1_2.map api_LinNode.d)), .ref ⟨0, 2, 0⟩ 0 b2.length b2.length]), ((2, 0), .arr 1 false (b2.map (dL api_LinRow.d)))]], []⟩) hz6 (by (try simp only [List.length_set, copied_len]); exact trkc (by kernel_rfl) (by kernel_rfl) (by kernel_rfl)) ?_ ?_
  · intro s1 ww h
    unfold depend_firstBad_api_LinNode__depend_CheckProof_c2.s1 at h
    refine sr ?_
    refine ts (lss rfl rfl) ?_
    refine rn ?_
    refine CWp.seq ?_
    rcases ite h with ⟨c2, h⟩ | ⟨c2, h⟩
    · refine ct rfl (bt c2) ?_
      refine CWp.skip ?_
      refine CWp.seq ?_
      refine CWp.block ?_
      refine sr ?_
      refine ts (mv rfl) ?_
      obtain ⟨x3, hx3, h⟩ := bnd h
      refine ts (ixD lT49 api_LinNode.sz rfl rfl hx3) ?_
      refine ts (ldIW aT77 rfl rfl rfl) ?_
      refine ta (al (n := 0) zT77 rfl) ?_
      refine ts (as_ rfl) ?_
      refine tt0 (stW aT77 rfl rfl rfl rfl rfl rfl .h) ?_
      refine rn ?_
      refine sr ?_
      refine ts (mv rfl) ?_
      refine ts (mv rfl) ?_
      refine ts (ldW (e := api_LinNode.d x3) aT77 rfl (ow rfl) rfl rfl) ?_
      obtain ⟨x4, hx4, h⟩ := bnd h
      refine ts (cln (f := fun _ => false) (kc rfl) rfl (.c rfl le1 (.c rfl le1 .n)) rfl (fr_ (cc' := []) (ids := [⟨0, 0, 0⟩, ⟨0, 1, 0⟩, ⟨0, 2, 0⟩]) (cbs := [.box [.bptr ⟨0, 1, 0⟩ 0], .box [.d (.int .i64 pb1_0), .d (.sl (pb1_1.map api_LinRow.d)), .d (.sl (pb1_2.map api_LinNode.d)), .ref ⟨0, 2, 0⟩ 0 b2.length b2.length], .arr 1 false (b2.map (dL api_LinRow.d))]) (cbs' := [.box [.bptr ⟨0, 1, 0⟩ 0], .box [.d (.int .i64 pb1_0), .d (.sl (pb1_1.map api_LinRow.d)), .d (.sl (pb1_2.map api_LinNode.d)), .ref ⟨0, 2, 0⟩ 0 b2.length b2.length], .arr 1 false (b2.map (dL api_LinRow.d))]) (depend_CheckProof_c2_ok hx4) (by first | rfl | (simp only [List.length_set, copied_len] <;> rfl)) (.inl ⟨rfl, rfl⟩) (by simp) rfl rfl rfl rfl rfl rfl rfl rfl (.c rfl (.c rfl (.c rfl .n))) (.keep (.keep (.keep .nil rfl (by simp)) rfl (by simp)) rfl (by simp))) rfl) ?_
      refine ts (as_ rfl) ?_
      refine rn ?_
      refine sr ?_
      refine ts (mv rfl) ?_
      refine ts (neq rfl rfl) ?_
      refine rn ?_
      rcases ite h with ⟨c5, h⟩ | ⟨c5, h⟩
      · cases h
      · refine cf rfl (nf c5) ?_
        refine CWp.skip ?_
        refine lr ?_
        refine ts (add rfl rfl) ?_
        refine ts (mv rfl) ?_
        refine rn ?_
        obtain rfl := some_inj h
        exact ⟨rfl, (by (try simp only [List.length_set, copied_len]); exact trkc (by kernel_rfl) (by kernel_rfl) (by kernel_rfl))⟩
    · refine cf rfl (bf c2) ?_
      refine CWp.exit ?_
      obtain rfl := some_inj h
      exact ⟨rfl, (by (try simp only [List.length_set, copied_len]); exact trkc (by kernel_rfl) (by kernel_rfl) (by kernel_rfl))⟩
  · intro e s ht
    refine CWp.trim ht ?_
    refine sr ?_
    refine ts (ac rfl rfl) ?_
    refine ts (ac rfl rfl) ?_
    refine rn ?_
    refine CWp.ret ?_
    obtain rfl := some_inj h
    exact ⟨trivial, rt2 (ex := false) (by exact (.t rfl (.t rfl .n))) (by exact (sc (gd (by rfl)) (sc (gd (by rfl)) sn))) (by rfl) (by rfl)⟩
theorem depend_CheckProof_ok {p0 : api_LinSystem} {p1 : (List api_LinNode)} {out : Out} {r : Int × Int} (h : depend_CheckProof p0 p1 = some r) : FunOk PP 39 [.d (api_LinSystem.d p0), .d (.sl (p1.map api_LinNode.d))] out ⟨.tup [.d (.int .i64 r.1), .d (.int .i64 r.2)], []⟩ := by
  unfold depend_CheckProof at h
  refine fi Tryz.func39 rfl (by kernel_rfl) (by kernel_rfl) (by kernel_rfl) ?_
  refine sr ?_
  refine ts (bxI rfl) ?_
  refine ts (bxI rfl) ?_
  refine ts (ac rfl rfl) ?_
  refine ts (ac rfl rfl) ?_
  refine rn ?_
  refine CWp.seq ?_
  refine sd mixed (b := [0, 1, 0, 4, 12, 28, 0, 64, 192, 448, 1020, 2047, 4095, 8191, 16383]) (by kernel_rfl) ?_
  refine ds (ldIW aT46 rfl rfl rfl) rfl ?_
  obtain ⟨x1, hx1, h⟩ := bnd h
  refine dr (cln (f := fun _ => false) kf rfl (.c rfl le1 .n) (curOf_nil _) (depend_systemErr_ok hx1) rfl) rfl ?_
  refine ds (ldI sT50 rfl rfl) rfl ?_
  refine ds (lnD lT50 rfl rfl) rfl ?_
  refine ds (gtr rfl rfl) rfl ?_
  refine ds (bld (v := .d (depend_rule.d (depend_rule.mk (decide ((p1.length : Int) > 0)) 17))) rfl (by kernel_rfl)) rfl ?_
  refine ds (ldI sT50 rfl rfl) rfl ?_
  refine ds (lnD lT50 rfl rfl) rfl ?_
  refine ds (leq rfl rfl) rfl ?_
  refine ds (bld (v := .d (depend_rule.d (depend_rule.mk (decide ((p1.length : Int) ≤ 4000)) 8))) rfl (by kernel_rfl)) rfl ?_
  refine ds (bsT (l := (([(depend_rule.mk (decide ((p1.length : Int) > 0)) 17), (depend_rule.mk (decide ((p1.length : Int) ≤ 4000)) 8)] : List depend_rule).map depend_rule.d)) lT226 rfl rfl rfl (by kernel_rfl)) rfl ?_
  obtain ⟨x2, hx2, h⟩ := bnd h
  refine dr (cln (f := fun _ => false) kf rfl (.c rfl le2 .n) (curOf_nil _) (depend_broken_ok hx2) rfl) rfl ?_
  refine ds (bsT (l := (([x1, x2] : List Int).map dI)) lT227 rfl rfl rfl (by kernel_rfl)) rfl ?_
  obtain ⟨x3, hx3, h⟩ := bnd h
  refine dr (cln (f := fun _ => false) kf rfl (.c rfl le2 .n) (curOf_nil _) (cmp_Or_api_Errno_ok hx3) rfl) rfl ?_
  refine ds (as_ rfl) rfl ?_
  refine dn (by kernel_rfl) ?_
  refine sr ?_
  refine ts (mv rfl) ?_
  refine ts (neq rfl rfl) ?_
  refine rn ?_
  rcases ite h with ⟨c4, h⟩ | ⟨c4, h⟩
  · cases h
  · refine cf rfl (nf c4) ?_
    refine CWp.skip ?_
    refine CWp.seq ?_
    refine sr ?_
    refine ts (ldI sT50 rfl rfl) ?_
    refine ts (mf_ (v := .clo 112 [.pimm (.sl (p1.map api_LinNode.d)) 0]) rfl rfl) ?_
    obtain ⟨x5, hx5, h⟩ := bnd h
    refine ts (cln (f := fun _ => false) kf rfl (.c rfl le1 (.c rfl le6 .n)) (curOf_nil _) (depend_firstBad_api_LinNode__depend_CheckProof_c1_ok hx5) rfl) ?_
    refine ts (mv rfl) ?_
    refine ts (ex_ rfl rfl) ?_
    refine ts (ex_ rfl rfl) ?_
    refine ts (as_ rfl) ?_
    refine ts (as_ rfl) ?_
    refine rn ?_
    refine sr ?_
    refine ts (mv rfl) ?_
    refine ts (neq rfl rfl) ?_
    refine rn ?_
    rcases ite h with ⟨c6, h⟩ | ⟨c6, h⟩
    · cases h
    · refine cf rfl (nf c6) ?_
      refine CWp.skip ?_
      refine sd mixed (b := [0, 0, 0, 4, 12, 31, 63, 0, 255]) (by kernel_rfl) ?_
      refine ds (ldIW aT46 rfl rfl rfl) rfl ?_
      refine ds (ldI sT50 rfl rfl) rfl ?_
      refine ds (ldI sT50 rfl rfl) rfl ?_
      refine ds (lnD lT50 rfl rfl) rfl ?_
      obtain ⟨x7, hx7, h⟩ := bnd h
      refine da (msw_ (f := (dL api_LinRow.d)) (a := []) (nn := 0) lT177 rfl rfl rfl hx7 rfl) rfl ?_
      refine es rfl (bld (v := .agg [.d (.int .i64 p0.Vars), .d (.sl (p0.Rows.map api_LinRow.d)), .d (.sl (p1.map api_LinNode.d)), .ref ⟨out.length, 43, 0⟩ 0 x7.length x7.length]) rfl (by kernel_rfl)) rfl ?_
      refine ea rfl (bx (n := 0) rfl rfl rfl) rfl ?_
      refine ea rfl (al (n := 0) zT176 rfl) rfl ?_
      refine et0 rfl (st sT176 rfl rfl rfl rfl .h .h) (by kernel_rfl) rfl ?_
      refine dn (by kernel_rfl) ?_
      refine CWp.seq ?_
      refine sr ?_
      refine ts (ldI sT50 rfl rfl) ?_
      refine ts (mf_ (v := .clo 114 [.bptr ⟨out.length, 9, 0⟩ 0]) rfl rfl) ?_
      obtain ⟨x8, hx8, h⟩ := bnd h
      refine ts (cln (f := fun _ => false) kf rfl (.c rfl le1 (.c rfl le6 .n)) (curOf_nil _) (fr_ (cc' := []) (ids := [⟨out.length, 9, 0⟩, ⟨out.length, 45, 0⟩, ⟨out.length, 43, 0⟩]) (cbs := [.box [.bptr ⟨0, 1, 0⟩ 0], .box [.d (.int .i64 p0.Vars), .d (.sl (p0.Rows.map api_LinRow.d)), .d (.sl (p1.map api_LinNode.d)), .ref ⟨0, 2, 0⟩ 0 x7.length x7.length], .arr 1 false (x7.map (dL api_LinRow.d))]) (cbs' := [.box [.bptr ⟨0, 1, 0⟩ 0], .box [.d (.int .i64 p0.Vars), .d (.sl (p0.Rows.map api_LinRow.d)), .d (.sl (p1.map api_LinNode.d)), .ref ⟨0, 2, 0⟩ 0 x7.length x7.length], .arr 1 false (x7.map (dL api_LinRow.d))]) (depend_firstBad_api_LinNode__depend_CheckProof_c2_ok hx8) (by first | rfl | (simp only [List.length_set, copied_len] <;> rfl)) (.inl ⟨rfl, rfl⟩) (by simp) rfl rfl rfl rfl rfl rfl rfl rfl (.c (o1 rfl) (.c (o1 rfl) (.c (o1 rfl) .n))) (.keep (.keep (.keep .nil (o1 rfl) (by simp)) (o1 rfl) (by simp)) (o1 rfl) (by simp))) rfl) ?_
      refine ts (mv rfl) ?_
      refine ts (ex_ rfl rfl) ?_
      refine ts (ex_ rfl rfl) ?_
      refine ts (as_ rfl) ?_
      refine ts (as_ rfl) ?_
      refine rn ?_
      refine sr ?_
      refine ts (mv rfl) ?_
      refine ts (neq rfl rfl) ?_
      refine rn ?_
      rcases ite h with ⟨c9, h⟩ | ⟨c9, h⟩
      · cases h
      · refine cf rfl (nf c9) ?_
        refine CWp.skip ?_
        refine sr ?_
        refine ts (ldI sT50 rfl rfl) ?_
        refine ts (lnD lT50 rfl rfl) ?_
        refine ts (as_ rfl) ?_
        refine ts (ac rfl rfl) ?_
        refine rn ?_
        refine CWp.ret ?_
        obtain rfl := some_inj h
        exact ⟨trivial, rt2 (ex := false) (by exact (.t rfl (.t rfl .n))) (by exact (sc (gd (by rfl)) (sc (gd (by rfl)) sn))) (by rfl) (by rfl)⟩
theorem depend_only_ok {p0 : api_LinRow} {out : Out} {r : Int × Bool} (h : depend_only p0 = some r) : FunOk PP 189 [.d (api_LinRow.d p0)] out ⟨.tup [.d (.int .i64 r.1), .d (.bool r.2)], []⟩ := by
  unfold depend_only at h
  refine fi Tryz.func189 rfl (by kernel_rfl) (by kernel_rfl) (by kernel_rfl) ?_
  refine sr ?_
  refine ts (bxI rfl) ?_
  refine ts (ac rfl rfl) ?_
  refine ts (ac rfl rfl) ?_
  refine rn ?_
  refine sr ?_
  refine ts (ac rfl rfl) ?_
  refine ts (ac rfl rfl) ?_
  refine rn ?_
  refine CWp.seq ?_
  refine sr ?_
  refine ts (faI fT105_0 rfl rfl) ?_
  refine ts (ldI sT48 rfl rfl) ?_
  refine ts (lnD lT48 rfl rfl) ?_
  refine ts (mv rfl) ?_
  refine rn ?_
  obtain ⟨z5, hz5, h⟩ := bnd h
  refine lb (E := fun s1 => [(4, .d (.int .i64 s1.1)), (5, .d (.int .i64 s1.2.1)), (9, .d (.sl (p0.Coefs.map dI))), (10, .d (.int .i64 (p0.Coefs.length : Int))), (11, .d (.int .i64 s1.2.2))]) (M := fun s1 => ⟨[], out, []⟩) (E' := fun y => [(4, .d (.int .i64 y.1)), (5, .d (.int .i64 y.2))]) (M' := fun y => ⟨[], out, []⟩) hz5 (by (try simp only [List.length_set, copied_len]); exact trk (by kernel_rfl) (by kernel_rfl) (by kernel_rfl)) ?_ ?_
  · intro s1 ww h
    unfold depend_only.s1 at h
    refine sr ?_
    refine ts (lss rfl rfl) ?_
    refine rn ?_
    refine CWp.seq ?_
    rcases ite h with ⟨c2, h⟩ | ⟨c2, h⟩
    · refine ct rfl (bt c2) ?_
      refine CWp.skip ?_
      refine CWp.seq ?_
      refine CWp.block ?_
      refine sr ?_
      refine ts (mv rfl) ?_
      obtain ⟨x3, hx3, h⟩ := bnd h
      refine ts (ixD lT48 szI rfl rfl hx3) ?_
      refine ts (ldI sT3 rfl rfl) ?_
      refine ts (as_ rfl) ?_
      refine ts (as_ rfl) ?_
      refine rn ?_
      refine sr ?_
      refine ts (mv rfl) ?_
      refine ts (neq rfl rfl) ?_
      refine rn ?_
      rcases ite h with ⟨c4, h⟩ | ⟨c4, h⟩
      · refine ct rfl (nt c4) ?_
        refine sr ?_
        refine ts (mv rfl) ?_
        refine ts (as_ rfl) ?_
        refine rn ?_
        refine lr ?_
        refine ts (mv rfl) ?_
        refine ts (add rfl rfl) ?_
        refine ts (as_ rfl) ?_
        refine rn ?_
        refine lr ?_
        refine ts (add rfl rfl) ?_
        refine ts (mv rfl) ?_
        refine rn ?_
        obtain rfl := some_inj h
        exact ⟨rfl, (by (try simp only [List.length_set, copied_len]); exact trk (by kernel_rfl) (by kernel_rfl) (by kernel_rfl))⟩
      · refine cf rfl (nf c4) ?_
        refine CWp.skip ?_
        refine lr ?_
        refine ts (add rfl rfl) ?_
        refine ts (mv rfl) ?_
        refine rn ?_
        obtain rfl := some_inj h
        exact ⟨rfl, (by (try simp only [List.length_set, copied_len]); exact trk (by kernel_rfl) (by kernel_rfl) (by kernel_rfl))⟩
    · refine cf rfl (bf c2) ?_
      refine CWp.exit ?_
      obtain rfl := some_inj h
      exact ⟨rfl, (by (try simp only [List.length_set, copied_len]); exact trk (by kernel_rfl) (by kernel_rfl) (by kernel_rfl))⟩
  · intro e s ht
    refine CWp.trim ht ?_
    refine sr ?_
    refine ts (mv rfl) ?_
    refine ts (mv rfl) ?_
    refine ts (eql rfl rfl) ?_
    refine ts (as_ rfl) ?_
    refine ts (as_ rfl) ?_
    refine rn ?_
    refine CWp.ret ?_
    obtain rfl := some_inj h
    exact ⟨trivial, rt2 (ex := false) (by exact (.t rfl (.t rfl .n))) (by exact (sc (gd (by rfl)) (sc (gd (by rfl)) sn))) (by rfl) (by rfl)⟩
theorem depend_floor_ok {p0 : Int} {p1 : Int} {out : Out} {r : Int} (h : depend_floor p0 p1 = some r) : FunOk PP 190 [.d (.int .i64 p0), .d (.int .i64 p1)] out ⟨.d (.int .i64 r), []⟩ := by
  unfold depend_floor at h
  refine fi Tryz.func190 rfl (by kernel_rfl) (by kernel_rfl) (by kernel_rfl) ?_
  refine sr ?_
  refine ts (ac rfl rfl) ?_
  refine rn ?_
  refine sr ?_
  refine ts (mv rfl) ?_
  refine ts (mv rfl) ?_
  obtain ⟨x1, hx1, h⟩ := bnd h
  refine ts (quo_ rfl rfl hx1) ?_
  refine ts (as_ rfl) ?_
  refine rn ?_
  refine CWp.seq ?_
  refine sr ?_
  refine ts (mv rfl) ?_
  refine ts (mv rfl) ?_
  obtain ⟨x2, hx2, h⟩ := bnd h
  refine ts (rem_ rfl rfl hx2) ?_
  refine ts (neq rfl rfl) ?_
  refine ts (mv rfl) ?_
  refine sg 6 [(19, .d (.bool ((x2 != 0) && ((decide (p0 < 0)) != (decide (p1 < 0))))))] ?_ ?_
  · rcases bool_or (x2 != 0) with g3 | g4
    · refine us (gy rfl rfl g3) (mv rfl) ?_
      refine us (gy rfl rfl g3) (lss rfl rfl) ?_
      refine us (gy rfl rfl g3) (mv rfl) ?_
      refine us (gy rfl rfl g3) (lss rfl rfl) ?_
      refine us (gy rfl rfl g3) (bne_ rfl rfl uT4) ?_
      refine ts (pt rfl g3 rfl) ?_
      exact rn (trD 6 rfl (.c (bq (and_t g3)) .n) (by kernel_rfl))
    · refine un (gn rfl rfl g4) ?_
      refine un (gn rfl rfl g4) ?_
      refine un (gn rfl rfl g4) ?_
      refine un (gn rfl rfl g4) ?_
      refine un (gn rfl rfl g4) ?_
      refine ts (pf rfl g4 rfl) ?_
      exact rn (trD 6 rfl (.c (bq (and_f g4)) .n) (by kernel_rfl))
  refine rn ?_
  rcases ite h with ⟨c5, h⟩ | ⟨c5, h⟩
  · cases h
  · refine cf rfl (vf c5) ?_
    refine CWp.skip ?_
    refine sr ?_
    refine ts (mv rfl) ?_
    refine ts (as_ rfl) ?_
    refine rn ?_
    refine CWp.ret ?_
    obtain rfl := some_inj h
    exact ⟨trivial, rt1 (ex := false) (by exact (.t rfl .n)) (by exact (gd (by rfl))) (by rfl) (by rfl)⟩
theorem depend_boxOf_ok {p0 : api_LinSystem} {out : Out} {r : depend_box} (h : depend_boxOf p0 = some r) : FunOk PP 157 [.d (api_LinSystem.d p0)] out ⟨.d (depend_box.d r), []⟩ := by
  unfold depend_boxOf at h
  refine fi Tryz.func157 rfl (by kernel_rfl) (by kernel_rfl) (by kernel_rfl) ?_
  refine sr ?_
  refine ts (bxI rfl) ?_
  refine ta (al (n := 0) zT142 rfl) ?_
  refine rn ?_
  refine sd mixed (b := [0, 1, 3, 0, 8, 24, 63, 0, 255]) (by kernel_rfl) ?_
  refine ds (faI fT46_0 rfl rfl) rfl ?_
  refine ds (ldI sT3 rfl rfl) rfl ?_
  obtain ⟨x1, hx1, h⟩ := bnd h
  refine da (ms_ (f := depend_side.d) (a := (depend_side.mk false 0 0)) (nn := 0) lT140 rfl rfl hx1 rfl) rfl ?_
  refine es rfl (faI fT46_0 rfl rfl) rfl ?_
  refine es rfl (ldI sT3 rfl rfl) rfl ?_
  obtain ⟨x2, hx2, h⟩ := bnd h
  refine ea rfl (ms_ (f := depend_side.d) (a := (depend_side.mk false 0 0)) (nn := 0) lT140 rfl rfl hx2 rfl) rfl ?_
  refine es rfl (bld (v := .agg [.ref ⟨out.length, 13, 0⟩ 0 x1.length x1.length, .ref ⟨out.length, 16, 0⟩ 0 x2.length x2.length]) rfl (by kernel_rfl)) rfl ?_
  refine ea rfl (al (n := 0) zT142 rfl) rfl ?_
  refine et0 rfl (stW aT142 rfl rfl rfl rfl rfl rfl .h) (by kernel_rfl) rfl ?_
  refine dn (by kernel_rfl) ?_
  refine CWp.seq ?_
  refine sr ?_
  refine ts (faI fT46_1 rfl rfl) ?_
  refine ts (ldI sT44 rfl rfl) ?_
  refine ts (lnD lT44 rfl rfl) ?_
  refine ts (mv rfl) ?_
  refine rn ?_
  obtain ⟨z20, hz20, h⟩ := bnd h
  refine lb (E := fun s3 => [(2, .bptr ⟨out.length, 2, 0⟩ 0), (3, .bptr ⟨out.length, 3, 0⟩ 0), (19, .d (.sl (p0.Rows.map api_LinRow.d))), (20, .d (.int .i64 (p0.Rows.length : Int))), (21, .d (.int .i64 s3.1))]) (M := fun s3 => ⟨[((2, 0), .box [.d .nilsl, .d .nilsl]), ((3, 0), .box [.ref ⟨out.length, 13, 0⟩ 0 s3.2.1.length s3.2.1.length, .ref ⟨out.length, 16, 0⟩ 0 s3.2.2.length s3.2.2.length]), ((13, 0), .arr 3 false (s3.2.1.map depend_side.d)), ((16, 0), .arr 3 false (s3.2.2.map depend_side.d))], out, []⟩) (E' := fun y => [(2, .bptr ⟨out.length, 2, 0⟩ 0), (3, .bptr ⟨out.length, 3, 0⟩ 0)]) (M' := fun y => ⟨[((2, 0), .box [.d .nilsl, .d .nilsl]), ((3, 0), .box [.ref ⟨out.length, 13, 0⟩ 0 y.1.length y.1.length, .ref ⟨out.length, 16, 0⟩ 0 y.2.length y.2.length]), ((13, 0), .arr 3 false (y.1.map depend_side.d)), ((16, 0), .arr 3 false (y.2.map depend_side.d))], out, []⟩) hz20 (by (try simp only [List.length_set, copied_len]); exact trk (by kernel_rfl) (by kernel_rfl) (by kernel_rfl)) ?_ ?_
  · intro s3 ww h
    unfold depend_boxOf.s1 at h
    refine sr ?_
    refine ts (lss rfl rfl) ?_
    refine rn ?_
    refine CWp.seq ?_
    rcases ite h with ⟨c4, h⟩ | ⟨c4, h⟩
    · refine ct rfl (bt c4) ?_
      refine CWp.skip ?_
      refine CWp.seq ?_
      refine CWp.block ?_
      refine sr ?_
      refine ts (mv rfl) ?_
      obtain ⟨x5, hx5, h⟩ := bnd h
      refine ts (ixD lT44 api_LinRow.sz rfl rfl hx5) ?_
      refine ts (ldIW aT105 rfl rfl rfl) ?_
      refine ta (al (n := 0) zT105 rfl) ?_
      refine ts (as_ rfl) ?_
      refine tt0 (stW aT105 rfl rfl rfl rfl rfl rfl .h) ?_
      refine rn ?_
      refine sr ?_
      refine ts (ldW (e := api_LinRow.d x5) aT105 rfl (ow rfl) rfl rfl) ?_
      obtain ⟨x6, hx6, h⟩ := bnd h
      refine ts (cln (f := fun _ => false) kf rfl (.c rfl le1 .n) (curOf_nil _) (depend_only_ok hx6) rfl) ?_
      refine ts (mv rfl) ?_
      refine ts (ex_ rfl rfl) ?_
      refine ts (ex_ rfl rfl) ?_
      refine ts (as_ rfl) ?_
      refine ts (as_ rfl) ?_
      refine rn ?_
      refine CWp.seq ?_
      refine sr ?_
      refine ts (fa fT105_2 rfl rfl) ?_
      refine ts (ld sT4 rfl (ow rfl) rfl) ?_
      refine ts (mv rfl) ?_
      refine sg 3 [(36, .d (.bool (x5.Equal || (!x6.2))))] ?_ ?_
      · rcases bool_or x5.Equal with g7 | g8
        · refine un (gn rfl rfl g7) ?_
          refine un (gn rfl rfl g7) ?_
          refine ts (pt rfl g7 rfl) ?_
          exact rn (trD 3 rfl (.c (bq (or_t g7)) .n) (by kernel_rfl))
        · refine us (gy rfl rfl g8) (mv rfl) ?_
          refine us (gy rfl rfl g8) (not_ rfl) ?_
          refine ts (pf rfl g8 rfl) ?_
          exact rn (trD 3 rfl (.c (bq (or_f g8)) .n) (by kernel_rfl))
      refine rn ?_
      rcases ite h with ⟨c9, h⟩ | ⟨c9, h⟩
      · refine ct rfl c9 ?_
        refine CWp.exit ?_
        refine lr ?_
        refine ts (add rfl rfl) ?_
        refine ts (mv rfl) ?_
        refine rn ?_
        obtain rfl := some_inj h
        exact ⟨rfl, (by (try simp only [List.length_set, copied_len]); exact trk (by kernel_rfl) (by kernel_rfl) (by kernel_rfl))⟩
      · refine cf rfl (vf c9) ?_
        refine CWp.skip ?_
        refine sr ?_
        refine ts (fa fT105_0 rfl rfl) ?_
        refine ts (ld sT48 rfl (ow rfl) rfl) ?_
        refine ts (mv rfl) ?_
        obtain ⟨x10, hx10, h⟩ := bnd h
        refine ts (ixD lT48 szI rfl rfl hx10) ?_
        refine ts (ldI sT3 rfl rfl) ?_
        refine ts (as_ rfl) ?_
        refine rn ?_
        refine sr ?_
        refine ts (mv rfl) ?_
        refine ts (gtr rfl rfl) ?_
        refine rn ?_
        rcases ite h with ⟨c11, h⟩ | ⟨c11, h⟩
        · refine ct rfl (bt c11) ?_
          refine sr ?_
          refine ts (fa fT105_1 rfl rfl) ?_
          refine ts (ld sT3 rfl (ow rfl) rfl) ?_
          refine ts (mv rfl) ?_
          obtain ⟨x12, hx12, h⟩ := bnd h
          refine ts (cln (f := fun _ => false) kf rfl (.c rfl le1 (.c rfl le1 .n)) (curOf_nil _) (depend_floor_ok hx12) rfl) ?_
          refine ts (neg rfl) ?_
          refine ts (as_ rfl) ?_
          refine rn ?_
          refine sr ?_
          refine ts (fa fT142_0 rfl rfl) ?_
          refine ts (ld sT140 rfl (ow rfl) rfl) ?_
          refine ts (mv rfl) ?_
          obtain ⟨x13, hx13, h⟩ := bnd h
          refine ts (ixR lT140 rfl rfl rfl (ow rfl) hx13) ?_
          refine ts (faE fT195_0 rfl rfl) ?_
          refine ts (ldE sT4 rfl rfl (ow rfl) hx13 rfl) ?_
          refine ts (not_ rfl) ?_
          refine ts (mv rfl) ?_
          rcases ite h with ⟨c14, h⟩ | ⟨c14, h⟩
          · refine un (gn rfl rfl (not_t (vf c14))) ?_
            refine un (gn rfl rfl (not_t (vf c14))) ?_
            refine un (gn rfl rfl (not_t (vf c14))) ?_
            refine un (gn rfl rfl (not_t (vf c14))) ?_
            refine un (gn rfl rfl (not_t (vf c14))) ?_
            refine un (gn rfl rfl (not_t (vf c14))) ?_
            refine un (gn rfl rfl (not_t (vf c14))) ?_
            refine un (gn rfl rfl (not_t (vf c14))) ?_
            refine ts (pt rfl (not_t (vf c14)) rfl) ?_
            refine rn ?_
            refine ct rfl rfl ?_
            refine lr ?_
            refine ts (fa fT142_0 rfl rfl) ?_
            refine ts (ld sT140 rfl (ow rfl) rfl) ?_
            refine ts (mv rfl) ?_
            refine ts (mv rfl) ?_
            refine ts (mv rfl) ?_
            refine ts (bld (v := .d (depend_side.d (depend_side.mk true (w (0 - x12)) s3.1))) rfl (by kernel_rfl)) ?_
            obtain ⟨x15, hx15, h⟩ := bnd h
            refine ts (ixR lT140 rfl rfl rfl (ow rfl) hx15) ?_
            refine tt0 (stEW (b := (depend_side.mk true (w (0 - x12)) s3.1)) aT195 depend_side.sz rfl rfl rfl ⟨_, rfl⟩ ⟨_, rfl⟩ rfl hx15 (.s rfl (.s rfl (.s rfl .h)))) ?_
            refine rn ?_
            refine lr ?_
            refine ts (add rfl rfl) ?_
            refine ts (mv rfl) ?_
            refine rn ?_
            obtain rfl := some_inj h
            exact ⟨rfl, (by (try simp only [List.length_set, copied_len]); exact trk (by kernel_rfl) (by kernel_rfl) (by kernel_rfl))⟩
          · cases h
        · refine cf rfl (bf c11) ?_
          refine sr ?_
          refine ts (fa fT105_1 rfl rfl) ?_
          refine ts (ld sT3 rfl (ow rfl) rfl) ?_
          refine ts (mv rfl) ?_
          refine ts (neg rfl) ?_
          obtain ⟨x16, hx16, h⟩ := bnd h
          refine ts (cln (f := fun _ => false) kf rfl (.c rfl le1 (.c rfl le1 .n)) (curOf_nil _) (depend_floor_ok hx16) rfl) ?_
          refine ts (as_ rfl) ?_
          refine rn ?_
          refine sr ?_
          refine ts (fa fT142_1 rfl rfl) ?_
          refine ts (ld sT140 rfl (ow rfl) rfl) ?_
          refine ts (mv rfl) ?_
          obtain ⟨x17, hx17, h⟩ := bnd h
          refine ts (ixR lT140 rfl rfl rfl (ow rfl) hx17) ?_
          refine ts (faE fT195_0 rfl rfl) ?_
          refine ts (ldE sT4 rfl rfl (ow rfl) hx17 rfl) ?_
          refine ts (not_ rfl) ?_
          refine ts (mv rfl) ?_
          rcases ite h with ⟨c18, h⟩ | ⟨c18, h⟩
          · refine un (gn rfl rfl (not_t (vf c18))) ?_
            refine un (gn rfl rfl (not_t (vf c18))) ?_
            refine un (gn rfl rfl (not_t (vf c18))) ?_
            refine un (gn rfl rfl (not_t (vf c18))) ?_
            refine un (gn rfl rfl (not_t (vf c18))) ?_
            refine un (gn rfl rfl (not_t (vf c18))) ?_
            refine un (gn rfl rfl (not_t (vf c18))) ?_
            refine un (gn rfl rfl (not_t (vf c18))) ?_
            refine ts (pt rfl (not_t (vf c18)) rfl) ?_
            refine rn ?_
            refine ct rfl rfl ?_
            refine lr ?_
            refine ts (fa fT142_1 rfl rfl) ?_
            refine ts (ld sT140 rfl (ow rfl) rfl) ?_
            refine ts (mv rfl) ?_
            refine ts (mv rfl) ?_
            refine ts (mv rfl) ?_
            refine ts (bld (v := .d (depend_side.d (depend_side.mk true x16 s3.1))) rfl (by kernel_rfl)) ?_
            obtain ⟨x19, hx19, h⟩ := bnd h
            refine ts (ixR lT140 rfl rfl rfl (ow rfl) hx19) ?_
            refine tt0 (stEW (b := (depend_side.mk true x16 s3.1)) aT195 depend_side.sz rfl rfl rfl ⟨_, rfl⟩ ⟨_, rfl⟩ rfl hx19 (.s rfl (.s rfl (.s rfl (.s rfl .h))))) ?_
            refine rn ?_
            refine lr ?_
            refine ts (add rfl rfl) ?_
            refine ts (mv rfl) ?_
            refine rn ?_
            obtain rfl := some_inj h
            exact ⟨rfl, (by (try simp only [List.length_set, copied_len]); exact trk (by kernel_rfl) (by kernel_rfl) (by kernel_rfl))⟩
          · cases h
    · refine cf rfl (bf c4) ?_
      refine CWp.exit ?_
      obtain rfl := some_inj h
      exact ⟨rfl, (by (try simp only [List.length_set, copied_len]); exact trk (by kernel_rfl) (by kernel_rfl) (by kernel_rfl))⟩
  · intro e s ht
    refine CWp.trim ht ?_
    refine sr ?_
    refine ts (ldA (v := .agg [.ref ⟨out.length, 13, 0⟩ 0 z20.1.length z20.1.length, .ref ⟨out.length, 16, 0⟩ 0 z20.2.length z20.2.length]) aT142 rfl (ow rfl) (by kernel_rfl)) ?_
    refine tt0 (stW aT142 rfl rfl rfl rfl rfl rfl .h) ?_
    refine rn ?_
    refine CWp.ret ?_
    obtain rfl := some_inj h
    exact ⟨trivial, rt1 (ex := false) (by exact (rcA (v := .agg [.ref ⟨out.length, 13, 0⟩ 0 z20.1.length z20.1.length, .ref ⟨out.length, 16, 0⟩ 0 z20.2.length z20.2.length]) aT142 rfl (ow rfl) (by kernel_rfl) .n)) (by exact (ga (sc (gf rfl rfl) (sc (gf rfl rfl) sn)) rfl)) (by rfl) (by rfl)⟩
theorem depend_openBox_c1_ok {p0 : depend_side} {out : Out} {r : Bool} (h : depend_openBox_c1 p0 = r) : FunOk PP 158 [.d (depend_side.d p0)] out ⟨.d (.bool r), []⟩ := by
  unfold depend_openBox_c1 at h
  refine fi Tryz.func158 rfl (by kernel_rfl) (by kernel_rfl) (by kernel_rfl) ?_
  refine sr ?_
  refine ts (bxI rfl) ?_
  refine ts (ac rfl rfl) ?_
  refine rn ?_
  refine sr ?_
  refine ts (faI fT195_0 rfl rfl) ?_
  refine ts (ldI sT4 rfl rfl) ?_
  refine ts (not_ rfl) ?_
  refine ts (as_ rfl) ?_
  refine rn ?_
  refine CWp.ret ?_
  obtain rfl := h
  exact ⟨trivial, rt1 (ex := false) (by exact (.t rfl .n)) (by exact (gd (by rfl))) (by rfl) (by rfl)⟩
theorem slices_IndexFunc_depend_side__depend_openBox_c1_ok {p0 : (List depend_side)} {out : Out} {r : Int} (h : slices_IndexFunc_depend_side__depend_openBox_c1 p0 = some r) : FunOk PP 191 [.d (.sl (p0.map depend_side.d)), .d (.fn 158)] out ⟨.d (.int .i64 r), []⟩ := by
  unfold slices_IndexFunc_depend_side__depend_openBox_c1 at h
  refine fi Tryz.func191 rfl (by kernel_rfl) (by kernel_rfl) (by kernel_rfl) ?_
  refine sr ?_
  refine ts (ac rfl rfl) ?_
  refine rn ?_
  refine CWp.seq ?_
  refine sr ?_
  refine ts (mv rfl) ?_
  refine ts (lnD lT140 rfl rfl) ?_
  refine ts (mv rfl) ?_
  refine rn ?_
  obtain ⟨z5, hz5, h⟩ := bnd h
  refine lb (E := fun s1 => [(0, .d (.sl (p0.map depend_side.d))), (1, .d (.fn 158)), (7, .d (.int .i64 (p0.length : Int))), (8, .d (.int .i64 s1))]) (M := fun s1 => ⟨[], out, []⟩) (E' := fun y => []) (M' := fun y => ⟨[], out, []⟩) hz5 (by (try simp only [List.length_set, copied_len]); exact trk (by kernel_rfl) (by kernel_rfl) (by kernel_rfl)) ?_ ?_
  · intro s1 ww h
    unfold slices_IndexFunc_depend_side__depend_openBox_c1.s1 at h
    refine sr ?_
    refine ts (lss rfl rfl) ?_
    refine rn ?_
    refine CWp.seq ?_
    rcases ite h with ⟨c2, h⟩ | ⟨c2, h⟩
    · refine ct rfl (bt c2) ?_
      refine CWp.skip ?_
      refine CWp.seq ?_
      refine CWp.block ?_
      refine sr ?_
      refine ts (mv rfl) ?_
      refine ts (as_ rfl) ?_
      refine rn ?_
      refine sr ?_
      refine ts (mv rfl) ?_
      refine ts (mv rfl) ?_
      refine ts (mv rfl) ?_
      obtain ⟨x3, hx3, h⟩ := bnd h
      refine ts (ixD lT140 depend_side.sz rfl rfl hx3) ?_
      refine ts (ldIW aT195 rfl rfl rfl) ?_
      refine ts (cln (f := fun _ => false) (kt rfl) rfl (.c rfl le1 .n) (curOf_nil _) (depend_openBox_c1_ok (rfl : depend_openBox_c1 x3 = _)) rfl) ?_
      refine rn ?_
      rcases ite h with ⟨c4, h⟩ | ⟨c4, h⟩
      · cases h
      · refine cf rfl (vf c4) ?_
        refine CWp.skip ?_
        refine lr ?_
        refine ts (add rfl rfl) ?_
        refine ts (mv rfl) ?_
        refine rn ?_
        obtain rfl := some_inj h
        exact ⟨rfl, (by (try simp only [List.length_set, copied_len]); exact trk (by kernel_rfl) (by kernel_rfl) (by kernel_rfl))⟩
    · refine cf rfl (bf c2) ?_
      refine CWp.exit ?_
      obtain rfl := some_inj h
      exact ⟨rfl, (by (try simp only [List.length_set, copied_len]); exact trk (by kernel_rfl) (by kernel_rfl) (by kernel_rfl))⟩
  · intro e s ht
    refine CWp.trim ht ?_
    refine sr ?_
    refine ts (ac rfl rfl) ?_
    refine rn ?_
    refine CWp.ret ?_
    obtain rfl := some_inj h
    exact ⟨trivial, rt1 (ex := false) (by exact (.t rfl .n)) (by exact (gd (by rfl))) (by rfl) (by rfl)⟩
theorem slices_ContainsFunc_depend_side__depend_openBox_c1_ok {p0 : (List depend_side)} {out : Out} {r : Bool} (h : slices_ContainsFunc_depend_side__depend_openBox_c1 p0 = some r) : FunOk PP 159 [.d (.sl (p0.map depend_side.d)), .d (.fn 158)] out ⟨.d (.bool r), []⟩ := by
  unfold slices_ContainsFunc_depend_side__depend_openBox_c1 at h
  refine fi Tryz.func159 rfl (by kernel_rfl) (by kernel_rfl) (by kernel_rfl) ?_
  refine sr ?_
  refine ts (ac rfl rfl) ?_
  refine rn ?_
  refine sr ?_
  refine ts (mv rfl) ?_
  refine ts (mv rfl) ?_
  obtain ⟨x1, hx1, h⟩ := bnd h
  refine ts (cln (f := fun _ => false) kf rfl (.c rfl le1 (.c rfl le1 .n)) (curOf_nil _) (slices_IndexFunc_depend_side__depend_openBox_c1_ok hx1) rfl) ?_
  refine ts (geq rfl rfl) ?_
  refine ts (as_ rfl) ?_
  refine rn ?_
  refine CWp.ret ?_
  obtain rfl := some_inj h
  exact ⟨trivial, rt1 (ex := false) (by exact (.t rfl .n)) (by exact (gd (by rfl))) (by rfl) (by rfl)⟩
theorem depend_openBox_ok {p0 : api_LinSystem} {out : Out} {r : depend_box × Int} (h : depend_openBox p0 = some r) : FunOk PP 83 [.d (api_LinSystem.d p0)] out ⟨.tup [.d (depend_box.d r.1), .d (.int .i64 r.2)], []⟩ := by
  unfold depend_openBox at h
  refine fi Tryz.func83 rfl (by kernel_rfl) (by kernel_rfl) (by kernel_rfl) ?_
  refine sr ?_
  refine ts (bxI rfl) ?_
  refine ta (al (n := 0) zT142 rfl) ?_
  refine ts (ac rfl rfl) ?_
  refine rn ?_
  refine CWp.seq ?_
  refine sr ?_
  refine ts (ldIW aT46 rfl rfl rfl) ?_
  obtain ⟨x1, hx1, h⟩ := bnd h
  refine ts (cln (f := fun _ => false) kf rfl (.c rfl le1 .n) (curOf_nil _) (depend_systemErr_ok hx1) rfl) ?_
  refine ts (as_ rfl) ?_
  refine rn ?_
  refine sr ?_
  refine ts (mv rfl) ?_
  refine ts (neq rfl rfl) ?_
  refine rn ?_
  rcases ite h with ⟨c2, h⟩ | ⟨c2, h⟩
  · cases h
  · refine cf rfl (nf c2) ?_
    refine CWp.skip ?_
    refine sr ?_
    refine ts (ldIW aT46 rfl rfl rfl) ?_
    obtain ⟨x3, hx3, h⟩ := bnd h
    refine ts (cln (f := fun _ => false) kf rfl (.c rfl le1 .n) (curOf_nil _) (depend_boxOf_ok hx3) rfl) ?_
    refine ta (al (n := 0) zT142 rfl) ?_
    refine tt0 (stW aT142 rfl rfl rfl rfl rfl rfl .h) ?_
    refine rn ?_
    refine CWp.trim (Le.fzBox (t := 5) (e := depend_box.d x3) (env' := [(0, .d (api_LinSystem.d p0)), (1, .pimm (api_LinSystem.d p0) 0), (2, .bptr ⟨out.length, 2, 0⟩ 0), (3, .d (.int .i64 0)), (7, .d (api_LinSystem.d p0)), (8, .d (.int .i64 x1)), (4, .d (.int .i64 x1)), (9, .d (.int .i64 x1)), (10, .d (.bool (x1 != 0))), (13, .d (api_LinSystem.d p0)), (14, .d (depend_box.d x3))]) (loc' := [((2, 0), .box [.d .nilsl, .d .nilsl])]) rfl rfl rfl rfl (by (try simp only [List.length_set, copied_len]); exact trkT (by kernel_rfl) (by kernel_rfl) (by kernel_rfl))) ?_
    refine sr ?_
    refine ts (af_) ?_
    refine rn ?_
    refine sd mixed (b := [0, 0, 2, 0, 14, 30, 62, 126, 254, 126, 1022, 2046, 4094, 8190, 16382, 32766, 65535, 131071]) (by kernel_rfl) ?_
    refine ds (ldIW aT142 rfl rfl rfl) rfl ?_
    refine ds (faI fT142_0 rfl rfl) rfl ?_
    refine ds (ldI sT140 rfl rfl) rfl ?_
    refine ds (mv rfl) rfl ?_
    obtain ⟨x4, hx4, h⟩ := bnd h
    refine dr (cln (f := fun _ => false) kf rfl (.c rfl le1 (.c rfl le1 .n)) (curOf_nil _) (slices_ContainsFunc_depend_side__depend_openBox_c1_ok hx4) rfl) rfl ?_
    refine ds (not_ rfl) rfl ?_
    refine ds (mv rfl) rfl ?_
    rcases ite h with ⟨c5, h⟩ | ⟨c5, h⟩
    · refine vs (gy rfl rfl (not_t (vf c5))) (faI fT142_1 rfl rfl) rfl ?_
      refine vs (gy rfl rfl (not_t (vf c5))) (ldI sT140 rfl rfl) rfl ?_
      refine vs (gy rfl rfl (not_t (vf c5))) (mv rfl) rfl ?_
      obtain ⟨x6, hx6, h⟩ := bnd h
      refine vs (gy rfl rfl (not_t (vf c5))) (cln (f := fun _ => false) kf rfl (.c rfl le1 (.c rfl le1 .n)) (curOf_nil _) (slices_ContainsFunc_depend_side__depend_openBox_c1_ok hx6) rfl) rfl ?_
      refine vs (gy rfl rfl (not_t (vf c5))) (not_ rfl) rfl ?_
      refine ds (pt rfl (not_t (vf c5)) rfl) rfl ?_
      refine ds (bld (v := .d (depend_rule.d (depend_rule.mk (!x6) 21))) rfl (by kernel_rfl)) rfl ?_
      refine ds (bsT (l := (([(depend_rule.mk (!x6) 21)] : List depend_rule).map depend_rule.d)) lT226 rfl rfl rfl (by kernel_rfl)) rfl ?_
      obtain ⟨x7, hx7, h⟩ := bnd h
      refine dr (cln (f := fun _ => false) kf rfl (.c rfl le2 .n) (curOf_nil _) (depend_broken_ok hx7) rfl) rfl ?_
      refine dt0 (stW aT142 rfl rfl rfl rfl rfl rfl .h) rfl ?_
      refine ds (as_ rfl) rfl ?_
      refine dn (by kernel_rfl) ?_
      refine CWp.ret ?_
      obtain rfl := some_inj h
      exact ⟨trivial, rt2 (ex := false) (by exact (rcW aT142 rfl (ow rfl) rfl rfl (.t rfl .n))) (by exact (sc (gd (by rfl)) (sc (gd (by rfl)) sn))) (by rfl) (by rfl)⟩
    · cases h
theorem depend_box_empty_ok {p0 : depend_box} {out : Out} {r : Int × Bool} (h : depend_box_empty p0 = some r) : FunOk PP 132 [.d (depend_box.d p0)] out ⟨.tup [.d (.int .i64 r.1), .d (.bool r.2)], []⟩ := by
  unfold depend_box_empty at h
  refine fi Tryz.func132 rfl (by kernel_rfl) (by kernel_rfl) (by kernel_rfl) ?_
  refine sr ?_
  refine ts (bxI rfl) ?_
  refine ts (ac rfl rfl) ?_
  refine ts (ac rfl rfl) ?_
  refine rn ?_
  refine CWp.seq ?_
  refine sr ?_
  refine ts (faI fT142_0 rfl rfl) ?_
  refine ts (ldI sT140 rfl rfl) ?_
  refine ts (lnD lT140 rfl rfl) ?_
  refine ts (mv rfl) ?_
  refine rn ?_
  obtain ⟨z6, hz6, h⟩ := bnd h
  refine lb (E := fun s1 => [(1, .pimm (depend_box.d p0) 0), (7, .d (.int .i64 (p0.low.length : Int))), (8, .d (.int .i64 s1))]) (M := fun s1 => ⟨[], out, []⟩) (E' := fun y => []) (M' := fun y => ⟨[], out, []⟩) hz6 (by (try simp only [List.length_set, copied_len]); exact trk (by kernel_rfl) (by kernel_rfl) (by kernel_rfl)) ?_ ?_
  · intro s1 ww h
    unfold depend_box_empty.s1 at h
    refine sr ?_
    refine ts (lss rfl rfl) ?_
    refine rn ?_
    refine CWp.seq ?_
    rcases ite h with ⟨c2, h⟩ | ⟨c2, h⟩
    · refine ct rfl (bt c2) ?_
      refine CWp.skip ?_
      refine CWp.seq ?_
      refine CWp.block ?_
      refine sr ?_
      refine ts (mv rfl) ?_
      refine ts (as_ rfl) ?_
      refine rn ?_
      refine sd mixed (b := [0, 1, 0, 7, 15, 31, 0, 64, 0, 448, 960, 1984, 4095]) (by kernel_rfl) ?_
      refine ds (faI fT142_0 rfl rfl) rfl ?_
      refine ds (ldI sT140 rfl rfl) rfl ?_
      refine ds (mv rfl) rfl ?_
      obtain ⟨x3, hx3, h⟩ := bnd h
      refine ds (ixD lT140 depend_side.sz rfl rfl hx3) rfl ?_
      refine ds (faI fT195_1 rfl rfl) rfl ?_
      refine ds (ldI sT3 rfl rfl) rfl ?_
      refine ds (faI fT142_1 rfl rfl) rfl ?_
      refine ds (ldI sT140 rfl rfl) rfl ?_
      refine ds (mv rfl) rfl ?_
      obtain ⟨x4, hx4, h⟩ := bnd h
      refine ds (ixD lT140 depend_side.sz rfl rfl hx4) rfl ?_
      refine ds (faI fT195_1 rfl rfl) rfl ?_
      refine ds (ldI sT3 rfl rfl) rfl ?_
      refine ds (gtr rfl rfl) rfl ?_
      refine dn (by kernel_rfl) ?_
      rcases ite h with ⟨c5, h⟩ | ⟨c5, h⟩
      · cases h
      · refine cf rfl (bf c5) ?_
        refine CWp.skip ?_
        refine lr ?_
        refine ts (add rfl rfl) ?_
        refine ts (mv rfl) ?_
        refine rn ?_
        obtain rfl := some_inj h
        exact ⟨rfl, (by (try simp only [List.length_set, copied_len]); exact trk (by kernel_rfl) (by kernel_rfl) (by kernel_rfl))⟩
    · refine cf rfl (bf c2) ?_
      refine CWp.exit ?_
      obtain rfl := some_inj h
      exact ⟨rfl, (by (try simp only [List.length_set, copied_len]); exact trk (by kernel_rfl) (by kernel_rfl) (by kernel_rfl))⟩
  · intro e s ht
    refine CWp.trim ht ?_
    refine sr ?_
    refine ts (ac rfl rfl) ?_
    refine ts (ac rfl rfl) ?_
    refine rn ?_
    refine CWp.ret ?_
    obtain rfl := some_inj h
    exact ⟨trivial, rt2 (ex := false) (by exact (.t rfl (.t rfl .n))) (by exact (sc (gd (by rfl)) (sc (gd (by rfl)) sn))) (by rfl) (by rfl)⟩
theorem depend_solver_node_ok {p1 : api_LinNode} {pb0_0 : Int} {pb0_1 : (List api_LinRow)} {pb0_3 : Bool} {b1 : (List api_LinNode)} {r : Int × List api_LinNode × Bool} (h : depend_solver_node p1 pb0_0 pb0_1 pb0_3 b1 = some r) : FunOk PP 160 [.bptr ⟨0, 0, 0⟩ 0, .d (api_LinNode.d p1)] [[((0, 0), .box [.d (.int .i64 pb0_0), .d (.sl (pb0_1.map api_LinRow.d)), .ref ⟨0, 1, 0⟩ 0 b1.length b1.length, .d (.bool pb0_3)]), ((1, 0), .arr 7 false (b1.map api_LinNode.d))]] ⟨.d (.int .i64 r.1), [some [((0, 0), .box [.d (.int .i64 pb0_0), .d (.sl (pb0_1.map api_LinRow.d)), .ref ⟨0, 1, 0⟩ 0 r.2.1.length r.2.1.length, .d (.bool r.2.2)]), ((1, 0), .arr 7 false (r.2.1.map api_LinNode.d))]]⟩ := by
  unfold depend_solver_node at h
  refine fi Tryz.func160 rfl (by kernel_rfl) (by kernel_rfl) (by kernel_rfl) ?_
  refine CWp.trim Le.start ?_
  refine sr ?_
  refine ts (bxI rfl) ?_
  refine ts (ac rfl rfl) ?_
  refine rn ?_
  refine sd mixed (b := [0, 0, 2, 6, 14, 0, 32, 126, 255, 511, 1023]) (by kernel_rfl) ?_
  refine ds (mv rfl) rfl ?_
  refine ds (mv rfl) rfl ?_
  refine ds (nc rfl rfl) rfl ?_
  refine ds (fa fT147_1 rfl rfl) rfl ?_
  refine dr (ld sT50 rfl (uw rfl) rfl) rfl ?_
  refine ds (ldIW aT77 rfl rfl rfl) rfl ?_
  refine ds (bsT (l := (([p1] : List api_LinNode).map api_LinNode.d)) lT50 rfl rfl rfl (by kernel_rfl)) rfl ?_
  obtain ⟨x1, hx1, h⟩ := bnd h
  refine dt (apGn (ys := ([p1] : List api_LinNode)) (xs := b1) (f := api_LinNode.d) lT50 uT50 api_LinNode.sz rfl rfl rfl elT (uw rfl) hx1 (su (.s rfl .h)) rfl) rfl ?_
  refine ds (nc rfl rfl) rfl ?_
  refine ds (fa fT147_1 rfl rfl) rfl ?_
  refine dt0 (stG sT50 rfl rfl rfl rfl (uw rfl) (.s (.s .h)) (su .h)) rfl ?_
  refine dn (by kernel_rfl) ?_
  refine sr ?_
  refine ts (mv rfl) ?_
  refine ts (mv rfl) ?_
  refine ts (nc rfl rfl) ?_
  refine ts (fa fT147_2 rfl rfl) ?_
  refine ts (ld sT4 rfl (uw rfl) rfl) ?_
  refine ts (mv rfl) ?_
  refine sg 7 [(27, .d (.bool (pb0_3 || (decide ((x1.length : Int) > 4000)))))] ?_ ?_
  · rcases bool_or pb0_3 with g2 | g3
    · refine un (gn rfl rfl g2) ?_
      refine un (gn rfl rfl g2) ?_
      refine un (gn rfl rfl g2) ?_
      refine un (gn rfl rfl g2) ?_
      refine un (gn rfl rfl g2) ?_
      refine un (gn rfl rfl g2) ?_
      refine ts (pt rfl g2 rfl) ?_
      exact rn (trD 7 rfl (.c (bq (or_t g2)) .n) (by kernel_rfl))
    · refine us (gy rfl rfl g3) (mv rfl) ?_
      refine us (gy rfl rfl g3) (nc rfl rfl) ?_
      refine us (gy rfl rfl g3) (fa fT147_1 rfl rfl) ?_
      refine us (gy rfl rfl g3) (ld sT50 rfl (uw rfl) rfl) ?_
      refine us (gy rfl rfl g3) (lnR lT50 rfl rfl) ?_
      refine us (gy rfl rfl g3) (gtr rfl rfl) ?_
      refine ts (pf rfl g3 rfl) ?_
      exact rn (trD 7 rfl (.c (bq (or_f g3)) .n) (by kernel_rfl))
  refine ts (nc rfl rfl) ?_
  refine ts (fa fT147_2 rfl rfl) ?_
  refine tt0 (stG sT4 rfl rfl rfl rfl (uw rfl) (.s (.s (.s .h))) (su .h)) ?_
  refine rn ?_
  refine sr ?_
  refine ts (mv rfl) ?_
  refine ts (nc rfl rfl) ?_
  refine ts (fa fT147_1 rfl rfl) ?_
  refine ts (ld sT50 rfl (uw rfl) rfl) ?_
  refine ts (lnR lT50 rfl rfl) ?_
  refine ts (sub rfl rfl) ?_
  refine ts (as_ rfl) ?_
  refine rn ?_
  refine CWp.ret ?_
  obtain rfl := some_inj h
  exact ⟨trivial, rt1 (ex := false) (by exact (.t rfl .n)) (by exact (gd (by rfl))) (by rfl) (by first | rfl | (simp only [List.length_set, copied_len] <;> rfl))⟩
theorem depend_solver_sum_ok {p1 : Int} {p2 : (List (Int × Int))} {pb0_0 : Int} {pb0_1 : (List api_LinRow)} {pb0_3 : Bool} {b1 : (List api_LinNode)} {r : List api_LinNode × Bool} (h : depend_solver_sum p1 p2 pb0_0 pb0_1 pb0_3 b1 = some r) : FunOk PP 163 [.bptr ⟨0, 0, 0⟩ 0, .d (.int .i64 p1), .d (.mp 3 (p2.map (pE dI dI)))] [[((0, 0), .box [.d (.int .i64 pb0_0), .d (.sl (pb0_1.map api_LinRow.d)), .ref ⟨0, 1, 0⟩ 0 b1.length b1.length, .d (.bool pb0_3)]), ((1, 0), .arr 7 false (b1.map api_LinNode.d))]] ⟨.tup [], [some [((0, 0), .box [.d (.int .i64 pb0_0), .d (.sl (pb0_1.map api_LinRow.d)), .ref ⟨0, 1, 0⟩ 0 r.1.length r.1.length, .d (.bool r.2)]), ((1, 0), .arr 7 false (r.1.map api_LinNode.d))]]⟩ := by
  unfold depend_solver_sum at h
  refine fi Tryz.func163 rfl (by kernel_rfl) (by kernel_rfl) (by kernel_rfl) ?_
  refine CWp.trim Le.start ?_
  refine sr ?_
  refine ts (mv rfl) ?_
  obtain ⟨x1, hx1, h⟩ := bnd h
  refine ta (ms_ (f := dI) (a := 0) (nn := 0) lT48 rfl rfl hx1 rfl) ?_
  refine ts (as_ rfl) ?_
  refine rn ?_
  refine CWp.seq ?_
  obtain ⟨x2, hx2, h⟩ := bnd h
  refine rangePutL (E0 := [(0, .bptr ⟨0, 0, 0⟩ 0), (6, .ref ⟨1, 10, 0⟩ 0 x1.length x1.length)]) uT223 lT48 sT3 hx2 rfl rfl (by kernel_rfl) rfl rfl (by kernel_rfl) (by decide) .h ?_
  refine lr ?_
  refine ts (mv rfl) ?_
  refine ts (mv rfl) ?_
  refine ts (bld (v := .agg [.d (.int .i64 0), .ref ⟨1, 10, 0⟩ 0 x1.length x1.length, .d (.int .i64 0), .d (.int .i64 0), .d (.int .i64 0), .d (.int .i64 0), .d (.int .i64 0)]) rfl (by kernel_rfl)) ?_
  obtain ⟨x3, hx3, h⟩ := bnd h
  refine tt (clq (f := fun _ => false) kf rfl (.c rfl le5 (.w rfl (le8 (v := .d (api_LinNode.d (api_LinNode.mk 0 x2 0 0 0 0 0))) (.c le1 (.w (leG4 (mapPut_len hx2).symm (ow rfl) (so .h)) (.c le1 (.c le1 (.c le1 (.c le1 (.c le1 .n))))))) rfl) .n)) rfl (fr_ (ids := [⟨0, 0, 0⟩, ⟨0, 1, 0⟩]) (cbs := [.box [.d (.int .i64 pb0_0), .d (.sl (pb0_1.map api_LinRow.d)), .ref ⟨0, 1, 0⟩ 0 b1.length b1.length, .d (.bool pb0_3)], .arr 7 false (b1.map api_LinNode.d)]) (cbs' := [.box [.d (.int .i64 pb0_0), .d (.sl (pb0_1.map api_LinRow.d)), .ref ⟨0, 1, 0⟩ 0 x3.2.1.length x3.2.1.length, .d (.bool x3.2.2)], .arr 7 false (x3.2.1.map api_LinNode.d)]) (depend_solver_node_ok hx3) (by first | rfl | (simp only [List.length_set, copied_len] <;> rfl)) (.inr ⟨rfl, rfl⟩) (by simp) rfl rfl rfl rfl rfl rfl rfl rfl (.c rfl (.c rfl .n)) (.set (.set .full rfl (by simp) (set_w0 (.s rfl .h))) rfl (by simp) (set_w0 .h))) rfl) ?_
  refine rn ?_
  obtain rfl := some_inj h
  exact ⟨trivial, rt0 rfl⟩
theorem depend_box_ends_ok {p0 : depend_box} {p1 : api_LinRow} {out : Out} {r : Int × Int} (h : depend_box_ends p0 p1 = some r) : FunOk PP 133 [.d (depend_box.d p0), .d (api_LinRow.d p1)] out ⟨.tup [.d (.int .i64 r.1), .d (.int .i64 r.2)], []⟩ := by
  unfold depend_box_ends at h
  refine fi Tryz.func133 rfl (by kernel_rfl) (by kernel_rfl) (by kernel_rfl) ?_
  refine sr ?_
  refine ts (bxI rfl) ?_
  refine ts (bxI rfl) ?_
  refine ts (ac rfl rfl) ?_
  refine ts (ac rfl rfl) ?_
  refine rn ?_
  refine sd mixed (b := [0, 1, 0, 4, 3, 31]) (by kernel_rfl) ?_
  refine ds (faI fT105_1 rfl rfl) rfl ?_
  refine ds (ldI sT3 rfl rfl) rfl ?_
  refine ds (faI fT105_1 rfl rfl) rfl ?_
  refine ds (ldI sT3 rfl rfl) rfl ?_
  refine ds (as_ rfl) rfl ?_
  refine ds (as_ rfl) rfl ?_
  refine dn (by kernel_rfl) ?_
  refine CWp.seq ?_
  refine sr ?_
  refine ts (faI fT105_0 rfl rfl) ?_
  refine ts (ldI sT48 rfl rfl) ?_
  refine ts (lnD lT48 rfl rfl) ?_
  refine ts (mv rfl) ?_
  refine rn ?_
  obtain ⟨z8, hz8, h⟩ := bnd h
  refine lb (E := fun s1 => [(2, .pimm (depend_box.d p0) 0), (6, .d (.int .i64 s1.1)), (7, .d (.int .i64 s1.2.1)), (15, .d (.sl (p1.Coefs.map dI))), (16, .d (.int .i64 (p1.Coefs.length : Int))), (17, .d (.int .i64 s1.2.2))]) (M := fun s1 => ⟨[], out, []⟩) (E' := fun y => [(6, .d (.int .i64 y.1)), (7, .d (.int .i64 y.2))]) (M' := fun y => ⟨[], out, []⟩) hz8 (by (try simp only [List.length_set, copied_len]); exact trk (by kernel_rfl) (by kernel_rfl) (by kernel_rfl)) ?_ ?_
  · intro s1 ww h
    unfold depend_box_ends.s1 at h
    refine sr ?_
    refine ts (lss rfl rfl) ?_
    refine rn ?_
    refine CWp.seq ?_
    rcases ite h with ⟨c2, h⟩ | ⟨c2, h⟩
    · refine ct rfl (bt c2) ?_
      refine CWp.skip ?_
      refine CWp.seq ?_
      refine CWp.block ?_
      refine sr ?_
      refine ts (mv rfl) ?_
      obtain ⟨x3, hx3, h⟩ := bnd h
      refine ts (ixD lT48 szI rfl rfl hx3) ?_
      refine ts (ldI sT3 rfl rfl) ?_
      refine ts (as_ rfl) ?_
      refine ts (as_ rfl) ?_
      refine rn ?_
      refine sd mixed (b := [0, 0, 0, 4, 0, 28, 60, 124, 254, 0, 0, 1024, 0, 7168, 15360, 31744, 65024, 131070, 262143, 524287]) (by kernel_rfl) ?_
      refine ds (mv rfl) rfl ?_
      refine ds (mv rfl) rfl ?_
      refine ds (faI fT142_0 rfl rfl) rfl ?_
      refine ds (ldI sT140 rfl rfl) rfl ?_
      refine ds (mv rfl) rfl ?_
      obtain ⟨x4, hx4, h⟩ := bnd h
      refine ds (ixD lT140 depend_side.sz rfl rfl hx4) rfl ?_
      refine ds (faI fT195_1 rfl rfl) rfl ?_
      refine ds (ldI sT3 rfl rfl) rfl ?_
      refine ds (mul rfl rfl) rfl ?_
      refine ds (mv rfl) rfl ?_
      refine ds (faI fT142_1 rfl rfl) rfl ?_
      refine ds (ldI sT140 rfl rfl) rfl ?_
      refine ds (mv rfl) rfl ?_
      obtain ⟨x5, hx5, h⟩ := bnd h
      refine ds (ixD lT140 depend_side.sz rfl rfl hx5) rfl ?_
      refine ds (faI fT195_1 rfl rfl) rfl ?_
      refine ds (ldI sT3 rfl rfl) rfl ?_
      refine ds (mul rfl rfl) rfl ?_
      refine ds (mn_ rfl) rfl ?_
      refine ds (add rfl rfl) rfl ?_
      refine ds (as_ rfl) rfl ?_
      refine dn (by kernel_rfl) ?_
      refine ld_ mixed (b := [0, 0, 0, 4, 0, 28, 60, 124, 254, 0, 0, 1024, 0, 7168, 15360, 31744, 65024, 131070, 262143, 524287]) (by kernel_rfl) ?_
      refine ds (mv rfl) rfl ?_
      refine ds (mv rfl) rfl ?_
      refine ds (faI fT142_0 rfl rfl) rfl ?_
      refine ds (ldI sT140 rfl rfl) rfl ?_
      refine ds (mv rfl) rfl ?_
      obtain ⟨x6, hx6, h⟩ := bnd h
      refine ds (ixD lT140 depend_side.sz rfl rfl hx6) rfl ?_
      refine ds (faI fT195_1 rfl rfl) rfl ?_
      refine ds (ldI sT3 rfl rfl) rfl ?_
      refine ds (mul rfl rfl) rfl ?_
      refine ds (mv rfl) rfl ?_
      refine ds (faI fT142_1 rfl rfl) rfl ?_
      refine ds (ldI sT140 rfl rfl) rfl ?_
      refine ds (mv rfl) rfl ?_
      obtain ⟨x7, hx7, h⟩ := bnd h
      refine ds (ixD lT140 depend_side.sz rfl rfl hx7) rfl ?_
      refine ds (faI fT195_1 rfl rfl) rfl ?_
      refine ds (ldI sT3 rfl rfl) rfl ?_
      refine ds (mul rfl rfl) rfl ?_
      refine ds (mx_ rfl) rfl ?_
      refine ds (add rfl rfl) rfl ?_
      refine ds (as_ rfl) rfl ?_
      refine dn (by kernel_rfl) ?_
      refine lr ?_
      refine ts (add rfl rfl) ?_
      refine ts (mv rfl) ?_
      refine rn ?_
      obtain rfl := some_inj h
      exact ⟨rfl, (by (try simp only [List.length_set, copied_len]); exact trk (by kernel_rfl) (by kernel_rfl) (by kernel_rfl))⟩
    · refine cf rfl (bf c2) ?_
      refine CWp.exit ?_
      obtain rfl := some_inj h
      exact ⟨rfl, (by (try simp only [List.length_set, copied_len]); exact trk (by kernel_rfl) (by kernel_rfl) (by kernel_rfl))⟩
  · intro e s ht
    refine CWp.trim ht ?_
    refine sr ?_
    refine ts (mv rfl) ?_
    refine ts (mv rfl) ?_
    refine ts (as_ rfl) ?_
    refine ts (as_ rfl) ?_
    refine rn ?_
    refine CWp.ret ?_
    obtain rfl := some_inj h
    exact ⟨trivial, rt2 (ex := false) (by exact (.t rfl (.t rfl .n))) (by exact (sc (gd (by rfl)) (sc (gd (by rfl)) sn))) (by rfl) (by rfl)⟩
theorem depend_divisor_ok {p0 : api_LinRow} {out : Out} {r : Int} (h : depend_divisor p0 = some r) : FunOk PP 183 [.d (api_LinRow.d p0)] out ⟨.d (.int .i64 r), []⟩ := by
  unfold depend_divisor at h
  refine fi Tryz.func183 rfl (by kernel_rfl) (by kernel_rfl) (by kernel_rfl) ?_
  refine sr ?_
  refine ts (bxI rfl) ?_
  refine ts (ac rfl rfl) ?_
  refine rn ?_
  refine sr ?_
  refine ts (ac rfl rfl) ?_
  refine rn ?_
  refine CWp.seq ?_
  refine sr ?_
  refine ts (faI fT105_0 rfl rfl) ?_
  refine ts (ldI sT48 rfl rfl) ?_
  refine ts (lnD lT48 rfl rfl) ?_
  refine ts (mv rfl) ?_
  refine rn ?_
  obtain ⟨z9, hz9, h⟩ := bnd h
  refine lb (E := fun s1 => [(3, .d (.int .i64 s1.1)), (9, .d (.sl (p0.Coefs.map dI))), (10, .d (.int .i64 (p0.Coefs.length : Int))), (11, .d (.int .i64 s1.2))]) (M := fun s1 => ⟨[], out, []⟩) (E' := fun y => [(3, .d (.int .i64 y))]) (M' := fun y => ⟨[], out, []⟩) hz9 (by (try simp only [List.length_set, copied_len]); exact trk (by kernel_rfl) (by kernel_rfl) (by kernel_rfl)) ?_ ?_
  · intro s1 ww h
    unfold depend_divisor.s1 at h
    refine sr ?_
    refine ts (lss rfl rfl) ?_
    refine rn ?_
    refine CWp.seq ?_
    rcases ite h with ⟨c2, h⟩ | ⟨c2, h⟩
    · refine ct rfl (bt c2) ?_
      refine CWp.skip ?_
      refine CWp.seq ?_
      refine CWp.block ?_
      refine sr ?_
      obtain ⟨x3, hx3, h⟩ := bnd h
      refine ts (ixD lT48 szI rfl rfl hx3) ?_
      refine ts (ldI sT3 rfl rfl) ?_
      refine ts (as_ rfl) ?_
      refine rn ?_
      refine sr ?_
      refine ts (mv rfl) ?_
      refine ts (mv rfl) ?_
      refine ts (mv rfl) ?_
      refine ts (neg rfl) ?_
      refine ts (mx_ rfl) ?_
      refine ts (as_ rfl) ?_
      refine ts (as_ rfl) ?_
      refine rn ?_
      obtain ⟨z7, hz7, h⟩ := bnd h
      refine lb (E := fun s4 => [(6, .d (.int .i64 s4.1)), (7, .d (.int .i64 s4.2)), (9, .d (.sl (p0.Coefs.map dI))), (10, .d (.int .i64 (p0.Coefs.length : Int))), (11, .d (.int .i64 s1.2))]) (M := fun s4 => ⟨[], out, []⟩) (E' := fun y => [(3, .d (.int .i64 y)), (9, .d (.sl (p0.Coefs.map dI))), (10, .d (.int .i64 (p0.Coefs.length : Int))), (11, .d (.int .i64 s1.2))]) (M' := fun y => ⟨[], out, []⟩) hz7 (by (try simp only [List.length_set, copied_len]); exact trk (by kernel_rfl) (by kernel_rfl) (by kernel_rfl)) ?_ ?_
      · intro s4 ww h
        unfold depend_divisor.s2 at h
        refine CWp.seq ?_
        refine CWp.block ?_
        refine sr ?_
        refine ts (mv rfl) ?_
        refine ts (eql rfl rfl) ?_
        refine rn ?_
        rcases ite h with ⟨c5, h⟩ | ⟨c5, h⟩
        · refine ct rfl (et c5) ?_
          refine sr ?_
          refine ts (mv rfl) ?_
          refine ts (as_ rfl) ?_
          refine rn ?_
          refine CWp.exit ?_
          obtain rfl := some_inj h
          exact ⟨rfl, (by (try simp only [List.length_set, copied_len]); exact trk (by kernel_rfl) (by kernel_rfl) (by kernel_rfl))⟩
        · refine cf rfl (ef c5) ?_
          refine CWp.skip ?_
          refine ld_ mixed (b := [0, 0, 0, 6, 3, 31]) (by kernel_rfl) ?_
          refine ds (mv rfl) rfl ?_
          refine ds (mv rfl) rfl ?_
          refine ds (mv rfl) rfl ?_
          obtain ⟨x6, hx6, h⟩ := bnd h
          refine ds (rem_ rfl rfl hx6) rfl ?_
          refine ds (as_ rfl) rfl ?_
          refine ds (as_ rfl) rfl ?_
          refine dn (by kernel_rfl) ?_
          obtain rfl := some_inj h
          exact ⟨rfl, (by (try simp only [List.length_set, copied_len]); exact trk (by kernel_rfl) (by kernel_rfl) (by kernel_rfl))⟩
      · intro e s ht
        refine CWp.trim ht ?_
        refine lr ?_
        refine ts (add rfl rfl) ?_
        refine ts (mv rfl) ?_
        refine rn ?_
        obtain rfl := some_inj h
        exact ⟨rfl, (by (try simp only [List.length_set, copied_len]); exact trk (by kernel_rfl) (by kernel_rfl) (by kernel_rfl))⟩
    · refine cf rfl (bf c2) ?_
      refine CWp.exit ?_
      obtain rfl := some_inj h
      exact ⟨rfl, (by (try simp only [List.length_set, copied_len]); exact trk (by kernel_rfl) (by kernel_rfl) (by kernel_rfl))⟩
  · intro e s ht
    refine CWp.trim ht ?_
    refine sr ?_
    refine ts (mv rfl) ?_
    refine ts (as_ rfl) ?_
    refine rn ?_
    refine CWp.ret ?_
    obtain rfl := some_inj h
    exact ⟨trivial, rt1 (ex := false) (by exact (.t rfl .n)) (by exact (gd (by rfl))) (by rfl) (by rfl)⟩
theorem depend_gcdFails_ok {p0 : api_LinRow} {out : Out} {r : Bool} (h : depend_gcdFails p0 = some r) : FunOk PP 135 [.d (api_LinRow.d p0)] out ⟨.d (.bool r), []⟩ := by
  unfold depend_gcdFails at h
  refine fi Tryz.func135 rfl (by kernel_rfl) (by kernel_rfl) (by kernel_rfl) ?_
  refine sr ?_
  refine ts (bxI rfl) ?_
  refine ts (ac rfl rfl) ?_
  refine rn ?_
  refine sr ?_
  refine ts (ldIW aT105 rfl rfl rfl) ?_
  obtain ⟨x1, hx1, h⟩ := bnd h
  refine ts (cln (f := fun _ => false) kf rfl (.c rfl le1 .n) (curOf_nil _) (depend_divisor_ok hx1) rfl) ?_
  refine ts (as_ rfl) ?_
  refine rn ?_
  refine sr ?_
  refine ts (faI fT105_2 rfl rfl) ?_
  refine ts (ldI sT4 rfl rfl) ?_
  refine ts (mv rfl) ?_
  rcases ite h with ⟨c2, h⟩ | ⟨c2, h⟩
  · cases h
  · refine un (gn rfl rfl (vf c2)) ?_
    refine un (gn rfl rfl (vf c2)) ?_
    refine un (gn rfl rfl (vf c2)) ?_
    refine un (gu rfl rfl) ?_
    refine un (gu rfl rfl) ?_
    refine un (gu rfl rfl) ?_
    refine un (gn rfl rfl (vf c2)) ?_
    refine un (gn rfl rfl (vf c2)) ?_
    refine un (gu rfl rfl) ?_
    refine un (gu rfl rfl) ?_
    refine un (gu rfl rfl) ?_
    refine un (gu rfl rfl) ?_
    refine un (gu rfl rfl) ?_
    refine un (gu rfl rfl) ?_
    refine un (gu rfl rfl) ?_
    refine un (gu rfl rfl) ?_
    refine un (gu rfl rfl) ?_
    refine un (gn rfl rfl (vf c2)) ?_
    refine ts (pf rfl (vf c2) rfl) ?_
    refine ts (as_ rfl) ?_
    refine rn ?_
    refine CWp.ret ?_
    obtain rfl := some_inj h
    exact ⟨trivial, rt1 (ex := false) (by exact (.t rfl .n)) (by exact (gd (by rfl))) (by rfl) (by rfl)⟩
theorem depend_solver_refuted_ok {p1 : depend_box} {p2 : Int} {pb0_0 : Int} {pb0_1 : (List api_LinRow)} {pb0_3 : Bool} {b1 : (List api_LinNode)} {r : Bool × List api_LinNode × Bool} (h : depend_solver_refuted p1 p2 pb0_0 pb0_1 pb0_3 b1 = some r) : FunOk PP 192 [.bptr ⟨0, 0, 0⟩ 0, .d (depend_box.d p1), .d (.int .i64 p2)] [[((0, 0), .box [.d (.int .i64 pb0_0), .d (.sl (pb0_1.map api_LinRow.d)), .ref ⟨0, 1, 0⟩ 0 b1.length b1.length, .d (.bool pb0_3)]), ((1, 0), .arr 7 false (b1.map api_LinNode.d))]] ⟨.d (.bool r.1), [some [((0, 0), .box [.d (.int .i64 pb0_0), .d (.sl (pb0_1.map api_LinRow.d)), .ref ⟨0, 1, 0⟩ 0 r.2.1.length r.2.1.length, .d (.bool r.2.2)]), ((1, 0), .arr 7 false (r.2.1.map api_LinNode.d))]]⟩ := by
  unfold depend_solver_refuted at h
  refine fi Tryz.func192 rfl (by kernel_rfl) (by kernel_rfl) (by kernel_rfl) ?_
  refine CWp.trim Le.start ?_
  refine sr ?_
  refine ts (bxI rfl) ?_
  refine ts (ac rfl rfl) ?_
  refine rn ?_
  refine CWp.seq ?_
  refine sr ?_
  refine ts (ldIW aT142 rfl rfl rfl) ?_
  obtain ⟨x1, hx1, h⟩ := bnd h
  refine ts (cln (f := fun _ => false) kf rfl (.c rfl le1 .n) rfl (depend_box_empty_ok hx1) rfl) ?_
  refine ts (mv rfl) ?_
  refine ts (ex_ rfl rfl) ?_
  refine ts (ex_ rfl rfl) ?_
  refine ts (as_ rfl) ?_
  refine ts (as_ rfl) ?_
  refine rn ?_
  refine sr ?_
  refine ts (mv rfl) ?_
  refine rn ?_
  rcases ite h with ⟨c2, h⟩ | ⟨c2, h⟩
  · refine ct rfl c2 ?_
    refine sd mixed (b := [0, 0, 0, 0, 8, 0, 56, 120, 248, 508, 0, 1024, 0, 7168, 15360, 31744, 64516, 131068, 262143]) (by kernel_rfl) ?_
    cases h
  · refine cf rfl (vf c2) ?_
    refine CWp.skip ?_
    refine CWp.seq ?_
    refine sr ?_
    refine ts (mv rfl) ?_
    refine ts (nc rfl rfl) ?_
    refine ts (fa fT147_0 rfl rfl) ?_
    refine ts (fa fT46_1 rfl rfl) ?_
    refine ts (ld sT44 rfl (uw rfl) rfl) ?_
    refine ts (lnD lT44 rfl rfl) ?_
    refine ts (mv rfl) ?_
    refine rn ?_
    obtain ⟨z18, hz18, h⟩ := bnd h
    refine lbr (E := fun s3 => [(0, .bptr ⟨0, 0, 0⟩ 0), (2, .d (.int .i64 p2)), (4, .pimm (depend_box.d p1) 0), (45, .d (.sl (pb0_1.map api_LinRow.d))), (46, .d (.int .i64 (pb0_1.length : Int))), (47, .d (.int .i64 s3))]) (M := fun s3 => ⟨[], [[((0, 0), .box [.d (.int .i64 pb0_0), .d (.sl (pb0_1.map api_LinRow.d)), .ref ⟨0, 1, 0⟩ 0 b1.length b1.length, .d (.bool pb0_3)]), ((1, 0), .arr 7 false (b1.map api_LinNode.d))]], [some [((0, 0), .box [.d (.int .i64 pb0_0), .d (.sl (pb0_1.map api_LinRow.d)), .ref ⟨0, 1, 0⟩ 0 b1.length b1.length, .d (.bool pb0_3)]), ((1, 0), .arr 7 false (b1.map api_LinNode.d))]]⟩) (E' := fun y => []) (M' := fun y => ⟨[], [[((0, 0), .box [.d (.int .i64 pb0_0), .d (.sl (pb0_1.map api_LinRow.d)), .ref ⟨0, 1, 0⟩ 0 b1.length b1.length, .d (.bool pb0_3)]), ((1, 0), .arr 7 false (b1.map api_LinNode.d))]], [some [((0, 0), .box [.d (.int .i64 pb0_0), .d (.sl (pb0_1.map api_LinRow.d)), .ref ⟨0, 1, 0⟩ 0 b1.length b1.length, .d (.bool pb0_3)]), ((1, 0), .arr 7 false (b1.map api_LinNode.d))]]⟩) (RT := fun r e s => Lx.Returns PP Tryz.f192.results.toList e s ⟨.d (.bool r.1), [some [((0, 0), .box [.d (.int .i64 pb0_0), .d (.sl (pb0_1.map api_LinRow.d)), .ref ⟨0, 1, 0⟩ 0 r.2.1.length r.2.1.length, .d (.bool r.2.2)]), ((1, 0), .arr 7 false (r.2.1.map api_LinNode.d))]]⟩) hz18 (by (try simp only [List.length_set, copied_len]); exact trkc (by kernel_rfl) (by kernel_rfl) (by kernel_rfl)) ?_ ?_
    · intro s3 ww h
      unfold depend_solver_refuted.s1 at h
      refine sr ?_
      refine ts (lss rfl rfl) ?_
      refine rn ?_
      refine CWp.seq ?_
      rcases ite h with ⟨c4, h⟩ | ⟨c4, h⟩
      · refine ct rfl (bt c4) ?_
        refine CWp.skip ?_
        refine CWp.seq ?_
        refine CWp.block ?_
        refine sr ?_
        refine ts (mv rfl) ?_
        obtain ⟨x5, hx5, h⟩ := bnd h
        refine ts (ixD lT44 api_LinRow.sz rfl rfl hx5) ?_
        refine ts (ldIW aT105 rfl rfl rfl) ?_
        refine ta (al (n := 0) zT105 rfl) ?_
        refine ts (as_ rfl) ?_
        refine tt0 (stW aT105 rfl rfl rfl rfl rfl rfl .h) ?_
        refine rn ?_
        refine sr ?_
        refine ts (ldIW aT142 rfl rfl rfl) ?_
        refine ts (ldW (e := api_LinRow.d x5) aT105 rfl (ow rfl) rfl rfl) ?_
        obtain ⟨x6, hx6, h⟩ := bnd h
        refine ts (cln (f := fun _ => false) kf rfl (.c rfl le1 (.c rfl le1 .n)) rfl (depend_box_ends_ok hx6) rfl) ?_
        refine ts (mv rfl) ?_
        refine ts (ex_ rfl rfl) ?_
        refine ts (ex_ rfl rfl) ?_
        refine ts (as_ rfl) ?_
        refine ts (as_ rfl) ?_
        refine rn ?_
        refine sr ?_
        refine ts (ac rfl rfl) ?_
        refine rn ?_
        refine jn (E := fun a7 => [(0, .bptr ⟨0, 0, 0⟩ 0), (2, .d (.int .i64 p2)), (4, .pimm (depend_box.d p1) 0), (9, .d (.int .i64 s3)), (10, .bptr ⟨1, 10, 0⟩ 0), (13, .d (.int .i64 a7))]) (M := fun a7 => ⟨[((10, 0), .box [.d (.sl (x5.Coefs.map dI)), .d (.int .i64 x5.Const), .d (.bool x5.Equal)])], [[((0, 0), .box [.d (.int .i64 pb0_0), .d (.sl (pb0_1.map api_LinRow.d)), .ref ⟨0, 1, 0⟩ 0 b1.length b1.length, .d (.bool pb0_3)]), ((1, 0), .arr 7 false (b1.map api_LinNode.d))]], [some [((0, 0), .box [.d (.int .i64 pb0_0), .d (.sl (pb0_1.map api_LinRow.d)), .ref ⟨0, 1, 0⟩ 0 b1.length b1.length, .d (.bool pb0_3)]), ((1, 0), .arr 7 false (b1.map api_LinNode.d))]]⟩) (F := fun a7 => depend_solver_refuted.j2 p1 p2 pb0_0 pb0_1 pb0_3 b1 s3 x5 a7) (r := ww) ?_ ?_
        · intro a7 h
          unfold depend_solver_refuted.j2 at h
          refine sr ?_
          refine ta (mm_ (n := 0) mT223 rfl) ?_
          refine ts (mv rfl) ?_
          refine ts (mv rfl) ?_
          refine tt0 (ins_ (v := a7) mT223 rfl rfl rfl (ow rfl) (so .h)) ?_
          refine ts (mv rfl) ?_
          refine ts (as_ rfl) ?_
          refine rn ?_
          refine CWp.seq ?_
          refine sr ?_
          refine ts (fa fT105_0 rfl rfl) ?_
          refine ts (ld sT48 rfl (ow rfl) rfl) ?_
          refine ts (lnD lT48 rfl rfl) ?_
          refine ts (mv rfl) ?_
          refine rn ?_
          obtain ⟨z15, hz15, h⟩ := bnd h
          refine lb (E := fun s8 => [(0, .bptr ⟨0, 0, 0⟩ 0), (2, .d (.int .i64 p2)), (4, .pimm (depend_box.d p1) 0), (13, .d (.int .i64 a7)), (15, .mref ⟨1, 82, 0⟩), (87, .d (.sl (x5.Coefs.map dI))), (88, .d (.int .i64 (x5.Coefs.length : Int))), (89, .d (.int .i64 s8.1))]) (M := fun s8 => ⟨[((82, 0), .map 3 false (s8.2.map (pE dI dI)))], [[((0, 0), .box [.d (.int .i64 pb0_0), .d (.sl (pb0_1.map api_LinRow.d)), .ref ⟨0, 1, 0⟩ 0 b1.length b1.length, .d (.bool pb0_3)]), ((1, 0), .arr 7 false (b1.map api_LinNode.d))]], [some [((0, 0), .box [.d (.int .i64 pb0_0), .d (.sl (pb0_1.map api_LinRow.d)), .ref ⟨0, 1, 0⟩ 0 b1.length b1.length, .d (.bool pb0_3)]), ((1, 0), .arr 7 false (b1.map api_LinNode.d))]]⟩) (E' := fun y => [(0, .bptr ⟨0, 0, 0⟩ 0), (2, .d (.int .i64 p2)), (15, .mref ⟨1, 82, 0⟩)]) (M' := fun y => ⟨[((82, 0), .map 3 false (y.map (pE dI dI)))], [[((0, 0), .box [.d (.int .i64 pb0_0), .d (.sl (pb0_1.map api_LinRow.d)), .ref ⟨0, 1, 0⟩ 0 b1.length b1.length, .d (.bool pb0_3)]), ((1, 0), .arr 7 false (b1.map api_LinNode.d))]], [some [((0, 0), .box [.d (.int .i64 pb0_0), .d (.sl (pb0_1.map api_LinRow.d)), .ref ⟨0, 1, 0⟩ 0 b1.length b1.length, .d (.bool pb0_3)]), ((1, 0), .arr 7 false (b1.map api_LinNode.d))]]⟩) hz15 (by (try simp only [List.length_set, copied_len]); exact trkc (by kernel_rfl) (by kernel_rfl) (by kernel_rfl)) ?_ ?_
          · intro s8 ww h
            unfold depend_solver_refuted.s3 at h
            refine sr ?_
            refine ts (lss rfl rfl) ?_
            refine rn ?_
            refine CWp.seq ?_
            rcases ite h with ⟨c9, h⟩ | ⟨c9, h⟩
            · refine ct rfl (bt c9) ?_
              refine CWp.skip ?_
              refine CWp.seq ?_
              refine CWp.block ?_
              refine sr ?_
              refine ts (mv rfl) ?_
              obtain ⟨x10, hx10, h⟩ := bnd h
              refine ts (ixD lT48 szI rfl rfl hx10) ?_
              refine ts (ldI sT3 rfl rfl) ?_
              refine ts (as_ rfl) ?_
              refine ts (as_ rfl) ?_
              refine rn ?_
              refine sr ?_
              refine ts (mv rfl) ?_
              refine ts (mv rfl) ?_
              refine ts (mul rfl rfl) ?_
              refine ts (as_ rfl) ?_
              refine rn ?_
              refine sr ?_
              refine ts (mv rfl) ?_
              refine ts (gtr rfl rfl) ?_
              refine rn ?_
              rcases ite h with ⟨c11, h⟩ | ⟨c11, h⟩
              · refine ct rfl (bt c11) ?_
                refine lr ?_
                refine ts (mv rfl) ?_
                refine ts (faI fT142_1 rfl rfl) ?_
                refine ts (ldI sT140 rfl rfl) ?_
                refine ts (mv rfl) ?_
                obtain ⟨x12, hx12, h⟩ := bnd h
                refine ts (ixD lT140 depend_side.sz rfl rfl hx12) ?_
                refine ts (faI fT195_2 rfl rfl) ?_
                refine ts (ldI sT3 rfl rfl) ?_
                refine ts (lk1 (z0 := 0) mT223 rfl (ow rfl) rfl) ?_
                refine ts (mv rfl) ?_
                refine ts (add rfl rfl) ?_
                refine tt0 (muG (v := (w (((mget s8.2 x12.row).getD 0) + (w (x10 * a7))))) mT223 rfl rfl rfl (ow rfl) (so .h)) ?_
                refine rn ?_
                refine lr ?_
                refine ts (add rfl rfl) ?_
                refine ts (mv rfl) ?_
                refine rn ?_
                obtain rfl := some_inj h
                exact ⟨rfl, (by (try simp only [List.length_set, copied_len]); exact trkc (by kernel_rfl) (by kernel_rfl) (by kernel_rfl))⟩
              · refine cf rfl (bf c11) ?_
                refine sr ?_
                refine ts (mv rfl) ?_
                refine ts (lss rfl rfl) ?_
                refine rn ?_
                rcases ite h with ⟨c13, h⟩ | ⟨c13, h⟩
                · refine ct rfl (bt c13) ?_
                  refine lr ?_
                  refine ts (mv rfl) ?_
                  refine ts (faI fT142_0 rfl rfl) ?_
                  refine ts (ldI sT140 rfl rfl) ?_
                  refine ts (mv rfl) ?_
                  obtain ⟨x14, hx14, h⟩ := bnd h
                  refine ts (ixD lT140 depend_side.sz rfl rfl hx14) ?_
                  refine ts (faI fT195_2 rfl rfl) ?_
                  refine ts (ldI sT3 rfl rfl) ?_
                  refine ts (lk1 (z0 := 0) mT223 rfl (ow rfl) rfl) ?_
                  refine ts (mv rfl) ?_
                  refine ts (sub rfl rfl) ?_
                  refine tt0 (muG (v := (w (((mget s8.2 x14.row).getD 0) - (w (x10 * a7))))) mT223 rfl rfl rfl (ow rfl) (so .h)) ?_
                  refine rn ?_
                  refine lr ?_
                  refine ts (add rfl rfl) ?_
                  refine ts (mv rfl) ?_
                  refine rn ?_
                  obtain rfl := some_inj h
                  exact ⟨rfl, (by (try simp only [List.length_set, copied_len]); exact trkc (by kernel_rfl) (by kernel_rfl) (by kernel_rfl))⟩
                · refine cf rfl (bf c13) ?_
                  refine CWp.skip ?_
                  refine lr ?_
                  refine ts (add rfl rfl) ?_
                  refine ts (mv rfl) ?_
                  refine rn ?_
                  obtain rfl := some_inj h
                  exact ⟨rfl, (by (try simp only [List.length_set, copied_len]); exact trkc (by kernel_rfl) (by kernel_rfl) (by kernel_rfl))⟩
            · refine cf rfl (bf c9) ?_
              refine CWp.exit ?_
              obtain rfl := some_inj h
              exact ⟨rfl, (by (try simp only [List.length_set, copied_len]); exact trkc (by kernel_rfl) (by kernel_rfl) (by kernel_rfl))⟩
          · intro e s ht
            refine CWp.trim ht ?_
            refine sr ?_
            refine ts (mv rfl) ?_
            refine ts (mv rfl) ?_
            refine ts (mv rfl) ?_
            obtain ⟨x16, hx16, h⟩ := bnd h
            refine tt (clq (f := fun _ => false) kf rfl (.c rfl le5 (.c rfl le1 (.w rfl (leM (ow rfl) (so .h)) .n))) rfl (fr_ (ids := [⟨0, 0, 0⟩, ⟨0, 1, 0⟩]) (cbs := [.box [.d (.int .i64 pb0_0), .d (.sl (pb0_1.map api_LinRow.d)), .ref ⟨0, 1, 0⟩ 0 b1.length b1.length, .d (.bool pb0_3)], .arr 7 false (b1.map api_LinNode.d)]) (cbs' := [.box [.d (.int .i64 pb0_0), .d (.sl (pb0_1.map api_LinRow.d)), .ref ⟨0, 1, 0⟩ 0 x16.1.length x16.1.length, .d (.bool x16.2)], .arr 7 false (x16.1.map api_LinNode.d)]) (depend_solver_sum_ok hx16) (by first | rfl | (simp only [List.length_set, copied_len] <;> rfl)) (.inr ⟨rfl, rfl⟩) (by simp) rfl rfl rfl rfl rfl rfl rfl rfl (.c rfl (.c rfl .n)) (.set (.set .full rfl (by simp) (set_w0 (.s rfl .h))) rfl (by simp) (set_w0 .h))) rfl) ?_
            refine rn ?_
            refine sr ?_
            refine ts (ac rfl rfl) ?_
            refine rn ?_
            refine CWp.ret ?_
            obtain rfl := some_inj h
            exact ⟨rfl, rt1 (ex := false) (by exact (.t rfl .n)) (by exact (gd (by rfl))) (by rfl) (by first | rfl | (simp only [List.length_set, copied_len] <;> rfl))⟩
        · refine CWp.block ?_
          refine sr ?_
          refine ts (mv rfl) ?_
          refine ts (lss rfl rfl) ?_
          refine ts (as_ rfl) ?_
          refine rn ?_
          rcases ite h with ⟨c7, h⟩ | ⟨c7, h⟩
          · refine ct rfl (bt c7) ?_
            refine CWp.skip ?_
            exact ⟨1, h, (by (try simp only [List.length_set, copied_len]); exact trkc (by kernel_rfl) (by kernel_rfl) (by kernel_rfl))⟩
          · refine cf rfl (bf c7) ?_
            refine sr ?_
            refine ts (fa fT105_2 rfl rfl) ?_
            refine ts (ld sT4 rfl (ow rfl) rfl) ?_
            refine ts (mv rfl) ?_
            refine sg 3 [(67, .d (.bool (x5.Equal && (decide (x6.1 > 0)))))] ?_ ?_
            · rcases bool_or x5.Equal with g8 | g9
              · refine us (gy rfl rfl g8) (mv rfl) ?_
                refine us (gy rfl rfl g8) (gtr rfl rfl) ?_
                refine ts (pt rfl g8 rfl) ?_
                exact rn (trD 3 rfl (.c (bq (and_t g8)) .n) (by kernel_rfl))
              · refine un (gn rfl rfl g9) ?_
                refine un (gn rfl rfl g9) ?_
                refine ts (pf rfl g9 rfl) ?_
                exact rn (trD 3 rfl (.c (bq (and_f g9)) .n) (by kernel_rfl))
            refine ts (as_ rfl) ?_
            refine rn ?_
            rcases ite h with ⟨c10, h⟩ | ⟨c10, h⟩
            · refine ct rfl c10 ?_
              refine lr ?_
              refine ts (ac rfl rfl) ?_
              refine rn ?_
              exact ⟨(-1), h, (by (try simp only [List.length_set, copied_len]); exact trkc (by kernel_rfl) (by kernel_rfl) (by kernel_rfl))⟩
            · refine cf rfl (vf c10) ?_
              refine sr ?_
              refine ts (ldW (e := api_LinRow.d x5) aT105 rfl (ow rfl) rfl rfl) ?_
              obtain ⟨x11, hx11, h⟩ := bnd h
              refine ts (cln (f := fun _ => false) kf rfl (.c rfl le1 .n) rfl (depend_gcdFails_ok hx11) rfl) ?_
              refine ts (as_ rfl) ?_
              refine rn ?_
              rcases ite h with ⟨c12, h⟩ | ⟨c12, h⟩
              · refine ct rfl c12 ?_
                refine sr ?_
                refine ts (mv rfl) ?_
                obtain ⟨x13, hx13, h⟩ := bnd h
                refine ta (ms_ (f := dI) (a := 0) (nn := 0) lT48 rfl rfl hx13 rfl) ?_
                refine ts (as_ rfl) ?_
                refine rn ?_
                refine sr ?_
                refine ts (mv rfl) ?_
                refine ts (mv rfl) ?_
                obtain ⟨x14, hx14, h⟩ := bnd h
                refine ts (ixR lT48 rfl rfl rfl (ow rfl) hx14) ?_
                refine tt0 (stE (b := 1) sT3 rfl rfl rfl rfl rfl hx14 rfl rfl .h) ?_
                refine rn ?_
                refine sr ?_
                refine ts (mv rfl) ?_
                refine ts (mv rfl) ?_
                refine ts (ldW (e := api_LinRow.d x5) aT105 rfl (ow rfl) rfl rfl) ?_
                obtain ⟨x15, hx15, h⟩ := bnd h
                refine ts (cln (f := fun _ => false) kf rfl (.c rfl le1 .n) rfl (depend_divisor_ok hx15) rfl) ?_
                refine ts (bld (v := .agg [.d (.int .i64 1), .ref ⟨1, 72, 0⟩ 0 x13.length x13.length, .d (.int .i64 x15), .d (.int .i64 0), .d (.int .i64 0), .d (.int .i64 0), .d (.int .i64 0)]) rfl (by kernel_rfl)) ?_
                obtain ⟨x16, hx16, h⟩ := bnd h
                refine tt (clq (f := fun _ => false) kf rfl (.c rfl le5 (.w rfl (le8 (v := .d (api_LinNode.d (api_LinNode.mk 1 (x13.set s3.toNat 1) x15 0 0 0 0))) (.c le1 (.w (leG4 (by first | rfl | simp only [List.length_set, copied_len]) (ow rfl) (so .h)) (.c le1 (.c le1 (.c le1 (.c le1 (.c le1 .n))))))) rfl) .n)) rfl (fr_ (ids := [⟨0, 0, 0⟩, ⟨0, 1, 0⟩]) (cbs := [.box [.d (.int .i64 pb0_0), .d (.sl (pb0_1.map api_LinRow.d)), .ref ⟨0, 1, 0⟩ 0 b1.length b1.length, .d (.bool pb0_3)], .arr 7 false (b1.map api_LinNode.d)]) (cbs' := [.box [.d (.int .i64 pb0_0), .d (.sl (pb0_1.map api_LinRow.d)), .ref ⟨0, 1, 0⟩ 0 x16.2.1.length x16.2.1.length, .d (.bool x16.2.2)], .arr 7 false (x16.2.1.map api_LinNode.d)]) (depend_solver_node_ok hx16) (by first | rfl | (simp only [List.length_set, copied_len] <;> rfl)) (.inr ⟨rfl, rfl⟩) (by simp) rfl rfl rfl rfl rfl rfl rfl rfl (.c rfl (.c rfl .n)) (.set (.set .full rfl (by simp) (set_w0 (.s rfl .h))) rfl (by simp) (set_w0 .h))) rfl) ?_
                refine rn ?_
                refine sr ?_
                refine ts (ac rfl rfl) ?_
                refine rn ?_
                refine CWp.ret ?_
                obtain rfl := some_inj h
                exact ⟨rfl, rt1 (ex := false) (by exact (.t rfl .n)) (by exact (gd (by rfl))) (by rfl) (by first | rfl | (simp only [List.length_set, copied_len] <;> rfl))⟩
              · refine cf rfl (vf c12) ?_
                refine CWp.exit ?_
                refine lr ?_
                refine ts (add rfl rfl) ?_
                refine ts (mv rfl) ?_
                refine rn ?_
                obtain rfl := some_inj h
                exact ⟨rfl, (by (try simp only [List.length_set, copied_len]); exact trkc (by kernel_rfl) (by kernel_rfl) (by kernel_rfl))⟩
      · refine cf rfl (bf c4) ?_
        refine CWp.exit ?_
        obtain rfl := some_inj h
        exact ⟨rfl, (by (try simp only [List.length_set, copied_len]); exact trkc (by kernel_rfl) (by kernel_rfl) (by kernel_rfl))⟩
    · cases z18 with
      | inl v19 =>
        intro e s ht
        refine CWp.trim ht ?_
        refine sr ?_
        refine ts (ac rfl rfl) ?_
        refine rn ?_
        refine CWp.ret ?_
        obtain rfl := some_inj h
        exact ⟨trivial, rt1 (ex := false) (by exact (.t rfl .n)) (by exact (gd (by rfl))) (by rfl) (by first | rfl | (simp only [List.length_set, copied_len] <;> rfl))⟩
      | inr r20 =>
        intro e s hr
        obtain rfl := some_inj h
        exact ⟨trivial, hr⟩
theorem depend_solver_search_ok {p1 : depend_box} {p2 : Int} {pb0_0 : Int} {pb0_1 : (List api_LinRow)} {pb0_3 : Bool} {b1 : (List api_LinNode)} {r : (List Int) × List api_LinNode × Bool} (h : depend_solver_search p1 p2 pb0_0 pb0_1 pb0_3 b1 = some r) : FunOk PP 164 [.bptr ⟨0, 0, 0⟩ 0, .d (depend_box.d p1), .d (.int .i64 p2)] [[((0, 0), .box [.d (.int .i64 pb0_0), .d (.sl (pb0_1.map api_LinRow.d)), .ref ⟨0, 1, 0⟩ 0 b1.length b1.length, .d (.bool pb0_3)]), ((1, 0), .arr 7 false (b1.map api_LinNode.d))]] ⟨.d (dN dI r.1), [some [((0, 0), .box [.d (.int .i64 pb0_0), .d (.sl (pb0_1.map api_LinRow.d)), .ref ⟨0, 1, 0⟩ 0 r.2.1.length r.2.1.length, .d (.bool r.2.2)]), ((1, 0), .arr 7 false (r.2.1.map api_LinNode.d))]]⟩ := by
  unfold depend_solver_search at h
  refine fi Tryz.func164 rfl (by kernel_rfl) (by kernel_rfl) (by kernel_rfl) ?_
  refine CWp.trim Le.start ?_
  refine sr ?_
  refine ts (bxI rfl) ?_
  refine ts (ak) ?_
  refine rn ?_
  refine CWp.seq ?_
  refine sr ?_
  refine ts (mv rfl) ?_
  refine ts (nc rfl rfl) ?_
  refine ts (fa fT147_2 rfl rfl) ?_
  refine ts (ld sT4 rfl (uw rfl) rfl) ?_
  refine ts (mv rfl) ?_
  rcases ite h with ⟨c1, h⟩ | ⟨c1, h⟩
  · cases h
  · refine us (gy rfl rfl (vf c1)) (mv rfl) ?_
    refine us (gy rfl rfl (vf c1)) (ldIW aT142 rfl rfl rfl) ?_
    refine us (gy rfl rfl (vf c1)) (mv rfl) ?_
    obtain ⟨x2, hx2, h⟩ := bnd h
    refine ut (gy rfl rfl (vf c1)) (clq (f := fun _ => false) kf rfl (.c rfl le5 (.c rfl le1 (.c rfl le1 .n))) rfl (fr_ (ids := [⟨0, 0, 0⟩, ⟨0, 1, 0⟩]) (cbs := [.box [.d (.int .i64 pb0_0), .d (.sl (pb0_1.map api_LinRow.d)), .ref ⟨0, 1, 0⟩ 0 b1.length b1.length, .d (.bool pb0_3)], .arr 7 false (b1.map api_LinNode.d)]) (cbs' := [.box [.d (.int .i64 pb0_0), .d (.sl (pb0_1.map api_LinRow.d)), .ref ⟨0, 1, 0⟩ 0 x2.2.1.length x2.2.1.length, .d (.bool x2.2.2)], .arr 7 false (x2.2.1.map api_LinNode.d)]) (depend_solver_refuted_ok hx2) (by first | rfl | (simp only [List.length_set, copied_len] <;> rfl)) (.inr ⟨rfl, rfl⟩) (by simp) rfl rfl rfl rfl rfl rfl rfl rfl (.c rfl (.c rfl .n)) (.set (.set .full rfl (by simp) (set_w0 (.s rfl .h))) rfl (by simp) (set_w0 .h))) rfl) ?_
    refine ts (pf rfl (vf c1) rfl) ?_
    refine rn ?_
    rcases ite h with ⟨c3, h⟩ | ⟨c3, h⟩
    · refine ct rfl c3 ?_
      refine sr ?_
      refine ts (ak) ?_
      refine rn ?_
      refine CWp.ret ?_
      obtain rfl := some_inj h
      exact ⟨trivial, rtN rfl (by first | rfl | (simp only [List.length_set, copied_len] <;> rfl)) (by rfl)⟩
    · cases h
theorem depend_solver_unit_ok {p1 : depend_box} {p2 : Int} {p3 : Int} {pb0_0 : Int} {pb0_1 : (List api_LinRow)} {pb0_3 : Bool} {b1 : (List api_LinNode)} {r : (List Int) × List api_LinNode × Bool} (h : depend_solver_unit p1 p2 p3 pb0_0 pb0_1 pb0_3 b1 = some r) : FunOk PP 84 [.bptr ⟨0, 0, 0⟩ 0, .d (depend_box.d p1), .d (.int .i64 p2), .d (.int .i64 p3)] [[((0, 0), .box [.d (.int .i64 pb0_0), .d (.sl (pb0_1.map api_LinRow.d)), .ref ⟨0, 1, 0⟩ 0 b1.length b1.length, .d (.bool pb0_3)]), ((1, 0), .arr 7 false (b1.map api_LinNode.d))]] ⟨.d (dN dI r.1), [some [((0, 0), .box [.d (.int .i64 pb0_0), .d (.sl (pb0_1.map api_LinRow.d)), .ref ⟨0, 1, 0⟩ 0 r.2.1.length r.2.1.length, .d (.bool r.2.2)]), ((1, 0), .arr 7 false (r.2.1.map api_LinNode.d))]]⟩ := by
  unfold depend_solver_unit at h
  refine fi Tryz.func84 rfl (by kernel_rfl) (by kernel_rfl) (by kernel_rfl) ?_
  refine CWp.trim Le.start ?_
  refine sr ?_
  refine ta (bx (n := 0) rfl rfl rfl) ?_
  refine ts (bxI rfl) ?_
  refine ts (bxI rfl) ?_
  refine ts (ak) ?_
  refine rn ?_
  refine CWp.seq ?_
  refine sr ?_
  refine ts (mv rfl) ?_
  refine ts (as_ rfl) ?_
  refine rn ?_
  obtain ⟨z12, hz12, h⟩ := bnd h
  refine lb (E := fun s1 => [(4, .bptr ⟨1, 4, 0⟩ 0), (5, .pimm (depend_box.d p1) 0), (6, .pimm (.int .i64 p2) 0), (9, .d (.int .i64 s1))]) (M := fun s1 => ⟨[((4, 0), .box [.bptr ⟨0, 0, 0⟩ 0])], [[((0, 0), .box [.d (.int .i64 pb0_0), .d (.sl (pb0_1.map api_LinRow.d)), .ref ⟨0, 1, 0⟩ 0 b1.length b1.length, .d (.bool pb0_3)]), ((1, 0), .arr 7 false (b1.map api_LinNode.d))]], [some [((0, 0), .box [.d (.int .i64 pb0_0), .d (.sl (pb0_1.map api_LinRow.d)), .ref ⟨0, 1, 0⟩ 0 b1.length b1.length, .d (.bool pb0_3)]), ((1, 0), .arr 7 false (b1.map api_LinNode.d))]]⟩) (E' := fun y => [(4, .bptr ⟨1, 4, 0⟩ 0), (5, .pimm (depend_box.d p1) 0), (6, .pimm (.int .i64 p2) 0)]) (M' := fun y => ⟨[((4, 0), .box [.bptr ⟨0, 0, 0⟩ 0])], [[((0, 0), .box [.d (.int .i64 pb0_0), .d (.sl (pb0_1.map api_LinRow.d)), .ref ⟨0, 1, 0⟩ 0 b1.length b1.length, .d (.bool pb0_3)]), ((1, 0), .arr 7 false (b1.map api_LinNode.d))]], [some [((0, 0), .box [.d (.int .i64 pb0_0), .d (.sl (pb0_1.map api_LinRow.d)), .ref ⟨0, 1, 0⟩ 0 b1.length b1.length, .d (.bool pb0_3)]), ((1, 0), .arr 7 false (b1.map api_LinNode.d))]]⟩) hz12 (by (try simp only [List.length_set, copied_len]); exact trkc (by kernel_rfl) (by kernel_rfl) (by kernel_rfl)) ?_ ?_
  · intro s1 ww h
    unfold depend_solver_unit.s1 at h
    refine CWp.seq ?_
    refine sr ?_
    refine ts (mv rfl) ?_
    refine ts (ld sT145 rfl (ow rfl) rfl) ?_
    refine ts (nc rfl rfl) ?_
    refine ts (fa fT147_0 rfl rfl) ?_
    refine ts (fa fT46_0 rfl rfl) ?_
    refine ts (ld sT3 rfl (uw rfl) rfl) ?_
    refine ts (mul rfl rfl) ?_
    refine ts (lss rfl rfl) ?_
    refine rn ?_
    rcases ite h with ⟨c2, h⟩ | ⟨c2, h⟩
    · refine ct rfl (bt c2) ?_
      refine CWp.skip ?_
      refine CWp.seq ?_
      refine CWp.block ?_
      refine sr ?_
      refine ts (mv rfl) ?_
      obtain ⟨x3, hx3, h⟩ := bnd h
      refine ts (quo_ rfl rfl hx3) ?_
      refine ts (as_ rfl) ?_
      refine rn ?_
      refine sr ?_
      refine ts (faI fT142_0 rfl rfl) ?_
      refine ts (ldI sT140 rfl rfl) ?_
      refine ts (mv rfl) ?_
      obtain ⟨x4, hx4, h⟩ := bnd h
      refine ts (ixD lT140 depend_side.sz rfl rfl hx4) ?_
      refine ts (ldIW aT195 rfl rfl rfl) ?_
      refine ts (mv rfl) ?_
      obtain ⟨x5, hx5, h⟩ := bnd h
      refine ts (rem_ rfl rfl hx5) ?_
      refine ts (eql rfl rfl) ?_
      refine ta (al (n := 0) zT195 rfl) ?_
      refine tt0 (stW aT195 rfl rfl rfl rfl rfl rfl .h) ?_
      refine ts (as_ rfl) ?_
      refine rn ?_
      refine jn (E := fun a6 => [(4, .bptr ⟨1, 4, 0⟩ 0), (5, .pimm (depend_box.d p1) 0), (6, .pimm (.int .i64 p2) 0), (9, .d (.int .i64 s1)), (10, .d (.int .i64 x3)), (11, .bptr ⟨1, 11, 0⟩ 0), (12, .d (.bool (x5 == 1)))]) (M := fun a6 => ⟨[((4, 0), .box [.bptr ⟨0, 0, 0⟩ 0]), ((11, 0), .box [.d (.bool a6.1), .d (.int .i64 a6.2.1), .d (.int .i64 a6.2.2)])], [[((0, 0), .box [.d (.int .i64 pb0_0), .d (.sl (pb0_1.map api_LinRow.d)), .ref ⟨0, 1, 0⟩ 0 b1.length b1.length, .d (.bool pb0_3)]), ((1, 0), .arr 7 false (b1.map api_LinNode.d))]], [some [((0, 0), .box [.d (.int .i64 pb0_0), .d (.sl (pb0_1.map api_LinRow.d)), .ref ⟨0, 1, 0⟩ 0 b1.length b1.length, .d (.bool pb0_3)]), ((1, 0), .arr 7 false (b1.map api_LinNode.d))]]⟩) (F := fun a6 => depend_solver_unit.j2 pb0_1 s1 x3 a6) (r := ww) ?_ ?_
      · intro a6 h
        unfold depend_solver_unit.j2 at h
        refine sd mixed (b := [0, 1, 3, 7, 15, 0, 32, 127, 255, 511, 0, 2047, 4095, 0, 16383]) (by kernel_rfl) ?_
        refine dr (ld sT145 rfl (ow rfl) rfl) rfl ?_
        refine ds (nc rfl rfl) rfl ?_
        refine ds (fa fT147_0 rfl rfl) rfl ?_
        refine ds (fa fT46_1 rfl rfl) rfl ?_
        refine dr (ld sT44 rfl (uw rfl) rfl) rfl ?_
        refine ds (fa fT195_2 rfl rfl) rfl ?_
        refine dr (ld sT3 rfl (ow rfl) rfl) rfl ?_
        obtain ⟨x7, hx7, h⟩ := bnd h
        refine ds (ixD lT44 api_LinRow.sz rfl rfl hx7) rfl ?_
        refine ds (faI fT105_0 rfl rfl) rfl ?_
        refine ds (ldI sT48 rfl rfl) rfl ?_
        refine ds (mv rfl) rfl ?_
        obtain ⟨x8, hx8, h⟩ := bnd h
        refine ds (ixD lT48 szI rfl rfl hx8) rfl ?_
        refine ds (ldI sT3 rfl rfl) rfl ?_
        refine da (al (n := 0) zT3 rfl) rfl ?_
        refine et0 rfl (st sT3 rfl rfl rfl rfl .h .h) (by kernel_rfl) rfl ?_
        refine dn (by kernel_rfl) ?_
        refine CWp.trim (Le.fzBox (t := 13) (e := .int .i64 x8) (env' := [(4, .bptr ⟨1, 4, 0⟩ 0), (5, .pimm (depend_box.d p1) 0), (6, .pimm (.int .i64 p2) 0), (9, .d (.int .i64 s1)), (10, .d (.int .i64 x3)), (11, .bptr ⟨1, 11, 0⟩ 0), (12, .d (.bool (x5 == 1))), (46, .bptr ⟨0, 0, 0⟩ 0), (47, .bptr ⟨0, 0, 0⟩ 0), (48, .bptr ⟨0, 0, 0⟩ 0), (49, .bptr ⟨0, 0, 0⟩ 1), (50, .d (.sl (pb0_1.map api_LinRow.d))), (51, .bptr ⟨1, 11, 0⟩ 2), (52, .d (.int .i64 a6.2.2)), (53, .pimm (api_LinRow.d x7) 0), (54, .pimm (api_LinRow.d x7) 0), (55, .d (.sl (x7.Coefs.map dI))), (56, .d (.int .i64 x3)), (57, .pimm (.int .i64 x8) 0), (58, .d (.int .i64 x8))]) (loc' := [((4, 0), .box [.bptr ⟨0, 0, 0⟩ 0]), ((11, 0), .box [.d (.bool a6.1), .d (.int .i64 a6.2.1), .d (.int .i64 a6.2.2)])]) rfl rfl rfl rfl (by (try simp only [List.length_set, copied_len]); exact trkcT (by kernel_rfl) (by kernel_rfl) (by kernel_rfl))) ?_
        refine CWp.seq ?_
        refine sr ?_
        refine ts (ldI sT3 rfl rfl) ?_
        refine ts (eql rfl rfl) ?_
        refine ts (mv rfl) ?_
        refine sg 3 [(64, .d (.bool ((x8 == 1) || (x8 == (-1)))))] ?_ ?_
        · rcases bool_or (x8 == 1) with g9 | g10
          · refine un (gn rfl rfl g9) ?_
            refine un (gn rfl rfl g9) ?_
            refine ts (pt rfl g9 rfl) ?_
            exact rn (trD 3 rfl (.c (bq (or_t g9)) .n) (by kernel_rfl))
          · refine us (gy rfl rfl g10) (ldI sT3 rfl rfl) ?_
            refine us (gy rfl rfl g10) (eql rfl rfl) ?_
            refine ts (pf rfl g10 rfl) ?_
            exact rn (trD 3 rfl (.c (bq (or_f g10)) .n) (by kernel_rfl))
        refine rn ?_
        rcases ite h with ⟨c11, h⟩ | ⟨c11, h⟩
        · refine ct rfl c11 ?_
          refine CWp.exit ?_
          refine lr ?_
          refine ts (mv rfl) ?_
          refine ts (add rfl rfl) ?_
          refine ts (as_ rfl) ?_
          refine rn ?_
          obtain rfl := some_inj h
          exact ⟨rfl, (by (try simp only [List.length_set, copied_len]); exact trkc (by kernel_rfl) (by kernel_rfl) (by kernel_rfl))⟩
        · cases h
      · refine sr ?_
        refine ts (mv rfl) ?_
        refine rn ?_
        rcases ite h with ⟨c6, h⟩ | ⟨c6, h⟩
        · refine ct rfl (et c6) ?_
          refine lr ?_
          refine ts (faI fT142_1 rfl rfl) ?_
          refine ts (ldI sT140 rfl rfl) ?_
          refine ts (mv rfl) ?_
          obtain ⟨x7, hx7, h⟩ := bnd h
          refine ts (ixD lT140 depend_side.sz rfl rfl hx7) ?_
          refine ts (ldIW aT195 rfl rfl rfl) ?_
          refine tt0 (stW aT195 rfl rfl rfl rfl rfl rfl .h) ?_
          refine rn ?_
          exact ⟨(x7.known, x7.n, x7.row), h, (by (try simp only [List.length_set, copied_len]); exact trkc (by kernel_rfl) (by kernel_rfl) (by kernel_rfl))⟩
        · refine cf rfl (ef c6) ?_
          refine CWp.skip ?_
          exact ⟨(x4.known, x4.n, x4.row), h, (by (try simp only [List.length_set, copied_len]); exact trkc (by kernel_rfl) (by kernel_rfl) (by kernel_rfl))⟩
    · refine cf rfl (bf c2) ?_
      refine CWp.exit ?_
      obtain rfl := some_inj h
      exact ⟨rfl, (by (try simp only [List.length_set, copied_len]); exact trkc (by kernel_rfl) (by kernel_rfl) (by kernel_rfl))⟩
  · intro e s ht
    refine CWp.trim ht ?_
    refine sr ?_
    refine ts (ld sT145 rfl (ow rfl) rfl) ?_
    refine ts (ldIW aT142 rfl rfl rfl) ?_
    refine ts (ldI sT3 rfl rfl) ?_
    obtain ⟨x13, hx13, h⟩ := bnd h
    refine tt (clq (f := fun _ => false) kf rfl (.c rfl le5 (.c rfl le1 (.c rfl le1 .n))) rfl (fr_ (ids := [⟨0, 0, 0⟩, ⟨0, 1, 0⟩]) (cbs := [.box [.d (.int .i64 pb0_0), .d (.sl (pb0_1.map api_LinRow.d)), .ref ⟨0, 1, 0⟩ 0 b1.length b1.length, .d (.bool pb0_3)], .arr 7 false (b1.map api_LinNode.d)]) (cbs' := [.box [.d (.int .i64 pb0_0), .d (.sl (pb0_1.map api_LinRow.d)), .ref ⟨0, 1, 0⟩ 0 x13.2.1.length x13.2.1.length, .d (.bool x13.2.2)], .arr 7 false (x13.2.1.map api_LinNode.d)]) (depend_solver_search_ok hx13) (by first | rfl | (simp only [List.length_set, copied_len] <;> rfl)) (.inr ⟨rfl, rfl⟩) (by simp) rfl rfl rfl rfl rfl rfl rfl rfl (.c rfl (.c rfl .n)) (.set (.set .full rfl (by simp) (set_w0 (.s rfl .h))) rfl (by simp) (set_w0 .h))) rfl) ?_
    refine ts (as_ rfl) ?_
    refine rn ?_
    refine CWp.ret ?_
    obtain rfl := some_inj h
    exact ⟨trivial, rtN rfl (by first | rfl | (simp only [List.length_set, copied_len] <;> rfl)) (by rfl)⟩
theorem depend_Solve_ok {p0 : api_LinSystem} {out : Out} {r : api_LinAnswer × Int} (h : depend_Solve p0 = some r) : FunOk PP 23 [.d (api_LinSystem.d p0)] out ⟨.tup [.d (api_LinAnswer.d r.1), .d (.int .i64 r.2)], []⟩ := by
  unfold depend_Solve at h
  refine fi Tryz.func23 rfl (by kernel_rfl) (by kernel_rfl) (by kernel_rfl) ?_
  refine sr ?_
  refine ts (bxI rfl) ?_
  refine ta (al (n := 0) zT52 rfl) ?_
  refine ts (ac rfl rfl) ?_
  refine rn ?_
  refine sr ?_
  refine ts (ldIW aT46 rfl rfl rfl) ?_
  obtain ⟨x1, hx1, h⟩ := bnd h
  refine ts (cln (f := fun _ => false) kf rfl (.c rfl le1 .n) (curOf_nil _) (depend_openBox_ok hx1) rfl) ?_
  refine ts (mv rfl) ?_
  refine ts (ex_ rfl rfl) ?_
  refine ts (ex_ rfl rfl) ?_
  refine ta (al (n := 0) zT142 rfl) ?_
  refine tt0 (stW aT142 rfl rfl rfl rfl rfl rfl .h) ?_
  refine ts (as_ rfl) ?_
  refine rn ?_
  refine CWp.trim (Le.fzBox (t := 4) (e := depend_box.d x1.1) (env' := [(0, .d (api_LinSystem.d p0)), (1, .pimm (api_LinSystem.d p0) 0), (2, .bptr ⟨out.length, 2, 0⟩ 0), (3, .d (.int .i64 0)), (9, .d (api_LinSystem.d p0)), (11, .d (depend_box.d x1.1)), (12, .d (.int .i64 x1.2)), (5, .d (.int .i64 x1.2))]) (loc' := [((2, 0), .box [.d .nilsl, .d .nilsl])]) rfl rfl rfl rfl (by (try simp only [List.length_set, copied_len]); exact trkT (by kernel_rfl) (by kernel_rfl) (by kernel_rfl))) ?_
  refine CWp.seq ?_
  refine sr ?_
  refine ts (mv rfl) ?_
  refine ts (neq rfl rfl) ?_
  refine rn ?_
  rcases ite h with ⟨c2, h⟩ | ⟨c2, h⟩
  · cases h
  · refine cf rfl (nf c2) ?_
    refine CWp.skip ?_
    refine sr ?_
    refine ts (ldIW aT46 rfl rfl rfl) ?_
    refine ts (bld (v := .d (.agg [.int .i64 p0.Vars, .sl (p0.Rows.map api_LinRow.d), .nilsl, .bool false])) rfl (by kernel_rfl)) ?_
    refine ta (bx (n := 0) rfl rfl rfl) ?_
    refine ts (as_ rfl) ?_
    refine rn ?_
    refine sr ?_
    refine ts (mv rfl) ?_
    refine ts (ldIW aT142 rfl rfl rfl) ?_
    refine ts (faI fT46_1 rfl rfl) ?_
    refine ts (ldI sT44 rfl rfl) ?_
    refine ts (lnD lT44 rfl rfl) ?_
    refine gz (Le.nilBox (t := 19) (n := 0) (t' := 1382) (n' := 0) (off := 2) (sz := 7) rfl rfl rfl rfl) ?_
    obtain ⟨x3, hx3, h⟩ := bnd h
    refine tt (clp (f := fun _ => false) kf rfl (.c rfl le5 (.c rfl le1 (.c rfl le1 (.c rfl le1 .n)))) rfl (curOf_nil _) (fr_ (ids := [⟨out.length, 19, 0⟩, ⟨out.length, 1382, 0⟩]) (cbs := [.box [.d (.int .i64 p0.Vars), .d (.sl (p0.Rows.map api_LinRow.d)), .ref ⟨0, 1, 0⟩ 0 0 0, .d (.bool false)], .arr 7 false (([] : List api_LinNode).map api_LinNode.d)]) (cbs' := [.box [.d (.int .i64 p0.Vars), .d (.sl (p0.Rows.map api_LinRow.d)), .ref ⟨0, 1, 0⟩ 0 x3.2.1.length x3.2.1.length, .d (.bool x3.2.2)], .arr 7 false (x3.2.1.map api_LinNode.d)]) (depend_solver_unit_ok hx3) (by first | rfl | (simp only [List.length_set, copied_len] <;> rfl)) (.inr ⟨rfl, rfl⟩) (by simp) rfl rfl rfl rfl rfl rfl rfl rfl (.c (o1 rfl) (.c (o1 rfl) .n)) (.set (.set .one (o1 rfl) (by simp) (set_o1' .h)) (o1 rfl) (by simp) (set_o1' (.s rfl .h)))) rfl) ?_
    refine ts (as_ rfl) ?_
    refine rn ?_
    refine CWp.seq ?_
    refine CWp.block ?_
    refine sr ?_
    refine ts (mv rfl) ?_
    refine ts (neN rfl uT48) ?_
    refine ts (as_ rfl) ?_
    refine rn ?_
    rcases ite h with ⟨c4, h⟩ | ⟨c4, h⟩
    · cases h
    · refine cf rfl (not_f (Classical.not_not.1 c4)) ?_
      refine sr ?_
      refine ts (mv rfl) ?_
      refine ts (nc rfl rfl) ?_
      refine ts (fa fT147_2 rfl rfl) ?_
      refine ts (ld sT4 rfl (ow rfl) rfl) ?_
      refine ts (as_ rfl) ?_
      refine rn ?_
      rcases ite h with ⟨c5, h⟩ | ⟨c5, h⟩
      · cases h
      · refine cf rfl (vf c5) ?_
        refine CWp.skip ?_
        refine sr ?_
        refine ts (mv rfl) ?_
        refine ts (nc rfl rfl) ?_
        refine ts (fa fT147_1 rfl rfl) ?_
        refine ts (ld sT50 rfl (ow rfl) rfl) ?_
        refine ts (bld (v := .agg [.d .nilsl, .ref ⟨out.length, 1382, 0⟩ 0 x3.2.1.length x3.2.1.length]) rfl (by kernel_rfl)) ?_
        refine tt0 (stW aT52 rfl rfl rfl rfl rfl rfl (.s rfl (.s rfl .h))) ?_
        refine ts (ac rfl rfl) ?_
        refine rn ?_
        refine CWp.ret ?_
        obtain rfl := some_inj h
        exact ⟨trivial, rt2 (ex := false) (by exact (rcA (v := .agg [.d .nilsl, .ref ⟨out.length, 1382, 0⟩ 0 x3.2.1.length x3.2.1.length]) aT52 rfl (ow rfl) (by kernel_rfl) (.t rfl .n))) (by exact (sc (ga (sc (gd (by rfl)) (sc (gf rfl rfl) sn)) rfl) (sc (gd (by rfl)) sn))) (by rfl) (by rfl)⟩
theorem base_Before.N_ok : ∀ (n : Nat) {p0 : (List Int)} {p1 : (List Int)} {out : Out} {r : Bool}, base_Before.N n p0 p1 = some r → FunOk PP 82 [.d (.sl (p0.map dI)), .d (.sl (p1.map dI))] out ⟨.d (.bool r), []⟩ := by
  intro n
  induction n with
  | zero => intro p0 p1 out r h; cases h
  | succ n ih101 =>
    intro p0 p1 out r h
    unfold base_Before.N base_Before.F at h
    refine fi Tryz.func82 rfl (by kernel_rfl) (by kernel_rfl) (by kernel_rfl) ?_
    refine sr ?_
    refine ts (ac rfl rfl) ?_
    refine rn ?_
    refine CWp.seq ?_
    refine sr ?_
    refine ts (mv rfl) ?_
    refine ts (lnD lT48 rfl rfl) ?_
    refine ts (eql rfl rfl) ?_
    refine ts (mv rfl) ?_
    refine sg 4 [(12, .d (.bool (((p0.length : Int) == 0) || ((p1.length : Int) == 0))))] ?_ ?_
    · rcases bool_or ((p0.length : Int) == 0) with g1 | g2
      · refine un (gn rfl rfl g1) ?_
        refine un (gn rfl rfl g1) ?_
        refine un (gn rfl rfl g1) ?_
        refine ts (pt rfl g1 rfl) ?_
        exact rn (trD 4 rfl (.c (bq (or_t g1)) .n) (by kernel_rfl))
      · refine us (gy rfl rfl g2) (mv rfl) ?_
        refine us (gy rfl rfl g2) (lnD lT48 rfl rfl) ?_
        refine us (gy rfl rfl g2) (eql rfl rfl) ?_
        refine ts (pf rfl g2 rfl) ?_
        exact rn (trD 4 rfl (.c (bq (or_f g2)) .n) (by kernel_rfl))
    refine rn ?_
    rcases ite h with ⟨c3, h⟩ | ⟨c3, h⟩
    · refine ct rfl c3 ?_
      refine sr ?_
      refine ts (mv rfl) ?_
      refine ts (lnD lT48 rfl rfl) ?_
      refine ts (mv rfl) ?_
      refine ts (lnD lT48 rfl rfl) ?_
      refine ts (lss rfl rfl) ?_
      refine ts (as_ rfl) ?_
      refine rn ?_
      refine CWp.ret ?_
      obtain rfl := some_inj h
      exact ⟨trivial, rt1 (ex := false) (by exact (.t rfl .n)) (by exact (gd (by rfl))) (by rfl) (by rfl)⟩
    · refine cf rfl (vf c3) ?_
      refine CWp.skip ?_
      refine sd mixed (b := [0, 1, 3, 0, 8, 24, 63, 127, 255, 511, 1023, 255, 2303, 6399, 16383, 32767, 65535, 131071, 65535, 327679, 1048575, 2097151, 4194303, 8388607]) (by kernel_rfl) ?_
      refine ds (mv rfl) rfl ?_
      obtain ⟨x4, hx4, h⟩ := bnd h
      refine ds (ixD lT48 szI rfl rfl hx4) rfl ?_
      refine ds (ldI sT3 rfl rfl) rfl ?_
      refine ds (mv rfl) rfl ?_
      obtain ⟨x5, hx5, h⟩ := bnd h
      refine ds (ixD lT48 szI rfl rfl hx5) rfl ?_
      refine ds (ldI sT3 rfl rfl) rfl ?_
      refine ds (lss rfl rfl) rfl ?_
      refine ds (mv rfl) rfl ?_
      rcases ite h with ⟨c6, h⟩ | ⟨c6, h⟩
      · refine vn (gn rfl rfl (bt c6)) ?_
        refine vn (gn rfl rfl (bt c6)) ?_
        refine vn (gn rfl rfl (bt c6)) ?_
        refine vn (gn rfl rfl (bt c6)) ?_
        refine vn (gn rfl rfl (bt c6)) ?_
        refine vn (gn rfl rfl (bt c6)) ?_
        refine vn (gn rfl rfl (bt c6)) ?_
        refine vn (gn rfl rfl (bt c6)) ?_
        refine vn (gu rfl rfl) ?_
        refine vn (gu rfl rfl) ?_
        refine vn (gu rfl rfl) ?_
        refine vn (gu rfl rfl) ?_
        refine vn (gu rfl rfl) ?_
        refine vn (gn rfl rfl (bt c6)) ?_
        refine ds (pt rfl (bt c6) rfl) rfl ?_
        refine ds (as_ rfl) rfl ?_
        refine dn (by kernel_rfl) ?_
        refine CWp.ret ?_
        obtain rfl := some_inj h
        exact ⟨trivial, rt1 (ex := false) (by exact (.t rfl .n)) (by exact (gd (by rfl))) (by rfl) (by rfl)⟩
      · refine vs (gy rfl rfl (bf c6)) (mv rfl) rfl ?_
        obtain ⟨x7, hx7, h⟩ := bnd h
        refine vs (gy rfl rfl (bf c6)) (ixD lT48 szI rfl rfl hx7) rfl ?_
        refine vs (gy rfl rfl (bf c6)) (ldI sT3 rfl rfl) rfl ?_
        refine vs (gy rfl rfl (bf c6)) (mv rfl) rfl ?_
        obtain ⟨x8, hx8, h⟩ := bnd h
        refine vs (gy rfl rfl (bf c6)) (ixD lT48 szI rfl rfl hx8) rfl ?_
        refine vs (gy rfl rfl (bf c6)) (ldI sT3 rfl rfl) rfl ?_
        refine vs (gy rfl rfl (bf c6)) (eql rfl rfl) rfl ?_
        refine vs (gy rfl rfl (bf c6)) (mv rfl) rfl ?_
        rcases ite h with ⟨c9, h⟩ | ⟨c9, h⟩
        · refine vs (gy rfl rfl (et c9)) (mv rfl) rfl ?_
          obtain ⟨x10, hx10, h⟩ := bnd h
          refine vs (gy rfl rfl (et c9)) (slD lT48 szI rfl (.is rfl) .no hx10) rfl ?_
          refine vs (gy rfl rfl (et c9)) (mv rfl) rfl ?_
          obtain ⟨x11, hx11, h⟩ := bnd h
          refine vs (gy rfl rfl (et c9)) (slD lT48 szI rfl (.is rfl) .no hx11) rfl ?_
          obtain ⟨x12, hx12, h⟩ := bnd h
          refine vs (gy rfl rfl (et c9)) (cln (f := fun _ => false) kf rfl (.c rfl le1 (.c rfl le1 .n)) (curOf_nil _) (ih101 hx12) rfl) rfl ?_
          refine vs (gy rfl rfl (bf c6)) (pt rfl (et c9) rfl) rfl ?_
          refine ds (pf rfl (bf c6) rfl) rfl ?_
          refine ds (as_ rfl) rfl ?_
          refine dn (by kernel_rfl) ?_
          refine CWp.ret ?_
          obtain rfl := some_inj h
          exact ⟨trivial, rt1 (ex := false) (by exact (.t rfl .n)) (by exact (gd (by rfl))) (by rfl) (by rfl)⟩
        · refine vn (gn rfl rfl (ef c9)) ?_
          refine vn (gn rfl rfl (ef c9)) ?_
          refine vn (gn rfl rfl (ef c9)) ?_
          refine vn (gn rfl rfl (ef c9)) ?_
          refine vn (gn rfl rfl (ef c9)) ?_
          refine vs (gy rfl rfl (bf c6)) (pf rfl (ef c9) rfl) rfl ?_
          refine ds (pf rfl (bf c6) rfl) rfl ?_
          refine ds (as_ rfl) rfl ?_
          refine dn (by kernel_rfl) ?_
          refine CWp.ret ?_
          obtain rfl := some_inj h
          exact ⟨trivial, rt1 (ex := false) (by exact (.t rfl .n)) (by exact (gd (by rfl))) (by rfl) (by rfl)⟩
theorem base_Before_ok {p0 : (List Int)} {p1 : (List Int)} {out : Out} {r : Bool} (h : base_Before p0 p1 = some r) : FunOk PP 82 [.d (.sl (p0.map dI)), .d (.sl (p1.map dI))] out ⟨.d (.bool r), []⟩ := by
  obtain ⟨n, hn⟩ := lim_some h
  exact base_Before.N_ok n hn
theorem base_Ints_ok {p0 : (List Int)} {p1 : (List Int)} {out : Out} {r : Bool} (h : base_Ints p0 p1 = some r) : FunOk PP 31 [.d (.sl (p0.map dI)), .d (.sl (p1.map dI))] out ⟨.d (.bool r), []⟩ := by
  unfold base_Ints at h
  refine fi Tryz.func31 rfl (by kernel_rfl) (by kernel_rfl) (by kernel_rfl) ?_
  refine sr ?_
  refine ts (ac rfl rfl) ?_
  refine rn ?_
  refine sr ?_
  refine ts (mv rfl) ?_
  refine ts (lnD lT48 rfl rfl) ?_
  refine ts (mv rfl) ?_
  refine ts (lnD lT48 rfl rfl) ?_
  refine ts (eql rfl rfl) ?_
  refine ts (mv rfl) ?_
  rcases ite h with ⟨c1, h⟩ | ⟨c1, h⟩
  · refine us (gy rfl rfl (et c1)) (mv rfl) ?_
    refine us (gy rfl rfl (et c1)) (mv rfl) ?_
    obtain ⟨x2, hx2, h⟩ := bnd h
    refine us (gy rfl rfl (et c1)) (cln (f := fun _ => false) kf rfl (.c rfl le1 (.c rfl le1 .n)) (curOf_nil _) (base_Before_ok hx2) rfl) ?_
    refine us (gy rfl rfl (et c1)) (not_ rfl) ?_
    refine ts (pt rfl (et c1) rfl) ?_
    refine ts (mv rfl) ?_
    rcases ite h with ⟨c3, h⟩ | ⟨c3, h⟩
    · refine us (gy rfl rfl (not_t (vf c3))) (mv rfl) ?_
      refine us (gy rfl rfl (not_t (vf c3))) (mv rfl) ?_
      obtain ⟨x4, hx4, h⟩ := bnd h
      refine us (gy rfl rfl (not_t (vf c3))) (cln (f := fun _ => false) kf rfl (.c rfl le1 (.c rfl le1 .n)) (curOf_nil _) (base_Before_ok hx4) rfl) ?_
      refine us (gy rfl rfl (not_t (vf c3))) (not_ rfl) ?_
      refine ts (pt rfl (not_t (vf c3)) rfl) ?_
      refine ts (as_ rfl) ?_
      refine rn ?_
      refine CWp.ret ?_
      obtain rfl := some_inj h
      exact ⟨trivial, rt1 (ex := false) (by exact (.t rfl .n)) (by exact (gd (by rfl))) (by rfl) (by rfl)⟩
    · refine un (gn rfl rfl (not_f (Classical.not_not.1 c3))) ?_
      refine un (gn rfl rfl (not_f (Classical.not_not.1 c3))) ?_
      refine un (gn rfl rfl (not_f (Classical.not_not.1 c3))) ?_
      refine un (gn rfl rfl (not_f (Classical.not_not.1 c3))) ?_
      refine ts (pf rfl (not_f (Classical.not_not.1 c3)) rfl) ?_
      refine ts (as_ rfl) ?_
      refine rn ?_
      refine CWp.ret ?_
      obtain rfl := some_inj h
      exact ⟨trivial, rt1 (ex := false) (by exact (.t rfl .n)) (by exact (gd (by rfl))) (by rfl) (by rfl)⟩
  · refine un (gn rfl rfl (ef c1)) ?_
    refine un (gn rfl rfl (ef c1)) ?_
    refine un (gn rfl rfl (ef c1)) ?_
    refine un (gn rfl rfl (ef c1)) ?_
    refine ts (pf rfl (ef c1) rfl) ?_
    refine ts (mv rfl) ?_
    refine un (gn rfl rfl rfl) ?_
    refine un (gn rfl rfl rfl) ?_
    refine un (gn rfl rfl rfl) ?_
    refine un (gn rfl rfl rfl) ?_
    refine ts (pf rfl rfl rfl) ?_
    refine ts (as_ rfl) ?_
    refine rn ?_
    refine CWp.ret ?_
    obtain rfl := some_inj h
    exact ⟨trivial, rt1 (ex := false) (by exact (.t rfl .n)) (by exact (gd (by rfl))) (by rfl) (by rfl)⟩
theorem base_Lists_ok {p0 : (List (List Int))} {p1 : (List (List Int))} {out : Out} {r : Bool} (h : base_Lists p0 p1 = some r) : FunOk PP 20 [.d (.sl (p0.map (dL dI))), .d (.sl (p1.map (dL dI)))] out ⟨.d (.bool r), []⟩ := by
  unfold base_Lists at h
  refine fi Tryz.func20 rfl (by kernel_rfl) (by kernel_rfl) (by kernel_rfl) ?_
  refine sr ?_
  refine ts (ac rfl rfl) ?_
  refine rn ?_
  refine sr ?_
  refine ts (mv rfl) ?_
  refine ts (lnD lT35 rfl rfl) ?_
  refine ts (mv rfl) ?_
  refine ts (lnD lT35 rfl rfl) ?_
  refine ts (eql rfl rfl) ?_
  refine ts (as_ rfl) ?_
  refine rn ?_
  refine CWp.seq ?_
  refine sr ?_
  refine ts (mv rfl) ?_
  refine ts (lnD lT35 rfl rfl) ?_
  refine ts (mv rfl) ?_
  refine rn ?_
  obtain ⟨z7, hz7, h⟩ := bnd h
  refine lb (E := fun s1 => [(0, .d (.sl (p0.map (dL dI)))), (1, .d (.sl (p1.map (dL dI)))), (5, .d (.bool s1.1)), (13, .d (.int .i64 (p0.length : Int))), (14, .d (.int .i64 s1.2))]) (M := fun s1 => ⟨[], out, []⟩) (E' := fun y => [(5, .d (.bool y))]) (M' := fun y => ⟨[], out, []⟩) hz7 (by (try simp only [List.length_set, copied_len]); exact trk (by kernel_rfl) (by kernel_rfl) (by kernel_rfl)) ?_ ?_
  · intro s1 ww h
    unfold base_Lists.s1 at h
    refine sr ?_
    refine ts (lss rfl rfl) ?_
    refine rn ?_
    refine CWp.seq ?_
    rcases ite h with ⟨c2, h⟩ | ⟨c2, h⟩
    · refine ct rfl (bt c2) ?_
      refine CWp.skip ?_
      refine CWp.seq ?_
      refine CWp.block ?_
      refine sr ?_
      refine ts (mv rfl) ?_
      refine ts (as_ rfl) ?_
      refine rn ?_
      refine ld_ mixed (b := [0, 1, 3, 3, 15, 31, 3, 3, 195, 451, 1023, 2047, 4095]) (by kernel_rfl) ?_
      refine ds (mv rfl) rfl ?_
      refine ds (mv rfl) rfl ?_
      rcases ite h with ⟨c3, h⟩ | ⟨c3, h⟩
      · refine vs (gy rfl rfl c3) (mv rfl) rfl ?_
        refine vs (gy rfl rfl c3) (mv rfl) rfl ?_
        obtain ⟨x4, hx4, h⟩ := bnd h
        refine vs (gy rfl rfl c3) (ixD lT35 szL rfl rfl hx4) rfl ?_
        refine vs (gy rfl rfl c3) (ldI sT48 rfl rfl) rfl ?_
        refine vs (gy rfl rfl c3) (mv rfl) rfl ?_
        refine vs (gy rfl rfl c3) (mv rfl) rfl ?_
        obtain ⟨x5, hx5, h⟩ := bnd h
        refine vs (gy rfl rfl c3) (ixD lT35 szL rfl rfl hx5) rfl ?_
        refine vs (gy rfl rfl c3) (ldI sT48 rfl rfl) rfl ?_
        obtain ⟨x6, hx6, h⟩ := bnd h
        refine vs (gy rfl rfl c3) (cln (f := fun _ => false) kf rfl (.c rfl le1 (.c rfl le1 .n)) (curOf_nil _) (base_Ints_ok hx6) rfl) rfl ?_
        refine ds (pt rfl c3 rfl) rfl ?_
        refine ds (as_ rfl) rfl ?_
        refine dn (by kernel_rfl) ?_
        refine lr ?_
        refine ts (add rfl rfl) ?_
        refine ts (mv rfl) ?_
        refine rn ?_
        obtain rfl := some_inj h
        exact ⟨rfl, (by (try simp only [List.length_set, copied_len]); exact trk (by kernel_rfl) (by kernel_rfl) (by kernel_rfl))⟩
      · refine vn (gn rfl rfl (vf c3)) ?_
        refine vn (gn rfl rfl (vf c3)) ?_
        refine vn (gn rfl rfl (vf c3)) ?_
        refine vn (gn rfl rfl (vf c3)) ?_
        refine vn (gn rfl rfl (vf c3)) ?_
        refine vn (gn rfl rfl (vf c3)) ?_
        refine vn (gn rfl rfl (vf c3)) ?_
        refine vn (gn rfl rfl (vf c3)) ?_
        refine vn (gn rfl rfl (vf c3)) ?_
        refine ds (pf rfl (vf c3) rfl) rfl ?_
        refine ds (as_ rfl) rfl ?_
        refine dn (by kernel_rfl) ?_
        refine lr ?_
        refine ts (add rfl rfl) ?_
        refine ts (mv rfl) ?_
        refine rn ?_
        obtain rfl := some_inj h
        exact ⟨rfl, (by (try simp only [List.length_set, copied_len]); exact trk (by kernel_rfl) (by kernel_rfl) (by kernel_rfl))⟩
    · refine cf rfl (bf c2) ?_
      refine CWp.exit ?_
      obtain rfl := some_inj h
      exact ⟨rfl, (by (try simp only [List.length_set, copied_len]); exact trk (by kernel_rfl) (by kernel_rfl) (by kernel_rfl))⟩
  · intro e s ht
    refine CWp.trim ht ?_
    refine sr ?_
    refine ts (mv rfl) ?_
    refine ts (as_ rfl) ?_
    refine rn ?_
    refine CWp.ret ?_
    obtain rfl := some_inj h
    exact ⟨trivial, rt1 (ex := false) (by exact (.t rfl .n)) (by exact (gd (by rfl))) (by rfl) (by rfl)⟩
theorem law27_awake_ok {out : Out} {r : Bool} (h : law27_awake = some r) : FunOk PP 11 [] out ⟨.d (.bool r), []⟩ := by
  unfold law27_awake at h
  refine fi Tryz.func11 rfl (by kernel_rfl) (by kernel_rfl) (by kernel_rfl) ?_
  refine sr ?_
  refine ts (ac rfl rfl) ?_
  refine rn ?_
  refine sr ?_
  refine ts (cln (f := fun _ => false) kf rfl .n (curOf_nil _) (law27_Triangle_ok (rfl : law27_Triangle = _)) rfl) ?_
  obtain ⟨x1, hx1, h⟩ := bnd h
  refine ts (cln (f := fun _ => false) kf rfl (.c rfl le1 .n) (curOf_nil _) (depend_PointsOf_ok hx1) rfl) ?_
  refine ts (mv rfl) ?_
  refine ts (ex_ rfl rfl) ?_
  refine ts (ex_ rfl rfl) ?_
  refine ts (as_ rfl) ?_
  refine ts (as_ rfl) ?_
  refine rn ?_
  refine sr ?_
  refine ts (cln (f := fun _ => false) kf rfl .n (curOf_nil _) (law27_Triangle_ok (rfl : law27_Triangle = _)) rfl) ?_
  refine ts (cln (f := fun _ => false) kf rfl .n (curOf_nil _) (law27_Shift_ok (rfl : law27_Shift = _)) rfl) ?_
  refine ts (bld (v := .d (api_DependPair.d (api_DependPair.mk 0 1))) rfl (by kernel_rfl)) ?_
  obtain ⟨x2, hx2, h⟩ := bnd h
  refine ts (cln (f := fun _ => false) kf rfl (.c rfl le1 (.c rfl le1 (.c rfl le1 .n))) (curOf_nil _) (depend_DependencesOf_ok hx2) rfl) ?_
  refine ts (mv rfl) ?_
  refine ts (ex_ rfl rfl) ?_
  refine ts (ex_ rfl rfl) ?_
  refine ts (as_ rfl) ?_
  refine ts (as_ rfl) ?_
  refine rn ?_
  refine sr ?_
  refine ts (cln (f := fun _ => false) kf rfl .n (curOf_nil _) (law27_Triangle_ok (rfl : law27_Triangle = _)) rfl) ?_
  refine ts (cln (f := fun _ => false) kf rfl .n (curOf_nil _) (law27_Shift_ok (rfl : law27_Shift = _)) rfl) ?_
  refine ts (bld (v := .d (api_DependPair.d (api_DependPair.mk 0 1))) rfl (by kernel_rfl)) ?_
  obtain ⟨x3, hx3, h⟩ := bnd h
  refine ts (cln (f := fun _ => false) kf rfl (.c rfl le1 (.c rfl le1 (.c rfl le1 .n))) (curOf_nil _) (depend_DistancesOf_ok hx3) rfl) ?_
  refine ts (mv rfl) ?_
  refine ts (ex_ rfl rfl) ?_
  refine ts (ex_ rfl rfl) ?_
  refine ts (as_ rfl) ?_
  refine ts (as_ rfl) ?_
  refine rn ?_
  refine sr ?_
  refine ts (cln (f := fun _ => false) kf rfl .n (curOf_nil _) (law27_Far_ok (rfl : law27_Far = _)) rfl) ?_
  refine ts (bsT (l := (([0, 1, 0, 1, 1] : List Int).map dI)) lT48 rfl rfl rfl (by kernel_rfl)) ?_
  refine ts ((bld (v := .agg [.d (.int .i64 0), .tight (([0, 1, 0, 1, 1] : List Int).map dI), .d (.int .i64 0), .d (.int .i64 0), .d (.int .i64 0), .d (.int .i64 0), .d (.int .i64 0)]) rfl (by kernel_rfl)).wkf (x' := .d (api_LinNode.d (api_LinNode.mk 0 [0, 1, 0, 1, 1] 0 0 0 0 0))) rfl) ?_
  refine ts (bsT (l := (([(api_LinNode.mk 0 [0, 1, 0, 1, 1] 0 0 0 0 0)] : List api_LinNode).map api_LinNode.d)) lT50 rfl rfl rfl (by kernel_rfl)) ?_
  obtain ⟨x4, hx4, h⟩ := bnd h
  refine ts (cln (f := fun _ => false) kf rfl (.c rfl le1 (.c rfl le2 .n)) (curOf_nil _) (depend_CheckProof_ok hx4) rfl) ?_
  refine ts (mv rfl) ?_
  refine ts (ex_ rfl rfl) ?_
  refine ts (ex_ rfl rfl) ?_
  refine ts (as_ rfl) ?_
  refine ts (as_ rfl) ?_
  refine rn ?_
  refine sr ?_
  refine ts (cln (f := fun _ => false) kf rfl .n (curOf_nil _) (law27_Far_ok (rfl : law27_Far = _)) rfl) ?_
  obtain ⟨x5, hx5, h⟩ := bnd h
  refine ts (cln (f := fun _ => false) kf rfl (.c rfl le1 .n) (curOf_nil _) (depend_Solve_ok hx5) rfl) ?_
  refine ts (mv rfl) ?_
  refine ts (ex_ rfl rfl) ?_
  refine ts (ex_ rfl rfl) ?_
  refine ta (al (n := 0) zT52 rfl) ?_
  refine tt0 (stW aT52 rfl rfl rfl rfl rfl rfl .h) ?_
  refine ts (as_ rfl) ?_
  refine rn ?_
  refine CWp.trim (Le.fzBox (t := 9) (e := api_LinAnswer.d x5.1) (env' := [(0, .d (.bool false)), (12, .d (.sl (law27_Triangle.map api_Loop.d))), (14, .d (.sl (x1.1.map (dL dI)))), (15, .d (.int .i64 x1.2)), (1, .d (.sl (x1.1.map (dL dI)))), (2, .d (.int .i64 x1.2)), (17, .d (.sl (law27_Triangle.map api_Loop.d))), (18, .d (.sl (law27_Shift.map api_Access.d))), (19, .d (api_DependPair.d (api_DependPair.mk 0 1))), (21, .d (.sl (x2.1.map api_Dependence.d))), (22, .d (.int .i64 x2.2)), (3, .d (.sl (x2.1.map api_Dependence.d))), (4, .d (.int .i64 x2.2)), (24, .d (.sl (law27_Triangle.map api_Loop.d))), (25, .d (.sl (law27_Shift.map api_Access.d))), (26, .d (api_DependPair.d (api_DependPair.mk 0 1))), (28, .d (.sl (x3.1.map (dL dI)))), (29, .d (.int .i64 x3.2)), (5, .d (.sl (x3.1.map (dL dI)))), (6, .d (.int .i64 x3.2)), (31, .d (api_LinSystem.d law27_Far)), (32, .tight (([0, 1, 0, 1, 1] : List Int).map dI)), (33, .d (api_LinNode.d (api_LinNode.mk 0 [0, 1, 0, 1, 1] 0 0 0 0 0))), (34, .tight (([(api_LinNode.mk 0 [0, 1, 0, 1, 1] 0 0 0 0 0)] : List api_LinNode).map api_LinNode.d)), (36, .d (.int .i64 x4.1)), (37, .d (.int .i64 x4.2)), (7, .d (.int .i64 x4.1)), (8, .d (.int .i64 x4.2)), (39, .d (api_LinSystem.d law27_Far)), (41, .d (api_LinAnswer.d x5.1)), (42, .d (.int .i64 x5.2)), (10, .d (.int .i64 x5.2))]) (loc' := []) rfl rfl rfl rfl (by (try simp only [List.length_set, copied_len]); exact trkT (by kernel_rfl) (by kernel_rfl) (by kernel_rfl))) ?_
  refine sr ?_
  refine ts (mv rfl) ?_
  refine ts (eql rfl rfl) ?_
  refine ts (mv rfl) ?_
  refine sg 4 [(49, .d (.bool ((x1.2 == 0) && ((x1.1.length : Int) == 10))))] ?_ ?_
  · rcases bool_or (x1.2 == 0) with g6 | g7
    · refine us (gy rfl rfl g6) (mv rfl) ?_
      refine us (gy rfl rfl g6) (lnD lT35 rfl rfl) ?_
      refine us (gy rfl rfl g6) (eql rfl rfl) ?_
      refine ts (pt rfl g6 rfl) ?_
      exact rn (trD 4 rfl (.c (bq (and_t g6)) .n) (by kernel_rfl))
    · refine un (gn rfl rfl g7) ?_
      refine un (gn rfl rfl g7) ?_
      refine un (gn rfl rfl g7) ?_
      refine ts (pf rfl g7 rfl) ?_
      exact rn (trD 4 rfl (.c (bq (and_f g7)) .n) (by kernel_rfl))
  refine ts (mv rfl) ?_
  rcases ite h with ⟨c8, h⟩ | ⟨c8, h⟩
  · refine us (gy rfl rfl c8) (mv rfl) ?_
    obtain ⟨x9, hx9, h⟩ := bnd h
    refine us (gy rfl rfl c8) (ixD lT35 szL rfl rfl hx9) ?_
    refine us (gy rfl rfl c8) (ldI sT48 rfl rfl) ?_
    refine us (gy rfl rfl c8) (bsT (l := (([2, 2] : List Int).map dI)) lT48 rfl rfl rfl (by kernel_rfl)) ?_
    obtain ⟨x10, hx10, h⟩ := bnd h
    refine us (gy rfl rfl c8) (cln (f := fun _ => false) kf rfl (.c rfl le1 (.c rfl le2 .n)) (curOf_nil _) (base_Ints_ok hx10) rfl) ?_
    refine ts (pt rfl c8 rfl) ?_
    refine ts (mv rfl) ?_
    refine sg 3 [(60, .d (.bool (x10 && (x2.2 == 0))))] ?_ ?_
    · rcases bool_or x10 with g11 | g12
      · refine us (gy rfl rfl g11) (mv rfl) ?_
        refine us (gy rfl rfl g11) (eql rfl rfl) ?_
        refine ts (pt rfl g11 rfl) ?_
        exact rn (trD 3 rfl (.c (bq (and_t g11)) .n) (by kernel_rfl))
      · refine un (gn rfl rfl g12) ?_
        refine un (gn rfl rfl g12) ?_
        refine ts (pf rfl g12 rfl) ?_
        exact rn (trD 3 rfl (.c (bq (and_f g12)) .n) (by kernel_rfl))
    refine ts (mv rfl) ?_
    refine sg 4 [(65, .d (.bool ((x10 && (x2.2 == 0)) && ((x2.1.length : Int) == 1))))] ?_ ?_
    · rcases bool_or (x10 && (x2.2 == 0)) with g13 | g14
      · refine us (gy rfl rfl g13) (mv rfl) ?_
        refine us (gy rfl rfl g13) (lnD lT29 rfl rfl) ?_
        refine us (gy rfl rfl g13) (eql rfl rfl) ?_
        refine ts (pt rfl g13 rfl) ?_
        exact rn (trD 4 rfl (.c (bq (and_t g13)) .n) (by kernel_rfl))
      · refine un (gn rfl rfl g14) ?_
        refine un (gn rfl rfl g14) ?_
        refine un (gn rfl rfl g14) ?_
        refine ts (pf rfl g14 rfl) ?_
        exact rn (trD 4 rfl (.c (bq (and_f g14)) .n) (by kernel_rfl))
    refine ts (mv rfl) ?_
    rcases ite h with ⟨c15, h⟩ | ⟨c15, h⟩
    · refine us (gy rfl rfl c15) (mv rfl) ?_
      obtain ⟨x16, hx16, h⟩ := bnd h
      refine us (gy rfl rfl c15) (ixD lT29 api_Dependence.sz rfl rfl hx16) ?_
      refine us (gy rfl rfl c15) (faI fT117_0 rfl rfl) ?_
      refine us (gy rfl rfl c15) (ldI sT48 rfl rfl) ?_
      refine us (gy rfl rfl c15) (bsT (l := (([1, 0] : List Int).map dI)) lT48 rfl rfl rfl (by kernel_rfl)) ?_
      obtain ⟨x17, hx17, h⟩ := bnd h
      refine us (gy rfl rfl c15) (cln (f := fun _ => false) kf rfl (.c rfl le1 (.c rfl le2 .n)) (curOf_nil _) (base_Ints_ok hx17) rfl) ?_
      refine ts (pt rfl c15 rfl) ?_
      refine ts (mv rfl) ?_
      rcases ite h with ⟨c18, h⟩ | ⟨c18, h⟩
      · refine us (gy rfl rfl c18) (mv rfl) ?_
        obtain ⟨x19, hx19, h⟩ := bnd h
        refine us (gy rfl rfl c18) (ixD lT29 api_Dependence.sz rfl rfl hx19) ?_
        refine us (gy rfl rfl c18) (faI fT117_2 rfl rfl) ?_
        refine us (gy rfl rfl c18) (ldI sT48 rfl rfl) ?_
        refine us (gy rfl rfl c18) (bsT (l := (([2, 1] : List Int).map dI)) lT48 rfl rfl rfl (by kernel_rfl)) ?_
        obtain ⟨x20, hx20, h⟩ := bnd h
        refine us (gy rfl rfl c18) (cln (f := fun _ => false) kf rfl (.c rfl le1 (.c rfl le2 .n)) (curOf_nil _) (base_Ints_ok hx20) rfl) ?_
        refine ts (pt rfl c18 rfl) ?_
        refine ts (mv rfl) ?_
        refine sg 3 [(85, .d (.bool (x20 && (x3.2 == 0))))] ?_ ?_
        · rcases bool_or x20 with g21 | g22
          · refine us (gy rfl rfl g21) (mv rfl) ?_
            refine us (gy rfl rfl g21) (eql rfl rfl) ?_
            refine ts (pt rfl g21 rfl) ?_
            exact rn (trD 3 rfl (.c (bq (and_t g21)) .n) (by kernel_rfl))
          · refine un (gn rfl rfl g22) ?_
            refine un (gn rfl rfl g22) ?_
            refine ts (pf rfl g22 rfl) ?_
            exact rn (trD 3 rfl (.c (bq (and_f g22)) .n) (by kernel_rfl))
        refine ts (mv rfl) ?_
        rcases ite h with ⟨c23, h⟩ | ⟨c23, h⟩
        · refine us (gy rfl rfl c23) (mv rfl) ?_
          refine us (gy rfl rfl c23) (bsT (l := (([1, 0] : List Int).map dI)) lT48 rfl rfl rfl (by kernel_rfl)) ?_
          refine us (gy rfl rfl c23) (bsT (l := (([[1, 0]] : List (List Int)).map (dL dI))) lT35 rfl rfl rfl (by kernel_rfl)) ?_
          obtain ⟨x24, hx24, h⟩ := bnd h
          refine us (gy rfl rfl c23) (cln (f := fun _ => false) kf rfl (.c rfl le1 (.c rfl le2 .n)) (curOf_nil _) (base_Lists_ok hx24) rfl) ?_
          refine ts (pt rfl c23 rfl) ?_
          refine ts (mv rfl) ?_
          refine sg 3 [(95, .d (.bool (x24 && (x4.2 == 0))))] ?_ ?_
          · rcases bool_or x24 with g25 | g26
            · refine us (gy rfl rfl g25) (mv rfl) ?_
              refine us (gy rfl rfl g25) (eql rfl rfl) ?_
              refine ts (pt rfl g25 rfl) ?_
              exact rn (trD 3 rfl (.c (bq (and_t g25)) .n) (by kernel_rfl))
            · refine un (gn rfl rfl g26) ?_
              refine un (gn rfl rfl g26) ?_
              refine ts (pf rfl g26 rfl) ?_
              exact rn (trD 3 rfl (.c (bq (and_f g26)) .n) (by kernel_rfl))
          refine ts (mv rfl) ?_
          refine sg 3 [(99, .d (.bool ((x24 && (x4.2 == 0)) && (x4.1 == 1))))] ?_ ?_
          · rcases bool_or (x24 && (x4.2 == 0)) with g27 | g28
            · refine us (gy rfl rfl g27) (mv rfl) ?_
              refine us (gy rfl rfl g27) (eql rfl rfl) ?_
              refine ts (pt rfl g27 rfl) ?_
              exact rn (trD 3 rfl (.c (bq (and_t g27)) .n) (by kernel_rfl))
            · refine un (gn rfl rfl g28) ?_
              refine un (gn rfl rfl g28) ?_
              refine ts (pf rfl g28 rfl) ?_
              exact rn (trD 3 rfl (.c (bq (and_f g28)) .n) (by kernel_rfl))
          refine ts (mv rfl) ?_
          refine sg 3 [(103, .d (.bool (((x24 && (x4.2 == 0)) && (x4.1 == 1)) && (x5.2 == 0))))] ?_ ?_
          · rcases bool_or ((x24 && (x4.2 == 0)) && (x4.1 == 1)) with g29 | g30
            · refine us (gy rfl rfl g29) (mv rfl) ?_
              refine us (gy rfl rfl g29) (eql rfl rfl) ?_
              refine ts (pt rfl g29 rfl) ?_
              exact rn (trD 3 rfl (.c (bq (and_t g29)) .n) (by kernel_rfl))
            · refine un (gn rfl rfl g30) ?_
              refine un (gn rfl rfl g30) ?_
              refine ts (pf rfl g30 rfl) ?_
              exact rn (trD 3 rfl (.c (bq (and_f g30)) .n) (by kernel_rfl))
          refine ts (mv rfl) ?_
          refine sg 5 [(109, .d (.bool ((((x24 && (x4.2 == 0)) && (x4.1 == 1)) && (x5.2 == 0)) && ((x5.1.Point.length : Int) == 0))))] ?_ ?_
          · rcases bool_or (((x24 && (x4.2 == 0)) && (x4.1 == 1)) && (x5.2 == 0)) with g31 | g32
            · refine us (gy rfl rfl g31) (faI fT52_0 rfl rfl) ?_
              refine us (gy rfl rfl g31) (ldI sT48 rfl rfl) ?_
              refine us (gy rfl rfl g31) (lnD lT48 rfl rfl) ?_
              refine us (gy rfl rfl g31) (eql rfl rfl) ?_
              refine ts (pt rfl g31 rfl) ?_
              exact rn (trD 5 rfl (.c (bq (and_t g31)) .n) (by kernel_rfl))
            · refine un (gn rfl rfl g32) ?_
              refine un (gn rfl rfl g32) ?_
              refine un (gn rfl rfl g32) ?_
              refine un (gn rfl rfl g32) ?_
              refine ts (pf rfl g32 rfl) ?_
              exact rn (trD 5 rfl (.c (bq (and_f g32)) .n) (by kernel_rfl))
          refine ts (mv rfl) ?_
          refine sg 5 [(115, .d (.bool (((((x24 && (x4.2 == 0)) && (x4.1 == 1)) && (x5.2 == 0)) && ((x5.1.Point.length : Int) == 0)) && (decide ((x5.1.Proof.length : Int) > 0)))))] ?_ ?_
          · rcases bool_or ((((x24 && (x4.2 == 0)) && (x4.1 == 1)) && (x5.2 == 0)) && ((x5.1.Point.length : Int) == 0)) with g33 | g34
            · refine us (gy rfl rfl g33) (faI fT52_1 rfl rfl) ?_
              refine us (gy rfl rfl g33) (ldI sT50 rfl rfl) ?_
              refine us (gy rfl rfl g33) (lnD lT50 rfl rfl) ?_
              refine us (gy rfl rfl g33) (gtr rfl rfl) ?_
              refine ts (pt rfl g33 rfl) ?_
              exact rn (trD 5 rfl (.c (bq (and_t g33)) .n) (by kernel_rfl))
            · refine un (gn rfl rfl g34) ?_
              refine un (gn rfl rfl g34) ?_
              refine un (gn rfl rfl g34) ?_
              refine un (gn rfl rfl g34) ?_
              refine ts (pf rfl g34 rfl) ?_
              exact rn (trD 5 rfl (.c (bq (and_f g34)) .n) (by kernel_rfl))
          refine ts (as_ rfl) ?_
          refine rn ?_
          refine CWp.ret ?_
          obtain rfl := some_inj h
          exact ⟨trivial, rt1 (ex := false) (by exact (.t rfl .n)) (by exact (gd (by rfl))) (by rfl) (by rfl)⟩
        · cases h
      · cases h
    · cases h
  · cases h
theorem law27_shortForm_ok {p0 : api_Affine} {out : Out} {r : Bool} (h : law27_shortForm p0 = r) : FunOk PP 64 [.d (api_Affine.d p0)] out ⟨.d (.bool r), []⟩ := by
  unfold law27_shortForm at h
  refine fi Tryz.func64 rfl (by kernel_rfl) (by kernel_rfl) (by kernel_rfl) ?_
  refine sr ?_
  refine ts (bxI rfl) ?_
  refine ts (ac rfl rfl) ?_
  refine rn ?_
  refine sr ?_
  refine ts (faI fT123_0 rfl rfl) ?_
  refine ts (ldI sT48 rfl rfl) ?_
  refine ts (lnD lT48 rfl rfl) ?_
  refine ts (leq rfl rfl) ?_
  refine ts (as_ rfl) ?_
  refine rn ?_
  refine CWp.ret ?_
  obtain rfl := h
  exact ⟨trivial, rt1 (ex := false) (by exact (.t rfl .n)) (by exact (gd (by rfl))) (by rfl) (by rfl)⟩
theorem law27_few_ok {p0 : (List api_Loop)} {p1 : (List api_Access)} {out : Out} {r : Bool} (h : law27_few p0 p1 = some r) : FunOk PP 12 [.d (.sl (p0.map api_Loop.d)), .d (.sl (p1.map api_Access.d))] out ⟨.d (.bool r), []⟩ := by
  unfold law27_few at h
  refine fi Tryz.func12 rfl (by kernel_rfl) (by kernel_rfl) (by kernel_rfl) ?_
  refine sr ?_
  refine ts (ac rfl rfl) ?_
  refine rn ?_
  refine CWp.seq ?_
  refine sr ?_
  refine ts (mv rfl) ?_
  refine ts (lnD lT23 rfl rfl) ?_
  refine ts (gtr rfl rfl) ?_
  refine ts (mv rfl) ?_
  refine sg 4 [(15, .d (.bool ((decide ((p0.length : Int) > 5)) || (decide ((p1.length : Int) > 10)))))] ?_ ?_
  · rcases bool_or (decide ((p0.length : Int) > 5)) with g1 | g2
    · refine un (gn rfl rfl g1) ?_
      refine un (gn rfl rfl g1) ?_
      refine un (gn rfl rfl g1) ?_
      refine ts (pt rfl g1 rfl) ?_
      exact rn (trD 4 rfl (.c (bq (or_t g1)) .n) (by kernel_rfl))
    · refine us (gy rfl rfl g2) (mv rfl) ?_
      refine us (gy rfl rfl g2) (lnD lT24 rfl rfl) ?_
      refine us (gy rfl rfl g2) (gtr rfl rfl) ?_
      refine ts (pf rfl g2 rfl) ?_
      exact rn (trD 4 rfl (.c (bq (or_f g2)) .n) (by kernel_rfl))
  refine rn ?_
  rcases ite h with ⟨c3, h⟩ | ⟨c3, h⟩
  · refine ct rfl c3 ?_
    refine sr ?_
    refine ts (ac rfl rfl) ?_
    refine rn ?_
    refine CWp.ret ?_
    obtain rfl := some_inj h
    exact ⟨trivial, rt1 (ex := false) (by exact (.t rfl .n)) (by exact (gd (by rfl))) (by rfl) (by rfl)⟩
  · refine cf rfl (vf c3) ?_
    refine CWp.skip ?_
    refine CWp.seq ?_
    refine sr ?_
    refine ts (ac rfl rfl) ?_
    refine rn ?_
    obtain ⟨z10, hz10, h⟩ := bnd h
    refine lbr (E := fun s4 => [(0, .d (.sl (p0.map api_Loop.d))), (1, .d (.sl (p1.map api_Access.d))), (5, .d (.int .i64 s4))]) (M := fun s4 => ⟨[], out, []⟩) (E' := fun y => [(1, .d (.sl (p1.map api_Access.d)))]) (M' := fun y => ⟨[], out, []⟩) (RT := fun r e s => Lx.Returns PP Tryz.f12.results.toList e s ⟨.d (.bool r), []⟩) hz10 (by (try simp only [List.length_set, copied_len]); exact trk (by kernel_rfl) (by kernel_rfl) (by kernel_rfl)) ?_ ?_
    · intro s4 ww h
      unfold law27_few.s1 at h
      refine CWp.seq ?_
      refine sr ?_
      refine ts (mv rfl) ?_
      refine ts (mv rfl) ?_
      refine ts (lnD lT23 rfl rfl) ?_
      refine ts (lss rfl rfl) ?_
      refine rn ?_
      rcases ite h with ⟨c5, h⟩ | ⟨c5, h⟩
      · refine ct rfl (bt c5) ?_
        refine CWp.skip ?_
        refine CWp.seq ?_
        refine CWp.block ?_
        refine sr ?_
        refine ts (mv rfl) ?_
        refine ts (mv rfl) ?_
        obtain ⟨x6, hx6, h⟩ := bnd h
        refine ts (ixD lT23 api_Loop.sz rfl rfl hx6) ?_
        refine ts (faI fT125_0 rfl rfl) ?_
        refine ts (ldIA (y := api_Affine.d (api_Affine.mk x6.Low.Coefs x6.Low.Const)) aT123 rfl (by kernel_rfl)) ?_
        refine ts (cln (f := fun _ => false) kf rfl (.c rfl le1 .n) (curOf_nil _) (law27_shortForm_ok (rfl : law27_shortForm (api_Affine.mk x6.Low.Coefs x6.Low.Const) = _)) rfl) ?_
        refine ts (not_ rfl) ?_
        refine ts (mv rfl) ?_
        rcases ite h with ⟨c7, h⟩ | ⟨c7, h⟩
        · refine un (gn rfl rfl (not_t (vf c7))) ?_
          refine un (gn rfl rfl (not_t (vf c7))) ?_
          refine un (gn rfl rfl (not_t (vf c7))) ?_
          refine un (gn rfl rfl (not_t (vf c7))) ?_
          refine un (gn rfl rfl (not_t (vf c7))) ?_
          refine un (gn rfl rfl (not_t (vf c7))) ?_
          refine un (gn rfl rfl (not_t (vf c7))) ?_
          refine ts (pt rfl (not_t (vf c7)) rfl) ?_
          refine rn ?_
          refine ct rfl rfl ?_
          refine sr ?_
          refine ts (ac rfl rfl) ?_
          refine rn ?_
          refine CWp.ret ?_
          obtain rfl := some_inj h
          exact ⟨rfl, rt1 (ex := false) (by exact (.t rfl .n)) (by exact (gd (by rfl))) (by rfl) (by rfl)⟩
        · refine us (gy rfl rfl (not_f (Classical.not_not.1 c7))) (mv rfl) ?_
          refine us (gy rfl rfl (not_f (Classical.not_not.1 c7))) (mv rfl) ?_
          obtain ⟨x8, hx8, h⟩ := bnd h
          refine us (gy rfl rfl (not_f (Classical.not_not.1 c7))) (ixD lT23 api_Loop.sz rfl rfl hx8) ?_
          refine us (gy rfl rfl (not_f (Classical.not_not.1 c7))) (faI fT125_1 rfl rfl) ?_
          refine us (gy rfl rfl (not_f (Classical.not_not.1 c7))) (ldIA (y := api_Affine.d (api_Affine.mk x8.High.Coefs x8.High.Const)) aT123 rfl (by kernel_rfl)) ?_
          refine us (gy rfl rfl (not_f (Classical.not_not.1 c7))) (cln (f := fun _ => false) kf rfl (.c rfl le1 .n) (curOf_nil _) (law27_shortForm_ok (rfl : law27_shortForm (api_Affine.mk x8.High.Coefs x8.High.Const) = _)) rfl) ?_
          refine us (gy rfl rfl (not_f (Classical.not_not.1 c7))) (not_ rfl) ?_
          refine ts (pf rfl (not_f (Classical.not_not.1 c7)) rfl) ?_
          refine rn ?_
          rcases ite h with ⟨c9, h⟩ | ⟨c9, h⟩
          · refine ct rfl (not_t (vf c9)) ?_
            refine sr ?_
            refine ts (ac rfl rfl) ?_
            refine rn ?_
            refine CWp.ret ?_
            obtain rfl := some_inj h
            exact ⟨rfl, rt1 (ex := false) (by exact (.t rfl .n)) (by exact (gd (by rfl))) (by rfl) (by rfl)⟩
          · refine cf rfl (not_f (Classical.not_not.1 c9)) ?_
            refine CWp.skip ?_
            refine lr ?_
            refine ts (mv rfl) ?_
            refine ts (add rfl rfl) ?_
            refine ts (as_ rfl) ?_
            refine rn ?_
            obtain rfl := some_inj h
            exact ⟨rfl, (by (try simp only [List.length_set, copied_len]); exact trk (by kernel_rfl) (by kernel_rfl) (by kernel_rfl))⟩
      · refine cf rfl (bf c5) ?_
        refine CWp.exit ?_
        obtain rfl := some_inj h
        exact ⟨rfl, (by (try simp only [List.length_set, copied_len]); exact trk (by kernel_rfl) (by kernel_rfl) (by kernel_rfl))⟩
    · cases z10 with
      | inl v11 =>
        intro e s ht
        refine CWp.trim ht ?_
        refine CWp.seq ?_
        refine sr ?_
        refine ts (ac rfl rfl) ?_
        refine rn ?_
        obtain ⟨z25, hz25, h⟩ := bnd h
        refine lbr (E := fun s12 => [(1, .d (.sl (p1.map api_Access.d))), (6, .d (.int .i64 s12))]) (M := fun s12 => ⟨[], out, []⟩) (E' := fun y => []) (M' := fun y => ⟨[], out, []⟩) (RT := fun r e s => Lx.Returns PP Tryz.f12.results.toList e s ⟨.d (.bool r), []⟩) hz25 (by (try simp only [List.length_set, copied_len]); exact trk (by kernel_rfl) (by kernel_rfl) (by kernel_rfl)) ?_ ?_
        · intro s12 ww h
          unfold law27_few.s2 at h
          refine CWp.seq ?_
          refine sr ?_
          refine ts (mv rfl) ?_
          refine ts (mv rfl) ?_
          refine ts (lnD lT24 rfl rfl) ?_
          refine ts (lss rfl rfl) ?_
          refine rn ?_
          rcases ite h with ⟨c13, h⟩ | ⟨c13, h⟩
          · refine ct rfl (bt c13) ?_
            refine CWp.skip ?_
            refine CWp.seq ?_
            refine CWp.block ?_
            refine CWp.seq ?_
            refine sr ?_
            refine ts (mv rfl) ?_
            refine ts (mv rfl) ?_
            obtain ⟨x14, hx14, h⟩ := bnd h
            refine ts (ixD lT24 api_Access.sz rfl rfl hx14) ?_
            refine ts (faI fT90_1 rfl rfl) ?_
            refine ts (ldI sT88 rfl rfl) ?_
            refine ts (lnD lT88 rfl rfl) ?_
            refine ts (gtr rfl rfl) ?_
            refine rn ?_
            rcases ite h with ⟨c15, h⟩ | ⟨c15, h⟩
            · refine ct rfl (bt c15) ?_
              refine sr ?_
              refine ts (ac rfl rfl) ?_
              refine rn ?_
              refine CWp.ret ?_
              obtain rfl := some_inj h
              exact ⟨rfl, rt1 (ex := false) (by exact (.t rfl .n)) (by exact (gd (by rfl))) (by rfl) (by rfl)⟩
            · refine cf rfl (bf c15) ?_
              refine CWp.skip ?_
              refine sr ?_
              refine ts (ac rfl rfl) ?_
              refine rn ?_
              obtain ⟨z22, hz22, h⟩ := bnd h
              refine lbr (E := fun s16 => [(1, .d (.sl (p1.map api_Access.d))), (6, .d (.int .i64 s12)), (7, .d (.int .i64 s16))]) (M := fun s16 => ⟨[], out, []⟩) (E' := fun y => [(1, .d (.sl (p1.map api_Access.d))), (6, .d (.int .i64 s12))]) (M' := fun y => ⟨[], out, []⟩) (RT := fun r e s => Lx.Returns PP Tryz.f12.results.toList e s ⟨.d (.bool r), []⟩) hz22 (by (try simp only [List.length_set, copied_len]); exact trk (by kernel_rfl) (by kernel_rfl) (by kernel_rfl)) ?_ ?_
              · intro s16 ww h
                unfold law27_few.s3 at h
                refine CWp.seq ?_
                refine sr ?_
                refine ts (mv rfl) ?_
                refine ts (mv rfl) ?_
                refine ts (mv rfl) ?_
                obtain ⟨x17, hx17, h⟩ := bnd h
                refine ts (ixD lT24 api_Access.sz rfl rfl hx17) ?_
                refine ts (faI fT90_1 rfl rfl) ?_
                refine ts (ldI sT88 rfl rfl) ?_
                refine ts (lnD lT88 rfl rfl) ?_
                refine ts (lss rfl rfl) ?_
                refine rn ?_
                rcases ite h with ⟨c18, h⟩ | ⟨c18, h⟩
                · refine ct rfl (bt c18) ?_
                  refine CWp.skip ?_
                  refine CWp.seq ?_
                  refine CWp.block ?_
                  refine sr ?_
                  refine ts (mv rfl) ?_
                  refine ts (mv rfl) ?_
                  obtain ⟨x19, hx19, h⟩ := bnd h
                  refine ts (ixD lT24 api_Access.sz rfl rfl hx19) ?_
                  refine ts (faI fT90_1 rfl rfl) ?_
                  refine ts (ldI sT88 rfl rfl) ?_
                  refine ts (mv rfl) ?_
                  obtain ⟨x20, hx20, h⟩ := bnd h
                  refine ts (ixD lT88 api_Affine.sz rfl rfl hx20) ?_
                  refine ts (ldIW aT123 rfl rfl rfl) ?_
                  refine ts (cln (f := fun _ => false) kf rfl (.c rfl le1 .n) (curOf_nil _) (law27_shortForm_ok (rfl : law27_shortForm x20 = _)) rfl) ?_
                  refine ts (not_ rfl) ?_
                  refine rn ?_
                  rcases ite h with ⟨c21, h⟩ | ⟨c21, h⟩
                  · refine ct rfl (not_t (vf c21)) ?_
                    refine sr ?_
                    refine ts (ac rfl rfl) ?_
                    refine rn ?_
                    refine CWp.ret ?_
                    obtain rfl := some_inj h
                    exact ⟨rfl, rt1 (ex := false) (by exact (.t rfl .n)) (by exact (gd (by rfl))) (by rfl) (by rfl)⟩
                  · refine cf rfl (not_f (Classical.not_not.1 c21)) ?_
                    refine CWp.skip ?_
                    refine lr ?_
                    refine ts (mv rfl) ?_
                    refine ts (add rfl rfl) ?_
                    refine ts (as_ rfl) ?_
                    refine rn ?_
                    obtain rfl := some_inj h
                    exact ⟨rfl, (by (try simp only [List.length_set, copied_len]); exact trk (by kernel_rfl) (by kernel_rfl) (by kernel_rfl))⟩
                · refine cf rfl (bf c18) ?_
                  refine CWp.exit ?_
                  obtain rfl := some_inj h
                  exact ⟨rfl, (by (try simp only [List.length_set, copied_len]); exact trk (by kernel_rfl) (by kernel_rfl) (by kernel_rfl))⟩
              · cases z22 with
                | inl v23 =>
                  intro e s ht
                  refine CWp.trim ht ?_
                  refine lr ?_
                  refine ts (mv rfl) ?_
                  refine ts (add rfl rfl) ?_
                  refine ts (as_ rfl) ?_
                  refine rn ?_
                  obtain rfl := some_inj h
                  exact ⟨rfl, (by (try simp only [List.length_set, copied_len]); exact trk (by kernel_rfl) (by kernel_rfl) (by kernel_rfl))⟩
                | inr r24 =>
                  intro e s hr
                  obtain rfl := some_inj h
                  exact ⟨rfl, hr⟩
          · refine cf rfl (bf c13) ?_
            refine CWp.exit ?_
            obtain rfl := some_inj h
            exact ⟨rfl, (by (try simp only [List.length_set, copied_len]); exact trk (by kernel_rfl) (by kernel_rfl) (by kernel_rfl))⟩
        · cases z25 with
          | inl v26 =>
            intro e s ht
            refine CWp.trim ht ?_
            refine sr ?_
            refine ts (ac rfl rfl) ?_
            refine rn ?_
            refine CWp.ret ?_
            obtain rfl := some_inj h
            exact ⟨trivial, rt1 (ex := false) (by exact (.t rfl .n)) (by exact (gd (by rfl))) (by rfl) (by rfl)⟩
          | inr r27 =>
            intro e s hr
            obtain rfl := some_inj h
            exact ⟨trivial, hr⟩
      | inr r28 =>
        intro e s hr
        obtain rfl := some_inj h
        exact ⟨trivial, hr⟩
theorem base_CopyInts_ok {p0 : (List Int)} {out : Out} {r : (List Int)} (h : base_CopyInts p0 = some r) : FunOk PP 42 [.d (.sl (p0.map dI))] out ⟨.own 1 (r.map dI), []⟩ := by
  unfold base_CopyInts at h
  refine fi Tryz.func42 rfl (by kernel_rfl) (by kernel_rfl) (by kernel_rfl) ?_
  refine sr ?_
  refine ta (an (n := 0) lT48 rfl) ?_
  refine rn ?_
  refine sr ?_
  refine ts (mv rfl) ?_
  refine ts (lnD lT48 rfl rfl) ?_
  obtain ⟨x1, hx1, h⟩ := bnd h
  refine ta (ms_ (f := dI) (a := 0) (nn := 0) lT48 rfl rfl hx1 rfl) ?_
  refine ts (as_ rfl) ?_
  refine rn ?_
  refine sr ?_
  refine ts (mv rfl) ?_
  refine ts (mv rfl) ?_
  refine tt (cpG (ys := p0) (f := dI) lT48 szI rfl rfl rfl elD (ow rfl) (so .h)) ?_
  refine rn ?_
  refine sr ?_
  refine ts (mv rfl) ?_
  refine ts (as_ rfl) ?_
  refine rn ?_
  refine CWp.ret ?_
  obtain rfl := some_inj h
  exact ⟨trivial, rt1 (ex := true) (by exact (.t rfl .n)) (by exact (go (by first | rfl | simp only [List.length_set, copied_len]) rfl)) (by rfl) (by rfl)⟩
theorem law27_CopyForm_ok {p0 : api_Affine} {out : Out} {r : api_Affine} (h : law27_CopyForm p0 = some r) : FunOk PP 75 [.d (api_Affine.d p0)] out ⟨.d (api_Affine.d r), []⟩ := by
  unfold law27_CopyForm at h
  refine fi Tryz.func75 rfl (by kernel_rfl) (by kernel_rfl) (by kernel_rfl) ?_
  refine sr ?_
  refine ts (bxI rfl) ?_
  refine ta (al (n := 0) zT123 rfl) ?_
  refine rn ?_
  refine sd mixed (b := [0, 1, 3, 0, 8, 31, 63]) (by kernel_rfl) ?_
  refine ds (faI fT123_0 rfl rfl) rfl ?_
  refine ds (ldI sT48 rfl rfl) rfl ?_
  obtain ⟨x1, hx1, h⟩ := bnd h
  refine dr (czn (f := fun _ => false) (v' := .d (.sl (x1.map dI))) kf rfl (.c rfl le1 .n) (curOf_nil _) (base_CopyInts_ok hx1) rfl rfl) rfl ?_
  refine ds (faI fT123_1 rfl rfl) rfl ?_
  refine ds (ldI sT3 rfl rfl) rfl ?_
  refine ds (bld (v := .d (api_Affine.d (api_Affine.mk x1 p0.Const))) rfl (by kernel_rfl)) rfl ?_
  refine dt0 (stW aT123 rfl rfl rfl rfl rfl rfl .h) rfl ?_
  refine dn (by kernel_rfl) ?_
  refine CWp.ret ?_
  obtain rfl := some_inj h
  exact ⟨trivial, rt1 (ex := false) (by exact (rcW aT123 rfl (ow rfl) rfl rfl .n)) (by exact (gd (by rfl))) (by rfl) (by rfl)⟩
theorem law27_CopyNest_ok {p0 : (List api_Loop)} {out : Out} {r : (List api_Loop)} (h : law27_CopyNest p0 = some r) : FunOk PP 14 [.d (.sl (p0.map api_Loop.d))] out ⟨.d (.sl (r.map api_Loop.d)), []⟩ := by
  unfold law27_CopyNest at h
  refine fi Tryz.func14 rfl (by kernel_rfl) (by kernel_rfl) (by kernel_rfl) ?_
  refine sr ?_
  refine ts (ak.wk (x' := .sl (([] : List api_Loop).map api_Loop.d)) rfl) ?_
  refine rn ?_
  refine sr ?_
  refine ta (an (n := 0) lT23 rfl) ?_
  refine rn ?_
  refine CWp.seq ?_
  refine sr ?_
  refine ts (ac rfl rfl) ?_
  refine rn ?_
  obtain ⟨z8, hz8, h⟩ := bnd h
  refine lb (E := fun s1 => [(0, .d (.sl (p0.map api_Loop.d))), (3, .ref ⟨out.length, 3, 0⟩ 0 s1.2.length s1.2.length), (4, .d (.int .i64 s1.1))]) (M := fun s1 => ⟨[((3, 0), .arr 4 false (s1.2.map api_Loop.d))], out, []⟩) (E' := fun y => [(3, .ref ⟨out.length, 3, 0⟩ 0 y.length y.length)]) (M' := fun y => ⟨[((3, 0), .arr 4 false (y.map api_Loop.d))], out, []⟩) hz8 (by (try simp only [List.length_set, copied_len]); exact trk (by kernel_rfl) (by kernel_rfl) (by kernel_rfl)) ?_ ?_
  · intro s1 ww h
    unfold law27_CopyNest.s1 at h
    refine CWp.seq ?_
    refine sr ?_
    refine ts (mv rfl) ?_
    refine ts (mv rfl) ?_
    refine ts (lnD lT23 rfl rfl) ?_
    refine ts (lss rfl rfl) ?_
    refine rn ?_
    rcases ite h with ⟨c2, h⟩ | ⟨c2, h⟩
    · refine ct rfl (bt c2) ?_
      refine CWp.skip ?_
      refine CWp.seq ?_
      refine CWp.block ?_
      refine ld_ mixed (b := [0, 0, 0, 6, 14, 30, 62, 0, 0, 384, 896, 1920, 4094, 8190, 16382, 32767, 65535]) (by kernel_rfl) ?_
      refine ds (mv rfl) rfl ?_
      refine ds (mv rfl) rfl ?_
      refine ds (mv rfl) rfl ?_
      obtain ⟨x3, hx3, h⟩ := bnd h
      refine ds (ixD lT23 api_Loop.sz rfl rfl hx3) rfl ?_
      refine ds (faI fT125_0 rfl rfl) rfl ?_
      refine ds (ldIA (y := api_Affine.d (api_Affine.mk x3.Low.Coefs x3.Low.Const)) aT123 rfl (by kernel_rfl)) rfl ?_
      obtain ⟨x4, hx4, h⟩ := bnd h
      refine dr (cln (f := fun _ => false) kf rfl (.c rfl le1 .n) (curOf_nil _) (law27_CopyForm_ok hx4) rfl) rfl ?_
      refine ds (mv rfl) rfl ?_
      refine ds (mv rfl) rfl ?_
      obtain ⟨x5, hx5, h⟩ := bnd h
      refine ds (ixD lT23 api_Loop.sz rfl rfl hx5) rfl ?_
      refine ds (faI fT125_1 rfl rfl) rfl ?_
      refine ds (ldIA (y := api_Affine.d (api_Affine.mk x5.High.Coefs x5.High.Const)) aT123 rfl (by kernel_rfl)) rfl ?_
      obtain ⟨x6, hx6, h⟩ := bnd h
      refine dr (cln (f := fun _ => false) kf rfl (.c rfl le1 .n) (curOf_nil _) (law27_CopyForm_ok hx6) rfl) rfl ?_
      refine ds (bld (v := .d (api_Loop.d (api_Loop.mk x4 x6))) rfl (by kernel_rfl)) rfl ?_
      refine ds (bsT (l := (([(api_Loop.mk x4 x6)] : List api_Loop).map api_Loop.d)) lT23 rfl rfl rfl (by kernel_rfl)) rfl ?_
      obtain ⟨x7, hx7, h⟩ := bnd h
      refine dt (apGn (ys := ([(api_Loop.mk x4 x6)] : List api_Loop)) (xs := s1.2) (f := api_Loop.d) lT23 uT23 api_Loop.sz rfl rfl rfl elT (ow rfl) hx7 (so .h) rfl) rfl ?_
      refine ds (as_ rfl) rfl ?_
      refine dn (by kernel_rfl) ?_
      refine lr ?_
      refine ts (mv rfl) ?_
      refine ts (add rfl rfl) ?_
      refine ts (as_ rfl) ?_
      refine rn ?_
      obtain rfl := some_inj h
      exact ⟨rfl, (by (try simp only [List.length_set, copied_len]); exact trk (by kernel_rfl) (by kernel_rfl) (by kernel_rfl))⟩
    · refine cf rfl (bf c2) ?_
      refine CWp.exit ?_
      obtain rfl := some_inj h
      exact ⟨rfl, (by (try simp only [List.length_set, copied_len]); exact trk (by kernel_rfl) (by kernel_rfl) (by kernel_rfl))⟩
  · intro e s ht
    refine CWp.trim ht ?_
    refine sr ?_
    refine ts (mv rfl) ?_
    refine ts (as_ rfl) ?_
    refine rn ?_
    refine CWp.ret ?_
    obtain rfl := some_inj h
    exact ⟨trivial, rt1 (ex := false) (by exact (.t rfl .n)) (by exact (gf rfl rfl)) (by rfl) (by rfl)⟩
theorem depend_HullsOf_ok {p0 : (List api_Loop)} {out : Out} {r : (List api_Hull) × Int} (h : depend_HullsOf p0 = some r) : FunOk PP 33 [.d (.sl (p0.map api_Loop.d))] out ⟨.tup [.d (.sl (r.1.map api_Hull.d)), .d (.int .i64 r.2)], []⟩ := by
  unfold depend_HullsOf at h
  refine fi Tryz.func33 rfl (by kernel_rfl) (by kernel_rfl) (by kernel_rfl) ?_
  refine sr ?_
  refine ts (ak.wk (x' := .sl (([] : List api_Hull).map api_Hull.d)) rfl) ?_
  refine ts (ac rfl rfl) ?_
  refine rn ?_
  refine CWp.seq ?_
  refine sr ?_
  refine ts (mv rfl) ?_
  obtain ⟨x1, hx1, h⟩ := bnd h
  refine ts (cln (f := fun _ => false) kf rfl (.c rfl le1 .n) (curOf_nil _) (depend_nestErr_ok hx1) rfl) ?_
  refine ts (as_ rfl) ?_
  refine rn ?_
  refine sr ?_
  refine ts (mv rfl) ?_
  refine ts (neq rfl rfl) ?_
  refine rn ?_
  rcases ite h with ⟨c2, h⟩ | ⟨c2, h⟩
  · refine ct rfl (nt c2) ?_
    refine sr ?_
    refine ts (mv rfl) ?_
    refine ts (ak.wk (x' := .sl (([] : List api_Hull).map api_Hull.d)) rfl) ?_
    refine ts (as_ rfl) ?_
    refine rn ?_
    refine CWp.ret ?_
    obtain rfl := some_inj h
    exact ⟨trivial, rt2 (ex := false) (by exact (.t rfl (.t rfl .n))) (by exact (sc (gd (by rfl)) (sc (gd (by rfl)) sn))) (by rfl) (by rfl)⟩
  · refine cf rfl (nf c2) ?_
    refine CWp.skip ?_
    refine sr ?_
    refine ts (mv rfl) ?_
    obtain ⟨x3, hx3, h⟩ := bnd h
    refine ts (cln (f := fun _ => false) kf rfl (.c rfl le1 .n) (curOf_nil _) (depend_hulls_ok hx3) rfl) ?_
    refine ts (as_ rfl) ?_
    refine ts (ac rfl rfl) ?_
    refine rn ?_
    refine CWp.ret ?_
    obtain rfl := some_inj h
    exact ⟨trivial, rt2 (ex := false) (by exact (.t rfl (.t rfl .n))) (by exact (sc (gd (by rfl)) (sc (gd (by rfl)) sn))) (by rfl) (by rfl)⟩
theorem base_Within_ok {p0 : Int} {p1 : Int} {p2 : Int} {out : Out} {r : Bool} (h : base_Within p0 p1 p2 = r) : FunOk PP 54 [.d (.int .i64 p0), .d (.int .i64 p1), .d (.int .i64 p2)] out ⟨.d (.bool r), []⟩ := by
  unfold base_Within at h
  refine fi Tryz.func54 rfl (by kernel_rfl) (by kernel_rfl) (by kernel_rfl) ?_
  refine sr ?_
  refine ts (ac rfl rfl) ?_
  refine rn ?_
  refine sr ?_
  refine ts (mv rfl) ?_
  refine ts (mv rfl) ?_
  refine ts (lss rfl rfl) ?_
  refine ts (mv rfl) ?_
  refine sg 4 [(14, .d (.bool ((decide (p0 < p1)) || (decide (p0 > p2)))))] ?_ ?_
  · rcases bool_or (decide (p0 < p1)) with g1 | g2
    · refine un (gn rfl rfl g1) ?_
      refine un (gn rfl rfl g1) ?_
      refine un (gn rfl rfl g1) ?_
      refine ts (pt rfl g1 rfl) ?_
      exact rn (trD 4 rfl (.c (bq (or_t g1)) .n) (by kernel_rfl))
    · refine us (gy rfl rfl g2) (mv rfl) ?_
      refine us (gy rfl rfl g2) (mv rfl) ?_
      refine us (gy rfl rfl g2) (gtr rfl rfl) ?_
      refine ts (pf rfl g2 rfl) ?_
      exact rn (trD 4 rfl (.c (bq (or_f g2)) .n) (by kernel_rfl))
  refine ts (not_ rfl) ?_
  refine ts (as_ rfl) ?_
  refine rn ?_
  refine CWp.ret ?_
  obtain rfl := h
  exact ⟨trivial, rt1 (ex := false) (by exact (.t rfl .n)) (by exact (gd (by rfl))) (by rfl) (by rfl)⟩
theorem ref27_AffineErr_ok {p0 : api_Affine} {p1 : Int} {out : Out} {r : Int} (h : ref27_AffineErr p0 p1 = some r) : FunOk PP 107 [.d (api_Affine.d p0), .d (.int .i64 p1)] out ⟨.d (.int .i64 r), []⟩ := by
  unfold ref27_AffineErr at h
  refine fi Tryz.func107 rfl (by kernel_rfl) (by kernel_rfl) (by kernel_rfl) ?_
  refine sr ?_
  refine ts (bxI rfl) ?_
  refine ts (ac rfl rfl) ?_
  refine rn ?_
  refine CWp.seq ?_
  refine sr ?_
  refine ts (faI fT123_0 rfl rfl) ?_
  refine ts (ldI sT48 rfl rfl) ?_
  refine ts (lnD lT48 rfl rfl) ?_
  refine ts (mv rfl) ?_
  refine ts (neq rfl rfl) ?_
  refine rn ?_
  rcases ite h with ⟨c1, h⟩ | ⟨c1, h⟩
  · refine ct rfl (nt c1) ?_
    refine sr ?_
    refine ts (ac rfl rfl) ?_
    refine rn ?_
    refine CWp.ret ?_
    obtain rfl := some_inj h
    exact ⟨trivial, rt1 (ex := false) (by exact (.t rfl .n)) (by exact (gd (by rfl))) (by rfl) (by rfl)⟩
  · refine cf rfl (nf c1) ?_
    refine CWp.skip ?_
    refine CWp.seq ?_
    refine sr ?_
    refine ts (ac rfl rfl) ?_
    refine rn ?_
    obtain ⟨z6, hz6, h⟩ := bnd h
    refine lbr (E := fun s2 => [(1, .d (.int .i64 p1)), (2, .pimm (api_Affine.d p0) 0), (5, .d (.int .i64 s2))]) (M := fun s2 => ⟨[], out, []⟩) (E' := fun y => [(2, .pimm (api_Affine.d p0) 0)]) (M' := fun y => ⟨[], out, []⟩) (RT := fun r e s => Lx.Returns PP Tryz.f107.results.toList e s ⟨.d (.int .i64 r), []⟩) hz6 (by (try simp only [List.length_set, copied_len]); exact trk (by kernel_rfl) (by kernel_rfl) (by kernel_rfl)) ?_ ?_
    · intro s2 ww h
      unfold ref27_AffineErr.s1 at h
      refine CWp.seq ?_
      refine sr ?_
      refine ts (mv rfl) ?_
      refine ts (mv rfl) ?_
      refine ts (lss rfl rfl) ?_
      refine rn ?_
      rcases ite h with ⟨c3, h⟩ | ⟨c3, h⟩
      · refine ct rfl (bt c3) ?_
        refine CWp.skip ?_
        refine CWp.seq ?_
        refine CWp.block ?_
        refine sr ?_
        refine ts (faI fT123_0 rfl rfl) ?_
        refine ts (ldI sT48 rfl rfl) ?_
        refine ts (mv rfl) ?_
        obtain ⟨x4, hx4, h⟩ := bnd h
        refine ts (ixD lT48 szI rfl rfl hx4) ?_
        refine ts (ldI sT3 rfl rfl) ?_
        refine ts (cln (f := fun _ => false) kf rfl (.c rfl le1 (.c rfl le1 (.c rfl le1 .n))) (curOf_nil _) (base_Within_ok (rfl : base_Within x4 (-8) 8 = _)) rfl) ?_
        refine ts (not_ rfl) ?_
        refine rn ?_
        rcases ite h with ⟨c5, h⟩ | ⟨c5, h⟩
        · refine ct rfl (not_t (vf c5)) ?_
          refine sr ?_
          refine ts (ac rfl rfl) ?_
          refine rn ?_
          refine CWp.ret ?_
          obtain rfl := some_inj h
          exact ⟨rfl, rt1 (ex := false) (by exact (.t rfl .n)) (by exact (gd (by rfl))) (by rfl) (by rfl)⟩
        · refine cf rfl (not_f (Classical.not_not.1 c5)) ?_
          refine CWp.skip ?_
          refine lr ?_
          refine ts (mv rfl) ?_
          refine ts (add rfl rfl) ?_
          refine ts (as_ rfl) ?_
          refine rn ?_
          obtain rfl := some_inj h
          exact ⟨rfl, (by (try simp only [List.length_set, copied_len]); exact trk (by kernel_rfl) (by kernel_rfl) (by kernel_rfl))⟩
      · refine cf rfl (bf c3) ?_
        refine CWp.exit ?_
        obtain rfl := some_inj h
        exact ⟨rfl, (by (try simp only [List.length_set, copied_len]); exact trk (by kernel_rfl) (by kernel_rfl) (by kernel_rfl))⟩
    · cases z6 with
      | inl v7 =>
        intro e s ht
        refine CWp.trim ht ?_
        refine CWp.seq ?_
        refine sr ?_
        refine ts (faI fT123_1 rfl rfl) ?_
        refine ts (ldI sT3 rfl rfl) ?_
        refine ts (cln (f := fun _ => false) kf rfl (.c rfl le1 (.c rfl le1 (.c rfl le1 .n))) (curOf_nil _) (base_Within_ok (rfl : base_Within p0.Const (-64) 64 = _)) rfl) ?_
        refine ts (not_ rfl) ?_
        refine rn ?_
        rcases ite h with ⟨c8, h⟩ | ⟨c8, h⟩
        · refine ct rfl (not_t (vf c8)) ?_
          refine sr ?_
          refine ts (ac rfl rfl) ?_
          refine rn ?_
          refine CWp.ret ?_
          obtain rfl := some_inj h
          exact ⟨trivial, rt1 (ex := false) (by exact (.t rfl .n)) (by exact (gd (by rfl))) (by rfl) (by rfl)⟩
        · refine cf rfl (not_f (Classical.not_not.1 c8)) ?_
          refine CWp.skip ?_
          refine sr ?_
          refine ts (ac rfl rfl) ?_
          refine rn ?_
          refine CWp.ret ?_
          obtain rfl := some_inj h
          exact ⟨trivial, rt1 (ex := false) (by exact (.t rfl .n)) (by exact (gd (by rfl))) (by rfl) (by rfl)⟩
      | inr r9 =>
        intro e s hr
        obtain rfl := some_inj h
        exact ⟨trivial, hr⟩
theorem ref27_between_ok {p0 : api_Affine} {p1 : (List api_Hull)} {out : Out} {r : api_Hull} (h : ref27_between p0 p1 = some r) : FunOk PP 108 [.d (api_Affine.d p0), .d (.sl (p1.map api_Hull.d))] out ⟨.d (api_Hull.d r), []⟩ := by
  unfold ref27_between at h
  refine fi Tryz.func108 rfl (by kernel_rfl) (by kernel_rfl) (by kernel_rfl) ?_
  refine sr ?_
  refine ts (bxI rfl) ?_
  refine ta (al (n := 0) zT98 rfl) ?_
  refine rn ?_
  refine sr ?_
  refine ts (faI fT123_1 rfl rfl) ?_
  refine ts (ldI sT3 rfl rfl) ?_
  refine ts (faI fT123_1 rfl rfl) ?_
  refine ts (ldI sT3 rfl rfl) ?_
  refine ts (bld (v := .d (api_Hull.d (api_Hull.mk p0.Const p0.Const))) rfl (by kernel_rfl)) ?_
  refine ta (al (n := 0) zT98 rfl) ?_
  refine tt0 (stW aT98 rfl rfl rfl rfl rfl rfl .h) ?_
  refine rn ?_
  refine CWp.seq ?_
  refine sr ?_
  refine ts (ac rfl rfl) ?_
  refine rn ?_
  obtain ⟨z7, hz7, h⟩ := bnd h
  refine lb (E := fun s1 => [(1, .d (.sl (p1.map api_Hull.d))), (2, .pimm (api_Affine.d p0) 0), (4, .bptr ⟨out.length, 4, 0⟩ 0), (5, .bptr ⟨out.length, 5, 0⟩ 0), (6, .d (.int .i64 s1.1))]) (M := fun s1 => ⟨[((4, 0), .box [.d (.int .i64 0), .d (.int .i64 0)]), ((5, 0), .box [.d (.int .i64 s1.2.1), .d (.int .i64 s1.2.2)])], out, []⟩) (E' := fun y => [(4, .bptr ⟨out.length, 4, 0⟩ 0), (5, .bptr ⟨out.length, 5, 0⟩ 0)]) (M' := fun y => ⟨[((4, 0), .box [.d (.int .i64 0), .d (.int .i64 0)]), ((5, 0), .box [.d (.int .i64 y.1), .d (.int .i64 y.2)])], out, []⟩) hz7 (by (try simp only [List.length_set, copied_len]); exact trk (by kernel_rfl) (by kernel_rfl) (by kernel_rfl)) ?_ ?_
  · intro s1 ww h
    unfold ref27_between.s1 at h
    refine CWp.seq ?_
    refine sr ?_
    refine ts (mv rfl) ?_
    refine ts (faI fT123_0 rfl rfl) ?_
    refine ts (ldI sT48 rfl rfl) ?_
    refine ts (lnD lT48 rfl rfl) ?_
    refine ts (lss rfl rfl) ?_
    refine rn ?_
    rcases ite h with ⟨c2, h⟩ | ⟨c2, h⟩
    · refine ct rfl (bt c2) ?_
      refine CWp.skip ?_
      refine CWp.seq ?_
      refine CWp.block ?_
      refine sd mixed (b := [0, 1, 0, 7, 15, 0, 0, 96, 224, 480, 1023, 0, 2048, 0, 14336, 30720, 0, 0, 196608, 458752, 983040, 2095104, 2047, 8388607]) (by kernel_rfl) ?_
      refine ds (faI fT123_0 rfl rfl) rfl ?_
      refine ds (ldI sT48 rfl rfl) rfl ?_
      refine ds (mv rfl) rfl ?_
      obtain ⟨x3, hx3, h⟩ := bnd h
      refine ds (ixD lT48 szI rfl rfl hx3) rfl ?_
      refine ds (ldI sT3 rfl rfl) rfl ?_
      refine ds (mv rfl) rfl ?_
      refine ds (mv rfl) rfl ?_
      obtain ⟨x4, hx4, h⟩ := bnd h
      refine ds (ixD lT56 api_Hull.sz rfl rfl hx4) rfl ?_
      refine ds (faI fT98_0 rfl rfl) rfl ?_
      refine ds (ldI sT3 rfl rfl) rfl ?_
      refine ds (mul rfl rfl) rfl ?_
      refine ds (faI fT123_0 rfl rfl) rfl ?_
      refine ds (ldI sT48 rfl rfl) rfl ?_
      refine ds (mv rfl) rfl ?_
      obtain ⟨x5, hx5, h⟩ := bnd h
      refine ds (ixD lT48 szI rfl rfl hx5) rfl ?_
      refine ds (ldI sT3 rfl rfl) rfl ?_
      refine ds (mv rfl) rfl ?_
      refine ds (mv rfl) rfl ?_
      obtain ⟨x6, hx6, h⟩ := bnd h
      refine ds (ixD lT56 api_Hull.sz rfl rfl hx6) rfl ?_
      refine ds (faI fT98_1 rfl rfl) rfl ?_
      refine ds (ldI sT3 rfl rfl) rfl ?_
      refine ds (mul rfl rfl) rfl ?_
      refine ds (as_ rfl) rfl ?_
      refine ds (as_ rfl) rfl ?_
      refine dn (by kernel_rfl) ?_
      refine lr ?_
      refine ts (fa fT98_0 rfl rfl) ?_
      refine ts (ld sT3 rfl (ow rfl) rfl) ?_
      refine ts (mv rfl) ?_
      refine ts (mv rfl) ?_
      refine ts (mn_ rfl) ?_
      refine ts (add rfl rfl) ?_
      refine ts (fa fT98_1 rfl rfl) ?_
      refine ts (ld sT3 rfl (ow rfl) rfl) ?_
      refine ts (mv rfl) ?_
      refine ts (mv rfl) ?_
      refine ts (mx_ rfl) ?_
      refine ts (add rfl rfl) ?_
      refine ts (fa fT98_0 rfl rfl) ?_
      refine tt0 (st sT3 rfl rfl rfl rfl .h (.s rfl .h)) ?_
      refine ts (fa fT98_1 rfl rfl) ?_
      refine tt0 (st sT3 rfl rfl rfl rfl (.s .h) (.s rfl .h)) ?_
      refine rn ?_
      refine lr ?_
      refine ts (mv rfl) ?_
      refine ts (add rfl rfl) ?_
      refine ts (as_ rfl) ?_
      refine rn ?_
      obtain rfl := some_inj h
      exact ⟨rfl, (by (try simp only [List.length_set, copied_len]); exact trk (by kernel_rfl) (by kernel_rfl) (by kernel_rfl))⟩
    · refine cf rfl (bf c2) ?_
      refine CWp.exit ?_
      obtain rfl := some_inj h
      exact ⟨rfl, (by (try simp only [List.length_set, copied_len]); exact trk (by kernel_rfl) (by kernel_rfl) (by kernel_rfl))⟩
  · intro e s ht
    refine CWp.trim ht ?_
    refine sr ?_
    refine ts (ldA (v := .d (api_Hull.d (api_Hull.mk z7.1 z7.2))) aT98 rfl (ow rfl) (by kernel_rfl)) ?_
    refine tt0 (stW aT98 rfl rfl rfl rfl rfl rfl .h) ?_
    refine rn ?_
    refine CWp.ret ?_
    obtain rfl := some_inj h
    exact ⟨trivial, rt1 (ex := false) (by exact (rcW aT98 rfl (ow rfl) rfl rfl .n)) (by exact (gd (by rfl))) (by rfl) (by rfl)⟩
theorem ref27_Hulls_ok {p0 : (List api_Loop)} {out : Out} {r : (List api_Hull)} (h : ref27_Hulls p0 = some r) : FunOk PP 37 [.d (.sl (p0.map api_Loop.d))] out ⟨.d (.sl (r.map api_Hull.d)), []⟩ := by
  unfold ref27_Hulls at h
  refine fi Tryz.func37 rfl (by kernel_rfl) (by kernel_rfl) (by kernel_rfl) ?_
  refine sr ?_
  refine ts (ak.wk (x' := .sl (([] : List api_Hull).map api_Hull.d)) rfl) ?_
  refine rn ?_
  refine sr ?_
  refine ta (an (n := 0) lT56 rfl) ?_
  refine rn ?_
  refine CWp.seq ?_
  refine sr ?_
  refine ts (ac rfl rfl) ?_
  refine rn ?_
  refine CWp.trim (Le.lent (t := 3) (n := 0) rfl .h) ?_
  obtain ⟨z8, hz8, h⟩ := bnd h
  refine lb (E := fun s1 => [(0, .d (.sl (p0.map api_Loop.d))), (3, .ref ⟨out.length, 3, 0⟩ 0 s1.2.length s1.2.length), (4, .d (.int .i64 s1.1))]) (M := fun s1 => ⟨[((3, 0), .arr 2 true (s1.2.map api_Hull.d))], out, []⟩) (E' := fun y => [(3, .ref ⟨out.length, 3, 0⟩ 0 y.length y.length)]) (M' := fun y => ⟨[((3, 0), .arr 2 true (y.map api_Hull.d))], out, []⟩) hz8 (by (try simp only [List.length_set, copied_len]); exact trk (by kernel_rfl) (by kernel_rfl) (by kernel_rfl)) ?_ ?_
  · intro s1 ww h
    unfold ref27_Hulls.s1 at h
    refine CWp.seq ?_
    refine sr ?_
    refine ts (mv rfl) ?_
    refine ts (mv rfl) ?_
    refine ts (lnD lT23 rfl rfl) ?_
    refine ts (lss rfl rfl) ?_
    refine rn ?_
    rcases ite h with ⟨c2, h⟩ | ⟨c2, h⟩
    · refine ct rfl (bt c2) ?_
      refine CWp.skip ?_
      refine CWp.seq ?_
      refine CWp.block ?_
      refine ld_ mixed (b := [0, 0, 0, 6, 14, 30, 0, 126, 254, 0, 0, 1536, 3584, 7680, 0, 32510, 65278, 131070, 262142, 524287, 1048575]) (by kernel_rfl) ?_
      refine ds (mv rfl) rfl ?_
      refine ds (mv rfl) rfl ?_
      refine ds (mv rfl) rfl ?_
      obtain ⟨x3, hx3, h⟩ := bnd h
      refine ds (ixD lT23 api_Loop.sz rfl rfl hx3) rfl ?_
      refine ds (faI fT125_0 rfl rfl) rfl ?_
      refine ds (ldIA (y := api_Affine.d (api_Affine.mk x3.Low.Coefs x3.Low.Const)) aT123 rfl (by kernel_rfl)) rfl ?_
      refine ds (mv rfl) rfl ?_
      obtain ⟨x4, hx4, h⟩ := bnd h
      refine dr (cln (f := fun _ => false) kf rfl (.c rfl le1 (.c rfl (le3 rfl (ow rfl)) .n)) (curOf_nil _) (ref27_between_ok hx4) rfl) rfl ?_
      refine ds (fdD (v := .int .i64 x4.Low) fT98_0 rfl (by kernel_rfl)) rfl ?_
      refine ds (mv rfl) rfl ?_
      refine ds (mv rfl) rfl ?_
      obtain ⟨x5, hx5, h⟩ := bnd h
      refine ds (ixD lT23 api_Loop.sz rfl rfl hx5) rfl ?_
      refine ds (faI fT125_1 rfl rfl) rfl ?_
      refine ds (ldIA (y := api_Affine.d (api_Affine.mk x5.High.Coefs x5.High.Const)) aT123 rfl (by kernel_rfl)) rfl ?_
      refine ds (mv rfl) rfl ?_
      obtain ⟨x6, hx6, h⟩ := bnd h
      refine dr (cln (f := fun _ => false) kf rfl (.c rfl le1 (.c rfl (le3 rfl (ow rfl)) .n)) (curOf_nil _) (ref27_between_ok hx6) rfl) rfl ?_
      refine ds (fdD (v := .int .i64 x6.High) fT98_1 rfl (by kernel_rfl)) rfl ?_
      refine ds (bld (v := .d (api_Hull.d (api_Hull.mk x4.Low x6.High))) rfl (by kernel_rfl)) rfl ?_
      refine ds (bsT (l := (([(api_Hull.mk x4.Low x6.High)] : List api_Hull).map api_Hull.d)) lT56 rfl rfl rfl (by kernel_rfl)) rfl ?_
      obtain ⟨x7, hx7, h⟩ := bnd h
      refine dt (apGn (ys := ([(api_Hull.mk x4.Low x6.High)] : List api_Hull)) (xs := s1.2) (f := api_Hull.d) lT56 uT56 api_Hull.sz rfl rfl rfl elT (ow rfl) hx7 (so .h) rfl) rfl ?_
      refine ds (as_ rfl) rfl ?_
      refine dn (by kernel_rfl) ?_
      refine lr ?_
      refine ts (mv rfl) ?_
      refine ts (add rfl rfl) ?_
      refine ts (as_ rfl) ?_
      refine rn ?_
      obtain rfl := some_inj h
      exact ⟨rfl, (by (try simp only [List.length_set, copied_len]); exact trk (by kernel_rfl) (by kernel_rfl) (by kernel_rfl))⟩
    · refine cf rfl (bf c2) ?_
      refine CWp.exit ?_
      obtain rfl := some_inj h
      exact ⟨rfl, (by (try simp only [List.length_set, copied_len]); exact trk (by kernel_rfl) (by kernel_rfl) (by kernel_rfl))⟩
  · intro e s ht
    refine CWp.trim ht ?_
    refine sr ?_
    refine ts (mv rfl) ?_
    refine ts (as_ rfl) ?_
    refine rn ?_
    refine CWp.ret ?_
    obtain rfl := some_inj h
    exact ⟨trivial, rt1 (ex := false) (by exact (.t rfl .n)) (by exact (gf rfl rfl)) (by rfl) (by rfl)⟩
theorem ref27_Value_ok {p0 : api_Affine} {p1 : (List Int)} {out : Out} {r : Int} (h : ref27_Value p0 p1 = some r) : FunOk PP 128 [.d (api_Affine.d p0), .d (.sl (p1.map dI))] out ⟨.d (.int .i64 r), []⟩ := by
  unfold ref27_Value at h
  refine fi Tryz.func128 rfl (by kernel_rfl) (by kernel_rfl) (by kernel_rfl) ?_
  refine sr ?_
  refine ts (bxI rfl) ?_
  refine ts (ac rfl rfl) ?_
  refine rn ?_
  refine sr ?_
  refine ts (faI fT123_1 rfl rfl) ?_
  refine ts (ldI sT3 rfl rfl) ?_
  refine ts (as_ rfl) ?_
  refine rn ?_
  refine CWp.seq ?_
  refine sr ?_
  refine ts (ac rfl rfl) ?_
  refine rn ?_
  obtain ⟨z5, hz5, h⟩ := bnd h
  refine lb (E := fun s1 => [(1, .d (.sl (p1.map dI))), (2, .pimm (api_Affine.d p0) 0), (5, .d (.int .i64 s1.1)), (6, .d (.int .i64 s1.2))]) (M := fun s1 => ⟨[], out, []⟩) (E' := fun y => [(5, .d (.int .i64 y))]) (M' := fun y => ⟨[], out, []⟩) hz5 (by (try simp only [List.length_set, copied_len]); exact trk (by kernel_rfl) (by kernel_rfl) (by kernel_rfl)) ?_ ?_
  · intro s1 ww h
    unfold ref27_Value.s1 at h
    refine CWp.seq ?_
    refine sr ?_
    refine ts (mv rfl) ?_
    refine ts (faI fT123_0 rfl rfl) ?_
    refine ts (ldI sT48 rfl rfl) ?_
    refine ts (lnD lT48 rfl rfl) ?_
    refine ts (lss rfl rfl) ?_
    refine rn ?_
    rcases ite h with ⟨c2, h⟩ | ⟨c2, h⟩
    · refine ct rfl (bt c2) ?_
      refine CWp.skip ?_
      refine CWp.seq ?_
      refine CWp.block ?_
      refine ld_ mixed (b := [0, 0, 2, 0, 14, 30, 0, 0, 192, 448, 1022, 2047, 4095]) (by kernel_rfl) ?_
      refine ds (mv rfl) rfl ?_
      refine ds (faI fT123_0 rfl rfl) rfl ?_
      refine ds (ldI sT48 rfl rfl) rfl ?_
      refine ds (mv rfl) rfl ?_
      obtain ⟨x3, hx3, h⟩ := bnd h
      refine ds (ixD lT48 szI rfl rfl hx3) rfl ?_
      refine ds (ldI sT3 rfl rfl) rfl ?_
      refine ds (mv rfl) rfl ?_
      refine ds (mv rfl) rfl ?_
      obtain ⟨x4, hx4, h⟩ := bnd h
      refine ds (ixD lT48 szI rfl rfl hx4) rfl ?_
      refine ds (ldI sT3 rfl rfl) rfl ?_
      refine ds (mul rfl rfl) rfl ?_
      refine ds (add rfl rfl) rfl ?_
      refine ds (as_ rfl) rfl ?_
      refine dn (by kernel_rfl) ?_
      refine lr ?_
      refine ts (mv rfl) ?_
      refine ts (add rfl rfl) ?_
      refine ts (as_ rfl) ?_
      refine rn ?_
      obtain rfl := some_inj h
      exact ⟨rfl, (by (try simp only [List.length_set, copied_len]); exact trk (by kernel_rfl) (by kernel_rfl) (by kernel_rfl))⟩
    · refine cf rfl (bf c2) ?_
      refine CWp.exit ?_
      obtain rfl := some_inj h
      exact ⟨rfl, (by (try simp only [List.length_set, copied_len]); exact trk (by kernel_rfl) (by kernel_rfl) (by kernel_rfl))⟩
  · intro e s ht
    refine CWp.trim ht ?_
    refine sr ?_
    refine ts (mv rfl) ?_
    refine ts (as_ rfl) ?_
    refine rn ?_
    refine CWp.ret ?_
    obtain rfl := some_inj h
    exact ⟨trivial, rt1 (ex := false) (by exact (.t rfl .n)) (by exact (gd (by rfl))) (by rfl) (by rfl)⟩
theorem ref27_points_i2.N_ok : ∀ (n : Nat) {p0 : (List api_Loop)} {p1 : (List Int)} {b0 : (List (List Int))} {r : List (List Int)}, ref27_points_i2.N n p0 p1 b0 = some r → FunOk PP 109 [.d (.sl (p0.map api_Loop.d)), .d (.sl (p1.map dI)), .ref ⟨0, 0, 0⟩ 0 b0.length b0.length] [[((0, 0), .arr 1 false (b0.map (dL dI)))]] ⟨.ref ⟨0, 0, 0⟩ 0 r.length r.length, [some [((0, 0), .arr 1 false (r.map (dL dI)))]]⟩ := by
  intro n
  induction n with
  | zero => intro p0 p1 b0 r h; cases h
  | succ n ih117 =>
    intro p0 p1 b0 r h
    unfold ref27_points_i2.N ref27_points_i2.F at h
    refine fi Tryz.func109 rfl (by kernel_rfl) (by kernel_rfl) (by kernel_rfl) ?_
    refine CWp.trim Le.start ?_
    refine sr ?_
    refine ta (an (n := 0) lT35 rfl) ?_
    refine rn ?_
    refine CWp.seq ?_
    refine sr ?_
    refine ts (mv rfl) ?_
    refine ts (lnD lT48 rfl rfl) ?_
    refine ts (mv rfl) ?_
    refine ts (lnD lT23 rfl rfl) ?_
    refine ts (eql rfl rfl) ?_
    refine rn ?_
    rcases ite h with ⟨c1, h⟩ | ⟨c1, h⟩
    · refine ct rfl (et c1) ?_
      refine sr ?_
      refine ts (mv rfl) ?_
      refine ts (mv rfl) ?_
      obtain ⟨x2, hx2, h⟩ := bnd h
      refine ts (czn (f := fun _ => false) (v' := .d (.sl (x2.map dI))) kf rfl (.c rfl le1 .n) rfl (base_CopyInts_ok hx2) rfl rfl) ?_
      refine ts (bsT (l := (([x2] : List (List Int)).map (dL dI))) lT35 rfl rfl rfl (by kernel_rfl)) ?_
      obtain ⟨x3, hx3, h⟩ := bnd h
      refine tp (apG (ys := ([x2] : List (List Int))) (xs := b0) (f := (dL dI)) lT35 uT35 szL rfl rfl rfl elT (uw rfl) hx3 (su .h)) ?_
      refine ts (as_ rfl) ?_
      refine rn ?_
      refine CWp.ret ?_
      obtain rfl := some_inj h
      exact ⟨trivial, rt1 (ex := true) (by exact (.t rfl .n)) (by exact (gro rfl)) (by rfl) (by first | rfl | (simp only [List.length_set, copied_len] <;> rfl))⟩
    · refine cf rfl (ef c1) ?_
      refine CWp.skip ?_
      refine sr ?_
      refine ts (mv rfl) ?_
      refine ts (lnD lT48 rfl rfl) ?_
      refine ts (as_ rfl) ?_
      refine rn ?_
      refine sr ?_
      refine ts (mv rfl) ?_
      refine ts (mv rfl) ?_
      obtain ⟨x4, hx4, h⟩ := bnd h
      refine ts (ixD lT23 api_Loop.sz rfl rfl hx4) ?_
      refine ts (faI fT125_1 rfl rfl) ?_
      refine ts (ldIA (y := api_Affine.d (api_Affine.mk x4.High.Coefs x4.High.Const)) aT123 rfl (by kernel_rfl)) ?_
      refine ts (mv rfl) ?_
      obtain ⟨x5, hx5, h⟩ := bnd h
      refine ts (cln (f := fun _ => false) kf rfl (.c rfl le1 (.c rfl le1 .n)) rfl (ref27_Value_ok hx5) rfl) ?_
      refine ts (as_ rfl) ?_
      refine rn ?_
      refine CWp.seq ?_
      refine sr ?_
      refine ts (mv rfl) ?_
      refine ts (mv rfl) ?_
      obtain ⟨x6, hx6, h⟩ := bnd h
      refine ts (ixD lT23 api_Loop.sz rfl rfl hx6) ?_
      refine ts (faI fT125_0 rfl rfl) ?_
      refine ts (ldIA (y := api_Affine.d (api_Affine.mk x6.Low.Coefs x6.Low.Const)) aT123 rfl (by kernel_rfl)) ?_
      refine ts (mv rfl) ?_
      obtain ⟨x7, hx7, h⟩ := bnd h
      refine ts (cln (f := fun _ => false) kf rfl (.c rfl le1 (.c rfl le1 .n)) rfl (ref27_Value_ok hx7) rfl) ?_
      refine ts (as_ rfl) ?_
      refine rn ?_
      obtain ⟨z15, hz15, h⟩ := bnd h
      refine lb (E := fun s8 => [(0, .d (.sl (p0.map api_Loop.d))), (1, .d (.sl (p1.map dI))), (2, .ref ⟨0, 0, 0⟩ 0 s8.2.length s8.2.length), (8, .d (.int .i64 x5)), (9, .d (.int .i64 s8.1))]) (M := fun s8 => ⟨[], [[((0, 0), .arr 1 false (b0.map (dL dI)))]], [some [((0, 0), .arr 1 false (s8.2.map (dL dI)))]]⟩) (E' := fun y => [(2, .ref ⟨0, 0, 0⟩ 0 y.length y.length)]) (M' := fun y => ⟨[], [[((0, 0), .arr 1 false (b0.map (dL dI)))]], [some [((0, 0), .arr 1 false (y.map (dL dI)))]]⟩) hz15 (by (try simp only [List.length_set, copied_len]); exact trkc (by kernel_rfl) (by kernel_rfl) (by kernel_rfl)) ?_ ?_
      · intro s8 ww h
        unfold ref27_points_i2.s1 at h
        refine CWp.seq ?_
        refine sr ?_
        refine ts (mv rfl) ?_
        refine ts (mv rfl) ?_
        refine ts (leq rfl rfl) ?_
        refine ts (mv rfl) ?_
        refine sg 4 [(43, .d (.bool ((decide (s8.1 ≤ x5)) && (decide ((s8.2.length : Int) ≤ 200)))))] ?_ ?_
        · rcases bool_or (decide (s8.1 ≤ x5)) with g9 | g10
          · refine us (gy rfl rfl g9) (mv rfl) ?_
            refine us (gy rfl rfl g9) (lnR lT35 rfl rfl) ?_
            refine us (gy rfl rfl g9) (leq rfl rfl) ?_
            refine ts (pt rfl g9 rfl) ?_
            exact rn (trD 4 rfl (.c (bq (and_t g9)) .n) (by kernel_rfl))
          · refine un (gn rfl rfl g10) ?_
            refine un (gn rfl rfl g10) ?_
            refine un (gn rfl rfl g10) ?_
            refine ts (pf rfl g10 rfl) ?_
            exact rn (trD 4 rfl (.c (bq (and_f g10)) .n) (by kernel_rfl))
        refine rn ?_
        rcases ite h with ⟨c11, h⟩ | ⟨c11, h⟩
        · refine ct rfl c11 ?_
          refine CWp.skip ?_
          refine CWp.seq ?_
          refine CWp.block ?_
          refine lr ?_
          refine ts (mv rfl) ?_
          refine ts (mv rfl) ?_
          obtain ⟨x12, hx12, h⟩ := bnd h
          refine ta (chn (f := fun _ => false) (n := 0) (v' := .ref ⟨1, 48, 0⟩ 0 x12.length x12.length) (bs := [((48, 0), .arr 1 false (x12.map dI))]) kf rfl (.c rfl le1 .n) rfl (base_CopyInts_ok hx12) rfl rfl (by simp [homeVal, homeVals])) ?_
          refine ts (mv rfl) ?_
          refine ts (bsT (l := (([s8.1] : List Int).map dI)) lT48 rfl rfl rfl (by kernel_rfl)) ?_
          obtain ⟨x13, hx13, h⟩ := bnd h
          refine tp (apG (ys := ([s8.1] : List Int)) (xs := x12) (f := dI) lT48 uT48 szI rfl rfl rfl elT (ow rfl) hx13 (so .h)) ?_
          refine ts (mv rfl) ?_
          obtain ⟨x14, hx14, h⟩ := bnd h
          refine tt (clq (f := at0 [2]) kf rfl (.c rfl le1 (.w rfl (leG4 rfl (ow rfl) (so .h)) (.b rfl .n))) rfl (fr_ (ids := [⟨0, 0, 0⟩]) (cbs := [.arr 1 false (s8.2.map (dL dI))]) (cbs' := [.arr 1 false (x14.map (dL dI))]) (ih117 hx14) (by first | rfl | (simp only [List.length_set, copied_len] <;> rfl)) (.inr ⟨rfl, rfl⟩) (by simp) rfl rfl rfl rfl rfl rfl rfl rfl (.c rfl .n) (.set .full rfl (by simp) (set_w0 .h))) rfl) ?_
          refine ts (as_ rfl) ?_
          refine rn ?_
          refine lr ?_
          refine ts (mv rfl) ?_
          refine ts (add rfl rfl) ?_
          refine ts (as_ rfl) ?_
          refine rn ?_
          obtain rfl := some_inj h
          exact ⟨rfl, (by (try simp only [List.length_set, copied_len]); exact trkc (by kernel_rfl) (by kernel_rfl) (by kernel_rfl))⟩
        · refine cf rfl (vf c11) ?_
          refine CWp.exit ?_
          obtain rfl := some_inj h
          exact ⟨rfl, (by (try simp only [List.length_set, copied_len]); exact trkc (by kernel_rfl) (by kernel_rfl) (by kernel_rfl))⟩
      · intro e s ht
        refine CWp.trim ht ?_
        refine sr ?_
        refine ts (mv rfl) ?_
        refine ts (as_ rfl) ?_
        refine rn ?_
        refine CWp.ret ?_
        obtain rfl := some_inj h
        exact ⟨trivial, rt1 (ex := true) (by exact (.t rfl .n)) (by exact (gro rfl)) (by rfl) (by first | rfl | (simp only [List.length_set, copied_len] <;> rfl))⟩
theorem ref27_points_i2_ok {p0 : (List api_Loop)} {p1 : (List Int)} {b0 : (List (List Int))} {r : List (List Int)} (h : ref27_points_i2 p0 p1 b0 = some r) : FunOk PP 109 [.d (.sl (p0.map api_Loop.d)), .d (.sl (p1.map dI)), .ref ⟨0, 0, 0⟩ 0 b0.length b0.length] [[((0, 0), .arr 1 false (b0.map (dL dI)))]] ⟨.ref ⟨0, 0, 0⟩ 0 r.length r.length, [some [((0, 0), .arr 1 false (r.map (dL dI)))]]⟩ := by
  obtain ⟨n, hn⟩ := lim_some h
  exact ref27_points_i2.N_ok n hn
theorem ref27_points_ok {p0 : (List api_Loop)} {p1 : (List Int)} {out : Out} {r : (List (List Int))} (h : ref27_points p0 p1 = some r) : FunOk PP 109 [.d (.sl (p0.map api_Loop.d)), .d (.sl (p1.map dI)), .d .nilsl] out ⟨.own 1 (r.map (dL dI)), []⟩ := by
  unfold ref27_points at h
  refine fi Tryz.func109 rfl (by kernel_rfl) (by kernel_rfl) (by kernel_rfl) ?_
  refine CWp.trim (Le.nilOwn (t := 2) (t' := 2) (sz := 1) rfl rfl) ?_
  refine sr ?_
  refine ta (an (n := 0) lT35 rfl) ?_
  refine rn ?_
  refine CWp.seq ?_
  refine sr ?_
  refine ts (mv rfl) ?_
  refine ts (lnD lT48 rfl rfl) ?_
  refine ts (mv rfl) ?_
  refine ts (lnD lT23 rfl rfl) ?_
  refine ts (eql rfl rfl) ?_
  refine rn ?_
  rcases ite h with ⟨c1, h⟩ | ⟨c1, h⟩
  · refine ct rfl (et c1) ?_
    refine sr ?_
    refine ts (mv rfl) ?_
    refine ts (mv rfl) ?_
    obtain ⟨x2, hx2, h⟩ := bnd h
    refine ts (czn (f := fun _ => false) (v' := .d (.sl (x2.map dI))) kf rfl (.c rfl le1 .n) (curOf_nil _) (base_CopyInts_ok hx2) rfl rfl) ?_
    refine ts (bsT (l := (([x2] : List (List Int)).map (dL dI))) lT35 rfl rfl rfl (by kernel_rfl)) ?_
    obtain ⟨x3, hx3, h⟩ := bnd h
    refine tp (apG (ys := ([x2] : List (List Int))) (xs := ([] : List (List Int))) (f := (dL dI)) lT35 uT35 szL rfl (by first | rfl | simp only [List.length_set, copied_len]) rfl elT (ow rfl) hx3 (so (.s rfl .h))) ?_
    refine ts (as_ rfl) ?_
    refine rn ?_
    refine CWp.ret ?_
    obtain rfl := some_inj h
    exact ⟨trivial, rt1 (ex := true) (by exact (.t rfl .n)) (by exact (go rfl rfl)) (by rfl) (by rfl)⟩
  · refine cf rfl (ef c1) ?_
    refine CWp.skip ?_
    refine sr ?_
    refine ts (mv rfl) ?_
    refine ts (lnD lT48 rfl rfl) ?_
    refine ts (as_ rfl) ?_
    refine rn ?_
    refine sr ?_
    refine ts (mv rfl) ?_
    refine ts (mv rfl) ?_
    obtain ⟨x4, hx4, h⟩ := bnd h
    refine ts (ixD lT23 api_Loop.sz rfl rfl hx4) ?_
    refine ts (faI fT125_1 rfl rfl) ?_
    refine ts (ldIA (y := api_Affine.d (api_Affine.mk x4.High.Coefs x4.High.Const)) aT123 rfl (by kernel_rfl)) ?_
    refine ts (mv rfl) ?_
    obtain ⟨x5, hx5, h⟩ := bnd h
    refine ts (cln (f := fun _ => false) kf rfl (.c rfl le1 (.c rfl le1 .n)) (curOf_nil _) (ref27_Value_ok hx5) rfl) ?_
    refine ts (as_ rfl) ?_
    refine rn ?_
    refine CWp.seq ?_
    refine sr ?_
    refine ts (mv rfl) ?_
    refine ts (mv rfl) ?_
    obtain ⟨x6, hx6, h⟩ := bnd h
    refine ts (ixD lT23 api_Loop.sz rfl rfl hx6) ?_
    refine ts (faI fT125_0 rfl rfl) ?_
    refine ts (ldIA (y := api_Affine.d (api_Affine.mk x6.Low.Coefs x6.Low.Const)) aT123 rfl (by kernel_rfl)) ?_
    refine ts (mv rfl) ?_
    obtain ⟨x7, hx7, h⟩ := bnd h
    refine ts (cln (f := fun _ => false) kf rfl (.c rfl le1 (.c rfl le1 .n)) (curOf_nil _) (ref27_Value_ok hx7) rfl) ?_
    refine ts (as_ rfl) ?_
    refine rn ?_
    obtain ⟨z15, hz15, h⟩ := bnd h
    refine lb (E := fun s8 => [(0, .d (.sl (p0.map api_Loop.d))), (1, .d (.sl (p1.map dI))), (2, .ref ⟨out.length, 2, 0⟩ 0 s8.2.length s8.2.length), (8, .d (.int .i64 x5)), (9, .d (.int .i64 s8.1))]) (M := fun s8 => ⟨[((2, 0), .arr 1 false (s8.2.map (dL dI)))], out, []⟩) (E' := fun y => [(2, .ref ⟨out.length, 2, 0⟩ 0 y.length y.length)]) (M' := fun y => ⟨[((2, 0), .arr 1 false (y.map (dL dI)))], out, []⟩) hz15 (by (try simp only [List.length_set, copied_len]); exact trk (by kernel_rfl) (by kernel_rfl) (by kernel_rfl)) ?_ ?_
    · intro s8 ww h
      unfold ref27_points.s1 at h
      refine CWp.seq ?_
      refine sr ?_
      refine ts (mv rfl) ?_
      refine ts (mv rfl) ?_
      refine ts (leq rfl rfl) ?_
      refine ts (mv rfl) ?_
      refine sg 4 [(43, .d (.bool ((decide (s8.1 ≤ x5)) && (decide ((s8.2.length : Int) ≤ 200)))))] ?_ ?_
      · rcases bool_or (decide (s8.1 ≤ x5)) with g9 | g10
        · refine us (gy rfl rfl g9) (mv rfl) ?_
          refine us (gy rfl rfl g9) (lnR lT35 rfl rfl) ?_
          refine us (gy rfl rfl g9) (leq rfl rfl) ?_
          refine ts (pt rfl g9 rfl) ?_
          exact rn (trD 4 rfl (.c (bq (and_t g9)) .n) (by kernel_rfl))
        · refine un (gn rfl rfl g10) ?_
          refine un (gn rfl rfl g10) ?_
          refine un (gn rfl rfl g10) ?_
          refine ts (pf rfl g10 rfl) ?_
          exact rn (trD 4 rfl (.c (bq (and_f g10)) .n) (by kernel_rfl))
      refine rn ?_
      rcases ite h with ⟨c11, h⟩ | ⟨c11, h⟩
      · refine ct rfl c11 ?_
        refine CWp.skip ?_
        refine CWp.seq ?_
        refine CWp.block ?_
        refine lr ?_
        refine ts (mv rfl) ?_
        refine ts (mv rfl) ?_
        obtain ⟨x12, hx12, h⟩ := bnd h
        refine ta (chn (f := fun _ => false) (n := 0) (v' := .ref ⟨out.length, 48, 0⟩ 0 x12.length x12.length) (bs := [((48, 0), .arr 1 false (x12.map dI))]) kf rfl (.c rfl le1 .n) (curOf_nil _) (base_CopyInts_ok hx12) rfl rfl (by simp [homeVal, homeVals])) ?_
        refine ts (mv rfl) ?_
        refine ts (bsT (l := (([s8.1] : List Int).map dI)) lT48 rfl rfl rfl (by kernel_rfl)) ?_
        obtain ⟨x13, hx13, h⟩ := bnd h
        refine tp (apG (ys := ([s8.1] : List Int)) (xs := x12) (f := dI) lT48 uT48 szI rfl rfl rfl elT (ow rfl) hx13 (so .h)) ?_
        refine ts (mv rfl) ?_
        obtain ⟨x14, hx14, h⟩ := bnd h
        refine tt (clp (f := at0 [2]) kf rfl (.c rfl le1 (.w rfl (leG4 rfl (ow rfl) (so .h)) (.b rfl .n))) rfl (curOf_nil _) (fr_ (ids := [⟨out.length, 2, 0⟩]) (cbs := [.arr 1 false (s8.2.map (dL dI))]) (cbs' := [.arr 1 false (x14.map (dL dI))]) (ref27_points_i2_ok hx14) (by first | rfl | (simp only [List.length_set, copied_len] <;> rfl)) (.inr ⟨rfl, rfl⟩) (by simp) rfl rfl rfl rfl rfl rfl rfl rfl (.c (o1 rfl) .n) (.set .one (o1 rfl) (by simp) (set_o1' (.s rfl .h)))) rfl) ?_
        refine ts (as_ rfl) ?_
        refine rn ?_
        refine lr ?_
        refine ts (mv rfl) ?_
        refine ts (add rfl rfl) ?_
        refine ts (as_ rfl) ?_
        refine rn ?_
        obtain rfl := some_inj h
        exact ⟨rfl, (by (try simp only [List.length_set, copied_len]); exact trk (by kernel_rfl) (by kernel_rfl) (by kernel_rfl))⟩
      · refine cf rfl (vf c11) ?_
        refine CWp.exit ?_
        obtain rfl := some_inj h
        exact ⟨rfl, (by (try simp only [List.length_set, copied_len]); exact trk (by kernel_rfl) (by kernel_rfl) (by kernel_rfl))⟩
    · intro e s ht
      refine CWp.trim ht ?_
      refine sr ?_
      refine ts (mv rfl) ?_
      refine ts (as_ rfl) ?_
      refine rn ?_
      refine CWp.ret ?_
      obtain rfl := some_inj h
      exact ⟨trivial, rt1 (ex := true) (by exact (.t rfl .n)) (by exact (go rfl rfl)) (by rfl) (by rfl)⟩
theorem ref27_Points_ok {p0 : (List api_Loop)} {out : Out} {r : (List (List Int))} (h : ref27_Points p0 = some r) : FunOk PP 38 [.d (.sl (p0.map api_Loop.d))] out ⟨.d (.sl (r.map (dL dI))), []⟩ := by
  unfold ref27_Points at h
  refine fi Tryz.func38 rfl (by kernel_rfl) (by kernel_rfl) (by kernel_rfl) ?_
  refine sr ?_
  refine ts (ak.wk (x' := .sl (([] : List (List Int)).map (dL dI))) rfl) ?_
  refine rn ?_
  refine sr ?_
  refine ts (mv rfl) ?_
  obtain ⟨x1, hx1, h⟩ := bnd h
  refine ts (czn (f := fun _ => false) (v' := .d (.sl (x1.map (dL dI)))) kf rfl (.c rfl le1 (.c rfl le1 (.c rfl le1 .n))) (curOf_nil _) ((ref27_points_ok hx1).args (.c (.w (.nil _) (.c .n)))) rfl rfl) ?_
  refine ts (as_ rfl) ?_
  refine rn ?_
  refine CWp.ret ?_
  obtain rfl := some_inj h
  exact ⟨trivial, rt1 (ex := false) (by exact (.t rfl .n)) (by exact (gd (by rfl))) (by rfl) (by rfl)⟩
theorem ref27_CheckNest_ok {p0 : (List api_Loop)} {out : Out} {r : Int × Int} (h : ref27_CheckNest p0 = some r) : FunOk PP 35 [.d (.sl (p0.map api_Loop.d))] out ⟨.tup [.d (.int .i64 r.1), .d (.int .i64 r.2)], []⟩ := by
  unfold ref27_CheckNest at h
  refine fi Tryz.func35 rfl (by kernel_rfl) (by kernel_rfl) (by kernel_rfl) ?_
  refine sr ?_
  refine ts (ac rfl rfl) ?_
  refine ts (ac rfl rfl) ?_
  refine rn ?_
  refine CWp.seq ?_
  refine sr ?_
  refine ts (mv rfl) ?_
  refine ts (lnD lT23 rfl rfl) ?_
  refine ts (eql rfl rfl) ?_
  refine rn ?_
  rcases ite h with ⟨c1, h⟩ | ⟨c1, h⟩
  · refine ct rfl (et c1) ?_
    refine sr ?_
    refine ts (ac rfl rfl) ?_
    refine ts (ac rfl rfl) ?_
    refine rn ?_
    refine CWp.ret ?_
    obtain rfl := some_inj h
    exact ⟨trivial, rt2 (ex := false) (by exact (.t rfl (.t rfl .n))) (by exact (sc (gd (by rfl)) (sc (gd (by rfl)) sn))) (by rfl) (by rfl)⟩
  · refine cf rfl (ef c1) ?_
    refine CWp.skip ?_
    refine CWp.seq ?_
    refine sr ?_
    refine ts (mv rfl) ?_
    refine ts (lnD lT23 rfl rfl) ?_
    refine ts (gtr rfl rfl) ?_
    refine rn ?_
    rcases ite h with ⟨c2, h⟩ | ⟨c2, h⟩
    · refine ct rfl (bt c2) ?_
      refine sr ?_
      refine ts (ac rfl rfl) ?_
      refine ts (ac rfl rfl) ?_
      refine rn ?_
      refine CWp.ret ?_
      obtain rfl := some_inj h
      exact ⟨trivial, rt2 (ex := false) (by exact (.t rfl (.t rfl .n))) (by exact (sc (gd (by rfl)) (sc (gd (by rfl)) sn))) (by rfl) (by rfl)⟩
    · refine cf rfl (bf c2) ?_
      refine CWp.skip ?_
      refine CWp.seq ?_
      refine sr ?_
      refine ts (ac rfl rfl) ?_
      refine rn ?_
      obtain ⟨z11, hz11, h⟩ := bnd h
      refine lbr (E := fun s3 => [(0, .d (.sl (p0.map api_Loop.d))), (4, .d (.int .i64 s3))]) (M := fun s3 => ⟨[], out, []⟩) (E' := fun y => [(0, .d (.sl (p0.map api_Loop.d)))]) (M' := fun y => ⟨[], out, []⟩) (RT := fun r e s => Lx.Returns PP Tryz.f35.results.toList e s ⟨.tup [.d (.int .i64 r.1), .d (.int .i64 r.2)], []⟩) hz11 (by (try simp only [List.length_set, copied_len]); exact trk (by kernel_rfl) (by kernel_rfl) (by kernel_rfl)) ?_ ?_
      · intro s3 ww h
        unfold ref27_CheckNest.s1 at h
        refine CWp.seq ?_
        refine sr ?_
        refine ts (mv rfl) ?_
        refine ts (mv rfl) ?_
        refine ts (lnD lT23 rfl rfl) ?_
        refine ts (lss rfl rfl) ?_
        refine rn ?_
        rcases ite h with ⟨c4, h⟩ | ⟨c4, h⟩
        · refine ct rfl (bt c4) ?_
          refine CWp.skip ?_
          refine CWp.seq ?_
          refine CWp.block ?_
          refine CWp.seq ?_
          refine sr ?_
          refine ts (mv rfl) ?_
          refine ts (mv rfl) ?_
          obtain ⟨x5, hx5, h⟩ := bnd h
          refine ts (ixD lT23 api_Loop.sz rfl rfl hx5) ?_
          refine ts (faI fT125_0 rfl rfl) ?_
          refine ts (ldIA (y := api_Affine.d (api_Affine.mk x5.Low.Coefs x5.Low.Const)) aT123 rfl (by kernel_rfl)) ?_
          refine ts (mv rfl) ?_
          obtain ⟨x6, hx6, h⟩ := bnd h
          refine ts (cln (f := fun _ => false) kf rfl (.c rfl le1 (.c rfl le1 .n)) (curOf_nil _) (ref27_AffineErr_ok hx6) rfl) ?_
          refine ts (as_ rfl) ?_
          refine rn ?_
          refine sr ?_
          refine ts (mv rfl) ?_
          refine ts (neq rfl rfl) ?_
          refine rn ?_
          rcases ite h with ⟨c7, h⟩ | ⟨c7, h⟩
          · refine ct rfl (nt c7) ?_
            refine sr ?_
            refine ts (mv rfl) ?_
            refine ts (mv rfl) ?_
            refine ts (as_ rfl) ?_
            refine ts (as_ rfl) ?_
            refine rn ?_
            refine CWp.ret ?_
            obtain rfl := some_inj h
            exact ⟨rfl, rt2 (ex := false) (by exact (.t rfl (.t rfl .n))) (by exact (sc (gd (by rfl)) (sc (gd (by rfl)) sn))) (by rfl) (by rfl)⟩
          · refine cf rfl (nf c7) ?_
            refine CWp.skip ?_
            refine sr ?_
            refine ts (mv rfl) ?_
            refine ts (mv rfl) ?_
            obtain ⟨x8, hx8, h⟩ := bnd h
            refine ts (ixD lT23 api_Loop.sz rfl rfl hx8) ?_
            refine ts (faI fT125_1 rfl rfl) ?_
            refine ts (ldIA (y := api_Affine.d (api_Affine.mk x8.High.Coefs x8.High.Const)) aT123 rfl (by kernel_rfl)) ?_
            refine ts (mv rfl) ?_
            obtain ⟨x9, hx9, h⟩ := bnd h
            refine ts (cln (f := fun _ => false) kf rfl (.c rfl le1 (.c rfl le1 .n)) (curOf_nil _) (ref27_AffineErr_ok hx9) rfl) ?_
            refine ts (as_ rfl) ?_
            refine rn ?_
            refine sr ?_
            refine ts (mv rfl) ?_
            refine ts (neq rfl rfl) ?_
            refine rn ?_
            rcases ite h with ⟨c10, h⟩ | ⟨c10, h⟩
            · refine ct rfl (nt c10) ?_
              refine sr ?_
              refine ts (mv rfl) ?_
              refine ts (mv rfl) ?_
              refine ts (as_ rfl) ?_
              refine ts (as_ rfl) ?_
              refine rn ?_
              refine CWp.ret ?_
              obtain rfl := some_inj h
              exact ⟨rfl, rt2 (ex := false) (by exact (.t rfl (.t rfl .n))) (by exact (sc (gd (by rfl)) (sc (gd (by rfl)) sn))) (by rfl) (by rfl)⟩
            · refine cf rfl (nf c10) ?_
              refine CWp.skip ?_
              refine lr ?_
              refine ts (mv rfl) ?_
              refine ts (add rfl rfl) ?_
              refine ts (as_ rfl) ?_
              refine rn ?_
              obtain rfl := some_inj h
              exact ⟨rfl, (by (try simp only [List.length_set, copied_len]); exact trk (by kernel_rfl) (by kernel_rfl) (by kernel_rfl))⟩
        · refine cf rfl (bf c4) ?_
          refine CWp.exit ?_
          obtain rfl := some_inj h
          exact ⟨rfl, (by (try simp only [List.length_set, copied_len]); exact trk (by kernel_rfl) (by kernel_rfl) (by kernel_rfl))⟩
      · cases z11 with
        | inl v12 =>
          intro e s ht
          refine CWp.trim ht ?_
          refine sr ?_
          refine ts (mv rfl) ?_
          obtain ⟨x13, hx13, h⟩ := bnd h
          refine ts (cln (f := fun _ => false) kf rfl (.c rfl le1 .n) (curOf_nil _) (ref27_Hulls_ok hx13) rfl) ?_
          refine ts (as_ rfl) ?_
          refine rn ?_
          refine CWp.seq ?_
          refine sr ?_
          refine ts (ac rfl rfl) ?_
          refine rn ?_
          obtain ⟨z20, hz20, h⟩ := bnd h
          refine lbr (E := fun s14 => [(0, .d (.sl (p0.map api_Loop.d))), (7, .d (.sl (x13.map api_Hull.d))), (8, .d (.int .i64 s14))]) (M := fun s14 => ⟨[], out, []⟩) (E' := fun y => [(0, .d (.sl (p0.map api_Loop.d)))]) (M' := fun y => ⟨[], out, []⟩) (RT := fun r e s => Lx.Returns PP Tryz.f35.results.toList e s ⟨.tup [.d (.int .i64 r.1), .d (.int .i64 r.2)], []⟩) hz20 (by (try simp only [List.length_set, copied_len]); exact trk (by kernel_rfl) (by kernel_rfl) (by kernel_rfl)) ?_ ?_
          · intro s14 ww h
            unfold ref27_CheckNest.s2 at h
            refine CWp.seq ?_
            refine sr ?_
            refine ts (mv rfl) ?_
            refine ts (mv rfl) ?_
            refine ts (lnD lT56 rfl rfl) ?_
            refine ts (lss rfl rfl) ?_
            refine rn ?_
            rcases ite h with ⟨c15, h⟩ | ⟨c15, h⟩
            · refine ct rfl (bt c15) ?_
              refine CWp.skip ?_
              refine CWp.seq ?_
              refine CWp.block ?_
              refine sr ?_
              refine ts (mv rfl) ?_
              refine ts (mv rfl) ?_
              obtain ⟨x16, hx16, h⟩ := bnd h
              refine ts (ixD lT56 api_Hull.sz rfl rfl hx16) ?_
              refine ts (faI fT98_0 rfl rfl) ?_
              refine ts (ldI sT3 rfl rfl) ?_
              refine ts (cln (f := fun _ => false) kf rfl (.c rfl le1 (.c rfl le1 (.c rfl le1 .n))) (curOf_nil _) (base_Within_ok (rfl : base_Within x16.Low (-1000) 1000 = _)) rfl) ?_
              refine ts (not_ rfl) ?_
              refine ts (mv rfl) ?_
              rcases ite h with ⟨c17, h⟩ | ⟨c17, h⟩
              · refine un (gn rfl rfl (not_t (vf c17))) ?_
                refine un (gn rfl rfl (not_t (vf c17))) ?_
                refine un (gn rfl rfl (not_t (vf c17))) ?_
                refine un (gn rfl rfl (not_t (vf c17))) ?_
                refine un (gn rfl rfl (not_t (vf c17))) ?_
                refine un (gn rfl rfl (not_t (vf c17))) ?_
                refine un (gn rfl rfl (not_t (vf c17))) ?_
                refine ts (pt rfl (not_t (vf c17)) rfl) ?_
                refine rn ?_
                refine ct rfl rfl ?_
                refine sr ?_
                refine ts (ac rfl rfl) ?_
                refine ts (ac rfl rfl) ?_
                refine rn ?_
                refine CWp.ret ?_
                obtain rfl := some_inj h
                exact ⟨rfl, rt2 (ex := false) (by exact (.t rfl (.t rfl .n))) (by exact (sc (gd (by rfl)) (sc (gd (by rfl)) sn))) (by rfl) (by rfl)⟩
              · refine us (gy rfl rfl (not_f (Classical.not_not.1 c17))) (mv rfl) ?_
                refine us (gy rfl rfl (not_f (Classical.not_not.1 c17))) (mv rfl) ?_
                obtain ⟨x18, hx18, h⟩ := bnd h
                refine us (gy rfl rfl (not_f (Classical.not_not.1 c17))) (ixD lT56 api_Hull.sz rfl rfl hx18) ?_
                refine us (gy rfl rfl (not_f (Classical.not_not.1 c17))) (faI fT98_1 rfl rfl) ?_
                refine us (gy rfl rfl (not_f (Classical.not_not.1 c17))) (ldI sT3 rfl rfl) ?_
                refine us (gy rfl rfl (not_f (Classical.not_not.1 c17))) (cln (f := fun _ => false) kf rfl (.c rfl le1 (.c rfl le1 (.c rfl le1 .n))) (curOf_nil _) (base_Within_ok (rfl : base_Within x18.High (-1000) 1000 = _)) rfl) ?_
                refine us (gy rfl rfl (not_f (Classical.not_not.1 c17))) (not_ rfl) ?_
                refine ts (pf rfl (not_f (Classical.not_not.1 c17)) rfl) ?_
                refine rn ?_
                rcases ite h with ⟨c19, h⟩ | ⟨c19, h⟩
                · refine ct rfl (not_t (vf c19)) ?_
                  refine sr ?_
                  refine ts (ac rfl rfl) ?_
                  refine ts (ac rfl rfl) ?_
                  refine rn ?_
                  refine CWp.ret ?_
                  obtain rfl := some_inj h
                  exact ⟨rfl, rt2 (ex := false) (by exact (.t rfl (.t rfl .n))) (by exact (sc (gd (by rfl)) (sc (gd (by rfl)) sn))) (by rfl) (by rfl)⟩
                · refine cf rfl (not_f (Classical.not_not.1 c19)) ?_
                  refine CWp.skip ?_
                  refine lr ?_
                  refine ts (mv rfl) ?_
                  refine ts (add rfl rfl) ?_
                  refine ts (as_ rfl) ?_
                  refine rn ?_
                  obtain rfl := some_inj h
                  exact ⟨rfl, (by (try simp only [List.length_set, copied_len]); exact trk (by kernel_rfl) (by kernel_rfl) (by kernel_rfl))⟩
            · refine cf rfl (bf c15) ?_
              refine CWp.exit ?_
              obtain rfl := some_inj h
              exact ⟨rfl, (by (try simp only [List.length_set, copied_len]); exact trk (by kernel_rfl) (by kernel_rfl) (by kernel_rfl))⟩
          · cases z20 with
            | inl v21 =>
              intro e s ht
              refine CWp.trim ht ?_
              refine CWp.seq ?_
              refine sr ?_
              refine ts (mv rfl) ?_
              obtain ⟨x22, hx22, h⟩ := bnd h
              refine ts (cln (f := fun _ => false) kf rfl (.c rfl le1 .n) (curOf_nil _) (ref27_Points_ok hx22) rfl) ?_
              refine ts (lnD lT35 rfl rfl) ?_
              refine ts (gtr rfl rfl) ?_
              refine rn ?_
              rcases ite h with ⟨c23, h⟩ | ⟨c23, h⟩
              · refine ct rfl (bt c23) ?_
                refine sr ?_
                refine ts (ac rfl rfl) ?_
                refine ts (ac rfl rfl) ?_
                refine rn ?_
                refine CWp.ret ?_
                obtain rfl := some_inj h
                exact ⟨trivial, rt2 (ex := false) (by exact (.t rfl (.t rfl .n))) (by exact (sc (gd (by rfl)) (sc (gd (by rfl)) sn))) (by rfl) (by rfl)⟩
              · refine cf rfl (bf c23) ?_
                refine CWp.skip ?_
                refine sr ?_
                refine ts (ac rfl rfl) ?_
                refine ts (ac rfl rfl) ?_
                refine rn ?_
                refine CWp.ret ?_
                obtain rfl := some_inj h
                exact ⟨trivial, rt2 (ex := false) (by exact (.t rfl (.t rfl .n))) (by exact (sc (gd (by rfl)) (sc (gd (by rfl)) sn))) (by rfl) (by rfl)⟩
            | inr r24 =>
              intro e s hr
              obtain rfl := some_inj h
              exact ⟨trivial, hr⟩
        | inr r25 =>
          intro e s hr
          obtain rfl := some_inj h
          exact ⟨trivial, hr⟩
theorem ref27_SameHulls_ok {p0 : (List api_Hull)} {p1 : (List api_Hull)} {out : Out} {r : Bool} (h : ref27_SameHulls p0 p1 = some r) : FunOk PP 36 [.d (.sl (p0.map api_Hull.d)), .d (.sl (p1.map api_Hull.d))] out ⟨.d (.bool r), []⟩ := by
  unfold ref27_SameHulls at h
  refine fi Tryz.func36 rfl (by kernel_rfl) (by kernel_rfl) (by kernel_rfl) ?_
  refine sr ?_
  refine ts (ac rfl rfl) ?_
  refine rn ?_
  refine CWp.seq ?_
  refine sr ?_
  refine ts (mv rfl) ?_
  refine ts (lnD lT56 rfl rfl) ?_
  refine ts (mv rfl) ?_
  refine ts (lnD lT56 rfl rfl) ?_
  refine ts (neq rfl rfl) ?_
  refine rn ?_
  rcases ite h with ⟨c1, h⟩ | ⟨c1, h⟩
  · refine ct rfl (nt c1) ?_
    refine sr ?_
    refine ts (ac rfl rfl) ?_
    refine rn ?_
    refine CWp.ret ?_
    obtain rfl := some_inj h
    exact ⟨trivial, rt1 (ex := false) (by exact (.t rfl .n)) (by exact (gd (by rfl))) (by rfl) (by rfl)⟩
  · refine cf rfl (nf c1) ?_
    refine CWp.skip ?_
    refine CWp.seq ?_
    refine sr ?_
    refine ts (ac rfl rfl) ?_
    refine rn ?_
    obtain ⟨z7, hz7, h⟩ := bnd h
    refine lbr (E := fun s2 => [(0, .d (.sl (p0.map api_Hull.d))), (1, .d (.sl (p1.map api_Hull.d))), (5, .d (.int .i64 s2))]) (M := fun s2 => ⟨[], out, []⟩) (E' := fun y => []) (M' := fun y => ⟨[], out, []⟩) (RT := fun r e s => Lx.Returns PP Tryz.f36.results.toList e s ⟨.d (.bool r), []⟩) hz7 (by (try simp only [List.length_set, copied_len]); exact trk (by kernel_rfl) (by kernel_rfl) (by kernel_rfl)) ?_ ?_
    · intro s2 ww h
      unfold ref27_SameHulls.s1 at h
      refine CWp.seq ?_
      refine sr ?_
      refine ts (mv rfl) ?_
      refine ts (mv rfl) ?_
      refine ts (lnD lT56 rfl rfl) ?_
      refine ts (lss rfl rfl) ?_
      refine rn ?_
      rcases ite h with ⟨c3, h⟩ | ⟨c3, h⟩
      · refine ct rfl (bt c3) ?_
        refine CWp.skip ?_
        refine CWp.seq ?_
        refine CWp.block ?_
        refine sd mixed (b := [0, 0, 3, 7, 0, 0, 48, 112, 255]) (by kernel_rfl) ?_
        refine ds (mv rfl) rfl ?_
        refine ds (mv rfl) rfl ?_
        obtain ⟨x4, hx4, h⟩ := bnd h
        refine ds (ixD lT56 api_Hull.sz rfl rfl hx4) rfl ?_
        refine ds (ldIW aT98 rfl rfl rfl) rfl ?_
        refine ds (mv rfl) rfl ?_
        refine ds (mv rfl) rfl ?_
        obtain ⟨x5, hx5, h⟩ := bnd h
        refine ds (ixD lT56 api_Hull.sz rfl rfl hx5) rfl ?_
        refine ds (ldIW aT98 rfl rfl rfl) rfl ?_
        refine ds (sne_ (r := ((x4.Low == x5.Low) && ((x4.High == x5.High) && true))) rfl rfl ffT98 (by kernel_rfl)) rfl ?_
        refine dn (by kernel_rfl) ?_
        rcases ite h with ⟨c6, h⟩ | ⟨c6, h⟩
        · refine ct rfl (not_t (vf c6)) ?_
          refine sr ?_
          refine ts (ac rfl rfl) ?_
          refine rn ?_
          refine CWp.ret ?_
          obtain rfl := some_inj h
          exact ⟨rfl, rt1 (ex := false) (by exact (.t rfl .n)) (by exact (gd (by rfl))) (by rfl) (by rfl)⟩
        · refine cf rfl (not_f (Classical.not_not.1 c6)) ?_
          refine CWp.skip ?_
          refine lr ?_
          refine ts (mv rfl) ?_
          refine ts (add rfl rfl) ?_
          refine ts (as_ rfl) ?_
          refine rn ?_
          obtain rfl := some_inj h
          exact ⟨rfl, (by (try simp only [List.length_set, copied_len]); exact trk (by kernel_rfl) (by kernel_rfl) (by kernel_rfl))⟩
      · refine cf rfl (bf c3) ?_
        refine CWp.exit ?_
        obtain rfl := some_inj h
        exact ⟨rfl, (by (try simp only [List.length_set, copied_len]); exact trk (by kernel_rfl) (by kernel_rfl) (by kernel_rfl))⟩
    · cases z7 with
      | inl v8 =>
        intro e s ht
        refine CWp.trim ht ?_
        refine sr ?_
        refine ts (ac rfl rfl) ?_
        refine rn ?_
        refine CWp.ret ?_
        obtain rfl := some_inj h
        exact ⟨trivial, rt1 (ex := false) (by exact (.t rfl .n)) (by exact (gd (by rfl))) (by rfl) (by rfl)⟩
      | inr r9 =>
        intro e s hr
        obtain rfl := some_inj h
        exact ⟨trivial, hr⟩
theorem law27_DependNests_ok {p0 : (List api_Loop)} {out : Out} {r : Bool} (h : law27_DependNests p0 = some r) : FunOk PP 5 [.d (.sl (p0.map api_Loop.d))] out ⟨.d (.bool r), []⟩ := by
  unfold law27_DependNests at h
  refine fi Tryz.func5 rfl (by kernel_rfl) (by kernel_rfl) (by kernel_rfl) ?_
  refine sr ?_
  refine ts (ac rfl rfl) ?_
  refine rn ?_
  refine CWp.seq ?_
  refine sr ?_
  obtain ⟨x1, hx1, h⟩ := bnd h
  refine ts (cln (f := fun _ => false) kf rfl .n (curOf_nil _) (law27_awake_ok hx1) rfl) ?_
  refine ts (not_ rfl) ?_
  refine rn ?_
  rcases ite h with ⟨c2, h⟩ | ⟨c2, h⟩
  · refine ct rfl (not_t (vf c2)) ?_
    refine sr ?_
    refine ts (ac rfl rfl) ?_
    refine rn ?_
    refine CWp.ret ?_
    obtain rfl := some_inj h
    exact ⟨trivial, rt1 (ex := false) (by exact (.t rfl .n)) (by exact (gd (by rfl))) (by rfl) (by rfl)⟩
  · refine cf rfl (not_f (Classical.not_not.1 c2)) ?_
    refine CWp.skip ?_
    refine CWp.seq ?_
    refine sr ?_
    refine ts (mv rfl) ?_
    obtain ⟨x3, hx3, h⟩ := bnd h
    refine ts (cln (f := fun _ => false) kf rfl (.c rfl le1 (.c rfl le1 .n)) (curOf_nil _) ((law27_few_ok hx3).args (.c (.w (.nil _) .n))) rfl) ?_
    refine ts (not_ rfl) ?_
    refine rn ?_
    rcases ite h with ⟨c4, h⟩ | ⟨c4, h⟩
    · refine ct rfl (not_t (vf c4)) ?_
      refine sr ?_
      refine ts (ac rfl rfl) ?_
      refine rn ?_
      refine CWp.ret ?_
      obtain rfl := some_inj h
      exact ⟨trivial, rt1 (ex := false) (by exact (.t rfl .n)) (by exact (gd (by rfl))) (by rfl) (by rfl)⟩
    · refine cf rfl (not_f (Classical.not_not.1 c4)) ?_
      refine CWp.skip ?_
      refine sr ?_
      refine ts (mv rfl) ?_
      obtain ⟨x5, hx5, h⟩ := bnd h
      refine ts (cln (f := fun _ => false) kf rfl (.c rfl le1 .n) (curOf_nil _) (law27_CopyNest_ok hx5) rfl) ?_
      obtain ⟨x6, hx6, h⟩ := bnd h
      refine ts (cln (f := fun _ => false) kf rfl (.c rfl le1 .n) (curOf_nil _) (depend_CheckNest_ok hx6) rfl) ?_
      refine ts (mv rfl) ?_
      refine ts (ex_ rfl rfl) ?_
      refine ts (ex_ rfl rfl) ?_
      refine ts (as_ rfl) ?_
      refine ts (as_ rfl) ?_
      refine rn ?_
      refine sr ?_
      refine ts (mv rfl) ?_
      obtain ⟨x7, hx7, h⟩ := bnd h
      refine ts (cln (f := fun _ => false) kf rfl (.c rfl le1 .n) (curOf_nil _) (law27_CopyNest_ok hx7) rfl) ?_
      obtain ⟨x8, hx8, h⟩ := bnd h
      refine ts (cln (f := fun _ => false) kf rfl (.c rfl le1 .n) (curOf_nil _) (depend_HullsOf_ok hx8) rfl) ?_
      refine ts (mv rfl) ?_
      refine ts (ex_ rfl rfl) ?_
      refine ts (ex_ rfl rfl) ?_
      refine ts (as_ rfl) ?_
      refine ts (as_ rfl) ?_
      refine rn ?_
      refine sr ?_
      refine ts (mv rfl) ?_
      obtain ⟨x9, hx9, h⟩ := bnd h
      refine ts (cln (f := fun _ => false) kf rfl (.c rfl le1 .n) (curOf_nil _) (law27_CopyNest_ok hx9) rfl) ?_
      obtain ⟨x10, hx10, h⟩ := bnd h
      refine ts (cln (f := fun _ => false) kf rfl (.c rfl le1 .n) (curOf_nil _) (depend_PointsOf_ok hx10) rfl) ?_
      refine ts (mv rfl) ?_
      refine ts (ex_ rfl rfl) ?_
      refine ts (ex_ rfl rfl) ?_
      refine ts (as_ rfl) ?_
      refine ts (as_ rfl) ?_
      refine rn ?_
      refine sr ?_
      refine ts (mv rfl) ?_
      obtain ⟨x11, hx11, h⟩ := bnd h
      refine ts (cln (f := fun _ => false) kf rfl (.c rfl le1 .n) (curOf_nil _) (ref27_CheckNest_ok hx11) rfl) ?_
      refine ts (mv rfl) ?_
      refine ts (ex_ rfl rfl) ?_
      refine ts (ex_ rfl rfl) ?_
      refine ts (as_ rfl) ?_
      refine ts (as_ rfl) ?_
      refine rn ?_
      refine CWp.seq ?_
      refine sr ?_
      refine ts (mv rfl) ?_
      refine ts (mv rfl) ?_
      refine ts (neq rfl rfl) ?_
      refine ts (mv rfl) ?_
      refine sg 4 [(46, .d (.bool ((x6.2 != x11.2) || (x6.1 != x11.1))))] ?_ ?_
      · rcases bool_or (x6.2 != x11.2) with g12 | g13
        · refine un (gn rfl rfl g12) ?_
          refine un (gn rfl rfl g12) ?_
          refine un (gn rfl rfl g12) ?_
          refine ts (pt rfl g12 rfl) ?_
          exact rn (trD 4 rfl (.c (bq (or_t g12)) .n) (by kernel_rfl))
        · refine us (gy rfl rfl g13) (mv rfl) ?_
          refine us (gy rfl rfl g13) (mv rfl) ?_
          refine us (gy rfl rfl g13) (neq rfl rfl) ?_
          refine ts (pf rfl g13 rfl) ?_
          exact rn (trD 4 rfl (.c (bq (or_f g13)) .n) (by kernel_rfl))
      refine rn ?_
      rcases ite h with ⟨c14, h⟩ | ⟨c14, h⟩
      · refine ct rfl c14 ?_
        refine sr ?_
        refine ts (ac rfl rfl) ?_
        refine rn ?_
        refine CWp.ret ?_
        obtain rfl := some_inj h
        exact ⟨trivial, rt1 (ex := false) (by exact (.t rfl .n)) (by exact (gd (by rfl))) (by rfl) (by rfl)⟩
      · refine cf rfl (vf c14) ?_
        refine CWp.skip ?_
        refine CWp.seq ?_
        refine sr ?_
        refine ts (mv rfl) ?_
        refine ts (neq rfl rfl) ?_
        refine rn ?_
        rcases ite h with ⟨c15, h⟩ | ⟨c15, h⟩
        · refine ct rfl (nt c15) ?_
          refine sr ?_
          refine ts (mv rfl) ?_
          refine ts (mv rfl) ?_
          refine ts (eql rfl rfl) ?_
          refine ts (mv rfl) ?_
          refine sg 4 [(56, .d (.bool ((x8.2 == x11.2) && (x10.2 == x11.2))))] ?_ ?_
          · rcases bool_or (x8.2 == x11.2) with g16 | g17
            · refine us (gy rfl rfl g16) (mv rfl) ?_
              refine us (gy rfl rfl g16) (mv rfl) ?_
              refine us (gy rfl rfl g16) (eql rfl rfl) ?_
              refine ts (pt rfl g16 rfl) ?_
              exact rn (trD 4 rfl (.c (bq (and_t g16)) .n) (by kernel_rfl))
            · refine un (gn rfl rfl g17) ?_
              refine un (gn rfl rfl g17) ?_
              refine un (gn rfl rfl g17) ?_
              refine ts (pf rfl g17 rfl) ?_
              exact rn (trD 4 rfl (.c (bq (and_f g17)) .n) (by kernel_rfl))
          refine ts (mv rfl) ?_
          refine sg 7 [(64, .d (.bool (((x8.2 == x11.2) && (x10.2 == x11.2)) && ((w ((x8.1.length : Int) + (x10.1.length : Int))) == 0))))] ?_ ?_
          · rcases bool_or ((x8.2 == x11.2) && (x10.2 == x11.2)) with g18 | g19
            · refine us (gy rfl rfl g18) (mv rfl) ?_
              refine us (gy rfl rfl g18) (lnD lT56 rfl rfl) ?_
              refine us (gy rfl rfl g18) (mv rfl) ?_
              refine us (gy rfl rfl g18) (lnD lT35 rfl rfl) ?_
              refine us (gy rfl rfl g18) (add rfl rfl) ?_
              refine us (gy rfl rfl g18) (eql rfl rfl) ?_
              refine ts (pt rfl g18 rfl) ?_
              exact rn (trD 7 rfl (.c (bq (and_t g18)) .n) (by kernel_rfl))
            · refine un (gn rfl rfl g19) ?_
              refine un (gn rfl rfl g19) ?_
              refine un (gn rfl rfl g19) ?_
              refine un (gn rfl rfl g19) ?_
              refine un (gn rfl rfl g19) ?_
              refine un (gn rfl rfl g19) ?_
              refine ts (pf rfl g19 rfl) ?_
              exact rn (trD 7 rfl (.c (bq (and_f g19)) .n) (by kernel_rfl))
          refine ts (as_ rfl) ?_
          refine rn ?_
          refine CWp.ret ?_
          obtain rfl := some_inj h
          exact ⟨trivial, rt1 (ex := false) (by exact (.t rfl .n)) (by exact (gd (by rfl))) (by rfl) (by rfl)⟩
        · refine cf rfl (nf c15) ?_
          refine CWp.skip ?_
          refine sr ?_
          refine ts (mv rfl) ?_
          refine ts (eql rfl rfl) ?_
          refine ts (mv rfl) ?_
          rcases ite h with ⟨c20, h⟩ | ⟨c20, h⟩
          · refine us (gy rfl rfl (et c20)) (mv rfl) ?_
            refine us (gy rfl rfl (et c20)) (mv rfl) ?_
            obtain ⟨x21, hx21, h⟩ := bnd h
            refine us (gy rfl rfl (et c20)) (cln (f := fun _ => false) kf rfl (.c rfl le1 .n) (curOf_nil _) (ref27_Hulls_ok hx21) rfl) ?_
            obtain ⟨x22, hx22, h⟩ := bnd h
            refine us (gy rfl rfl (et c20)) (cln (f := fun _ => false) kf rfl (.c rfl le1 (.c rfl le1 .n)) (curOf_nil _) (ref27_SameHulls_ok hx22) rfl) ?_
            refine ts (pt rfl (et c20) rfl) ?_
            refine ts (mv rfl) ?_
            refine sg 3 [(76, .d (.bool (x22 && (x10.2 == 0))))] ?_ ?_
            · rcases bool_or x22 with g23 | g24
              · refine us (gy rfl rfl g23) (mv rfl) ?_
                refine us (gy rfl rfl g23) (eql rfl rfl) ?_
                refine ts (pt rfl g23 rfl) ?_
                exact rn (trD 3 rfl (.c (bq (and_t g23)) .n) (by kernel_rfl))
              · refine un (gn rfl rfl g24) ?_
                refine un (gn rfl rfl g24) ?_
                refine ts (pf rfl g24 rfl) ?_
                exact rn (trD 3 rfl (.c (bq (and_f g24)) .n) (by kernel_rfl))
            refine ts (mv rfl) ?_
            rcases ite h with ⟨c25, h⟩ | ⟨c25, h⟩
            · refine us (gy rfl rfl c25) (mv rfl) ?_
              refine us (gy rfl rfl c25) (mv rfl) ?_
              obtain ⟨x26, hx26, h⟩ := bnd h
              refine us (gy rfl rfl c25) (cln (f := fun _ => false) kf rfl (.c rfl le1 .n) (curOf_nil _) (ref27_Points_ok hx26) rfl) ?_
              obtain ⟨x27, hx27, h⟩ := bnd h
              refine us (gy rfl rfl c25) (cln (f := fun _ => false) kf rfl (.c rfl le1 (.c rfl le1 .n)) (curOf_nil _) (base_Lists_ok hx27) rfl) ?_
              refine ts (pt rfl c25 rfl) ?_
              refine ts (as_ rfl) ?_
              refine rn ?_
              refine CWp.ret ?_
              obtain rfl := some_inj h
              exact ⟨trivial, rt1 (ex := false) (by exact (.t rfl .n)) (by exact (gd (by rfl))) (by rfl) (by rfl)⟩
            · refine un (gn rfl rfl (vf c25)) ?_
              refine un (gn rfl rfl (vf c25)) ?_
              refine un (gn rfl rfl (vf c25)) ?_
              refine un (gn rfl rfl (vf c25)) ?_
              refine ts (pf rfl (vf c25) rfl) ?_
              refine ts (as_ rfl) ?_
              refine rn ?_
              refine CWp.ret ?_
              obtain rfl := some_inj h
              exact ⟨trivial, rt1 (ex := false) (by exact (.t rfl .n)) (by exact (gd (by rfl))) (by rfl) (by rfl)⟩
          · refine un (gn rfl rfl (ef c20)) ?_
            refine un (gn rfl rfl (ef c20)) ?_
            refine un (gn rfl rfl (ef c20)) ?_
            refine un (gn rfl rfl (ef c20)) ?_
            refine ts (pf rfl (ef c20) rfl) ?_
            refine ts (mv rfl) ?_
            refine un (gn rfl rfl rfl) ?_
            refine un (gn rfl rfl rfl) ?_
            refine ts (pf rfl rfl rfl) ?_
            refine ts (mv rfl) ?_
            refine un (gn rfl rfl rfl) ?_
            refine un (gn rfl rfl rfl) ?_
            refine un (gn rfl rfl rfl) ?_
            refine un (gn rfl rfl rfl) ?_
            refine ts (pf rfl rfl rfl) ?_
            refine ts (as_ rfl) ?_
            refine rn ?_
            refine CWp.ret ?_
            obtain rfl := some_inj h
            exact ⟨trivial, rt1 (ex := false) (by exact (.t rfl .n)) (by exact (gd (by rfl))) (by rfl) (by rfl)⟩
end Go.Proofs.YtiidkobbkanciaaGreat
