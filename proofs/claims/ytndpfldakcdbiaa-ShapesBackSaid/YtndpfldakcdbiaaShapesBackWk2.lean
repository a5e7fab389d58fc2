/- The walks: the program does what the functions in plain form say. Part 2. -/
import Derived.Test.YtndpfldakcdbiaaShapesBackWk1
set_option linter.all false
namespace Go.Proofs.Ytndpfldakcdbiaa
open Go.Lx Go.Sh
set_option linter.unusedVariables false
set_option maxRecDepth 100000
set_option maxHeartbeats 2000000
theorem shapes_Reshape_ok {p0 : api_Array} {p1 : api_Reshape} {out : Out} {r : api_Array × Int} (h : shapes_Reshape p0 p1 = some r) : FunOk PP 7 [.d (api_Array.d p0), .d (api_Reshape.d p1)] out ⟨.tup [.d (api_Array.d r.1), .d (.int .i64 r.2)], []⟩ := by
  unfold shapes_Reshape at h
  refine fi Try.func7 rfl (by kernel_rfl) (by kernel_rfl) (by kernel_rfl) ?_
  refine sr ?_
  refine ts (bxI rfl) ?_
  refine ts (bxI rfl) ?_
  refine ta (al (n := 0) zT25 rfl) ?_
  refine ts (ac rfl rfl) ?_
  refine rn ?_
  refine CWp.seq ?_
  refine sd mixed (b := [0, 1, 3, 0, 15, 31, 63, 127]) (by kernel_rfl) ?_
  refine ds (ldIW aT25 rfl rfl rfl) rfl ?_
  refine ds (bsT (l := (([p0] : List api_Array).map api_Array.d)) lT92 rfl rfl rfl (by kernel_rfl)) rfl ?_
  obtain ⟨x1, hx1, h⟩ := bnd h
  refine dr (cln (f := fun _ => false) kf rfl (.c rfl le2 .n) (curOf_nil _) (shapes_arraysErr_ok hx1) rfl) rfl ?_
  refine ds (ldIW aT27 rfl rfl rfl) rfl ?_
  obtain ⟨x2, hx2, h⟩ := bnd h
  refine dr (cln (f := fun _ => false) kf rfl (.c rfl le1 .n) (curOf_nil _) (shapes_reshapeErr_ok hx2) rfl) rfl ?_
  refine ds (bsT (l := (([x1, x2] : List Int).map dI)) lT91 rfl rfl rfl (by kernel_rfl)) rfl ?_
  obtain ⟨x3, hx3, h⟩ := bnd h
  refine dr (cln (f := fun _ => false) kf rfl (.c rfl le2 .n) (curOf_nil _) (cmp_Or_api_Errno_ok hx3) rfl) rfl ?_
  refine ds (as_ rfl) rfl ?_
  refine dn (by kernel_rfl) ?_
  refine sr ?_
  refine ts (mv rfl) ?_
  refine ts (neq rfl rfl) ?_
  refine rn ?_
  rcases ite h with ⟨c4, h⟩ | ⟨c4, h⟩
  · refine ct rfl (nt c4) ?_
    refine sr ?_
    refine ts ((bld (v := .d (.agg [.nilsl, .nilsl])) rfl (by kernel_rfl)).wk (x' := api_Array.d (api_Array.mk [] [])) rfl) ?_
    refine ts (mv rfl) ?_
    refine tt0 (stW aT25 rfl rfl rfl rfl rfl rfl .h) ?_
    refine ts (as_ rfl) ?_
    refine rn ?_
    refine CWp.ret ?_
    obtain rfl := some_inj h
    exact ⟨trivial, rt2 (ex := false) (by exact (rcW aT25 rfl (ow rfl) rfl rfl (.t rfl .n))) (by exact (sc (gd (by rfl)) (sc (gd (by rfl)) sn))) (by rfl) (by rfl)⟩
  · refine cf rfl (nf c4) ?_
    refine CWp.skip ?_
    refine sr ?_
    refine ts (faI fT27_0 rfl rfl) ?_
    refine ts (ldI sT23 rfl rfl) ?_
    obtain ⟨x5, hx5, h⟩ := bnd h
    refine ts (cln (f := fun _ => false) kf rfl (.c rfl le1 .n) (curOf_nil _) (shapes_product_ok hx5) rfl) ?_
    refine ts (as_ rfl) ?_
    refine rn ?_
    refine CWp.seq ?_
    refine sr ?_
    refine ts (mv rfl) ?_
    refine ts (faI fT25_1 rfl rfl) ?_
    refine ts (ldI sT23 rfl rfl) ?_
    refine ts (lnD lT23 rfl rfl) ?_
    refine ts (gtr rfl rfl) ?_
    refine ts (mv rfl) ?_
    refine sg 5 [(43, .d (.bool ((decide (x5 > (p0.Elements.length : Int))) && ((p1.Pad.length : Int) == 0))))] ?_ ?_
    · rcases bool_or (decide (x5 > (p0.Elements.length : Int))) with g6 | g7
      · refine us (gy rfl rfl g6) (faI fT27_2 rfl rfl) ?_
        refine us (gy rfl rfl g6) (ldI sT23 rfl rfl) ?_
        refine us (gy rfl rfl g6) (lnD lT23 rfl rfl) ?_
        refine us (gy rfl rfl g6) (eql rfl rfl) ?_
        refine ts (pt rfl g6 rfl) ?_
        exact rn (trD 5 rfl (.c (bq (and_t g6)) .n) (by kernel_rfl))
      · refine un (gn rfl rfl g7) ?_
        refine un (gn rfl rfl g7) ?_
        refine un (gn rfl rfl g7) ?_
        refine un (gn rfl rfl g7) ?_
        refine ts (pf rfl g7 rfl) ?_
        exact rn (trD 5 rfl (.c (bq (and_f g7)) .n) (by kernel_rfl))
    refine rn ?_
    rcases ite h with ⟨c8, h⟩ | ⟨c8, h⟩
    · refine ct rfl c8 ?_
      refine sr ?_
      refine ts ((bld (v := .d (.agg [.nilsl, .nilsl])) rfl (by kernel_rfl)).wk (x' := api_Array.d (api_Array.mk [] [])) rfl) ?_
      refine tt0 (stW aT25 rfl rfl rfl rfl rfl rfl .h) ?_
      refine ts (ac rfl rfl) ?_
      refine rn ?_
      refine CWp.ret ?_
      obtain rfl := some_inj h
      exact ⟨trivial, rt2 (ex := false) (by exact (rcW aT25 rfl (ow rfl) rfl rfl (.t rfl .n))) (by exact (sc (gd (by rfl)) (sc (gd (by rfl)) sn))) (by rfl) (by rfl)⟩
    · refine cf rfl (vf c8) ?_
      refine CWp.skip ?_
      refine sr ?_
      refine ts (faI fT27_1 rfl rfl) ?_
      refine ts (ldI sT23 rfl rfl) ?_
      refine ts (faI fT27_0 rfl rfl) ?_
      refine ts (ldI sT23 rfl rfl) ?_
      refine ts (lnD lT23 rfl rfl) ?_
      obtain ⟨x9, hx9, h⟩ := bnd h
      refine ts (cln (f := fun _ => false) kf rfl (.c rfl le1 (.c rfl le1 .n)) (curOf_nil _) (shapes_orderOf_ok hx9) rfl) ?_
      refine ts (mv rfl) ?_
      refine ts (ex_ rfl rfl) ?_
      refine ts (ex_ rfl rfl) ?_
      refine ts (as_ rfl) ?_
      refine ts (as_ rfl) ?_
      refine rn ?_
      refine sr ?_
      refine ts (faI fT27_0 rfl rfl) ?_
      refine ts (ldI sT23 rfl rfl) ?_
      obtain ⟨x10, hx10, h⟩ := bnd h
      refine ts (cln (f := fun _ => false) kf rfl (.c rfl le1 .n) (curOf_nil _) (shapes_strides_ok hx10) rfl) ?_
      refine ts (as_ rfl) ?_
      refine rn ?_
      refine sr ?_
      refine ta (an (n := 0) lT23 rfl) ?_
      refine rn ?_
      refine CWp.seq ?_
      refine sr ?_
      refine ts (mv rfl) ?_
      refine ts (lnD lT23 rfl rfl) ?_
      refine ts (mv rfl) ?_
      refine rn ?_
      obtain ⟨z16, hz16, h⟩ := bnd h
      refine lb (E := fun s11 => [(2, .pimm (api_Array.d p0) 0), (3, .pimm (api_Reshape.d p1) 0), (4, .bptr ⟨out.length, 4, 0⟩ 0), (7, .d (.int .i64 x5)), (8, .d (.sl (x9.1.map dI))), (10, .d (.sl (x10.map dI))), (11, .ref ⟨out.length, 11, 0⟩ 0 s11.2.length s11.2.length), (57, .d (.sl (x9.1.map dI))), (58, .d (.int .i64 (x9.1.length : Int))), (59, .d (.int .i64 s11.1))]) (M := fun s11 => ⟨[((4, 0), .box [.d .nilsl, .d .nilsl]), ((11, 0), .arr 1 false (s11.2.map dI))], out, []⟩) (E' := fun y => [(2, .pimm (api_Array.d p0) 0), (3, .pimm (api_Reshape.d p1) 0), (4, .bptr ⟨out.length, 4, 0⟩ 0), (7, .d (.int .i64 x5)), (8, .d (.sl (x9.1.map dI))), (10, .d (.sl (x10.map dI))), (11, .ref ⟨out.length, 11, 0⟩ 0 y.length y.length)]) (M' := fun y => ⟨[((4, 0), .box [.d .nilsl, .d .nilsl]), ((11, 0), .arr 1 false (y.map dI))], out, []⟩) hz16 (by (try simp only [List.length_set, copied_len]); exact trk (by kernel_rfl) (by kernel_rfl) (by kernel_rfl)) ?_ ?_
      · intro s11 ww h
        unfold shapes_Reshape.s1 at h
        refine sr ?_
        refine ts (lss rfl rfl) ?_
        refine rn ?_
        refine CWp.seq ?_
        rcases ite h with ⟨c12, h⟩ | ⟨c12, h⟩
        · refine ct rfl (bt c12) ?_
          refine CWp.skip ?_
          refine CWp.seq ?_
          refine CWp.block ?_
          refine sr ?_
          obtain ⟨x13, hx13, h⟩ := bnd h
          refine ts (ixD lT23 szI rfl rfl hx13) ?_
          refine ts (ldI sT3 rfl rfl) ?_
          refine ts (as_ rfl) ?_
          refine rn ?_
          refine lr ?_
          refine ts (mv rfl) ?_
          refine ts (faI fT27_0 rfl rfl) ?_
          refine ts (ldI sT23 rfl rfl) ?_
          refine ts (mv rfl) ?_
          obtain ⟨x14, hx14, h⟩ := bnd h
          refine ts (ixD lT23 szI rfl rfl hx14) ?_
          refine ts (ldI sT3 rfl rfl) ?_
          refine ts (bsT (l := (([x14] : List Int).map dI)) lT23 rfl rfl rfl (by kernel_rfl)) ?_
          obtain ⟨x15, hx15, h⟩ := bnd h
          refine tp (apG (ys := ([x14] : List Int)) (xs := s11.2) (f := dI) lT23 uT23 szI rfl rfl rfl elT (ow rfl) hx15 (so (.s rfl .h))) ?_
          refine ts (as_ rfl) ?_
          refine rn ?_
          refine lr ?_
          refine ts (add rfl rfl) ?_
          refine ts (mv rfl) ?_
          refine rn ?_
          obtain rfl := some_inj h
          exact ⟨rfl, (by (try simp only [List.length_set, copied_len]); exact trk (by kernel_rfl) (by kernel_rfl) (by kernel_rfl))⟩
        · refine cf rfl (bf c12) ?_
          refine CWp.exit ?_
          obtain rfl := some_inj h
          exact ⟨rfl, (by (try simp only [List.length_set, copied_len]); exact trk (by kernel_rfl) (by kernel_rfl) (by kernel_rfl))⟩
      · intro e s ht
        refine CWp.trim ht ?_
        refine sd mixed (b := [0, 1, 3, 0, 8, 31, 0, 127]) (by kernel_rfl) ?_
        refine ds (faI fT27_0 rfl rfl) rfl ?_
        refine ds (ldI sT23 rfl rfl) rfl ?_
        obtain ⟨x17, hx17, h⟩ := bnd h
        refine dr (cln (f := fun _ => false) kf rfl (.c rfl le1 .n) (curOf_nil _) (shapes_from_ok hx17) rfl) rfl ?_
        refine ds (mv rfl) rfl ?_
        obtain ⟨x18, hx18, h⟩ := bnd h
        refine da (ms_ (f := dI) (a := 0) (nn := 0) lT23 rfl rfl hx18 rfl) rfl ?_
        refine es rfl (bld (v := .agg [.d (.sl (x17.map api_Bound.d)), .ref ⟨out.length, 76, 0⟩ 0 x18.length x18.length]) rfl (by kernel_rfl)) rfl ?_
        refine ea rfl (al (n := 0) zT25 rfl) rfl ?_
        refine et0 rfl (stW aT25 rfl rfl rfl rfl rfl rfl .h) (by kernel_rfl) rfl ?_
        refine dn (by kernel_rfl) ?_
        refine CWp.seq ?_
        refine sr ?_
        refine ts (mv rfl) ?_
        refine ts (mv rfl) ?_
        refine rn ?_
        refine CWp.trim (Le.lent (t := 11) (n := 0) rfl (.s rfl (.s rfl (.s rfl .h)))) ?_
        obtain ⟨z35, hz35, h⟩ := bnd h
        refine lb (E := fun s19 => [(2, .pimm (api_Array.d p0) 0), (3, .pimm (api_Reshape.d p1) 0), (4, .bptr ⟨out.length, 4, 0⟩ 0), (8, .d (.sl (x9.1.map dI))), (10, .d (.sl (x10.map dI))), (11, .ref ⟨out.length, 11, 0⟩ 0 z16.length z16.length), (14, .bptr ⟨out.length, 14, 0⟩ 0), (78, .d (.int .i64 x5)), (79, .d (.int .i64 s19.1))]) (M := fun s19 => ⟨[((4, 0), .box [.d .nilsl, .d .nilsl]), ((11, 0), .arr 1 true (z16.map dI)), ((14, 0), .box [.d (.sl (x17.map api_Bound.d)), .ref ⟨out.length, 76, 0⟩ 0 s19.2.length s19.2.length]), ((76, 0), .arr 1 false (s19.2.map dI))], out, []⟩) (E' := fun y => [(4, .bptr ⟨out.length, 4, 0⟩ 0), (14, .bptr ⟨out.length, 14, 0⟩ 0)]) (M' := fun y => ⟨[((4, 0), .box [.d .nilsl, .d .nilsl]), ((14, 0), .box [.d (.sl (x17.map api_Bound.d)), .ref ⟨out.length, 76, 0⟩ 0 y.length y.length]), ((76, 0), .arr 1 false (y.map dI))], out, []⟩) hz35 (by (try simp only [List.length_set, copied_len]); exact trk (by kernel_rfl) (by kernel_rfl) (by kernel_rfl)) ?_ ?_
        · intro s19 ww h
          unfold shapes_Reshape.s2 at h
          refine sr ?_
          refine ts (lss rfl rfl) ?_
          refine rn ?_
          refine CWp.seq ?_
          rcases ite h with ⟨c20, h⟩ | ⟨c20, h⟩
          · refine ct rfl (bt c20) ?_
            refine CWp.skip ?_
            refine CWp.seq ?_
            refine CWp.block ?_
            refine sr ?_
            refine ts (mv rfl) ?_
            refine ts (as_ rfl) ?_
            refine rn ?_
            refine sr ?_
            refine ts (ac rfl rfl) ?_
            refine rn ?_
            refine CWp.seq ?_
            refine sr ?_
            refine ts (mv rfl) ?_
            refine ts (mv rfl) ?_
            obtain ⟨x21, hx21, h⟩ := bnd h
            refine ts (cln (f := fun _ => false) kf rfl (.c rfl (le3 rfl (ow rfl)) (.c rfl le1 .n)) (curOf_nil _) (shapes_digits_ok hx21) rfl) ?_
            refine ts (lnD lT23 rfl rfl) ?_
            refine ts (mv rfl) ?_
            refine rn ?_
            obtain ⟨z27, hz27, h⟩ := bnd h
            refine lb (E := fun s22 => [(2, .pimm (api_Array.d p0) 0), (3, .pimm (api_Reshape.d p1) 0), (4, .bptr ⟨out.length, 4, 0⟩ 0), (8, .d (.sl (x9.1.map dI))), (10, .d (.sl (x10.map dI))), (11, .ref ⟨out.length, 11, 0⟩ 0 z16.length z16.length), (14, .bptr ⟨out.length, 14, 0⟩ 0), (15, .d (.int .i64 s19.1)), (16, .d (.int .i64 s22.1)), (78, .d (.int .i64 x5)), (79, .d (.int .i64 s19.1)), (84, .d (.sl (x21.map dI))), (85, .d (.int .i64 (x21.length : Int))), (86, .d (.int .i64 s22.2))]) (M := fun s22 => ⟨[((4, 0), .box [.d .nilsl, .d .nilsl]), ((11, 0), .arr 1 true (z16.map dI)), ((14, 0), .box [.d (.sl (x17.map api_Bound.d)), .ref ⟨out.length, 76, 0⟩ 0 s19.2.length s19.2.length]), ((76, 0), .arr 1 false (s19.2.map dI))], out, []⟩) (E' := fun y => [(2, .pimm (api_Array.d p0) 0), (3, .pimm (api_Reshape.d p1) 0), (4, .bptr ⟨out.length, 4, 0⟩ 0), (8, .d (.sl (x9.1.map dI))), (10, .d (.sl (x10.map dI))), (11, .ref ⟨out.length, 11, 0⟩ 0 z16.length z16.length), (14, .bptr ⟨out.length, 14, 0⟩ 0), (15, .d (.int .i64 s19.1)), (16, .d (.int .i64 y)), (78, .d (.int .i64 x5)), (79, .d (.int .i64 s19.1))]) (M' := fun y => ⟨[((4, 0), .box [.d .nilsl, .d .nilsl]), ((11, 0), .arr 1 true (z16.map dI)), ((14, 0), .box [.d (.sl (x17.map api_Bound.d)), .ref ⟨out.length, 76, 0⟩ 0 s19.2.length s19.2.length]), ((76, 0), .arr 1 false (s19.2.map dI))], out, []⟩) hz27 (by (try simp only [List.length_set, copied_len]); exact trk (by kernel_rfl) (by kernel_rfl) (by kernel_rfl)) ?_ ?_
            · intro s22 ww h
              unfold shapes_Reshape.s3 at h
              refine sr ?_
              refine ts (lss rfl rfl) ?_
              refine rn ?_
              refine CWp.seq ?_
              rcases ite h with ⟨c23, h⟩ | ⟨c23, h⟩
              · refine ct rfl (bt c23) ?_
                refine CWp.skip ?_
                refine CWp.seq ?_
                refine CWp.block ?_
                refine sr ?_
                refine ts (mv rfl) ?_
                obtain ⟨x24, hx24, h⟩ := bnd h
                refine ts (ixD lT23 szI rfl rfl hx24) ?_
                refine ts (ldI sT3 rfl rfl) ?_
                refine ts (as_ rfl) ?_
                refine ts (as_ rfl) ?_
                refine rn ?_
                refine lr ?_
                refine ts (mv rfl) ?_
                refine ts (mv rfl) ?_
                refine ts (mv rfl) ?_
                refine ts (mv rfl) ?_
                obtain ⟨x25, hx25, h⟩ := bnd h
                refine ts (ixD lT23 szI rfl rfl hx25) ?_
                refine ts (ldI sT3 rfl rfl) ?_
                obtain ⟨x26, hx26, h⟩ := bnd h
                refine ts (ixD lT23 szI rfl rfl hx26) ?_
                refine ts (ldI sT3 rfl rfl) ?_
                refine ts (mv rfl) ?_
                refine ts (mul rfl rfl) ?_
                refine ts (add rfl rfl) ?_
                refine ts (as_ rfl) ?_
                refine rn ?_
                refine lr ?_
                refine ts (add rfl rfl) ?_
                refine ts (mv rfl) ?_
                refine rn ?_
                obtain rfl := some_inj h
                exact ⟨rfl, (by (try simp only [List.length_set, copied_len]); exact trk (by kernel_rfl) (by kernel_rfl) (by kernel_rfl))⟩
              · refine cf rfl (bf c23) ?_
                refine CWp.exit ?_
                obtain rfl := some_inj h
                exact ⟨rfl, (by (try simp only [List.length_set, copied_len]); exact trk (by kernel_rfl) (by kernel_rfl) (by kernel_rfl))⟩
            · intro e s ht
              refine CWp.trim ht ?_
              refine sr ?_
              refine ts (mv rfl) ?_
              refine ts (faI fT25_1 rfl rfl) ?_
              refine ts (ldI sT23 rfl rfl) ?_
              refine ts (lnD lT23 rfl rfl) ?_
              refine ts (lss rfl rfl) ?_
              refine rn ?_
              rcases ite h with ⟨c28, h⟩ | ⟨c28, h⟩
              · refine ct rfl (bt c28) ?_
                refine ld_ mixed (b := [0, 1, 0, 0, 8, 0, 56, 120, 255, 511]) (by kernel_rfl) ?_
                refine ds (fa fT25_1 rfl rfl) rfl ?_
                refine dr (ld sT23 rfl (ow rfl) rfl) rfl ?_
                refine ds (mv rfl) rfl ?_
                refine ds (faI fT25_1 rfl rfl) rfl ?_
                refine ds (ldI sT23 rfl rfl) rfl ?_
                refine ds (mv rfl) rfl ?_
                obtain ⟨x29, hx29, h⟩ := bnd h
                refine ds (ixD lT23 szI rfl rfl hx29) rfl ?_
                refine ds (ldI sT3 rfl rfl) rfl ?_
                obtain ⟨x30, hx30, h⟩ := bnd h
                refine dr (ixR lT23 rfl rfl rfl (ow rfl) hx30) rfl ?_
                refine dt0 (stE (b := x29) sT3 rfl rfl rfl rfl rfl hx30 rfl rfl (.s rfl (.s rfl (.s rfl .h)))) rfl ?_
                refine dn (by kernel_rfl) ?_
                refine lr ?_
                refine ts (add rfl rfl) ?_
                refine ts (mv rfl) ?_
                refine rn ?_
                obtain rfl := some_inj h
                exact ⟨rfl, (by (try simp only [List.length_set, copied_len]); exact trk (by kernel_rfl) (by kernel_rfl) (by kernel_rfl))⟩
              · refine cf rfl (bf c28) ?_
                refine ld_ mixed (b := [0, 1, 0, 0, 8, 0, 0, 64, 192, 480, 0, 1024, 3072, 8160, 16376, 32760, 65535, 131071]) (by kernel_rfl) ?_
                refine ds (fa fT25_1 rfl rfl) rfl ?_
                refine dr (ld sT23 rfl (ow rfl) rfl) rfl ?_
                refine ds (mv rfl) rfl ?_
                refine ds (faI fT27_2 rfl rfl) rfl ?_
                refine ds (ldI sT23 rfl rfl) rfl ?_
                refine ds (mv rfl) rfl ?_
                refine ds (faI fT25_1 rfl rfl) rfl ?_
                refine ds (ldI sT23 rfl rfl) rfl ?_
                refine ds (lnD lT23 rfl rfl) rfl ?_
                refine ds (sub rfl rfl) rfl ?_
                refine ds (faI fT27_2 rfl rfl) rfl ?_
                refine ds (ldI sT23 rfl rfl) rfl ?_
                refine ds (lnD lT23 rfl rfl) rfl ?_
                obtain ⟨x31, hx31, h⟩ := bnd h
                refine ds (rem_ rfl rfl hx31) rfl ?_
                obtain ⟨x32, hx32, h⟩ := bnd h
                refine ds (ixD lT23 szI rfl rfl hx32) rfl ?_
                refine ds (ldI sT3 rfl rfl) rfl ?_
                obtain ⟨x33, hx33, h⟩ := bnd h
                refine dr (ixR lT23 rfl rfl rfl (ow rfl) hx33) rfl ?_
                refine dt0 (stE (b := x32) sT3 rfl rfl rfl rfl rfl hx33 rfl rfl (.s rfl (.s rfl (.s rfl .h)))) rfl ?_
                refine dn (by kernel_rfl) ?_
                refine lr ?_
                refine ts (add rfl rfl) ?_
                refine ts (mv rfl) ?_
                refine rn ?_
                obtain rfl := some_inj h
                exact ⟨rfl, (by (try simp only [List.length_set, copied_len]); exact trk (by kernel_rfl) (by kernel_rfl) (by kernel_rfl))⟩
          · refine cf rfl (bf c20) ?_
            refine CWp.exit ?_
            obtain rfl := some_inj h
            exact ⟨rfl, (by (try simp only [List.length_set, copied_len]); exact trk (by kernel_rfl) (by kernel_rfl) (by kernel_rfl))⟩
        · intro e s ht
          refine CWp.trim ht ?_
          refine sr ?_
          refine ts (ldA (v := .agg [.d (.sl (x17.map api_Bound.d)), .ref ⟨out.length, 76, 0⟩ 0 z35.length z35.length]) aT25 rfl (ow rfl) (by kernel_rfl)) ?_
          refine tt0 (stW aT25 rfl rfl rfl rfl rfl rfl .h) ?_
          refine ts (ac rfl rfl) ?_
          refine rn ?_
          refine CWp.ret ?_
          obtain rfl := some_inj h
          exact ⟨trivial, rt2 (ex := false) (by exact (rcA (v := .agg [.d (.sl (x17.map api_Bound.d)), .ref ⟨out.length, 76, 0⟩ 0 z35.length z35.length]) aT25 rfl (ow rfl) (by kernel_rfl) (.t rfl .n))) (by exact (sc (ga (sc (gd (by rfl)) (sc (gf rfl rfl) sn)) rfl) (sc (gd (by rfl)) sn))) (by rfl) (by rfl)⟩
theorem slices_Max_int_ok {p0 : (List Int)} {out : Out} {r : Int} (h : slices_Max_int p0 = some r) : FunOk PP 68 [.d (.sl (p0.map dI))] out ⟨.d (.int .i64 r), []⟩ := by
  unfold slices_Max_int at h
  refine fi Try.func68 rfl (by kernel_rfl) (by kernel_rfl) (by kernel_rfl) ?_
  refine sr ?_
  refine ts (ac rfl rfl) ?_
  refine rn ?_
  refine CWp.seq ?_
  refine sr ?_
  refine ts (mv rfl) ?_
  refine ts (lnD lT23 rfl rfl) ?_
  refine ts (lss rfl rfl) ?_
  refine rn ?_
  rcases ite h with ⟨c1, h⟩ | ⟨c1, h⟩
  · refine ct rfl (bt c1) ?_
    refine lr ?_
    cases h
  · refine cf rfl (bf c1) ?_
    refine CWp.skip ?_
    refine sr ?_
    refine ts (mv rfl) ?_
    obtain ⟨x2, hx2, h⟩ := bnd h
    refine ts (ixD lT23 szI rfl rfl hx2) ?_
    refine ts (ldI sT3 rfl rfl) ?_
    refine ts (as_ rfl) ?_
    refine rn ?_
    refine CWp.seq ?_
    refine sr ?_
    refine ts (ac rfl rfl) ?_
    refine rn ?_
    obtain ⟨z6, hz6, h⟩ := bnd h
    refine lb (E := fun s3 => [(0, .d (.sl (p0.map dI))), (3, .d (.int .i64 s3.1)), (4, .d (.int .i64 s3.2))]) (M := fun s3 => ⟨[], out, []⟩) (E' := fun y => [(3, .d (.int .i64 y))]) (M' := fun y => ⟨[], out, []⟩) hz6 (by (try simp only [List.length_set, copied_len]); exact trk (by kernel_rfl) (by kernel_rfl) (by kernel_rfl)) ?_ ?_
    · intro s3 ww h
      unfold slices_Max_int.s1 at h
      refine CWp.seq ?_
      refine sr ?_
      refine ts (mv rfl) ?_
      refine ts (mv rfl) ?_
      refine ts (lnD lT23 rfl rfl) ?_
      refine ts (lss rfl rfl) ?_
      refine rn ?_
      rcases ite h with ⟨c4, h⟩ | ⟨c4, h⟩
      · refine ct rfl (bt c4) ?_
        refine CWp.skip ?_
        refine CWp.seq ?_
        refine CWp.block ?_
        refine lr ?_
        refine ts (mv rfl) ?_
        refine ts (mv rfl) ?_
        refine ts (mv rfl) ?_
        obtain ⟨x5, hx5, h⟩ := bnd h
        refine ts (ixD lT23 szI rfl rfl hx5) ?_
        refine ts (ldI sT3 rfl rfl) ?_
        refine ts (mx_ rfl) ?_
        refine ts (as_ rfl) ?_
        refine rn ?_
        refine lr ?_
        refine ts (mv rfl) ?_
        refine ts (add rfl rfl) ?_
        refine ts (as_ rfl) ?_
        refine rn ?_
        obtain rfl := some_inj h
        exact ⟨rfl, (by (try simp only [List.length_set, copied_len]); exact trk (by kernel_rfl) (by kernel_rfl) (by kernel_rfl))⟩
      · refine cf rfl (bf c4) ?_
        refine CWp.exit ?_
        obtain rfl := some_inj h
        exact ⟨rfl, (by (try simp only [List.length_set, copied_len]); exact trk (by kernel_rfl) (by kernel_rfl) (by kernel_rfl))⟩
    · intro e s ht
      refine CWp.trim ht ?_
      refine sr ?_
      refine ts (mv rfl) ?_
      refine ts (as_ rfl) ?_
      refine rn ?_
      refine CWp.ret ?_
      obtain rfl := some_inj h
      exact ⟨trivial, rt1 (ex := false) (by exact (.t rfl .n)) (by exact (gd (by rfl))) (by rfl) (by rfl)⟩
theorem slices_Min_int_ok {p0 : (List Int)} {out : Out} {r : Int} (h : slices_Min_int p0 = some r) : FunOk PP 69 [.d (.sl (p0.map dI))] out ⟨.d (.int .i64 r), []⟩ := by
  unfold slices_Min_int at h
  refine fi Try.func69 rfl (by kernel_rfl) (by kernel_rfl) (by kernel_rfl) ?_
  refine sr ?_
  refine ts (ac rfl rfl) ?_
  refine rn ?_
  refine CWp.seq ?_
  refine sr ?_
  refine ts (mv rfl) ?_
  refine ts (lnD lT23 rfl rfl) ?_
  refine ts (lss rfl rfl) ?_
  refine rn ?_
  rcases ite h with ⟨c1, h⟩ | ⟨c1, h⟩
  · refine ct rfl (bt c1) ?_
    refine lr ?_
    cases h
  · refine cf rfl (bf c1) ?_
    refine CWp.skip ?_
    refine sr ?_
    refine ts (mv rfl) ?_
    obtain ⟨x2, hx2, h⟩ := bnd h
    refine ts (ixD lT23 szI rfl rfl hx2) ?_
    refine ts (ldI sT3 rfl rfl) ?_
    refine ts (as_ rfl) ?_
    refine rn ?_
    refine CWp.seq ?_
    refine sr ?_
    refine ts (ac rfl rfl) ?_
    refine rn ?_
    obtain ⟨z6, hz6, h⟩ := bnd h
    refine lb (E := fun s3 => [(0, .d (.sl (p0.map dI))), (3, .d (.int .i64 s3.1)), (4, .d (.int .i64 s3.2))]) (M := fun s3 => ⟨[], out, []⟩) (E' := fun y => [(3, .d (.int .i64 y))]) (M' := fun y => ⟨[], out, []⟩) hz6 (by (try simp only [List.length_set, copied_len]); exact trk (by kernel_rfl) (by kernel_rfl) (by kernel_rfl)) ?_ ?_
    · intro s3 ww h
      unfold slices_Min_int.s1 at h
      refine CWp.seq ?_
      refine sr ?_
      refine ts (mv rfl) ?_
      refine ts (mv rfl) ?_
      refine ts (lnD lT23 rfl rfl) ?_
      refine ts (lss rfl rfl) ?_
      refine rn ?_
      rcases ite h with ⟨c4, h⟩ | ⟨c4, h⟩
      · refine ct rfl (bt c4) ?_
        refine CWp.skip ?_
        refine CWp.seq ?_
        refine CWp.block ?_
        refine lr ?_
        refine ts (mv rfl) ?_
        refine ts (mv rfl) ?_
        refine ts (mv rfl) ?_
        obtain ⟨x5, hx5, h⟩ := bnd h
        refine ts (ixD lT23 szI rfl rfl hx5) ?_
        refine ts (ldI sT3 rfl rfl) ?_
        refine ts (mn_ rfl) ?_
        refine ts (as_ rfl) ?_
        refine rn ?_
        refine lr ?_
        refine ts (mv rfl) ?_
        refine ts (add rfl rfl) ?_
        refine ts (as_ rfl) ?_
        refine rn ?_
        obtain rfl := some_inj h
        exact ⟨rfl, (by (try simp only [List.length_set, copied_len]); exact trk (by kernel_rfl) (by kernel_rfl) (by kernel_rfl))⟩
      · refine cf rfl (bf c4) ?_
        refine CWp.exit ?_
        obtain rfl := some_inj h
        exact ⟨rfl, (by (try simp only [List.length_set, copied_len]); exact trk (by kernel_rfl) (by kernel_rfl) (by kernel_rfl))⟩
    · intro e s ht
      refine CWp.trim ht ?_
      refine sr ?_
      refine ts (mv rfl) ?_
      refine ts (as_ rfl) ?_
      refine rn ?_
      refine CWp.ret ?_
      obtain rfl := some_inj h
      exact ⟨trivial, rt1 (ex := false) (by exact (.t rfl .n)) (by exact (gd (by rfl))) (by rfl) (by rfl)⟩
theorem shapes_fold_ok {p0 : Int} {p1 : (List Int)} {out : Out} {r : Int × Bool} (h : shapes_fold p0 p1 = some r) : FunOk PP 53 [.d (.int .i64 p0), .d (.sl (p1.map dI))] out ⟨.tup [.d (.int .i64 r.1), .d (.bool r.2)], []⟩ := by
  unfold shapes_fold at h
  refine fi Try.func53 rfl (by kernel_rfl) (by kernel_rfl) (by kernel_rfl) ?_
  refine sr ?_
  refine ts (ac rfl rfl) ?_
  refine ts (ac rfl rfl) ?_
  refine rn ?_
  refine CWp.seq ?_
  refine sr ?_
  refine ts (mv rfl) ?_
  refine rn ?_
  refine CWp.block ?_
  refine sr ?_
  refine ts (eql rfl rfl) ?_
  refine ts (as_ rfl) ?_
  refine rn ?_
  rcases ite h with ⟨c1, h⟩ | ⟨c1, h⟩
  · refine ct rfl (et c1) ?_
    refine sr ?_
    refine ta (bsM (n := 0) (xs := ([(-2147483648)] : List Int)) (f := dI) lT23 rfl rfl rfl (by kernel_rfl) rfl rfl) ?_
    refine ts (mv rfl) ?_
    obtain ⟨x2, hx2, h⟩ := bnd h
    refine tp (apG (ys := p1) (xs := ([(-2147483648)] : List Int)) (f := dI) lT23 uT23 szI rfl (by first | rfl | simp only [List.length_set, copied_len]) rfl elD (ow rfl) hx2 (so .h)) ?_
    obtain ⟨x3, hx3, h⟩ := bnd h
    refine tt (cll (f := fun _ => false) kf rfl (.w rfl (leG4 rfl (ow rfl) (so .h)) .n) (curOf_nil _) (slices_Max_int_ok hx3) rfl) ?_
    refine ts (as_ rfl) ?_
    refine ts (ac rfl rfl) ?_
    refine rn ?_
    refine CWp.ret ?_
    obtain rfl := some_inj h
    exact ⟨trivial, rt2 (ex := false) (by exact (.t rfl (.t rfl .n))) (by exact (sc (gd (by rfl)) (sc (gd (by rfl)) sn))) (by rfl) (by rfl)⟩
  · refine cf rfl (ef c1) ?_
    refine sr ?_
    refine ts (eql rfl rfl) ?_
    refine ts (as_ rfl) ?_
    refine rn ?_
    rcases ite h with ⟨c4, h⟩ | ⟨c4, h⟩
    · refine ct rfl (et c4) ?_
      refine sr ?_
      refine ta (bsM (n := 0) (xs := ([2147483647] : List Int)) (f := dI) lT23 rfl rfl rfl (by kernel_rfl) rfl rfl) ?_
      refine ts (mv rfl) ?_
      obtain ⟨x5, hx5, h⟩ := bnd h
      refine tp (apG (ys := p1) (xs := ([2147483647] : List Int)) (f := dI) lT23 uT23 szI rfl (by first | rfl | simp only [List.length_set, copied_len]) rfl elD (ow rfl) hx5 (so .h)) ?_
      obtain ⟨x6, hx6, h⟩ := bnd h
      refine tt (cll (f := fun _ => false) kf rfl (.w rfl (leG4 rfl (ow rfl) (so .h)) .n) (curOf_nil _) (slices_Min_int_ok hx6) rfl) ?_
      refine ts (as_ rfl) ?_
      refine ts (ac rfl rfl) ?_
      refine rn ?_
      refine CWp.ret ?_
      obtain rfl := some_inj h
      exact ⟨trivial, rt2 (ex := false) (by exact (.t rfl (.t rfl .n))) (by exact (sc (gd (by rfl)) (sc (gd (by rfl)) sn))) (by rfl) (by rfl)⟩
    · refine cf rfl (ef c4) ?_
      refine CWp.skip ?_
      refine sr ?_
      refine ts (ac rfl rfl) ?_
      refine rn ?_
      refine jn (E := fun a7 => [(0, .d (.int .i64 p0)), (1, .d (.sl (p1.map dI))), (6, .d (.int .i64 a7))]) (M := fun a7 => ⟨[], out, []⟩) (F := fun a7 => shapes_fold.j1 p0 p1 a7) (r := r) ?_ ?_
      · intro a7 h
        unfold shapes_fold.j1 at h
        refine CWp.seq ?_
        refine sr ?_
        refine ts (mv rfl) ?_
        refine ts (lnD lT23 rfl rfl) ?_
        refine ts (mv rfl) ?_
        refine rn ?_
        obtain ⟨z16, hz16, h⟩ := bnd h
        refine lbr (E := fun s8 => [(0, .d (.int .i64 p0)), (6, .d (.int .i64 s8.1)), (24, .d (.sl (p1.map dI))), (25, .d (.int .i64 (p1.length : Int))), (26, .d (.int .i64 s8.2))]) (M := fun s8 => ⟨[], out, []⟩) (E' := fun y => [(6, .d (.int .i64 y))]) (M' := fun y => ⟨[], out, []⟩) (RT := fun r e s => Lx.Returns PP Try.f53.results.toList e s ⟨.tup [.d (.int .i64 r.1), .d (.bool r.2)], []⟩) hz16 (by (try simp only [List.length_set, copied_len]); exact trk (by kernel_rfl) (by kernel_rfl) (by kernel_rfl)) ?_ ?_
        · intro s8 ww h
          unfold shapes_fold.s2 at h
          refine sr ?_
          refine ts (lss rfl rfl) ?_
          refine rn ?_
          refine CWp.seq ?_
          rcases ite h with ⟨c9, h⟩ | ⟨c9, h⟩
          · refine ct rfl (bt c9) ?_
            refine CWp.skip ?_
            refine CWp.seq ?_
            refine CWp.block ?_
            refine sr ?_
            obtain ⟨x10, hx10, h⟩ := bnd h
            refine ts (ixD lT23 szI rfl rfl hx10) ?_
            refine ts (ldI sT3 rfl rfl) ?_
            refine ts (as_ rfl) ?_
            refine rn ?_
            refine sr ?_
            refine ts (mv rfl) ?_
            refine rn ?_
            refine CWp.block ?_
            refine sr ?_
            refine ts (eql rfl rfl) ?_
            refine ts (as_ rfl) ?_
            refine rn ?_
            rcases ite h with ⟨c11, h⟩ | ⟨c11, h⟩
            · refine ct rfl (et c11) ?_
              refine lr ?_
              refine ts (mv rfl) ?_
              refine ts (mv rfl) ?_
              refine ts (add rfl rfl) ?_
              refine ts (as_ rfl) ?_
              refine rn ?_
              refine lr ?_
              refine ts (add rfl rfl) ?_
              refine ts (mv rfl) ?_
              refine rn ?_
              obtain rfl := some_inj h
              exact ⟨rfl, (by (try simp only [List.length_set, copied_len]); exact trk (by kernel_rfl) (by kernel_rfl) (by kernel_rfl))⟩
            · refine cf rfl (ef c11) ?_
              refine sr ?_
              refine ts (eql rfl rfl) ?_
              refine ts (as_ rfl) ?_
              refine rn ?_
              rcases ite h with ⟨c12, h⟩ | ⟨c12, h⟩
              · refine ct rfl (et c12) ?_
                refine sr ?_
                refine ts (mv rfl) ?_
                refine ts (neq rfl rfl) ?_
                refine rn ?_
                rcases ite h with ⟨c13, h⟩ | ⟨c13, h⟩
                · refine ct rfl (nt c13) ?_
                  refine lr ?_
                  refine ts (mv rfl) ?_
                  refine ts (add rfl rfl) ?_
                  refine ts (as_ rfl) ?_
                  refine rn ?_
                  refine lr ?_
                  refine ts (add rfl rfl) ?_
                  refine ts (mv rfl) ?_
                  refine rn ?_
                  obtain rfl := some_inj h
                  exact ⟨rfl, (by (try simp only [List.length_set, copied_len]); exact trk (by kernel_rfl) (by kernel_rfl) (by kernel_rfl))⟩
                · refine cf rfl (nf c13) ?_
                  refine CWp.skip ?_
                  refine lr ?_
                  refine ts (add rfl rfl) ?_
                  refine ts (mv rfl) ?_
                  refine rn ?_
                  obtain rfl := some_inj h
                  exact ⟨rfl, (by (try simp only [List.length_set, copied_len]); exact trk (by kernel_rfl) (by kernel_rfl) (by kernel_rfl))⟩
              · refine cf rfl (ef c12) ?_
                refine sr ?_
                refine ts (eql rfl rfl) ?_
                refine ts (as_ rfl) ?_
                refine rn ?_
                rcases ite h with ⟨c14, h⟩ | ⟨c14, h⟩
                · refine ct rfl (et c14) ?_
                  refine sr ?_
                  refine ts (mv rfl) ?_
                  refine ts (mv rfl) ?_
                  refine ts (mul rfl rfl) ?_
                  refine ts (as_ rfl) ?_
                  refine rn ?_
                  refine sr ?_
                  refine ts (mv rfl) ?_
                  refine ts (cln (f := fun _ => false) kf rfl (.c rfl le1 .n) (curOf_nil _) (shapes_isInteger_ok (rfl : shapes_isInteger (w (s8.1 * x10)) = _)) rfl) ?_
                  refine ts (not_ rfl) ?_
                  refine rn ?_
                  rcases ite h with ⟨c15, h⟩ | ⟨c15, h⟩
                  · refine ct rfl (not_t (vf c15)) ?_
                    refine sr ?_
                    refine ts (ac rfl rfl) ?_
                    refine ts (ac rfl rfl) ?_
                    refine rn ?_
                    refine CWp.ret ?_
                    obtain rfl := some_inj h
                    exact ⟨rfl, rt2 (ex := false) (by exact (.t rfl (.t rfl .n))) (by exact (sc (gd (by rfl)) (sc (gd (by rfl)) sn))) (by rfl) (by rfl)⟩
                  · refine cf rfl (not_f (Classical.not_not.1 c15)) ?_
                    refine CWp.skip ?_
                    refine lr ?_
                    refine ts (add rfl rfl) ?_
                    refine ts (mv rfl) ?_
                    refine rn ?_
                    obtain rfl := some_inj h
                    exact ⟨rfl, (by (try simp only [List.length_set, copied_len]); exact trk (by kernel_rfl) (by kernel_rfl) (by kernel_rfl))⟩
                · refine cf rfl (ef c14) ?_
                  refine CWp.skip ?_
                  refine lr ?_
                  refine ts (add rfl rfl) ?_
                  refine ts (mv rfl) ?_
                  refine rn ?_
                  obtain rfl := some_inj h
                  exact ⟨rfl, (by (try simp only [List.length_set, copied_len]); exact trk (by kernel_rfl) (by kernel_rfl) (by kernel_rfl))⟩
          · refine cf rfl (bf c9) ?_
            refine CWp.exit ?_
            obtain rfl := some_inj h
            exact ⟨rfl, (by (try simp only [List.length_set, copied_len]); exact trk (by kernel_rfl) (by kernel_rfl) (by kernel_rfl))⟩
        · cases z16 with
          | inl v17 =>
            intro e s ht
            refine CWp.trim ht ?_
            refine sr ?_
            refine ts (mv rfl) ?_
            refine ts (mv rfl) ?_
            refine ts (cln (f := fun _ => false) kf rfl (.c rfl le1 .n) (curOf_nil _) (shapes_isInteger_ok (rfl : shapes_isInteger v17 = _)) rfl) ?_
            refine ts (as_ rfl) ?_
            refine ts (as_ rfl) ?_
            refine rn ?_
            refine CWp.ret ?_
            obtain rfl := some_inj h
            exact ⟨trivial, rt2 (ex := false) (by exact (.t rfl (.t rfl .n))) (by exact (sc (gd (by rfl)) (sc (gd (by rfl)) sn))) (by rfl) (by rfl)⟩
          | inr r18 =>
            intro e s hr
            obtain rfl := some_inj h
            exact ⟨trivial, hr⟩
      · refine sr ?_
        refine ts (mv rfl) ?_
        refine ts (eql rfl rfl) ?_
        refine rn ?_
        rcases ite h with ⟨c7, h⟩ | ⟨c7, h⟩
        · refine ct rfl (et c7) ?_
          refine lr ?_
          refine ts (ac rfl rfl) ?_
          refine rn ?_
          exact ⟨1, h, (by (try simp only [List.length_set, copied_len]); exact trk (by kernel_rfl) (by kernel_rfl) (by kernel_rfl))⟩
        · refine cf rfl (ef c7) ?_
          refine CWp.skip ?_
          exact ⟨0, h, (by (try simp only [List.length_set, copied_len]); exact trk (by kernel_rfl) (by kernel_rfl) (by kernel_rfl))⟩
theorem shapes_Reduced_ok {p0 : api_Array} {p1 : Int} {p2 : Int} {out : Out} {r : api_Array × Int} (h : shapes_Reduced p0 p1 p2 = some r) : FunOk PP 19 [.d (api_Array.d p0), .d (.int .i64 p1), .d (.int .i64 p2)] out ⟨.tup [.d (api_Array.d r.1), .d (.int .i64 r.2)], []⟩ := by
  unfold shapes_Reduced at h
  refine fi Try.func19 rfl (by kernel_rfl) (by kernel_rfl) (by kernel_rfl) ?_
  refine sr ?_
  refine ts (bxI rfl) ?_
  refine ta (al (n := 0) zT25 rfl) ?_
  refine gz (Le.weakBox (t := 6) (n := 0) (off := 0) rfl rfl rfl) ?_
  refine gz (Le.weakBox (t := 6) (n := 0) (off := 1) rfl rfl rfl) ?_
  refine ts (ac rfl rfl) ?_
  refine rn ?_
  refine sd mixed (b := [0, 1, 3, 0, 0, 16, 48, 127, 255, 0, 767, 1791, 4095, 8191, 16383, 32767, 65535]) (by kernel_rfl) ?_
  refine ds (ldIW aT25 rfl rfl rfl) rfl ?_
  refine ds (bsT (l := (([p0] : List api_Array).map api_Array.d)) lT92 rfl rfl rfl (by kernel_rfl)) rfl ?_
  obtain ⟨x1, hx1, h⟩ := bnd h
  refine dr (cln (f := fun _ => false) kf rfl (.c rfl le2 .n) (curOf_nil _) (shapes_arraysErr_ok hx1) rfl) rfl ?_
  refine ds (mv rfl) rfl ?_
  refine ds (faI fT25_0 rfl rfl) rfl ?_
  refine ds (ldI sT22 rfl rfl) rfl ?_
  refine ds (lnD lT22 rfl rfl) rfl ?_
  refine dr (cln (f := fun _ => false) kf rfl (.c rfl le1 (.c rfl le1 (.c rfl le1 .n))) (curOf_nil _) (shapes_inside_ok (rfl : shapes_inside p1 0 (p0.Bounds.length : Int) = _)) rfl) rfl ?_
  refine ds (bld (v := .d (shapes_rule.d (shapes_rule.mk (shapes_inside p1 0 (p0.Bounds.length : Int)) 32))) rfl (by kernel_rfl)) rfl ?_
  refine ds (mv rfl) rfl ?_
  refine dr (cln (f := fun _ => false) kf rfl (.c rfl le1 (.c rfl le1 (.c rfl le1 .n))) (curOf_nil _) (shapes_inside_ok (rfl : shapes_inside p2 0 4 = _)) rfl) rfl ?_
  refine ds (bld (v := .d (shapes_rule.d (shapes_rule.mk (shapes_inside p2 0 4) 15))) rfl (by kernel_rfl)) rfl ?_
  refine ds (bsT (l := (([(shapes_rule.mk (shapes_inside p1 0 (p0.Bounds.length : Int)) 32), (shapes_rule.mk (shapes_inside p2 0 4) 15)] : List shapes_rule).map shapes_rule.d)) lT102 rfl rfl rfl (by kernel_rfl)) rfl ?_
  obtain ⟨x2, hx2, h⟩ := bnd h
  refine dr (cln (f := fun _ => false) kf rfl (.c rfl le2 .n) (curOf_nil _) (shapes_broken_ok hx2) rfl) rfl ?_
  refine ds (bsT (l := (([x1, x2] : List Int).map dI)) lT91 rfl rfl rfl (by kernel_rfl)) rfl ?_
  obtain ⟨x3, hx3, h⟩ := bnd h
  refine dr (cln (f := fun _ => false) kf rfl (.c rfl le2 .n) (curOf_nil _) (cmp_Or_api_Errno_ok hx3) rfl) rfl ?_
  refine ds (as_ rfl) rfl ?_
  refine dn (by kernel_rfl) ?_
  refine CWp.seq ?_
  refine sr ?_
  refine ts (mv rfl) ?_
  refine ts (neq rfl rfl) ?_
  refine rn ?_
  rcases ite h with ⟨c4, h⟩ | ⟨c4, h⟩
  · refine ct rfl (nt c4) ?_
    refine sr ?_
    refine ts ((bld (v := .d (.agg [.nilsl, .nilsl])) rfl (by kernel_rfl)).wk (x' := api_Array.d (api_Array.mk [] [])) rfl) ?_
    refine ts (mv rfl) ?_
    refine tt0 (stW aT25 rfl rfl rfl rfl rfl rfl .h) ?_
    refine ts (as_ rfl) ?_
    refine rn ?_
    refine CWp.ret ?_
    obtain rfl := some_inj h
    exact ⟨trivial, rt2 (ex := false) (by exact (rcW aT25 rfl (ow rfl) rfl rfl (.t rfl .n))) (by exact (sc (gd (by rfl)) (sc (gd (by rfl)) sn))) (by rfl) (by rfl)⟩
  · refine cf rfl (nf c4) ?_
    refine CWp.skip ?_
    refine sr ?_
    refine ta (al (n := 0) zT25 rfl) ?_
    refine gz (Le.weakBox (t := 9) (n := 0) (off := 0) rfl rfl rfl) ?_
    refine gz (Le.nilBox (t := 9) (n := 0) (t' := 1181) (n' := 0) (off := 1) (sz := 1) rfl rfl rfl rfl) ?_
    refine rn ?_
    refine sr ?_
    refine ta (an (n := 0) lT86 rfl) ?_
    refine rn ?_
    refine jn (E := fun a5 => [(2, .d (.int .i64 p2)), (6, .bptr ⟨out.length, 6, 0⟩ 0), (9, .bptr ⟨out.length, 9, 0⟩ 0), (10, .ref ⟨out.length, 10, 0⟩ 0 a5.2.length a5.2.length)]) (M := fun a5 => ⟨[((6, 0), .box [.d (.sl (([] : List api_Bound).map api_Bound.d)), .d (.sl (([] : List Int).map dI))]), ((9, 0), .box [.d (.sl (a5.1.map api_Bound.d)), .ref ⟨out.length, 1181, 0⟩ 0 ([] : List Int).length ([] : List Int).length]), ((1181, 0), .arr 1 false (([] : List Int).map dI)), ((10, 0), .arr 1 false (a5.2.map (dL dI)))], out, []⟩) (F := fun a5 => shapes_Reduced.j1 p2 a5) (r := r) ?_ ?_
    · intro a5 h
      unfold shapes_Reduced.j1 at h
      refine CWp.seq ?_
      refine sr ?_
      refine ts (mv rfl) ?_
      refine ts (lnR lT86 rfl rfl) ?_
      refine ts (mv rfl) ?_
      refine rn ?_
      obtain ⟨z12, hz12, h⟩ := bnd h
      refine lbr (E := fun s6 => [(2, .d (.int .i64 p2)), (6, .bptr ⟨out.length, 6, 0⟩ 0), (9, .bptr ⟨out.length, 9, 0⟩ 0), (79, .ref ⟨out.length, 10, 0⟩ 0 a5.2.length a5.2.length), (80, .d (.int .i64 (a5.2.length : Int))), (81, .d (.int .i64 s6.1))]) (M := fun s6 => ⟨[((6, 0), .box [.d (.sl (([] : List api_Bound).map api_Bound.d)), .d (.sl (([] : List Int).map dI))]), ((9, 0), .box [.d (.sl (a5.1.map api_Bound.d)), .ref ⟨out.length, 1181, 0⟩ 0 s6.2.length s6.2.length]), ((1181, 0), .arr 1 false (s6.2.map dI)), ((10, 0), .arr 1 false (a5.2.map (dL dI)))], out, []⟩) (E' := fun y => [(6, .bptr ⟨out.length, 6, 0⟩ 0), (9, .bptr ⟨out.length, 9, 0⟩ 0)]) (M' := fun y => ⟨[((6, 0), .box [.d (.sl (([] : List api_Bound).map api_Bound.d)), .d (.sl (([] : List Int).map dI))]), ((9, 0), .box [.d (.sl (a5.1.map api_Bound.d)), .ref ⟨out.length, 1181, 0⟩ 0 y.length y.length]), ((1181, 0), .arr 1 false (y.map dI))], out, []⟩) (RT := fun r e s => Lx.Returns PP Try.f19.results.toList e s ⟨.tup [.d (api_Array.d r.1), .d (.int .i64 r.2)], []⟩) hz12 (by (try simp only [List.length_set, copied_len]); exact trk (by kernel_rfl) (by kernel_rfl) (by kernel_rfl)) ?_ ?_
      · intro s6 ww h
        unfold shapes_Reduced.s2 at h
        refine sr ?_
        refine ts (lss rfl rfl) ?_
        refine rn ?_
        refine CWp.seq ?_
        rcases ite h with ⟨c7, h⟩ | ⟨c7, h⟩
        · refine ct rfl (bt c7) ?_
          refine CWp.skip ?_
          refine CWp.seq ?_
          refine CWp.block ?_
          refine sr ?_
          obtain ⟨x8, hx8, h⟩ := bnd h
          refine ts (ixR lT86 rfl rfl rfl (ow rfl) hx8) ?_
          refine ts (ldE sT23 rfl rfl (ow rfl) hx8 rfl) ?_
          refine ts (as_ rfl) ?_
          refine rn ?_
          refine sr ?_
          refine ts (mv rfl) ?_
          refine ts (mv rfl) ?_
          obtain ⟨x9, hx9, h⟩ := bnd h
          refine ts (cln (f := fun _ => false) kf rfl (.c rfl le1 (.c rfl le1 .n)) (curOf_nil _) (shapes_fold_ok hx9) rfl) ?_
          refine ts (mv rfl) ?_
          refine ts (ex_ rfl rfl) ?_
          refine ts (ex_ rfl rfl) ?_
          refine ts (as_ rfl) ?_
          refine ts (as_ rfl) ?_
          refine rn ?_
          refine CWp.seq ?_
          refine sr ?_
          refine ts (mv rfl) ?_
          refine ts (not_ rfl) ?_
          refine rn ?_
          rcases ite h with ⟨c10, h⟩ | ⟨c10, h⟩
          · refine ct rfl (not_t (vf c10)) ?_
            refine sr ?_
            refine ts ((bld (v := .d (.agg [.nilsl, .nilsl])) rfl (by kernel_rfl)).wk (x' := api_Array.d (api_Array.mk [] [])) rfl) ?_
            refine tt0 (stW aT25 rfl rfl rfl rfl rfl rfl .h) ?_
            refine ts (ac rfl rfl) ?_
            refine rn ?_
            refine CWp.ret ?_
            obtain rfl := some_inj h
            exact ⟨rfl, rt2 (ex := false) (by exact (rcW aT25 rfl (ow rfl) rfl rfl (.t rfl .n))) (by exact (sc (gd (by rfl)) (sc (gd (by rfl)) sn))) (by rfl) (by rfl)⟩
          · refine cf rfl (not_f (Classical.not_not.1 c10)) ?_
            refine CWp.skip ?_
            refine lr ?_
            refine ts (fa fT25_1 rfl rfl) ?_
            refine ts (ld sT23 rfl (ow rfl) rfl) ?_
            refine ts (mv rfl) ?_
            refine ts (bsT (l := (([x9.1] : List Int).map dI)) lT23 rfl rfl rfl (by kernel_rfl)) ?_
            obtain ⟨x11, hx11, h⟩ := bnd h
            refine tp (apG (ys := ([x9.1] : List Int)) (xs := s6.2) (f := dI) lT23 uT23 szI rfl rfl rfl elT (ow rfl) hx11 (so (.s rfl (.s rfl .h)))) ?_
            refine ts (fa fT25_1 rfl rfl) ?_
            refine tt0 (st sT23 rfl rfl rfl rfl (.s .h) (.s rfl .h)) ?_
            refine rn ?_
            refine lr ?_
            refine ts (add rfl rfl) ?_
            refine ts (mv rfl) ?_
            refine rn ?_
            obtain rfl := some_inj h
            exact ⟨rfl, (by (try simp only [List.length_set, copied_len]); exact trk (by kernel_rfl) (by kernel_rfl) (by kernel_rfl))⟩
        · refine cf rfl (bf c7) ?_
          refine CWp.exit ?_
          obtain rfl := some_inj h
          exact ⟨rfl, (by (try simp only [List.length_set, copied_len]); exact trk (by kernel_rfl) (by kernel_rfl) (by kernel_rfl))⟩
      · cases z12 with
        | inl v13 =>
          intro e s ht
          refine CWp.trim ht ?_
          refine sr ?_
          refine ts (ldA (v := .agg [.d (.sl (a5.1.map api_Bound.d)), .ref ⟨out.length, 1181, 0⟩ 0 v13.length v13.length]) aT25 rfl (ow rfl) (by kernel_rfl)) ?_
          refine tt0 (stW aT25 rfl rfl rfl rfl rfl rfl .h) ?_
          refine ts (ac rfl rfl) ?_
          refine rn ?_
          refine CWp.ret ?_
          obtain rfl := some_inj h
          exact ⟨trivial, rt2 (ex := false) (by exact (rcA (v := .agg [.d (.sl (a5.1.map api_Bound.d)), .ref ⟨out.length, 1181, 0⟩ 0 v13.length v13.length]) aT25 rfl (ow rfl) (by kernel_rfl) (.t rfl .n))) (by exact (sc (ga (sc (gd (by rfl)) (sc (gf rfl rfl) sn)) rfl) (sc (gd (by rfl)) sn))) (by rfl) (by rfl)⟩
        | inr r14 =>
          intro e s hr
          obtain rfl := some_inj h
          exact ⟨trivial, hr⟩
    · refine sr ?_
      refine ts (mv rfl) ?_
      refine ts (eql rfl rfl) ?_
      refine rn ?_
      rcases ite h with ⟨c5, h⟩ | ⟨c5, h⟩
      · refine ct rfl (et c5) ?_
        refine lr ?_
        refine ts (mv rfl) ?_
        refine ts (faI fT25_1 rfl rfl) ?_
        refine ts (ldI sT23 rfl rfl) ?_
        refine ts (bsT (l := (([p0.Elements] : List (List Int)).map (dL dI))) lT86 rfl rfl rfl (by kernel_rfl)) ?_
        obtain ⟨x6, hx6, h⟩ := bnd h
        refine tp (apG (ys := ([p0.Elements] : List (List Int))) (xs := ([] : List (List Int))) (f := (dL dI)) lT86 uT86 szL rfl (by first | rfl | simp only [List.length_set, copied_len]) rfl elT (ow rfl) hx6 (so .h)) ?_
        refine ts (as_ rfl) ?_
        refine rn ?_
        exact ⟨([], x6), h, (by (try simp only [List.length_set, copied_len]); exact trk (by kernel_rfl) (by kernel_rfl) (by kernel_rfl))⟩
      · refine cf rfl (ef c5) ?_
        refine sr ?_
        refine ts (faI fT25_0 rfl rfl) ?_
        refine ts (ldI sT22 rfl rfl) ?_
        obtain ⟨x7, hx7, h⟩ := bnd h
        refine ts (cln (f := fun _ => false) kf rfl (.c rfl le1 .n) (curOf_nil _) (shapes_extents_ok hx7) rfl) ?_
        refine ts (as_ rfl) ?_
        refine rn ?_
        refine sr ?_
        refine ts (mv rfl) ?_
        obtain ⟨x8, hx8, h⟩ := bnd h
        refine ta (chn (f := fun _ => false) (n := 0) (v' := .ref ⟨out.length, 50, 0⟩ 0 x8.length x8.length) (bs := [((50, 0), .arr 1 false (x8.map dI))]) kf rfl (.c rfl le1 .n) (curOf_nil _) (slices_Clone_int_ok hx8) rfl rfl (by simp [homeVal, homeVals])) ?_
        refine ts (mv rfl) ?_
        refine ts (sub rfl rfl) ?_
        refine ts (mv rfl) ?_
        obtain ⟨x9, hx9, h⟩ := bnd h
        refine tt (cb_ (v := .d (.sl (x9.map dI))) (xs := [.int .i64 (w (p1 - 1)), .int .i64 p1]) kf rfl (slices_Delete_int_ok hx9 rfl rfl .h) rfl) ?_
        refine ts (as_ rfl) ?_
        refine rn ?_
        refine CWp.seq ?_
        refine sr ?_
        refine ts (mv rfl) ?_
        obtain ⟨x10, hx10, h⟩ := bnd h
        refine ts (cln (f := fun _ => false) kf rfl (.c rfl le1 .n) (curOf_nil _) (shapes_product_ok hx10) rfl) ?_
        refine ts (gtr rfl rfl) ?_
        refine rn ?_
        rcases ite h with ⟨c11, h⟩ | ⟨c11, h⟩
        · refine ct rfl (bt c11) ?_
          refine sr ?_
          refine ts ((bld (v := .d (.agg [.nilsl, .nilsl])) rfl (by kernel_rfl)).wk (x' := api_Array.d (api_Array.mk [] [])) rfl) ?_
          refine tt0 (stW aT25 rfl rfl rfl rfl rfl rfl (.s rfl (.s rfl (.s rfl (.s rfl .h))))) ?_
          refine ts (ac rfl rfl) ?_
          refine rn ?_
          refine CWp.ret ?_
          obtain rfl := some_inj h
          exact ⟨trivial, rt2 (ex := false) (by exact (rcW aT25 rfl (ow rfl) rfl rfl (.t rfl .n))) (by exact (sc (gd (by rfl)) (sc (gd (by rfl)) sn))) (by rfl) (by rfl)⟩
        · refine cf rfl (bf c11) ?_
          refine CWp.skip ?_
          refine sr ?_
          refine ts (mv rfl) ?_
          obtain ⟨x12, hx12, h⟩ := bnd h
          refine ts (cln (f := fun _ => false) kf rfl (.c rfl le1 .n) (curOf_nil _) (shapes_from_ok hx12) rfl) ?_
          refine ts (fa fT25_0 rfl rfl) ?_
          refine tt0 (st sT22 rfl rfl rfl rfl .h (.s rfl (.s rfl (.s rfl .h)))) ?_
          refine rn ?_
          refine sr ?_
          refine ts (mv rfl) ?_
          refine ts (mv rfl) ?_
          refine ts (sub rfl rfl) ?_
          obtain ⟨x13, hx13, h⟩ := bnd h
          refine ts (cln (f := fun _ => false) kf rfl (.c rfl le1 (.c rfl le1 .n)) (curOf_nil _) (shapes_lines_ok hx13) rfl) ?_
          refine ts (lnD lT77 rfl rfl) ?_
          refine ts (mv rfl) ?_
          refine rn ?_
          obtain ⟨z19, hz19, h⟩ := bnd h
          refine lb (E := fun s14 => [(2, .d (.int .i64 p2)), (3, .pimm (api_Array.d p0) 0), (6, .bptr ⟨out.length, 6, 0⟩ 0), (9, .bptr ⟨out.length, 9, 0⟩ 0), (10, .ref ⟨out.length, 10, 0⟩ 0 s14.2.length s14.2.length), (65, .d (.sl (x13.map (dL dI)))), (66, .d (.int .i64 (x13.length : Int))), (67, .d (.int .i64 s14.1))]) (M := fun s14 => ⟨[((6, 0), .box [.d (.sl (([] : List api_Bound).map api_Bound.d)), .d (.sl (([] : List Int).map dI))]), ((9, 0), .box [.d (.sl (x12.map api_Bound.d)), .ref ⟨out.length, 1181, 0⟩ 0 ([] : List Int).length ([] : List Int).length]), ((1181, 0), .arr 1 false (([] : List Int).map dI)), ((10, 0), .arr 1 false (s14.2.map (dL dI)))], out, []⟩) (E' := fun y => [(2, .d (.int .i64 p2)), (6, .bptr ⟨out.length, 6, 0⟩ 0), (9, .bptr ⟨out.length, 9, 0⟩ 0), (10, .ref ⟨out.length, 10, 0⟩ 0 y.length y.length)]) (M' := fun y => ⟨[((6, 0), .box [.d (.sl (([] : List api_Bound).map api_Bound.d)), .d (.sl (([] : List Int).map dI))]), ((9, 0), .box [.d (.sl (x12.map api_Bound.d)), .ref ⟨out.length, 1181, 0⟩ 0 ([] : List Int).length ([] : List Int).length]), ((1181, 0), .arr 1 false (([] : List Int).map dI)), ((10, 0), .arr 1 false (y.map (dL dI)))], out, []⟩) hz19 (by (try simp only [List.length_set, copied_len]); exact trk (by kernel_rfl) (by kernel_rfl) (by kernel_rfl)) ?_ ?_
          · intro s14 ww h
            unfold shapes_Reduced.s3 at h
            refine sr ?_
            refine ts (lss rfl rfl) ?_
            refine rn ?_
            refine CWp.seq ?_
            rcases ite h with ⟨c15, h⟩ | ⟨c15, h⟩
            · refine ct rfl (bt c15) ?_
              refine CWp.skip ?_
              refine CWp.seq ?_
              refine CWp.block ?_
              refine sr ?_
              obtain ⟨x16, hx16, h⟩ := bnd h
              refine ts (ixD lT77 szL rfl rfl hx16) ?_
              refine ts (ldI sT79 rfl rfl) ?_
              refine ts (as_ rfl) ?_
              refine rn ?_
              refine lr ?_
              refine ts (mv rfl) ?_
              refine ts (ldIW aT25 rfl rfl rfl) ?_
              refine ts (mv rfl) ?_
              obtain ⟨x17, hx17, h⟩ := bnd h
              refine ts (cln (f := fun _ => false) kf rfl (.c rfl le1 (.c rfl le1 (.c rfl le1 .n))) (curOf_nil _) ((shapes_picked_ok hx17).args (.c (.w (.nil _) (.c .n)))) rfl) ?_
              refine ts (fdD (v := .sl (x17.Elements.map dI)) fT25_1 rfl (by kernel_rfl)) ?_
              refine ts (bsT (l := (([x17.Elements] : List (List Int)).map (dL dI))) lT86 rfl rfl rfl (by kernel_rfl)) ?_
              obtain ⟨x18, hx18, h⟩ := bnd h
              refine tp (apG (ys := ([x17.Elements] : List (List Int))) (xs := s14.2) (f := (dL dI)) lT86 uT86 szL rfl rfl rfl elT (ow rfl) hx18 (so (.s rfl (.s rfl (.s rfl .h))))) ?_
              refine ts (as_ rfl) ?_
              refine rn ?_
              refine lr ?_
              refine ts (add rfl rfl) ?_
              refine ts (mv rfl) ?_
              refine rn ?_
              obtain rfl := some_inj h
              exact ⟨rfl, (by (try simp only [List.length_set, copied_len]); exact trk (by kernel_rfl) (by kernel_rfl) (by kernel_rfl))⟩
            · refine cf rfl (bf c15) ?_
              refine CWp.exit ?_
              obtain rfl := some_inj h
              exact ⟨rfl, (by (try simp only [List.length_set, copied_len]); exact trk (by kernel_rfl) (by kernel_rfl) (by kernel_rfl))⟩
          · intro e s ht
            exact ⟨(x12, z19), h, ht.trans (by (try simp only [List.length_set, copied_len]); exact trk (by kernel_rfl) (by kernel_rfl) (by kernel_rfl))⟩
theorem law15_ShapesBack_ok {p0 : api_Array} {p1 : Int} {p2 : Int} {out : Out} {r : Bool} (h : law15_ShapesBack p0 p1 p2 = some r) : FunOk PP 4 [.d (api_Array.d p0), .d (.int .i64 p1), .d (.int .i64 p2)] out ⟨.d (.bool r), []⟩ := by
  unfold law15_ShapesBack at h
  refine fi Try.func4 rfl (by kernel_rfl) (by kernel_rfl) (by kernel_rfl) ?_
  refine sr ?_
  refine ts (bxI rfl) ?_
  refine ts (ac rfl rfl) ?_
  refine rn ?_
  refine CWp.seq ?_
  refine sr ?_
  obtain ⟨x1, hx1, h⟩ := bnd h
  refine ts (cln (f := fun _ => false) kf rfl .n (curOf_nil _) (law15_awake_ok hx1) rfl) ?_
  refine ts (not_ rfl) ?_
  refine rn ?_
  rcases ite h with ⟨c2, h⟩ | ⟨c2, h⟩
  · refine ct rfl (not_t (vf c2)) ?_
    refine sr ?_
    refine ts (ac rfl rfl) ?_
    refine rn ?_
    refine CWp.ret ?_
    obtain rfl := some_inj h
    exact ⟨trivial, rt1 (ex := false) (by exact (.t rfl .n)) (by exact (gd (by rfl))) (by rfl) (by rfl)⟩
  · refine cf rfl (not_f (Classical.not_not.1 c2)) ?_
    refine CWp.skip ?_
    refine CWp.seq ?_
    refine sr ?_
    refine ts (ldIW aT25 rfl rfl rfl) ?_
    refine ts (cln (f := fun _ => false) kf rfl (.c rfl le1 .n) (curOf_nil _) (law15_few_ok (rfl : law15_few p0 = _)) rfl) ?_
    refine ts (not_ rfl) ?_
    refine ts (mv rfl) ?_
    rcases ite h with ⟨c3, h⟩ | ⟨c3, h⟩
    · refine un (gn rfl rfl (not_t (vf c3))) ?_
      refine un (gn rfl rfl (not_t (vf c3))) ?_
      refine un (gn rfl rfl (not_t (vf c3))) ?_
      refine ts (pt rfl (not_t (vf c3)) rfl) ?_
      refine ts (mv rfl) ?_
      refine un (gn rfl rfl rfl) ?_
      refine un (gn rfl rfl rfl) ?_
      refine un (gn rfl rfl rfl) ?_
      refine un (gn rfl rfl rfl) ?_
      refine un (gn rfl rfl rfl) ?_
      refine un (gn rfl rfl rfl) ?_
      refine ts (pt rfl rfl rfl) ?_
      refine ts (mv rfl) ?_
      refine un (gn rfl rfl rfl) ?_
      refine un (gn rfl rfl rfl) ?_
      refine un (gn rfl rfl rfl) ?_
      refine ts (pt rfl rfl rfl) ?_
      refine rn ?_
      refine ct rfl rfl ?_
      refine sr ?_
      refine ts (ac rfl rfl) ?_
      refine rn ?_
      refine CWp.ret ?_
      obtain rfl := some_inj h
      exact ⟨trivial, rt1 (ex := false) (by exact (.t rfl .n)) (by exact (gd (by rfl))) (by rfl) (by rfl)⟩
    · refine us (gy rfl rfl (not_f (Classical.not_not.1 c3))) (ldIW aT25 rfl rfl rfl) ?_
      obtain ⟨x4, hx4, h⟩ := bnd h
      refine us (gy rfl rfl (not_f (Classical.not_not.1 c3))) (cln (f := fun _ => false) kf rfl (.c rfl le1 .n) (curOf_nil _) (ref15_Err_ok hx4) rfl) ?_
      refine us (gy rfl rfl (not_f (Classical.not_not.1 c3))) (neq rfl rfl) ?_
      refine ts (pf rfl (not_f (Classical.not_not.1 c3)) rfl) ?_
      refine ts (mv rfl) ?_
      refine sg 7 [(43, .d (.bool ((x4 != 0) || (!(base_Within p1 1 (p0.Bounds.length : Int))))))] ?_ ?_
      · rcases bool_or (x4 != 0) with g5 | g6
        · refine un (gn rfl rfl g5) ?_
          refine un (gn rfl rfl g5) ?_
          refine un (gn rfl rfl g5) ?_
          refine un (gn rfl rfl g5) ?_
          refine un (gn rfl rfl g5) ?_
          refine un (gn rfl rfl g5) ?_
          refine ts (pt rfl g5 rfl) ?_
          exact rn (trD 7 rfl (.c (bq (or_t g5)) .n) (by kernel_rfl))
        · refine us (gy rfl rfl g6) (mv rfl) ?_
          refine us (gy rfl rfl g6) (faI fT25_0 rfl rfl) ?_
          refine us (gy rfl rfl g6) (ldI sT22 rfl rfl) ?_
          refine us (gy rfl rfl g6) (lnD lT22 rfl rfl) ?_
          refine us (gy rfl rfl g6) (cln (f := fun _ => false) kf rfl (.c rfl le1 (.c rfl le1 (.c rfl le1 .n))) (curOf_nil _) (base_Within_ok (rfl : base_Within p1 1 (p0.Bounds.length : Int) = _)) rfl) ?_
          refine us (gy rfl rfl g6) (not_ rfl) ?_
          refine ts (pf rfl g6 rfl) ?_
          exact rn (trD 7 rfl (.c (bq (or_f g6)) .n) (by kernel_rfl))
      refine ts (mv rfl) ?_
      refine sg 4 [(48, .d (.bool (((x4 != 0) || (!(base_Within p1 1 (p0.Bounds.length : Int)))) || (!(base_Within p2 (-1000) 1000)))))] ?_ ?_
      · rcases bool_or ((x4 != 0) || (!(base_Within p1 1 (p0.Bounds.length : Int)))) with g7 | g8
        · refine un (gn rfl rfl g7) ?_
          refine un (gn rfl rfl g7) ?_
          refine un (gn rfl rfl g7) ?_
          refine ts (pt rfl g7 rfl) ?_
          exact rn (trD 4 rfl (.c (bq (or_t g7)) .n) (by kernel_rfl))
        · refine us (gy rfl rfl g8) (mv rfl) ?_
          refine us (gy rfl rfl g8) (cln (f := fun _ => false) kf rfl (.c rfl le1 (.c rfl le1 (.c rfl le1 .n))) (curOf_nil _) (base_Within_ok (rfl : base_Within p2 (-1000) 1000 = _)) rfl) ?_
          refine us (gy rfl rfl g8) (not_ rfl) ?_
          refine ts (pf rfl g8 rfl) ?_
          exact rn (trD 4 rfl (.c (bq (or_f g8)) .n) (by kernel_rfl))
      refine rn ?_
      rcases ite h with ⟨c9, h⟩ | ⟨c9, h⟩
      · refine ct rfl c9 ?_
        refine sr ?_
        refine ts (ac rfl rfl) ?_
        refine rn ?_
        refine CWp.ret ?_
        obtain rfl := some_inj h
        exact ⟨trivial, rt1 (ex := false) (by exact (.t rfl .n)) (by exact (gd (by rfl))) (by rfl) (by rfl)⟩
      · refine cf rfl (vf c9) ?_
        refine CWp.skip ?_
        refine CWp.seq ?_
        refine sr ?_
        refine ts (ac rfl rfl) ?_
        refine rn ?_
        obtain ⟨z14, hz14, h⟩ := bnd h
        refine lbr (E := fun s10 => [(1, .d (.int .i64 p1)), (2, .d (.int .i64 p2)), (3, .pimm (api_Array.d p0) 0), (7, .d (.int .i64 s10))]) (M := fun s10 => ⟨[], out, []⟩) (E' := fun y => [(1, .d (.int .i64 p1)), (2, .d (.int .i64 p2)), (3, .pimm (api_Array.d p0) 0)]) (M' := fun y => ⟨[], out, []⟩) (RT := fun r e s => Lx.Returns PP Try.f4.results.toList e s ⟨.d (.bool r), []⟩) hz14 (by (try simp only [List.length_set, copied_len]); exact trk (by kernel_rfl) (by kernel_rfl) (by kernel_rfl)) ?_ ?_
        · intro s10 ww h
          unfold law15_ShapesBack.s1 at h
          refine CWp.seq ?_
          refine sr ?_
          refine ts (mv rfl) ?_
          refine ts (faI fT25_1 rfl rfl) ?_
          refine ts (ldI sT23 rfl rfl) ?_
          refine ts (lnD lT23 rfl rfl) ?_
          refine ts (lss rfl rfl) ?_
          refine rn ?_
          rcases ite h with ⟨c11, h⟩ | ⟨c11, h⟩
          · refine ct rfl (bt c11) ?_
            refine CWp.skip ?_
            refine CWp.seq ?_
            refine CWp.block ?_
            refine sr ?_
            refine ts (faI fT25_1 rfl rfl) ?_
            refine ts (ldI sT23 rfl rfl) ?_
            refine ts (mv rfl) ?_
            obtain ⟨x12, hx12, h⟩ := bnd h
            refine ts (ixD lT23 szI rfl rfl hx12) ?_
            refine ts (ldI sT3 rfl rfl) ?_
            refine ts (cln (f := fun _ => false) kf rfl (.c rfl le1 (.c rfl le1 (.c rfl le1 .n))) (curOf_nil _) (base_Within_ok (rfl : base_Within x12 (-1000) 1000 = _)) rfl) ?_
            refine ts (not_ rfl) ?_
            refine rn ?_
            rcases ite h with ⟨c13, h⟩ | ⟨c13, h⟩
            · refine ct rfl (not_t (vf c13)) ?_
              refine sr ?_
              refine ts (ac rfl rfl) ?_
              refine rn ?_
              refine CWp.ret ?_
              obtain rfl := some_inj h
              exact ⟨rfl, rt1 (ex := false) (by exact (.t rfl .n)) (by exact (gd (by rfl))) (by rfl) (by rfl)⟩
            · refine cf rfl (not_f (Classical.not_not.1 c13)) ?_
              refine CWp.skip ?_
              refine lr ?_
              refine ts (mv rfl) ?_
              refine ts (add rfl rfl) ?_
              refine ts (as_ rfl) ?_
              refine rn ?_
              obtain rfl := some_inj h
              exact ⟨rfl, (by (try simp only [List.length_set, copied_len]); exact trk (by kernel_rfl) (by kernel_rfl) (by kernel_rfl))⟩
          · refine cf rfl (bf c11) ?_
            refine CWp.exit ?_
            obtain rfl := some_inj h
            exact ⟨rfl, (by (try simp only [List.length_set, copied_len]); exact trk (by kernel_rfl) (by kernel_rfl) (by kernel_rfl))⟩
        · cases z14 with
          | inl v15 =>
            intro e s ht
            refine CWp.trim ht ?_
            refine sr ?_
            refine ts (ldIW aT25 rfl rfl rfl) ?_
            obtain ⟨x16, hx16, h⟩ := bnd h
            refine ts (cln (f := fun _ => false) kf rfl (.c rfl le1 .n) (curOf_nil _) (ref15_Copy_ok hx16) rfl) ?_
            refine ts (mv rfl) ?_
            refine ts (mv rfl) ?_
            obtain ⟨x17, hx17, h⟩ := bnd h
            refine ts (cln (f := fun _ => false) kf rfl (.c rfl le1 (.c rfl le1 (.c rfl le1 .n))) (curOf_nil _) (shapes_Shifted_ok hx17) rfl) ?_
            refine ts (mv rfl) ?_
            refine ts (ex_ rfl rfl) ?_
            refine ts (ex_ rfl rfl) ?_
            refine ta (al (n := 0) zT25 rfl) ?_
            refine tt0 (stW aT25 rfl rfl rfl rfl rfl rfl .h) ?_
            refine ts (as_ rfl) ?_
            refine rn ?_
            refine CWp.trim (Le.fzBox (t := 8) (e := api_Array.d x17.1) (env' := [(1, .d (.int .i64 p1)), (2, .d (.int .i64 p2)), (3, .pimm (api_Array.d p0) 0), (64, .d (api_Array.d p0)), (65, .d (api_Array.d x16)), (66, .d (.int .i64 p1)), (67, .d (.int .i64 p2)), (69, .d (api_Array.d x17.1)), (70, .d (.int .i64 x17.2)), (9, .d (.int .i64 x17.2))]) (loc' := []) rfl rfl rfl rfl (by (try simp only [List.length_set, copied_len]); exact trkT (by kernel_rfl) (by kernel_rfl) (by kernel_rfl))) ?_
            refine sr ?_
            refine ts (ldIW aT25 rfl rfl rfl) ?_
            refine ts (mv rfl) ?_
            refine ts (mv rfl) ?_
            refine ts (neg rfl) ?_
            obtain ⟨x18, hx18, h⟩ := bnd h
            refine ts (cln (f := fun _ => false) kf rfl (.c rfl le1 (.c rfl le1 (.c rfl le1 .n))) (curOf_nil _) (shapes_Shifted_ok hx18) rfl) ?_
            refine ts (mv rfl) ?_
            refine ts (ex_ rfl rfl) ?_
            refine ts (ex_ rfl rfl) ?_
            refine ta (al (n := 0) zT25 rfl) ?_
            refine tt0 (stW aT25 rfl rfl rfl rfl rfl rfl .h) ?_
            refine ts (as_ rfl) ?_
            refine rn ?_
            refine CWp.trim (Le.fzBox (t := 10) (e := api_Array.d x18.1) (env' := [(1, .d (.int .i64 p1)), (2, .d (.int .i64 p2)), (3, .pimm (api_Array.d p0) 0), (64, .d (api_Array.d p0)), (65, .d (api_Array.d x16)), (66, .d (.int .i64 p1)), (67, .d (.int .i64 p2)), (69, .d (api_Array.d x17.1)), (70, .d (.int .i64 x17.2)), (9, .d (.int .i64 x17.2)), (8, .pimm (api_Array.d x17.1) 0), (72, .d (api_Array.d x17.1)), (73, .d (.int .i64 p1)), (74, .d (.int .i64 p2)), (75, .d (.int .i64 (w (0 - p2)))), (77, .d (api_Array.d x18.1)), (78, .d (.int .i64 x18.2)), (11, .d (.int .i64 x18.2))]) (loc' := []) rfl rfl rfl rfl (by (try simp only [List.length_set, copied_len]); exact trkT (by kernel_rfl) (by kernel_rfl) (by kernel_rfl))) ?_
            refine CWp.seq ?_
            refine sr ?_
            refine ts (mv rfl) ?_
            refine ts (neq rfl rfl) ?_
            refine ts (mv rfl) ?_
            refine sg 3 [(84, .d (.bool ((x17.2 != 0) || (x18.2 != 0))))] ?_ ?_
            · rcases bool_or (x17.2 != 0) with g19 | g20
              · refine un (gn rfl rfl g19) ?_
                refine un (gn rfl rfl g19) ?_
                refine ts (pt rfl g19 rfl) ?_
                exact rn (trD 3 rfl (.c (bq (or_t g19)) .n) (by kernel_rfl))
              · refine us (gy rfl rfl g20) (mv rfl) ?_
                refine us (gy rfl rfl g20) (neq rfl rfl) ?_
                refine ts (pf rfl g20 rfl) ?_
                exact rn (trD 3 rfl (.c (bq (or_f g20)) .n) (by kernel_rfl))
            refine ts (mv rfl) ?_
            rcases ite h with ⟨c21, h⟩ | ⟨c21, h⟩
            · refine un (gn rfl rfl c21) ?_
              refine un (gn rfl rfl c21) ?_
              refine un (gn rfl rfl c21) ?_
              refine un (gn rfl rfl c21) ?_
              refine ts (pt rfl c21 rfl) ?_
              refine rn ?_
              refine ct rfl rfl ?_
              refine sr ?_
              refine ts (ac rfl rfl) ?_
              refine rn ?_
              refine CWp.ret ?_
              obtain rfl := some_inj h
              exact ⟨trivial, rt1 (ex := false) (by exact (.t rfl .n)) (by exact (gd (by rfl))) (by rfl) (by rfl)⟩
            · refine us (gy rfl rfl (vf c21)) (ldIW aT25 rfl rfl rfl) ?_
              refine us (gy rfl rfl (vf c21)) (ldIW aT25 rfl rfl rfl) ?_
              obtain ⟨x22, hx22, h⟩ := bnd h
              refine us (gy rfl rfl (vf c21)) (cln (f := fun _ => false) kf rfl (.c rfl le1 (.c rfl le1 .n)) (curOf_nil _) (ref15_Same_ok hx22) rfl) ?_
              refine us (gy rfl rfl (vf c21)) (not_ rfl) ?_
              refine ts (pf rfl (vf c21) rfl) ?_
              refine rn ?_
              rcases ite h with ⟨c23, h⟩ | ⟨c23, h⟩
              · refine ct rfl (not_t (vf c23)) ?_
                refine sr ?_
                refine ts (ac rfl rfl) ?_
                refine rn ?_
                refine CWp.ret ?_
                obtain rfl := some_inj h
                exact ⟨trivial, rt1 (ex := false) (by exact (.t rfl .n)) (by exact (gd (by rfl))) (by rfl) (by rfl)⟩
              · refine cf rfl (not_f (Classical.not_not.1 c23)) ?_
                refine CWp.skip ?_
                refine jn (E := fun a24 => [(1, .d (.int .i64 p1)), (3, .pimm (api_Array.d p0) 0)]) (M := fun a24 => ⟨[], out, []⟩) (F := fun a24 => law15_ShapesBack.j2 p0 p1 a24) (r := r) ?_ ?_
                · intro a24 h
                  unfold law15_ShapesBack.j2 at h
                  refine sd mixed (b := [0, 1, 0, 4, 12, 28, 60, 127, 255, 511, 511, 0, 3071, 8191]) (by kernel_rfl) ?_
                  refine ds (ldIW aT25 rfl rfl rfl) rfl ?_
                  obtain ⟨x25, hx25, h⟩ := bnd h
                  refine dr (cln (f := fun _ => false) kf rfl (.c rfl le1 .n) (curOf_nil _) (ref15_Copy_ok hx25) rfl) rfl ?_
                  refine ds (faI fT25_1 rfl rfl) rfl ?_
                  refine ds (ldI sT23 rfl rfl) rfl ?_
                  refine ds (lnD lT23 rfl rfl) rfl ?_
                  refine ds (bsT (l := (([(p0.Elements.length : Int)] : List Int).map dI)) lT23 rfl rfl rfl (by kernel_rfl)) rfl ?_
                  refine ds ((bld (v := .agg [.tight (([(p0.Elements.length : Int)] : List Int).map dI), .d .nilsl, .d .nilsl]) rfl (by kernel_rfl)).wkf (x' := .d (api_Reshape.d (api_Reshape.mk [(p0.Elements.length : Int)] [] []))) rfl) rfl ?_
                  obtain ⟨x26, hx26, h⟩ := bnd h
                  refine dr (cln (f := fun _ => false) kf rfl (.c rfl le1 (.c rfl le1 .n)) (curOf_nil _) (shapes_Reshape_ok hx26) rfl) rfl ?_
                  refine ds (mv rfl) rfl ?_
                  refine ds (ex_ rfl rfl) rfl ?_
                  refine ds (ex_ rfl rfl) rfl ?_
                  refine da (al (n := 0) zT25 rfl) rfl ?_
                  refine et0 rfl (stW aT25 rfl rfl rfl rfl rfl rfl .h) (by kernel_rfl) rfl ?_
                  refine ds (as_ rfl) rfl ?_
                  refine dn (by kernel_rfl) ?_
                  refine CWp.trim (Le.fzBox (t := 16) (e := api_Array.d x26.1) (env' := [(1, .d (.int .i64 p1)), (3, .pimm (api_Array.d p0) 0), (131, .d (api_Array.d p0)), (132, .d (api_Array.d x25)), (133, .pimm (api_Array.d p0) 1), (134, .d (.sl (p0.Elements.map dI))), (135, .d (.int .i64 (p0.Elements.length : Int))), (136, .tight (([(p0.Elements.length : Int)] : List Int).map dI)), (137, .d (api_Reshape.d (api_Reshape.mk [(p0.Elements.length : Int)] [] []))), (139, .d (api_Array.d x26.1)), (140, .d (.int .i64 x26.2)), (17, .d (.int .i64 x26.2))]) (loc' := []) rfl rfl rfl rfl (by (try simp only [List.length_set, copied_len]); exact trkT (by kernel_rfl) (by kernel_rfl) (by kernel_rfl))) ?_
                  refine sd mixed (b := [0, 0, 2, 6, 14, 31, 63, 127, 127, 0, 767, 2047]) (by kernel_rfl) ?_
                  refine ds (ldIW aT25 rfl rfl rfl) rfl ?_
                  refine ds (faI fT25_0 rfl rfl) rfl ?_
                  refine ds (ldI sT22 rfl rfl) rfl ?_
                  obtain ⟨x27, hx27, h⟩ := bnd h
                  refine dr (cln (f := fun _ => false) kf rfl (.c rfl le1 .n) (curOf_nil _) (ref15_Extents_ok hx27) rfl) rfl ?_
                  refine ds ((bld (v := .d (.agg [.sl (x27.map dI), .nilsl, .nilsl])) rfl (by kernel_rfl)).wk (x' := api_Reshape.d (api_Reshape.mk x27 [] [])) rfl) rfl ?_
                  obtain ⟨x28, hx28, h⟩ := bnd h
                  refine dr (cln (f := fun _ => false) kf rfl (.c rfl le1 (.c rfl le1 .n)) (curOf_nil _) (shapes_Reshape_ok hx28) rfl) rfl ?_
                  refine ds (mv rfl) rfl ?_
                  refine ds (ex_ rfl rfl) rfl ?_
                  refine ds (ex_ rfl rfl) rfl ?_
                  refine da (al (n := 0) zT25 rfl) rfl ?_
                  refine et0 rfl (stW aT25 rfl rfl rfl rfl rfl rfl .h) (by kernel_rfl) rfl ?_
                  refine ds (as_ rfl) rfl ?_
                  refine dn (by kernel_rfl) ?_
                  refine CWp.trim (Le.fzBox (t := 18) (e := api_Array.d x28.1) (env' := [(1, .d (.int .i64 p1)), (3, .pimm (api_Array.d p0) 0), (131, .d (api_Array.d p0)), (132, .d (api_Array.d x25)), (133, .pimm (api_Array.d p0) 1), (134, .d (.sl (p0.Elements.map dI))), (135, .d (.int .i64 (p0.Elements.length : Int))), (136, .tight (([(p0.Elements.length : Int)] : List Int).map dI)), (137, .d (api_Reshape.d (api_Reshape.mk [(p0.Elements.length : Int)] [] []))), (139, .d (api_Array.d x26.1)), (140, .d (.int .i64 x26.2)), (17, .d (.int .i64 x26.2)), (16, .pimm (api_Array.d x26.1) 0), (142, .d (api_Array.d x26.1)), (143, .pimm (api_Array.d p0) 0), (144, .d (.sl (p0.Bounds.map api_Bound.d))), (145, .d (.sl (x27.map dI))), (146, .d (api_Reshape.d (api_Reshape.mk x27 [] []))), (148, .d (api_Array.d x28.1)), (149, .d (.int .i64 x28.2)), (19, .d (.int .i64 x28.2))]) (loc' := []) rfl rfl rfl rfl (by (try simp only [List.length_set, copied_len]); exact trkT (by kernel_rfl) (by kernel_rfl) (by kernel_rfl))) ?_
                  refine CWp.seq ?_
                  refine sr ?_
                  refine ts (mv rfl) ?_
                  refine ts (neq rfl rfl) ?_
                  refine ts (mv rfl) ?_
                  refine sg 3 [(155, .d (.bool ((x26.2 != 0) || (x28.2 != 0))))] ?_ ?_
                  · rcases bool_or (x26.2 != 0) with g29 | g30
                    · refine un (gn rfl rfl g29) ?_
                      refine un (gn rfl rfl g29) ?_
                      refine ts (pt rfl g29 rfl) ?_
                      exact rn (trD 3 rfl (.c (bq (or_t g29)) .n) (by kernel_rfl))
                    · refine us (gy rfl rfl g30) (mv rfl) ?_
                      refine us (gy rfl rfl g30) (neq rfl rfl) ?_
                      refine ts (pf rfl g30 rfl) ?_
                      exact rn (trD 3 rfl (.c (bq (or_f g30)) .n) (by kernel_rfl))
                  refine ts (mv rfl) ?_
                  rcases ite h with ⟨c31, h⟩ | ⟨c31, h⟩
                  · refine un (gn rfl rfl c31) ?_
                    refine un (gn rfl rfl c31) ?_
                    refine un (gn rfl rfl c31) ?_
                    refine un (gn rfl rfl c31) ?_
                    refine un (gn rfl rfl c31) ?_
                    refine un (gn rfl rfl c31) ?_
                    refine ts (pt rfl c31 rfl) ?_
                    refine rn ?_
                    refine ct rfl rfl ?_
                    refine sr ?_
                    refine ts (ac rfl rfl) ?_
                    refine rn ?_
                    refine CWp.ret ?_
                    obtain rfl := some_inj h
                    exact ⟨trivial, rt1 (ex := false) (by exact (.t rfl .n)) (by exact (gd (by rfl))) (by rfl) (by rfl)⟩
                  · refine us (gy rfl rfl (vf c31)) (faI fT25_1 rfl rfl) ?_
                    refine us (gy rfl rfl (vf c31)) (ldI sT23 rfl rfl) ?_
                    refine us (gy rfl rfl (vf c31)) (faI fT25_1 rfl rfl) ?_
                    refine us (gy rfl rfl (vf c31)) (ldI sT23 rfl rfl) ?_
                    obtain ⟨x32, hx32, h⟩ := bnd h
                    refine us (gy rfl rfl (vf c31)) (cln (f := fun _ => false) kf rfl (.c rfl le1 (.c rfl le1 .n)) (curOf_nil _) (base_Ints_ok hx32) rfl) ?_
                    refine us (gy rfl rfl (vf c31)) (not_ rfl) ?_
                    refine ts (pf rfl (vf c31) rfl) ?_
                    refine rn ?_
                    rcases ite h with ⟨c33, h⟩ | ⟨c33, h⟩
                    · refine ct rfl (not_t (vf c33)) ?_
                      refine sr ?_
                      refine ts (ac rfl rfl) ?_
                      refine rn ?_
                      refine CWp.ret ?_
                      obtain rfl := some_inj h
                      exact ⟨trivial, rt1 (ex := false) (by exact (.t rfl .n)) (by exact (gd (by rfl))) (by rfl) (by rfl)⟩
                    · refine cf rfl (not_f (Classical.not_not.1 c33)) ?_
                      refine CWp.skip ?_
                      refine sr ?_
                      refine ts (ldIW aT25 rfl rfl rfl) ?_
                      obtain ⟨x34, hx34, h⟩ := bnd h
                      refine ts (cln (f := fun _ => false) kf rfl (.c rfl le1 .n) (curOf_nil _) (ref15_Copy_ok hx34) rfl) ?_
                      refine ts (mv rfl) ?_
                      obtain ⟨x35, hx35, h⟩ := bnd h
                      refine ts (cln (f := fun _ => false) kf rfl (.c rfl le1 (.c rfl le1 (.c rfl le1 .n))) (curOf_nil _) (shapes_Reduced_ok hx35) rfl) ?_
                      refine ts (mv rfl) ?_
                      refine ts (ex_ rfl rfl) ?_
                      refine ts (ex_ rfl rfl) ?_
                      refine ta (al (n := 0) zT25 rfl) ?_
                      refine tt0 (stW aT25 rfl rfl rfl rfl rfl rfl .h) ?_
                      refine ts (as_ rfl) ?_
                      refine rn ?_
                      refine CWp.trim (Le.fzBox (t := 20) (e := api_Array.d x35.1) (env' := [(1, .d (.int .i64 p1)), (3, .pimm (api_Array.d p0) 0), (131, .d (api_Array.d p0)), (132, .d (api_Array.d x25)), (133, .pimm (api_Array.d p0) 1), (134, .d (.sl (p0.Elements.map dI))), (135, .d (.int .i64 (p0.Elements.length : Int))), (136, .tight (([(p0.Elements.length : Int)] : List Int).map dI)), (137, .d (api_Reshape.d (api_Reshape.mk [(p0.Elements.length : Int)] [] []))), (139, .d (api_Array.d x26.1)), (140, .d (.int .i64 x26.2)), (17, .d (.int .i64 x26.2)), (16, .pimm (api_Array.d x26.1) 0), (142, .d (api_Array.d x26.1)), (143, .pimm (api_Array.d p0) 0), (144, .d (.sl (p0.Bounds.map api_Bound.d))), (145, .d (.sl (x27.map dI))), (146, .d (api_Reshape.d (api_Reshape.mk x27 [] []))), (148, .d (api_Array.d x28.1)), (149, .d (.int .i64 x28.2)), (19, .d (.int .i64 x28.2)), (18, .pimm (api_Array.d x28.1) 0), (150, .d (.int .i64 x26.2)), (151, .d (.bool (x26.2 != 0))), (152, .d (.bool (x26.2 != 0))), (155, .d (.bool ((x26.2 != 0) || (x28.2 != 0)))), (156, .d (.bool ((x26.2 != 0) || (x28.2 != 0)))), (157, .pimm (api_Array.d x28.1) 1), (158, .d (.sl (x28.1.Elements.map dI))), (159, .pimm (api_Array.d p0) 1), (160, .d (.sl (p0.Elements.map dI))), (161, .d (.bool x32)), (162, .d (.bool (!x32))), (163, .d (.bool (!x32))), (165, .d (api_Array.d p0)), (166, .d (api_Array.d x34)), (167, .d (.int .i64 p1)), (169, .d (api_Array.d x35.1)), (170, .d (.int .i64 x35.2)), (21, .d (.int .i64 x35.2))]) (loc' := []) rfl rfl rfl rfl (by (try simp only [List.length_set, copied_len]); exact trkT (by kernel_rfl) (by kernel_rfl) (by kernel_rfl))) ?_
                      refine CWp.seq ?_
                      refine sr ?_
                      refine ts (mv rfl) ?_
                      refine ts (eql rfl rfl) ?_
                      refine rn ?_
                      rcases ite h with ⟨c36, h⟩ | ⟨c36, h⟩
                      · refine ct rfl (et c36) ?_
                        refine sr ?_
                        refine ts (ac rfl rfl) ?_
                        refine rn ?_
                        refine CWp.ret ?_
                        obtain rfl := some_inj h
                        exact ⟨trivial, rt1 (ex := false) (by exact (.t rfl .n)) (by exact (gd (by rfl))) (by rfl) (by rfl)⟩
                      · refine cf rfl (ef c36) ?_
                        refine CWp.skip ?_
                        refine sr ?_
                        refine ts (ldIW aT25 rfl rfl rfl) ?_
                        obtain ⟨x37, hx37, h⟩ := bnd h
                        refine ts (cln (f := fun _ => false) kf rfl (.c rfl le1 (.c rfl le1 (.c rfl le1 .n))) (curOf_nil _) (shapes_Reduced_ok hx37) rfl) ?_
                        refine ts (mv rfl) ?_
                        refine ts (ex_ rfl rfl) ?_
                        refine ts (ex_ rfl rfl) ?_
                        refine ta (al (n := 0) zT25 rfl) ?_
                        refine tt0 (stW aT25 rfl rfl rfl rfl rfl rfl .h) ?_
                        refine ts (as_ rfl) ?_
                        refine rn ?_
                        refine CWp.trim (Le.fzBox (t := 22) (e := api_Array.d x37.1) (env' := [(1, .d (.int .i64 p1)), (3, .pimm (api_Array.d p0) 0), (131, .d (api_Array.d p0)), (132, .d (api_Array.d x25)), (133, .pimm (api_Array.d p0) 1), (134, .d (.sl (p0.Elements.map dI))), (135, .d (.int .i64 (p0.Elements.length : Int))), (136, .tight (([(p0.Elements.length : Int)] : List Int).map dI)), (137, .d (api_Reshape.d (api_Reshape.mk [(p0.Elements.length : Int)] [] []))), (139, .d (api_Array.d x26.1)), (140, .d (.int .i64 x26.2)), (17, .d (.int .i64 x26.2)), (16, .pimm (api_Array.d x26.1) 0), (142, .d (api_Array.d x26.1)), (143, .pimm (api_Array.d p0) 0), (144, .d (.sl (p0.Bounds.map api_Bound.d))), (145, .d (.sl (x27.map dI))), (146, .d (api_Reshape.d (api_Reshape.mk x27 [] []))), (148, .d (api_Array.d x28.1)), (149, .d (.int .i64 x28.2)), (19, .d (.int .i64 x28.2)), (18, .pimm (api_Array.d x28.1) 0), (150, .d (.int .i64 x26.2)), (151, .d (.bool (x26.2 != 0))), (152, .d (.bool (x26.2 != 0))), (155, .d (.bool ((x26.2 != 0) || (x28.2 != 0)))), (156, .d (.bool ((x26.2 != 0) || (x28.2 != 0)))), (157, .pimm (api_Array.d x28.1) 1), (158, .d (.sl (x28.1.Elements.map dI))), (159, .pimm (api_Array.d p0) 1), (160, .d (.sl (p0.Elements.map dI))), (161, .d (.bool x32)), (162, .d (.bool (!x32))), (163, .d (.bool (!x32))), (165, .d (api_Array.d p0)), (166, .d (api_Array.d x34)), (167, .d (.int .i64 p1)), (169, .d (api_Array.d x35.1)), (170, .d (.int .i64 x35.2)), (21, .d (.int .i64 x35.2)), (20, .pimm (api_Array.d x35.1) 0), (171, .d (.int .i64 x35.2)), (172, .d (.bool (x35.2 == 8))), (174, .d (api_Array.d x35.1)), (176, .d (api_Array.d x37.1)), (177, .d (.int .i64 x37.2)), (23, .d (.int .i64 x37.2))]) (loc' := []) rfl rfl rfl rfl (by (try simp only [List.length_set, copied_len]); exact trkT (by kernel_rfl) (by kernel_rfl) (by kernel_rfl))) ?_
                        refine sr ?_
                        refine ts (ldIW aT25 rfl rfl rfl) ?_
                        obtain ⟨x38, hx38, h⟩ := bnd h
                        refine ts (cln (f := fun _ => false) kf rfl (.c rfl le1 .n) (curOf_nil _) (ref15_Copy_ok hx38) rfl) ?_
                        obtain ⟨x39, hx39, h⟩ := bnd h
                        refine ts (cln (f := fun _ => false) kf rfl (.c rfl le1 (.c rfl le1 (.c rfl le1 .n))) (curOf_nil _) (shapes_Reduced_ok hx39) rfl) ?_
                        refine ts (mv rfl) ?_
                        refine ts (ex_ rfl rfl) ?_
                        refine ts (ex_ rfl rfl) ?_
                        refine ta (al (n := 0) zT25 rfl) ?_
                        refine tt0 (stW aT25 rfl rfl rfl rfl rfl rfl .h) ?_
                        refine ts (as_ rfl) ?_
                        refine rn ?_
                        refine CWp.trim (Le.fzBox (t := 24) (e := api_Array.d x39.1) (env' := [(1, .d (.int .i64 p1)), (3, .pimm (api_Array.d p0) 0), (131, .d (api_Array.d p0)), (132, .d (api_Array.d x25)), (133, .pimm (api_Array.d p0) 1), (134, .d (.sl (p0.Elements.map dI))), (135, .d (.int .i64 (p0.Elements.length : Int))), (136, .tight (([(p0.Elements.length : Int)] : List Int).map dI)), (137, .d (api_Reshape.d (api_Reshape.mk [(p0.Elements.length : Int)] [] []))), (139, .d (api_Array.d x26.1)), (140, .d (.int .i64 x26.2)), (17, .d (.int .i64 x26.2)), (16, .pimm (api_Array.d x26.1) 0), (142, .d (api_Array.d x26.1)), (143, .pimm (api_Array.d p0) 0), (144, .d (.sl (p0.Bounds.map api_Bound.d))), (145, .d (.sl (x27.map dI))), (146, .d (api_Reshape.d (api_Reshape.mk x27 [] []))), (148, .d (api_Array.d x28.1)), (149, .d (.int .i64 x28.2)), (19, .d (.int .i64 x28.2)), (18, .pimm (api_Array.d x28.1) 0), (150, .d (.int .i64 x26.2)), (151, .d (.bool (x26.2 != 0))), (152, .d (.bool (x26.2 != 0))), (155, .d (.bool ((x26.2 != 0) || (x28.2 != 0)))), (156, .d (.bool ((x26.2 != 0) || (x28.2 != 0)))), (157, .pimm (api_Array.d x28.1) 1), (158, .d (.sl (x28.1.Elements.map dI))), (159, .pimm (api_Array.d p0) 1), (160, .d (.sl (p0.Elements.map dI))), (161, .d (.bool x32)), (162, .d (.bool (!x32))), (163, .d (.bool (!x32))), (165, .d (api_Array.d p0)), (166, .d (api_Array.d x34)), (167, .d (.int .i64 p1)), (169, .d (api_Array.d x35.1)), (170, .d (.int .i64 x35.2)), (21, .d (.int .i64 x35.2)), (20, .pimm (api_Array.d x35.1) 0), (171, .d (.int .i64 x35.2)), (172, .d (.bool (x35.2 == 8))), (174, .d (api_Array.d x35.1)), (176, .d (api_Array.d x37.1)), (177, .d (.int .i64 x37.2)), (23, .d (.int .i64 x37.2)), (22, .pimm (api_Array.d x37.1) 0), (179, .d (api_Array.d p0)), (180, .d (api_Array.d x38)), (182, .d (api_Array.d x39.1)), (183, .d (.int .i64 x39.2)), (25, .d (.int .i64 x39.2))]) (loc' := []) rfl rfl rfl rfl (by (try simp only [List.length_set, copied_len]); exact trkT (by kernel_rfl) (by kernel_rfl) (by kernel_rfl))) ?_
                        refine sr ?_
                        refine ts (mv rfl) ?_
                        refine ts (eql rfl rfl) ?_
                        refine ts (mv rfl) ?_
                        refine sg 3 [(189, .d (.bool ((x35.2 == 0) && (x37.2 == 0))))] ?_ ?_
                        · rcases bool_or (x35.2 == 0) with g40 | g41
                          · refine us (gy rfl rfl g40) (mv rfl) ?_
                            refine us (gy rfl rfl g40) (eql rfl rfl) ?_
                            refine ts (pt rfl g40 rfl) ?_
                            exact rn (trD 3 rfl (.c (bq (and_t g40)) .n) (by kernel_rfl))
                          · refine un (gn rfl rfl g41) ?_
                            refine un (gn rfl rfl g41) ?_
                            refine ts (pf rfl g41 rfl) ?_
                            exact rn (trD 3 rfl (.c (bq (and_f g41)) .n) (by kernel_rfl))
                        refine ts (mv rfl) ?_
                        refine sg 3 [(193, .d (.bool (((x35.2 == 0) && (x37.2 == 0)) && (x39.2 == 0))))] ?_ ?_
                        · rcases bool_or ((x35.2 == 0) && (x37.2 == 0)) with g42 | g43
                          · refine us (gy rfl rfl g42) (mv rfl) ?_
                            refine us (gy rfl rfl g42) (eql rfl rfl) ?_
                            refine ts (pt rfl g42 rfl) ?_
                            exact rn (trD 3 rfl (.c (bq (and_t g42)) .n) (by kernel_rfl))
                          · refine un (gn rfl rfl g43) ?_
                            refine un (gn rfl rfl g43) ?_
                            refine ts (pf rfl g43 rfl) ?_
                            exact rn (trD 3 rfl (.c (bq (and_f g43)) .n) (by kernel_rfl))
                        refine ts (mv rfl) ?_
                        refine sg 5 [(199, .d (.bool ((((x35.2 == 0) && (x37.2 == 0)) && (x39.2 == 0)) && ((x37.1.Elements.length : Int) == 1))))] ?_ ?_
                        · rcases bool_or (((x35.2 == 0) && (x37.2 == 0)) && (x39.2 == 0)) with g44 | g45
                          · refine us (gy rfl rfl g44) (faI fT25_1 rfl rfl) ?_
                            refine us (gy rfl rfl g44) (ldI sT23 rfl rfl) ?_
                            refine us (gy rfl rfl g44) (lnD lT23 rfl rfl) ?_
                            refine us (gy rfl rfl g44) (eql rfl rfl) ?_
                            refine ts (pt rfl g44 rfl) ?_
                            exact rn (trD 5 rfl (.c (bq (and_t g44)) .n) (by kernel_rfl))
                          · refine un (gn rfl rfl g45) ?_
                            refine un (gn rfl rfl g45) ?_
                            refine un (gn rfl rfl g45) ?_
                            refine un (gn rfl rfl g45) ?_
                            refine ts (pf rfl g45 rfl) ?_
                            exact rn (trD 5 rfl (.c (bq (and_f g45)) .n) (by kernel_rfl))
                        refine ts (mv rfl) ?_
                        rcases ite h with ⟨c46, h⟩ | ⟨c46, h⟩
                        · refine us (gy rfl rfl c46) (faI fT25_1 rfl rfl) ?_
                          refine us (gy rfl rfl c46) (ldI sT23 rfl rfl) ?_
                          refine us (gy rfl rfl c46) (faI fT25_1 rfl rfl) ?_
                          refine us (gy rfl rfl c46) (ldI sT23 rfl rfl) ?_
                          obtain ⟨x47, hx47, h⟩ := bnd h
                          refine us (gy rfl rfl c46) (cln (f := fun _ => false) kf rfl (.c rfl le1 (.c rfl le1 .n)) (curOf_nil _) (base_Ints_ok hx47) rfl) ?_
                          refine ts (pt rfl c46 rfl) ?_
                          refine ts (as_ rfl) ?_
                          refine rn ?_
                          refine CWp.ret ?_
                          obtain rfl := some_inj h
                          exact ⟨trivial, rt1 (ex := false) (by exact (.t rfl .n)) (by exact (gd (by rfl))) (by rfl) (by rfl)⟩
                        · refine un (gn rfl rfl (vf c46)) ?_
                          refine un (gn rfl rfl (vf c46)) ?_
                          refine un (gn rfl rfl (vf c46)) ?_
                          refine un (gn rfl rfl (vf c46)) ?_
                          refine un (gn rfl rfl (vf c46)) ?_
                          refine ts (pf rfl (vf c46) rfl) ?_
                          refine ts (as_ rfl) ?_
                          refine rn ?_
                          refine CWp.ret ?_
                          obtain rfl := some_inj h
                          exact ⟨trivial, rt1 (ex := false) (by exact (.t rfl .n)) (by exact (gd (by rfl))) (by rfl) (by rfl)⟩
                · refine sr ?_
                  refine ts (faI fT25_0 rfl rfl) ?_
                  refine ts (ldI sT22 rfl rfl) ?_
                  refine ts (lnD lT22 rfl rfl) ?_
                  refine ts (eql rfl rfl) ?_
                  refine rn ?_
                  rcases ite h with ⟨c24, h⟩ | ⟨c24, h⟩
                  · refine ct rfl (et c24) ?_
                    refine sr ?_
                    refine ts (ldIW aT25 rfl rfl rfl) ?_
                    obtain ⟨x25, hx25, h⟩ := bnd h
                    refine ts (cln (f := fun _ => false) kf rfl (.c rfl le1 .n) (curOf_nil _) (ref15_Copy_ok hx25) rfl) ?_
                    obtain ⟨x26, hx26, h⟩ := bnd h
                    refine ts (cln (f := fun _ => false) kf rfl (.c rfl le1 .n) (curOf_nil _) (shapes_Transpose_ok hx26) rfl) ?_
                    refine ts (mv rfl) ?_
                    refine ts (ex_ rfl rfl) ?_
                    refine ts (ex_ rfl rfl) ?_
                    refine ta (al (n := 0) zT25 rfl) ?_
                    refine tt0 (stW aT25 rfl rfl rfl rfl rfl rfl .h) ?_
                    refine ts (as_ rfl) ?_
                    refine rn ?_
                    refine CWp.trim (Le.fzBox (t := 12) (e := api_Array.d x26.1) (env' := [(1, .d (.int .i64 p1)), (2, .d (.int .i64 p2)), (3, .pimm (api_Array.d p0) 0), (64, .d (api_Array.d p0)), (65, .d (api_Array.d x16)), (66, .d (.int .i64 p1)), (67, .d (.int .i64 p2)), (69, .d (api_Array.d x17.1)), (70, .d (.int .i64 x17.2)), (9, .d (.int .i64 x17.2)), (8, .pimm (api_Array.d x17.1) 0), (72, .d (api_Array.d x17.1)), (73, .d (.int .i64 p1)), (74, .d (.int .i64 p2)), (75, .d (.int .i64 (w (0 - p2)))), (77, .d (api_Array.d x18.1)), (78, .d (.int .i64 x18.2)), (11, .d (.int .i64 x18.2)), (10, .pimm (api_Array.d x18.1) 0), (79, .d (.int .i64 x17.2)), (80, .d (.bool (x17.2 != 0))), (81, .d (.bool (x17.2 != 0))), (84, .d (.bool ((x17.2 != 0) || (x18.2 != 0)))), (85, .d (.bool ((x17.2 != 0) || (x18.2 != 0)))), (86, .d (api_Array.d x18.1)), (87, .d (api_Array.d p0)), (88, .d (.bool x22)), (89, .d (.bool (!x22))), (90, .d (.bool (!x22))), (91, .pimm (api_Array.d p0) 0), (92, .d (.sl (p0.Bounds.map api_Bound.d))), (93, .d (.int .i64 (p0.Bounds.length : Int))), (94, .d (.bool ((p0.Bounds.length : Int) == 2))), (96, .d (api_Array.d p0)), (97, .d (api_Array.d x25)), (99, .d (api_Array.d x26.1)), (100, .d (.int .i64 x26.2)), (13, .d (.int .i64 x26.2))]) (loc' := []) rfl rfl rfl rfl (by (try simp only [List.length_set, copied_len]); exact trkT (by kernel_rfl) (by kernel_rfl) (by kernel_rfl))) ?_
                    refine sr ?_
                    refine ts (ldIW aT25 rfl rfl rfl) ?_
                    obtain ⟨x27, hx27, h⟩ := bnd h
                    refine ts (cln (f := fun _ => false) kf rfl (.c rfl le1 .n) (curOf_nil _) (shapes_Transpose_ok hx27) rfl) ?_
                    refine ts (mv rfl) ?_
                    refine ts (ex_ rfl rfl) ?_
                    refine ts (ex_ rfl rfl) ?_
                    refine ta (al (n := 0) zT25 rfl) ?_
                    refine tt0 (stW aT25 rfl rfl rfl rfl rfl rfl .h) ?_
                    refine ts (as_ rfl) ?_
                    refine rn ?_
                    refine CWp.trim (Le.fzBox (t := 14) (e := api_Array.d x27.1) (env' := [(1, .d (.int .i64 p1)), (2, .d (.int .i64 p2)), (3, .pimm (api_Array.d p0) 0), (64, .d (api_Array.d p0)), (65, .d (api_Array.d x16)), (66, .d (.int .i64 p1)), (67, .d (.int .i64 p2)), (69, .d (api_Array.d x17.1)), (70, .d (.int .i64 x17.2)), (9, .d (.int .i64 x17.2)), (8, .pimm (api_Array.d x17.1) 0), (72, .d (api_Array.d x17.1)), (73, .d (.int .i64 p1)), (74, .d (.int .i64 p2)), (75, .d (.int .i64 (w (0 - p2)))), (77, .d (api_Array.d x18.1)), (78, .d (.int .i64 x18.2)), (11, .d (.int .i64 x18.2)), (10, .pimm (api_Array.d x18.1) 0), (79, .d (.int .i64 x17.2)), (80, .d (.bool (x17.2 != 0))), (81, .d (.bool (x17.2 != 0))), (84, .d (.bool ((x17.2 != 0) || (x18.2 != 0)))), (85, .d (.bool ((x17.2 != 0) || (x18.2 != 0)))), (86, .d (api_Array.d x18.1)), (87, .d (api_Array.d p0)), (88, .d (.bool x22)), (89, .d (.bool (!x22))), (90, .d (.bool (!x22))), (91, .pimm (api_Array.d p0) 0), (92, .d (.sl (p0.Bounds.map api_Bound.d))), (93, .d (.int .i64 (p0.Bounds.length : Int))), (94, .d (.bool ((p0.Bounds.length : Int) == 2))), (96, .d (api_Array.d p0)), (97, .d (api_Array.d x25)), (99, .d (api_Array.d x26.1)), (100, .d (.int .i64 x26.2)), (13, .d (.int .i64 x26.2)), (12, .pimm (api_Array.d x26.1) 0), (102, .d (api_Array.d x26.1)), (104, .d (api_Array.d x27.1)), (105, .d (.int .i64 x27.2)), (15, .d (.int .i64 x27.2))]) (loc' := []) rfl rfl rfl rfl (by (try simp only [List.length_set, copied_len]); exact trkT (by kernel_rfl) (by kernel_rfl) (by kernel_rfl))) ?_
                    refine sd mixed (b := [0, 1, 3, 7, 15, 31, 63, 127, 255, 127, 639, 2047, 4095, 8191, 16383, 32767, 65535, 131071, 32767, 294911, 1048575, 2097151, 4194303, 8388607]) (by kernel_rfl) ?_
                    refine ds (mv rfl) rfl ?_
                    refine ds (neq rfl rfl) rfl ?_
                    refine ds (mv rfl) rfl ?_
                    rcases ite h with ⟨c28, h⟩ | ⟨c28, h⟩
                    · refine vn (gn rfl rfl (nt c28)) ?_
                      refine vn (gn rfl rfl (nt c28)) ?_
                      refine ds (pt rfl (nt c28) rfl) rfl ?_
                      refine ds (mv rfl) rfl ?_
                      refine vn (gn rfl rfl rfl) ?_
                      refine vn (gn rfl rfl rfl) ?_
                      refine vn (gn rfl rfl rfl) ?_
                      refine vn (gn rfl rfl rfl) ?_
                      refine vn (gn rfl rfl rfl) ?_
                      refine vn (gn rfl rfl rfl) ?_
                      refine ds (pt rfl rfl rfl) rfl ?_
                      refine ds (mv rfl) rfl ?_
                      refine vn (gn rfl rfl rfl) ?_
                      refine vn (gn rfl rfl rfl) ?_
                      refine vn (gn rfl rfl rfl) ?_
                      refine vn (gn rfl rfl rfl) ?_
                      refine vn (gn rfl rfl rfl) ?_
                      refine vn (gn rfl rfl rfl) ?_
                      refine vn (gn rfl rfl rfl) ?_
                      refine vn (gn rfl rfl rfl) ?_
                      refine ds (pt rfl rfl rfl) rfl ?_
                      refine dn (by kernel_rfl) ?_
                      refine ct rfl rfl ?_
                      refine sr ?_
                      refine ts (ac rfl rfl) ?_
                      refine rn ?_
                      refine CWp.ret ?_
                      obtain rfl := some_inj h
                      exact ⟨trivial, rt1 (ex := false) (by exact (.t rfl .n)) (by exact (gd (by rfl))) (by rfl) (by rfl)⟩
                    · refine vs (gy rfl rfl (nf c28)) (mv rfl) rfl ?_
                      refine vs (gy rfl rfl (nf c28)) (neq rfl rfl) rfl ?_
                      refine ds (pf rfl (nf c28) rfl) rfl ?_
                      refine ds (mv rfl) rfl ?_
                      rcases ite h with ⟨c29, h⟩ | ⟨c29, h⟩
                      · refine vn (gn rfl rfl (nt c29)) ?_
                        refine vn (gn rfl rfl (nt c29)) ?_
                        refine vn (gn rfl rfl (nt c29)) ?_
                        refine vn (gn rfl rfl (nt c29)) ?_
                        refine vn (gn rfl rfl (nt c29)) ?_
                        refine vn (gn rfl rfl (nt c29)) ?_
                        refine ds (pt rfl (nt c29) rfl) rfl ?_
                        refine ds (mv rfl) rfl ?_
                        refine vn (gn rfl rfl rfl) ?_
                        refine vn (gn rfl rfl rfl) ?_
                        refine vn (gn rfl rfl rfl) ?_
                        refine vn (gn rfl rfl rfl) ?_
                        refine vn (gn rfl rfl rfl) ?_
                        refine vn (gn rfl rfl rfl) ?_
                        refine vn (gn rfl rfl rfl) ?_
                        refine vn (gn rfl rfl rfl) ?_
                        refine ds (pt rfl rfl rfl) rfl ?_
                        refine dn (by kernel_rfl) ?_
                        refine ct rfl rfl ?_
                        refine sr ?_
                        refine ts (ac rfl rfl) ?_
                        refine rn ?_
                        refine CWp.ret ?_
                        obtain rfl := some_inj h
                        exact ⟨trivial, rt1 (ex := false) (by exact (.t rfl .n)) (by exact (gd (by rfl))) (by rfl) (by rfl)⟩
                      · refine vs (gy rfl rfl (nf c29)) (faI fT25_1 rfl rfl) rfl ?_
                        refine vs (gy rfl rfl (nf c29)) (ldI sT23 rfl rfl) rfl ?_
                        refine vs (gy rfl rfl (nf c29)) (faI fT25_1 rfl rfl) rfl ?_
                        refine vs (gy rfl rfl (nf c29)) (ldI sT23 rfl rfl) rfl ?_
                        obtain ⟨x30, hx30, h⟩ := bnd h
                        refine vs (gy rfl rfl (nf c29)) (cln (f := fun _ => false) kf rfl (.c rfl le1 (.c rfl le1 .n)) (curOf_nil _) (base_Ints_ok hx30) rfl) rfl ?_
                        refine vs (gy rfl rfl (nf c29)) (not_ rfl) rfl ?_
                        refine ds (pf rfl (nf c29) rfl) rfl ?_
                        refine ds (mv rfl) rfl ?_
                        rcases ite h with ⟨c31, h⟩ | ⟨c31, h⟩
                        · refine vn (gn rfl rfl (not_t (vf c31))) ?_
                          refine vn (gn rfl rfl (not_t (vf c31))) ?_
                          refine vn (gn rfl rfl (not_t (vf c31))) ?_
                          refine vn (gn rfl rfl (not_t (vf c31))) ?_
                          refine vn (gn rfl rfl (not_t (vf c31))) ?_
                          refine vn (gn rfl rfl (not_t (vf c31))) ?_
                          refine vn (gn rfl rfl (not_t (vf c31))) ?_
                          refine vn (gn rfl rfl (not_t (vf c31))) ?_
                          refine ds (pt rfl (not_t (vf c31)) rfl) rfl ?_
                          refine dn (by kernel_rfl) ?_
                          refine ct rfl rfl ?_
                          refine sr ?_
                          refine ts (ac rfl rfl) ?_
                          refine rn ?_
                          refine CWp.ret ?_
                          obtain rfl := some_inj h
                          exact ⟨trivial, rt1 (ex := false) (by exact (.t rfl .n)) (by exact (gd (by rfl))) (by rfl) (by rfl)⟩
                        · refine vs (gy rfl rfl (not_f (Classical.not_not.1 c31))) (faI fT25_0 rfl rfl) rfl ?_
                          refine vs (gy rfl rfl (not_f (Classical.not_not.1 c31))) (ldI sT22 rfl rfl) rfl ?_
                          obtain ⟨x32, hx32, h⟩ := bnd h
                          refine vs (gy rfl rfl (not_f (Classical.not_not.1 c31))) (cln (f := fun _ => false) kf rfl (.c rfl le1 .n) (curOf_nil _) (ref15_Extents_ok hx32) rfl) rfl ?_
                          refine vs (gy rfl rfl (not_f (Classical.not_not.1 c31))) (faI fT25_0 rfl rfl) rfl ?_
                          refine vs (gy rfl rfl (not_f (Classical.not_not.1 c31))) (ldI sT22 rfl rfl) rfl ?_
                          obtain ⟨x33, hx33, h⟩ := bnd h
                          refine vs (gy rfl rfl (not_f (Classical.not_not.1 c31))) (cln (f := fun _ => false) kf rfl (.c rfl le1 .n) (curOf_nil _) (ref15_Extents_ok hx33) rfl) rfl ?_
                          obtain ⟨x34, hx34, h⟩ := bnd h
                          refine vs (gy rfl rfl (not_f (Classical.not_not.1 c31))) (cln (f := fun _ => false) kf rfl (.c rfl le1 (.c rfl le1 .n)) (curOf_nil _) (base_Ints_ok hx34) rfl) rfl ?_
                          refine vs (gy rfl rfl (not_f (Classical.not_not.1 c31))) (not_ rfl) rfl ?_
                          refine ds (pf rfl (not_f (Classical.not_not.1 c31)) rfl) rfl ?_
                          refine dn (by kernel_rfl) ?_
                          rcases ite h with ⟨c35, h⟩ | ⟨c35, h⟩
                          · refine ct rfl (not_t (vf c35)) ?_
                            refine sr ?_
                            refine ts (ac rfl rfl) ?_
                            refine rn ?_
                            refine CWp.ret ?_
                            obtain rfl := some_inj h
                            exact ⟨trivial, rt1 (ex := false) (by exact (.t rfl .n)) (by exact (gd (by rfl))) (by rfl) (by rfl)⟩
                          · refine cf rfl (not_f (Classical.not_not.1 c35)) ?_
                            refine CWp.skip ?_
                            exact ⟨(), h, (by (try simp only [List.length_set, copied_len]); exact trk (by kernel_rfl) (by kernel_rfl) (by kernel_rfl))⟩
                  · refine cf rfl (ef c24) ?_
                    refine CWp.skip ?_
                    exact ⟨(), h, (by (try simp only [List.length_set, copied_len]); exact trk (by kernel_rfl) (by kernel_rfl) (by kernel_rfl))⟩
          | inr r48 =>
            intro e s hr
            obtain rfl := some_inj h
            exact ⟨trivial, hr⟩
end Go.Proofs.Ytndpfldakcdbiaa
