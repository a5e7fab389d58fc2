/- The walks: the program does what the functions in plain form say. Part 2. -/
import Derived.Test.YtoelcmbacfhdnaaShapesReducesWk1
set_option linter.all false
namespace Go.Proofs.Ytoelcmbacfhdnaa
open Go.Lx Go.Sh
set_option linter.unusedVariables false
set_option maxRecDepth 100000
theorem ref15_Place_ok {p0 : (List Int)} {p1 : (List Int)} {out : Out} {r : Int} (h : ref15_Place p0 p1 = some r) : FunOk PP 81 [.d (.sl (p0.map dI)), .d (.sl (p1.map dI))] out ⟨.d (.int .i64 r), []⟩ := by
  unfold ref15_Place at h
  refine fi Try.func81 rfl (by kernel_rfl) (by kernel_rfl) (by kernel_rfl) ?_
  refine sr ?_
  refine ts (ac rfl rfl) ?_
  refine rn ?_
  refine sr ?_
  refine ts (ac rfl rfl) ?_
  refine rn ?_
  refine CWp.seq ?_
  refine sr ?_
  refine ts (mv rfl) ?_
  refine ts (lnD lT26 rfl rfl) ?_
  refine ts (sub rfl rfl) ?_
  refine ts (as_ rfl) ?_
  refine rn ?_
  obtain ⟨z5, hz5, h⟩ := bnd h
  refine lb (E := fun s1 => [(0, .d (.sl (p0.map dI))), (1, .d (.sl (p1.map dI))), (5, .d (.int .i64 s1.1)), (6, .d (.int .i64 s1.2))]) (M := fun s1 => ⟨[], out, []⟩) (E' := fun y => [(5, .d (.int .i64 y))]) (M' := fun y => ⟨[], out, []⟩) hz5 (by (try simp only [List.length_set, copied_len]); exact trk (by kernel_rfl) (by kernel_rfl) (by kernel_rfl)) ?_ ?_
  · intro s1 ww h
    unfold ref15_Place.s1 at h
    refine CWp.seq ?_
    refine sr ?_
    refine ts (mv rfl) ?_
    refine ts (geq rfl rfl) ?_
    refine rn ?_
    rcases ite h with ⟨c2, h⟩ | ⟨c2, h⟩
    · refine ct rfl (bt c2) ?_
      refine CWp.skip ?_
      refine CWp.seq ?_
      refine CWp.block ?_
      refine ld_ mixed (b := [0, 0, 0, 6, 14, 31, 0, 0, 192, 448, 1023, 2047]) (by kernel_rfl) ?_
      refine ds (mv rfl) rfl ?_
      refine ds (mv rfl) rfl ?_
      refine ds (mv rfl) rfl ?_
      obtain ⟨x3, hx3, h⟩ := bnd h
      refine ds (ixD lT26 szI rfl rfl hx3) rfl ?_
      refine ds (ldI sT3 rfl rfl) rfl ?_
      refine ds (mul rfl rfl) rfl ?_
      refine ds (mv rfl) rfl ?_
      refine ds (mv rfl) rfl ?_
      obtain ⟨x4, hx4, h⟩ := bnd h
      refine ds (ixD lT26 szI rfl rfl hx4) rfl ?_
      refine ds (ldI sT3 rfl rfl) rfl ?_
      refine ds (add rfl rfl) rfl ?_
      refine ds (as_ rfl) rfl ?_
      refine dn (by kernel_rfl) ?_
      refine lr ?_
      refine ts (mv rfl) ?_
      refine ts (sub rfl rfl) ?_
      refine ts (as_ rfl) ?_
      refine rn ?_
      obtain rfl := some_inj h
      exact ⟨rfl, (by (try simp only [List.length_set, copied_len]); exact trk (by kernel_rfl) (by kernel_rfl) (by kernel_rfl))⟩
    · refine cf rfl (bf c2) ?_
      refine CWp.exit ?_
      obtain rfl := some_inj h
      exact ⟨rfl, (by (try simp only [List.length_set, copied_len]); exact trk (by kernel_rfl) (by kernel_rfl) (by kernel_rfl))⟩
  · intro e s ht
    refine CWp.trim ht ?_
    refine sr ?_
    refine ts (mv rfl) ?_
    refine ts (as_ rfl) ?_
    refine rn ?_
    refine CWp.ret ?_
    obtain rfl := some_inj h
    exact ⟨trivial, rt1 (ex := false) (by exact (.t rfl .n)) (by exact (gd (by rfl))) (by rfl) (by rfl)⟩
theorem ref15_Reduced_ok {p0 : api_Array} {p1 : Int} {p2 : Int} {out : Out} {r : api_Array × Int} (h : ref15_Reduced p0 p1 p2 = some r) : FunOk PP 55 [.d (api_Array.d p0), .d (.int .i64 p1), .d (.int .i64 p2)] out ⟨.tup [.d (api_Array.d r.1), .d (.int .i64 r.2)], []⟩ := by
  unfold ref15_Reduced at h
  refine fi Try.func55 rfl (by kernel_rfl) (by kernel_rfl) (by kernel_rfl) ?_
  refine sr ?_
  refine ts (bxI rfl) ?_
  refine ta (al (n := 0) zT59 rfl) ?_
  refine ts (ac rfl rfl) ?_
  refine rn ?_
  refine CWp.seq ?_
  refine sr ?_
  refine ts (ldIW aT59 rfl rfl rfl) ?_
  obtain ⟨x1, hx1, h⟩ := bnd h
  refine ts (cl0 kf rfl (.c le1 .n) (ref15_Err_ok hx1) rfl) ?_
  refine ts (as_ rfl) ?_
  refine rn ?_
  refine sr ?_
  refine ts (mv rfl) ?_
  refine ts (neq rfl rfl) ?_
  refine rn ?_
  rcases ite h with ⟨c2, h⟩ | ⟨c2, h⟩
  · refine ct rfl (nt c2) ?_
    refine sr ?_
    refine ts ((bld (v := .d (.agg [.nilsl, .nilsl])) rfl (by kernel_rfl)).wk (x' := api_Array.d (api_Array.mk [] [])) rfl) ?_
    refine ts (mv rfl) ?_
    refine tt0 (stW aT59 rfl rfl rfl rfl rfl rfl .h) ?_
    refine ts (as_ rfl) ?_
    refine rn ?_
    refine CWp.ret ?_
    obtain rfl := some_inj h
    exact ⟨trivial, rt2 (ex := false) (by exact (rcW aT59 rfl (ow rfl) rfl rfl (.t rfl .n))) (by exact (sc (gd (by rfl)) (sc (gd (by rfl)) sn))) (by rfl) (by rfl)⟩
  · refine cf rfl (nf c2) ?_
    refine CWp.skip ?_
    refine CWp.seq ?_
    refine sr ?_
    refine ts (mv rfl) ?_
    refine ts (faI fT59_0 rfl rfl) ?_
    refine ts (ldI sT22 rfl rfl) ?_
    refine ts (lnD lT22 rfl rfl) ?_
    refine ts (cl0 kf rfl (.c le1 (.c le1 (.c le1 .n))) (base_Within_ok rfl) rfl) ?_
    refine ts (not_ rfl) ?_
    refine rn ?_
    rcases ite h with ⟨c3, h⟩ | ⟨c3, h⟩
    · refine ct rfl (not_t (vf c3)) ?_
      refine sr ?_
      refine ts ((bld (v := .d (.agg [.nilsl, .nilsl])) rfl (by kernel_rfl)).wk (x' := api_Array.d (api_Array.mk [] [])) rfl) ?_
      refine tt0 (stW aT59 rfl rfl rfl rfl rfl rfl .h) ?_
      refine ts (ac rfl rfl) ?_
      refine rn ?_
      refine CWp.ret ?_
      obtain rfl := some_inj h
      exact ⟨trivial, rt2 (ex := false) (by exact (rcW aT59 rfl (ow rfl) rfl rfl (.t rfl .n))) (by exact (sc (gd (by rfl)) (sc (gd (by rfl)) sn))) (by rfl) (by rfl)⟩
    · refine cf rfl (not_f (Classical.not_not.1 c3)) ?_
      refine CWp.skip ?_
      refine CWp.seq ?_
      refine sr ?_
      refine ts (mv rfl) ?_
      refine ts (cl0 kf rfl (.c le1 (.c le1 (.c le1 .n))) (base_Within_ok rfl) rfl) ?_
      refine ts (not_ rfl) ?_
      refine rn ?_
      rcases ite h with ⟨c4, h⟩ | ⟨c4, h⟩
      · refine ct rfl (not_t (vf c4)) ?_
        refine sr ?_
        refine ts ((bld (v := .d (.agg [.nilsl, .nilsl])) rfl (by kernel_rfl)).wk (x' := api_Array.d (api_Array.mk [] [])) rfl) ?_
        refine tt0 (stW aT59 rfl rfl rfl rfl rfl rfl .h) ?_
        refine ts (ac rfl rfl) ?_
        refine rn ?_
        refine CWp.ret ?_
        obtain rfl := some_inj h
        exact ⟨trivial, rt2 (ex := false) (by exact (rcW aT59 rfl (ow rfl) rfl rfl (.t rfl .n))) (by exact (sc (gd (by rfl)) (sc (gd (by rfl)) sn))) (by rfl) (by rfl)⟩
      · refine cf rfl (not_f (Classical.not_not.1 c4)) ?_
        refine CWp.skip ?_
        refine CWp.seq ?_
        refine sr ?_
        refine ts (mv rfl) ?_
        refine ts (eql rfl rfl) ?_
        refine rn ?_
        rcases ite h with ⟨c5, h⟩ | ⟨c5, h⟩
        · refine ct rfl (et c5) ?_
          refine sr ?_
          refine ts (faI fT59_1 rfl rfl) ?_
          refine ts (ldI sT26 rfl rfl) ?_
          refine ts (mv rfl) ?_
          obtain ⟨x6, hx6, h⟩ := bnd h
          refine ts (cl0 kf rfl (.c le1 (.c le1 .n)) (ref15_value_ok hx6) rfl) ?_
          refine ts (mv rfl) ?_
          refine ts (ex_ rfl rfl) ?_
          refine ts (ex_ rfl rfl) ?_
          refine ts (as_ rfl) ?_
          refine ts (as_ rfl) ?_
          refine rn ?_
          refine CWp.seq ?_
          refine sr ?_
          refine ts (mv rfl) ?_
          refine ts (not_ rfl) ?_
          refine rn ?_
          rcases ite h with ⟨c7, h⟩ | ⟨c7, h⟩
          · refine ct rfl (not_t (vf c7)) ?_
            refine sr ?_
            refine ts ((bld (v := .d (.agg [.nilsl, .nilsl])) rfl (by kernel_rfl)).wk (x' := api_Array.d (api_Array.mk [] [])) rfl) ?_
            refine tt0 (stW aT59 rfl rfl rfl rfl rfl rfl .h) ?_
            refine ts (ac rfl rfl) ?_
            refine rn ?_
            refine CWp.ret ?_
            obtain rfl := some_inj h
            exact ⟨trivial, rt2 (ex := false) (by exact (rcW aT59 rfl (ow rfl) rfl rfl (.t rfl .n))) (by exact (sc (gd (by rfl)) (sc (gd (by rfl)) sn))) (by rfl) (by rfl)⟩
          · refine cf rfl (not_f (Classical.not_not.1 c7)) ?_
            refine CWp.skip ?_
            refine sr ?_
            refine ts (mv rfl) ?_
            refine ts (bsT (l := (([x6.1] : List Int).map dI)) lT26 rfl rfl rfl (by kernel_rfl)) ?_
            obtain ⟨x8, hx8, h⟩ := bnd h
            refine ts (cl0 kf rfl (.c le1 (.c le2 .n)) ((ref15_Of_ok hx8).args (.w (.nil _) (.c .n))) rfl) ?_
            refine tt0 (stW aT59 rfl rfl rfl rfl rfl rfl .h) ?_
            refine ts (ac rfl rfl) ?_
            refine rn ?_
            refine CWp.ret ?_
            obtain rfl := some_inj h
            exact ⟨trivial, rt2 (ex := false) (by exact (rcW aT59 rfl (ow rfl) rfl rfl (.t rfl .n))) (by exact (sc (gd (by rfl)) (sc (gd (by rfl)) sn))) (by rfl) (by rfl)⟩
        · refine cf rfl (ef c5) ?_
          refine CWp.skip ?_
          refine sr ?_
          refine ts (faI fT59_0 rfl rfl) ?_
          refine ts (ldI sT22 rfl rfl) ?_
          obtain ⟨x9, hx9, h⟩ := bnd h
          refine ts (cl0 kf rfl (.c le1 .n) (ref15_Extents_ok hx9) rfl) ?_
          refine ts (as_ rfl) ?_
          refine rn ?_
          refine jd mixed (b := [0, 0, 2, 7, 15, 0, 0, 96, 255, 511]) (by kernel_rfl) (E := fun a10 => [(1, .d (.int .i64 p1)), (2, .d (.int .i64 p2)), (3, .pimm (api_Array.d p0) 0), (6, .bptr ⟨out.length, 6, 0⟩ 0), (11, .d (.sl (x9.map dI))), (12, .ref ⟨out.length, 60, 0⟩ 0 a10.length a10.length)]) (M := fun a10 => ⟨[((6, 0), .box [.d .nilsl, .d .nilsl]), ((60, 0), .arr 1 false (a10.map dI))], out, []⟩) (F := fun a10 => ref15_Reduced.j1 p0 p1 p2 x9 a10) (r := r) ?_ ?_
          · intro a10 h
            unfold ref15_Reduced.j1 at h
            refine sr ?_
            refine ts (mv rfl) ?_
            obtain ⟨x11, hx11, h⟩ := bnd h
            refine tt (cl1 kf rfl (.w (le4 rfl rfl (.s rfl .h)) .n) (ref15_Product_ok hx11) rfl) ?_
            refine ts (as_ rfl) ?_
            refine rn ?_
            refine CWp.seq ?_
            refine sr ?_
            refine ts (mv rfl) ?_
            refine ts (gtr rfl rfl) ?_
            refine rn ?_
            rcases ite h with ⟨c12, h⟩ | ⟨c12, h⟩
            · refine ct rfl (bt c12) ?_
              refine sr ?_
              refine ts ((bld (v := .d (.agg [.nilsl, .nilsl])) rfl (by kernel_rfl)).wk (x' := api_Array.d (api_Array.mk [] [])) rfl) ?_
              refine tt0 (stW aT59 rfl rfl rfl rfl rfl rfl .h) ?_
              refine ts (ac rfl rfl) ?_
              refine rn ?_
              refine CWp.ret ?_
              obtain rfl := some_inj h
              exact ⟨trivial, rt2 (ex := false) (by exact (rcW aT59 rfl (ow rfl) rfl rfl (.t rfl .n))) (by exact (sc (gd (by rfl)) (sc (gd (by rfl)) sn))) (by rfl) (by rfl)⟩
            · refine cf rfl (bf c12) ?_
              refine CWp.skip ?_
              refine sr ?_
              refine ta (an (n := 0) lT26 rfl) ?_
              refine rn ?_
              refine CWp.seq ?_
              refine sr ?_
              refine ts (ac rfl rfl) ?_
              refine rn ?_
              obtain ⟨z36, hz36, h⟩ := bnd h
              refine lbr (E := fun s13 => [(1, .d (.int .i64 p1)), (2, .d (.int .i64 p2)), (3, .pimm (api_Array.d p0) 0), (6, .bptr ⟨out.length, 6, 0⟩ 0), (11, .d (.sl (x9.map dI))), (12, .ref ⟨out.length, 60, 0⟩ 0 a10.length a10.length), (13, .d (.int .i64 x11)), (14, .ref ⟨out.length, 14, 0⟩ 0 s13.2.length s13.2.length), (15, .d (.int .i64 s13.1))]) (M := fun s13 => ⟨[((6, 0), .box [.d .nilsl, .d .nilsl]), ((60, 0), .arr 1 true (a10.map dI)), ((14, 0), .arr 1 false (s13.2.map dI))], out, []⟩) (E' := fun y => [(6, .bptr ⟨out.length, 6, 0⟩ 0), (12, .ref ⟨out.length, 60, 0⟩ 0 a10.length a10.length), (14, .ref ⟨out.length, 14, 0⟩ 0 y.length y.length)]) (M' := fun y => ⟨[((6, 0), .box [.d .nilsl, .d .nilsl]), ((60, 0), .arr 1 true (a10.map dI)), ((14, 0), .arr 1 false (y.map dI))], out, []⟩) (RT := fun r e s => Lx.Returns PP Try.f55.results.toList e s ⟨.tup [.d (api_Array.d r.1), .d (.int .i64 r.2)], []⟩) hz36 (by (try simp only [List.length_set, copied_len]); exact trk (by kernel_rfl) (by kernel_rfl) (by kernel_rfl)) ?_ ?_
              · intro s13 ww h
                unfold ref15_Reduced.s2 at h
                refine CWp.seq ?_
                refine sr ?_
                refine ts (mv rfl) ?_
                refine ts (mv rfl) ?_
                refine ts (lss rfl rfl) ?_
                refine rn ?_
                rcases ite h with ⟨c14, h⟩ | ⟨c14, h⟩
                · refine ct rfl (bt c14) ?_
                  refine CWp.skip ?_
                  refine CWp.seq ?_
                  refine CWp.block ?_
                  refine sr ?_
                  refine ts (mv rfl) ?_
                  refine ts (mv rfl) ?_
                  obtain ⟨x15, hx15, h⟩ := bnd h
                  refine ts (cl0 kf rfl (.c (le3 rfl (ow rfl)) (.c le1 .n)) (ref15_Indexes_ok hx15) rfl) ?_
                  refine ts (as_ rfl) ?_
                  refine rn ?_
                  refine sr ?_
                  refine ta (an (n := 0) lT26 rfl) ?_
                  refine rn ?_
                  refine CWp.seq ?_
                  refine sr ?_
                  refine ts (ac rfl rfl) ?_
                  refine rn ?_
                  obtain ⟨z31, hz31, h⟩ := bnd h
                  refine lb (E := fun s16 => [(1, .d (.int .i64 p1)), (2, .d (.int .i64 p2)), (3, .pimm (api_Array.d p0) 0), (6, .bptr ⟨out.length, 6, 0⟩ 0), (11, .d (.sl (x9.map dI))), (12, .ref ⟨out.length, 60, 0⟩ 0 a10.length a10.length), (13, .d (.int .i64 x11)), (14, .ref ⟨out.length, 14, 0⟩ 0 s13.2.length s13.2.length), (15, .d (.int .i64 s13.1)), (16, .d (.sl (x15.map dI))), (17, .ref ⟨out.length, 17, 0⟩ 0 s16.2.length s16.2.length), (18, .d (.int .i64 s16.1))]) (M := fun s16 => ⟨[((6, 0), .box [.d .nilsl, .d .nilsl]), ((60, 0), .arr 1 true (a10.map dI)), ((14, 0), .arr 1 false (s13.2.map dI)), ((17, 0), .arr 1 false (s16.2.map dI))], out, []⟩) (E' := fun y => [(1, .d (.int .i64 p1)), (2, .d (.int .i64 p2)), (3, .pimm (api_Array.d p0) 0), (6, .bptr ⟨out.length, 6, 0⟩ 0), (11, .d (.sl (x9.map dI))), (12, .ref ⟨out.length, 60, 0⟩ 0 a10.length a10.length), (13, .d (.int .i64 x11)), (14, .ref ⟨out.length, 14, 0⟩ 0 s13.2.length s13.2.length), (15, .d (.int .i64 s13.1)), (17, .ref ⟨out.length, 17, 0⟩ 0 y.length y.length)]) (M' := fun y => ⟨[((6, 0), .box [.d .nilsl, .d .nilsl]), ((60, 0), .arr 1 true (a10.map dI)), ((14, 0), .arr 1 false (s13.2.map dI)), ((17, 0), .arr 1 false (y.map dI))], out, []⟩) hz31 (by (try simp only [List.length_set, copied_len]); exact trk (by kernel_rfl) (by kernel_rfl) (by kernel_rfl)) ?_ ?_
                  · intro s16 ww h
                    unfold ref15_Reduced.s3 at h
                    refine CWp.seq ?_
                    refine sr ?_
                    refine ts (mv rfl) ?_
                    refine ts (mv rfl) ?_
                    refine ts (mv rfl) ?_
                    refine ts (sub rfl rfl) ?_
                    obtain ⟨x17, hx17, h⟩ := bnd h
                    refine ts (ixD lT26 szI rfl rfl hx17) ?_
                    refine ts (ldI sT3 rfl rfl) ?_
                    refine ts (lss rfl rfl) ?_
                    refine rn ?_
                    rcases ite h with ⟨c18, h⟩ | ⟨c18, h⟩
                    · refine ct rfl (bt c18) ?_
                      refine CWp.skip ?_
                      refine CWp.seq ?_
                      refine CWp.block ?_
                      refine ld_ mixed (b := [0, 0, 2, 0, 0, 0, 32, 112, 240, 0, 512, 2032, 0, 0, 8192, 28672, 65520, 131064, 262142, 524286, 1048574, 2097151, 4194303]) (by kernel_rfl) ?_
                      refine ds (mv rfl) rfl ?_
                      refine ds (faI fT59_1 rfl rfl) rfl ?_
                      refine ds (ldI sT26 rfl rfl) rfl ?_
                      refine ds (mv rfl) rfl ?_
                      refine ds (mv rfl) rfl ?_
                      refine ds (mv rfl) rfl ?_
                      refine ds (sub rfl rfl) rfl ?_
                      obtain ⟨x19, hx19, h⟩ := bnd h
                      refine ds (slD lT26 szI rfl .no (.is rfl) hx19) rfl ?_
                      obtain ⟨x20, hx20, h⟩ := bnd h
                      refine da (ch0 (n := 0) (v' := .ref ⟨out.length, 95, 0⟩ 0 x20.length x20.length) (bs := [((95, 0), .arr 1 false (x20.map dI))]) kf rfl (.c le1 .n) (base_CopyInts_ok hx20) rfl rfl (by simp [homeVal, homeVals])) rfl ?_
                      refine es rfl (mv rfl) rfl ?_
                      refine es rfl (bsT (l := (([s16.1] : List Int).map dI)) lT26 rfl rfl rfl (by kernel_rfl)) rfl ?_
                      obtain ⟨x21, hx21, h⟩ := bnd h
                      refine et_ rfl (apRn (ys := ([s16.1] : List Int)) (xs := x20) (f := dI) lT26 uT26 szI rfl rfl rfl elT rfl hx21 .h rfl) (by kernel_rfl) rfl ?_
                      refine ds (mv rfl) rfl ?_
                      refine ds (mv rfl) rfl ?_
                      refine ds (sub rfl rfl) rfl ?_
                      obtain ⟨x22, hx22, h⟩ := bnd h
                      refine ds (slD lT26 szI rfl (.is rfl) .no hx22) rfl ?_
                      obtain ⟨x23, hx23, h⟩ := bnd h
                      rcases ite h with ⟨c24, h⟩ | ⟨c24, h⟩
                      · refine dr (apRe (ys := x22) (xs := x21) (f := dI) lT26 uT26 szI rfl rfl rfl elD rfl hx23 c24) rfl ?_
                        obtain ⟨x25, hx25, h⟩ := bnd h
                        refine dt (cl1 kf rfl (.c le1 (.w (le4 rfl rfl .h) .n)) (ref15_Place_ok hx25) rfl) rfl ?_
                        obtain ⟨x26, hx26, h⟩ := bnd h
                        refine ds (ixD lT26 szI rfl rfl hx26) rfl ?_
                        refine ds (ldI sT3 rfl rfl) rfl ?_
                        refine ds (bsT (l := (([x26] : List Int).map dI)) lT26 rfl rfl rfl (by kernel_rfl)) rfl ?_
                        obtain ⟨x27, hx27, h⟩ := bnd h
                        refine dt (apRn (ys := ([x26] : List Int)) (xs := s16.2) (f := dI) lT26 uT26 szI rfl rfl rfl elT rfl hx27 (.s rfl (.s rfl (.s rfl (.s rfl .h)))) rfl) rfl ?_
                        refine ds (as_ rfl) rfl ?_
                        refine dn (by kernel_rfl) ?_
                        refine lr ?_
                        refine ts (mv rfl) ?_
                        refine ts (add rfl rfl) ?_
                        refine ts (as_ rfl) ?_
                        refine rn ?_
                        obtain rfl := some_inj h
                        exact ⟨rfl, (by (try simp only [List.length_set, copied_len]); exact trk (by kernel_rfl) (by kernel_rfl) (by kernel_rfl))⟩
                      · refine dt (apRn (ys := x22) (xs := x21) (f := dI) lT26 uT26 szI rfl rfl rfl elD rfl hx23 .h (vf c24)) rfl ?_
                        obtain ⟨x28, hx28, h⟩ := bnd h
                        refine dt (cl1 kf rfl (.c le1 (.w (le4 rfl rfl .h) .n)) (ref15_Place_ok hx28) rfl) rfl ?_
                        obtain ⟨x29, hx29, h⟩ := bnd h
                        refine ds (ixD lT26 szI rfl rfl hx29) rfl ?_
                        refine ds (ldI sT3 rfl rfl) rfl ?_
                        refine ds (bsT (l := (([x29] : List Int).map dI)) lT26 rfl rfl rfl (by kernel_rfl)) rfl ?_
                        obtain ⟨x30, hx30, h⟩ := bnd h
                        refine dt (apRn (ys := ([x29] : List Int)) (xs := s16.2) (f := dI) lT26 uT26 szI rfl rfl rfl elT rfl hx30 (.s rfl (.s rfl (.s rfl (.s rfl .h)))) rfl) rfl ?_
                        refine ds (as_ rfl) rfl ?_
                        refine dn (by kernel_rfl) ?_
                        refine lr ?_
                        refine ts (mv rfl) ?_
                        refine ts (add rfl rfl) ?_
                        refine ts (as_ rfl) ?_
                        refine rn ?_
                        obtain rfl := some_inj h
                        exact ⟨rfl, (by (try simp only [List.length_set, copied_len]); exact trk (by kernel_rfl) (by kernel_rfl) (by kernel_rfl))⟩
                    · refine cf rfl (bf c18) ?_
                      refine CWp.exit ?_
                      obtain rfl := some_inj h
                      exact ⟨rfl, (by (try simp only [List.length_set, copied_len]); exact trk (by kernel_rfl) (by kernel_rfl) (by kernel_rfl))⟩
                  · intro e s ht
                    refine CWp.trim ht ?_
                    refine sr ?_
                    refine ts (mv rfl) ?_
                    refine ts (mv rfl) ?_
                    obtain ⟨x32, hx32, h⟩ := bnd h
                    refine tt (cl1 kf rfl (.w (le4 rfl rfl (.s rfl (.s rfl (.s rfl .h)))) (.c le1 .n)) (ref15_value_ok hx32) rfl) ?_
                    refine ts (mv rfl) ?_
                    refine ts (ex_ rfl rfl) ?_
                    refine ts (ex_ rfl rfl) ?_
                    refine ts (as_ rfl) ?_
                    refine ts (as_ rfl) ?_
                    refine rn ?_
                    refine CWp.seq ?_
                    refine sr ?_
                    refine ts (mv rfl) ?_
                    refine ts (not_ rfl) ?_
                    refine rn ?_
                    rcases ite h with ⟨c33, h⟩ | ⟨c33, h⟩
                    · refine ct rfl (not_t (vf c33)) ?_
                      refine sr ?_
                      refine ts ((bld (v := .d (.agg [.nilsl, .nilsl])) rfl (by kernel_rfl)).wk (x' := api_Array.d (api_Array.mk [] [])) rfl) ?_
                      refine tt0 (stW aT59 rfl rfl rfl rfl rfl rfl .h) ?_
                      refine ts (ac rfl rfl) ?_
                      refine rn ?_
                      refine CWp.ret ?_
                      obtain rfl := some_inj h
                      exact ⟨rfl, rt2 (ex := false) (by exact (rcW aT59 rfl (ow rfl) rfl rfl (.t rfl .n))) (by exact (sc (gd (by rfl)) (sc (gd (by rfl)) sn))) (by rfl) (by rfl)⟩
                    · refine cf rfl (not_f (Classical.not_not.1 c33)) ?_
                      refine CWp.skip ?_
                      refine lr ?_
                      refine ts (mv rfl) ?_
                      refine ts (mv rfl) ?_
                      refine ts (bsT (l := (([x32.1] : List Int).map dI)) lT26 rfl rfl rfl (by kernel_rfl)) ?_
                      obtain ⟨x34, hx34, h⟩ := bnd h
                      refine tp (apR (ys := ([x32.1] : List Int)) (xs := s13.2) (f := dI) lT26 uT26 szI rfl rfl rfl elT rfl hx34 (.s rfl (.s rfl .h))) ?_
                      refine ts (as_ rfl) ?_
                      refine rn ?_
                      refine lr ?_
                      refine ts (mv rfl) ?_
                      refine ts (add rfl rfl) ?_
                      refine ts (as_ rfl) ?_
                      refine rn ?_
                      obtain rfl := some_inj h
                      exact ⟨rfl, (by (try simp only [List.length_set, copied_len]); exact trk (by kernel_rfl) (by kernel_rfl) (by kernel_rfl))⟩
                · refine cf rfl (bf c14) ?_
                  refine CWp.exit ?_
                  obtain rfl := some_inj h
                  exact ⟨rfl, (by (try simp only [List.length_set, copied_len]); exact trk (by kernel_rfl) (by kernel_rfl) (by kernel_rfl))⟩
              · cases z36 with
                | inl v37 =>
                  intro e s ht
                  refine CWp.trim ht ?_
                  refine sr ?_
                  refine ts (mv rfl) ?_
                  refine ts (mv rfl) ?_
                  obtain ⟨x38, hx38, h⟩ := bnd h
                  refine tt (cl1 kf rfl (.c (le3 rfl (ow rfl)) (.w (le4 rfl rfl (.s rfl (.s rfl .h))) .n)) (ref15_Of_ok hx38) rfl) ?_
                  refine tt0 (stW aT59 rfl rfl rfl rfl rfl rfl .h) ?_
                  refine ts (ac rfl rfl) ?_
                  refine rn ?_
                  refine CWp.ret ?_
                  obtain rfl := some_inj h
                  exact ⟨trivial, rt2 (ex := false) (by exact (rcW aT59 rfl (ow rfl) rfl rfl (.t rfl .n))) (by exact (sc (gd (by rfl)) (sc (gd (by rfl)) sn))) (by rfl) (by rfl)⟩
                | inr r39 =>
                  intro e s hr
                  obtain rfl := some_inj h
                  exact ⟨trivial, hr⟩
          · refine ds (mv rfl) rfl ?_
            refine ds (mv rfl) rfl ?_
            refine ds (sub rfl rfl) rfl ?_
            obtain ⟨x10, hx10, h⟩ := bnd h
            refine ds (slD lT26 szI rfl .no (.is rfl) hx10) rfl ?_
            obtain ⟨x11, hx11, h⟩ := bnd h
            refine da (ch0 (n := 0) (v' := .ref ⟨out.length, 60, 0⟩ 0 x11.length x11.length) (bs := [((60, 0), .arr 1 false (x11.map dI))]) kf rfl (.c le1 .n) (base_CopyInts_ok hx11) rfl rfl (by simp [homeVal, homeVals])) rfl ?_
            refine es rfl (mv rfl) rfl ?_
            refine es rfl (mv rfl) rfl ?_
            obtain ⟨x12, hx12, h⟩ := bnd h
            refine es rfl (slD lT26 szI rfl (.is rfl) .no hx12) rfl ?_
            obtain ⟨x13, hx13, h⟩ := bnd h
            rcases ite h with ⟨c14, h⟩ | ⟨c14, h⟩
            · refine es rfl (apRe (ys := x12) (xs := x11) (f := dI) lT26 uT26 szI rfl rfl rfl elD rfl hx13 c14) rfl ?_
              refine es rfl (as_ rfl) rfl ?_
              refine dn (by kernel_rfl) ?_
              exact ⟨x11, h, (by (try simp only [List.length_set, copied_len]); exact trk (by kernel_rfl) (by kernel_rfl) (by kernel_rfl))⟩
            · refine et_ rfl (apRn (ys := x12) (xs := x11) (f := dI) lT26 uT26 szI rfl rfl rfl elD rfl hx13 .h (vf c14)) (by kernel_rfl) rfl ?_
              refine ds (as_ rfl) rfl ?_
              refine dn (by kernel_rfl) ?_
              exact ⟨x13, h, (by (try simp only [List.length_set, copied_len]); exact trk (by kernel_rfl) (by kernel_rfl) (by kernel_rfl))⟩
theorem ref15_Same_ok {p0 : api_Array} {p1 : api_Array} {out : Out} {r : Bool} (h : ref15_Same p0 p1 = some r) : FunOk PP 49 [.d (api_Array.d p0), .d (api_Array.d p1)] out ⟨.d (.bool r), []⟩ := by
  unfold ref15_Same at h
  refine fi Try.func49 rfl (by kernel_rfl) (by kernel_rfl) (by kernel_rfl) ?_
  refine sr ?_
  refine ts (bxI rfl) ?_
  refine ts (bxI rfl) ?_
  refine ts (ac rfl rfl) ?_
  refine rn ?_
  refine CWp.seq ?_
  refine sr ?_
  refine ts (faI fT59_0 rfl rfl) ?_
  refine ts (ldI sT22 rfl rfl) ?_
  refine ts (lnD lT22 rfl rfl) ?_
  refine ts (faI fT59_0 rfl rfl) ?_
  refine ts (ldI sT22 rfl rfl) ?_
  refine ts (lnD lT22 rfl rfl) ?_
  refine ts (neq rfl rfl) ?_
  refine ts (mv rfl) ?_
  rcases ite h with ⟨c1, h⟩ | ⟨c1, h⟩
  · refine un (gn rfl rfl (nt c1)) ?_
    refine un (gn rfl rfl (nt c1)) ?_
    refine un (gn rfl rfl (nt c1)) ?_
    refine un (gn rfl rfl (nt c1)) ?_
    refine un (gn rfl rfl (nt c1)) ?_
    refine un (gn rfl rfl (nt c1)) ?_
    refine ts (pt rfl (nt c1) rfl) ?_
    refine rn ?_
    refine ct rfl rfl ?_
    refine sr ?_
    refine ts (ac rfl rfl) ?_
    refine rn ?_
    refine CWp.ret ?_
    obtain rfl := some_inj h
    exact ⟨trivial, rt1 (ex := false) (by exact (.t rfl .n)) (by exact (gd (by rfl))) (by rfl) (by rfl)⟩
  · refine us (gy rfl rfl (nf c1)) (faI fT59_1 rfl rfl) ?_
    refine us (gy rfl rfl (nf c1)) (ldI sT26 rfl rfl) ?_
    refine us (gy rfl rfl (nf c1)) (faI fT59_1 rfl rfl) ?_
    refine us (gy rfl rfl (nf c1)) (ldI sT26 rfl rfl) ?_
    obtain ⟨x2, hx2, h⟩ := bnd h
    refine us (gy rfl rfl (nf c1)) (cl0 kf rfl (.c le1 (.c le1 .n)) (base_Ints_ok hx2) rfl) ?_
    refine us (gy rfl rfl (nf c1)) (not_ rfl) ?_
    refine ts (pf rfl (nf c1) rfl) ?_
    refine rn ?_
    rcases ite h with ⟨c3, h⟩ | ⟨c3, h⟩
    · refine ct rfl (not_t (vf c3)) ?_
      refine sr ?_
      refine ts (ac rfl rfl) ?_
      refine rn ?_
      refine CWp.ret ?_
      obtain rfl := some_inj h
      exact ⟨trivial, rt1 (ex := false) (by exact (.t rfl .n)) (by exact (gd (by rfl))) (by rfl) (by rfl)⟩
    · refine cf rfl (not_f (Classical.not_not.1 c3)) ?_
      refine CWp.skip ?_
      refine CWp.seq ?_
      refine sr ?_
      refine ts (ac rfl rfl) ?_
      refine rn ?_
      obtain ⟨z9, hz9, h⟩ := bnd h
      refine lbr (E := fun s4 => [(2, .pimm (api_Array.d p0) 0), (3, .pimm (api_Array.d p1) 0), (5, .d (.int .i64 s4))]) (M := fun s4 => ⟨[], out, []⟩) (E' := fun y => []) (M' := fun y => ⟨[], out, []⟩) (RT := fun r e s => Lx.Returns PP Try.f49.results.toList e s ⟨.d (.bool r), []⟩) hz9 (by (try simp only [List.length_set, copied_len]); exact trk (by kernel_rfl) (by kernel_rfl) (by kernel_rfl)) ?_ ?_
      · intro s4 ww h
        unfold ref15_Same.s1 at h
        refine CWp.seq ?_
        refine sr ?_
        refine ts (mv rfl) ?_
        refine ts (faI fT59_0 rfl rfl) ?_
        refine ts (ldI sT22 rfl rfl) ?_
        refine ts (lnD lT22 rfl rfl) ?_
        refine ts (lss rfl rfl) ?_
        refine rn ?_
        rcases ite h with ⟨c5, h⟩ | ⟨c5, h⟩
        · refine ct rfl (bt c5) ?_
          refine CWp.skip ?_
          refine CWp.seq ?_
          refine CWp.block ?_
          refine sd mixed (b := [0, 1, 0, 7, 15, 0, 32, 0, 224, 480, 1023]) (by kernel_rfl) ?_
          refine ds (faI fT59_0 rfl rfl) rfl ?_
          refine ds (ldI sT22 rfl rfl) rfl ?_
          refine ds (mv rfl) rfl ?_
          obtain ⟨x6, hx6, h⟩ := bnd h
          refine ds (ixD lT22 api_Bound.sz rfl rfl hx6) rfl ?_
          refine ds (ldIW aT31 rfl rfl rfl) rfl ?_
          refine ds (faI fT59_0 rfl rfl) rfl ?_
          refine ds (ldI sT22 rfl rfl) rfl ?_
          refine ds (mv rfl) rfl ?_
          obtain ⟨x7, hx7, h⟩ := bnd h
          refine ds (ixD lT22 api_Bound.sz rfl rfl hx7) rfl ?_
          refine ds (ldIW aT31 rfl rfl rfl) rfl ?_
          refine ds (sne_ (r := ((x6.Low == x7.Low) && ((x6.High == x7.High) && true))) rfl rfl ffT31 (by kernel_rfl)) rfl ?_
          refine dn (by kernel_rfl) ?_
          rcases ite h with ⟨c8, h⟩ | ⟨c8, h⟩
          · refine ct rfl (not_t (vf c8)) ?_
            refine sr ?_
            refine ts (ac rfl rfl) ?_
            refine rn ?_
            refine CWp.ret ?_
            obtain rfl := some_inj h
            exact ⟨rfl, rt1 (ex := false) (by exact (.t rfl .n)) (by exact (gd (by rfl))) (by rfl) (by rfl)⟩
          · refine cf rfl (not_f (Classical.not_not.1 c8)) ?_
            refine CWp.skip ?_
            refine lr ?_
            refine ts (mv rfl) ?_
            refine ts (add rfl rfl) ?_
            refine ts (as_ rfl) ?_
            refine rn ?_
            obtain rfl := some_inj h
            exact ⟨rfl, (by (try simp only [List.length_set, copied_len]); exact trk (by kernel_rfl) (by kernel_rfl) (by kernel_rfl))⟩
        · refine cf rfl (bf c5) ?_
          refine CWp.exit ?_
          obtain rfl := some_inj h
          exact ⟨rfl, (by (try simp only [List.length_set, copied_len]); exact trk (by kernel_rfl) (by kernel_rfl) (by kernel_rfl))⟩
      · cases z9 with
        | inl v10 =>
          intro e s ht
          refine CWp.trim ht ?_
          refine sr ?_
          refine ts (ac rfl rfl) ?_
          refine rn ?_
          refine CWp.ret ?_
          obtain rfl := some_inj h
          exact ⟨trivial, rt1 (ex := false) (by exact (.t rfl .n)) (by exact (gd (by rfl))) (by rfl) (by rfl)⟩
        | inr r11 =>
          intro e s hr
          obtain rfl := some_inj h
          exact ⟨trivial, hr⟩
theorem law15_is_ok {p0 : api_Array} {p1 : Int} {p2 : api_Array} {p3 : Int} {out : Out} {r : Bool} (h : law15_is p0 p1 p2 p3 = some r) : FunOk PP 36 [.d (api_Array.d p0), .d (.int .i64 p1), .d (api_Array.d p2), .d (.int .i64 p3)] out ⟨.d (.bool r), []⟩ := by
  unfold law15_is at h
  refine fi Try.func36 rfl (by kernel_rfl) (by kernel_rfl) (by kernel_rfl) ?_
  refine sr ?_
  refine ts (bxI rfl) ?_
  refine ts (bxI rfl) ?_
  refine ts (ac rfl rfl) ?_
  refine rn ?_
  refine sr ?_
  refine ts (mv rfl) ?_
  refine ts (mv rfl) ?_
  refine ts (eql rfl rfl) ?_
  refine ts (mv rfl) ?_
  rcases ite h with ⟨c1, h⟩ | ⟨c1, h⟩
  · refine us (gy rfl rfl (et c1)) (ldIW aT59 rfl rfl rfl) ?_
    refine us (gy rfl rfl (et c1)) (ldIW aT59 rfl rfl rfl) ?_
    obtain ⟨x2, hx2, h⟩ := bnd h
    refine us (gy rfl rfl (et c1)) (cl0 kf rfl (.c le1 (.c le1 .n)) (ref15_Same_ok hx2) rfl) ?_
    refine ts (pt rfl (et c1) rfl) ?_
    refine ts (as_ rfl) ?_
    refine rn ?_
    refine CWp.ret ?_
    obtain rfl := some_inj h
    exact ⟨trivial, rt1 (ex := false) (by exact (.t rfl .n)) (by exact (gd (by rfl))) (by rfl) (by rfl)⟩
  · refine un (gn rfl rfl (ef c1)) ?_
    refine un (gn rfl rfl (ef c1)) ?_
    refine un (gn rfl rfl (ef c1)) ?_
    refine ts (pf rfl (ef c1) rfl) ?_
    refine ts (as_ rfl) ?_
    refine rn ?_
    refine CWp.ret ?_
    obtain rfl := some_inj h
    exact ⟨trivial, rt1 (ex := false) (by exact (.t rfl .n)) (by exact (gd (by rfl))) (by rfl) (by rfl)⟩
theorem law15_ShapesReduces_ok {p0 : api_Array} {p1 : Int} {p2 : Int} {out : Out} {r : Bool} (h : law15_ShapesReduces p0 p1 p2 = some r) : FunOk PP 9 [.d (api_Array.d p0), .d (.int .i64 p1), .d (.int .i64 p2)] out ⟨.d (.bool r), []⟩ := by
  unfold law15_ShapesReduces at h
  refine fi Try.func9 rfl (by kernel_rfl) (by kernel_rfl) (by kernel_rfl) ?_
  refine sr ?_
  refine ts (bxI rfl) ?_
  refine ts (ac rfl rfl) ?_
  refine rn ?_
  refine CWp.seq ?_
  refine sr ?_
  obtain ⟨x1, hx1, h⟩ := bnd h
  refine ts (cl0 kf rfl .n (law15_awake_ok hx1) rfl) ?_
  refine ts (not_ rfl) ?_
  refine rn ?_
  rcases ite h with ⟨c2, h⟩ | ⟨c2, h⟩
  · refine ct rfl (not_t (vf c2)) ?_
    refine sr ?_
    refine ts (ac rfl rfl) ?_
    refine rn ?_
    refine CWp.ret ?_
    obtain rfl := some_inj h
    exact ⟨trivial, rt1 (ex := false) (by exact (.t rfl .n)) (by exact (gd (by rfl))) (by rfl) (by rfl)⟩
  · refine cf rfl (not_f (Classical.not_not.1 c2)) ?_
    refine CWp.skip ?_
    refine CWp.seq ?_
    refine sr ?_
    refine ts (ldIW aT59 rfl rfl rfl) ?_
    refine ts (cl0 kf rfl (.c le1 .n) (law15_few_ok rfl) rfl) ?_
    refine ts (not_ rfl) ?_
    refine rn ?_
    rcases ite h with ⟨c3, h⟩ | ⟨c3, h⟩
    · refine ct rfl (not_t (vf c3)) ?_
      refine sr ?_
      refine ts (ac rfl rfl) ?_
      refine rn ?_
      refine CWp.ret ?_
      obtain rfl := some_inj h
      exact ⟨trivial, rt1 (ex := false) (by exact (.t rfl .n)) (by exact (gd (by rfl))) (by rfl) (by rfl)⟩
    · refine cf rfl (not_f (Classical.not_not.1 c3)) ?_
      refine CWp.skip ?_
      refine sr ?_
      refine ts (ldIW aT59 rfl rfl rfl) ?_
      obtain ⟨x4, hx4, h⟩ := bnd h
      refine ts (cl0 kf rfl (.c le1 .n) (ref15_Copy_ok hx4) rfl) ?_
      refine ts (mv rfl) ?_
      refine ts (mv rfl) ?_
      obtain ⟨x5, hx5, h⟩ := bnd h
      refine ts (cl0 kf rfl (.c le1 (.c le1 (.c le1 .n))) (shapes_Reduced_ok hx5) rfl) ?_
      refine ts (mv rfl) ?_
      refine ts (ex_ rfl rfl) ?_
      refine ts (ex_ rfl rfl) ?_
      refine ta (al (n := 0) zT59 rfl) ?_
      refine tt0 (stW aT59 rfl rfl rfl rfl rfl rfl .h) ?_
      refine ts (as_ rfl) ?_
      refine rn ?_
      refine sr ?_
      refine ts (ldIW aT59 rfl rfl rfl) ?_
      refine ts (mv rfl) ?_
      refine ts (mv rfl) ?_
      obtain ⟨x6, hx6, h⟩ := bnd h
      refine ts (cl0 kf rfl (.c le1 (.c le1 (.c le1 .n))) (ref15_Reduced_ok hx6) rfl) ?_
      refine ts (mv rfl) ?_
      refine ts (ex_ rfl rfl) ?_
      refine ts (ex_ rfl rfl) ?_
      refine ta (al (n := 0) zT59 rfl) ?_
      refine tt0 (stW aT59 rfl rfl rfl rfl rfl rfl .h) ?_
      refine ts (as_ rfl) ?_
      refine rn ?_
      refine sr ?_
      refine ts (ldW (e := api_Array.d x5.1) aT59 rfl (ow rfl) rfl rfl) ?_
      refine ts (mv rfl) ?_
      refine ts (ldW (e := api_Array.d x6.1) aT59 rfl (ow rfl) rfl rfl) ?_
      refine ts (mv rfl) ?_
      obtain ⟨x7, hx7, h⟩ := bnd h
      refine ts (cl0 kf rfl (.c le1 (.c le1 (.c le1 (.c le1 .n)))) (law15_is_ok hx7) rfl) ?_
      refine ts (as_ rfl) ?_
      refine rn ?_
      refine CWp.ret ?_
      obtain rfl := some_inj h
      exact ⟨trivial, rt1 (ex := false) (by exact (.t rfl .n)) (by exact (gd (by rfl))) (by rfl) (by rfl)⟩
end Go.Proofs.Ytoelcmbacfhdnaa
