/- The walks: the program does what the functions in plain form say. Part 2. -/
import Derived.Test.YtoelcmbacfhdnaaShapesPacksWk1
set_option linter.all false
namespace Go.Proofs.Ytoelcmbacfhdnaa
open Go.Lx Go.Sh
set_option linter.unusedVariables false
set_option maxRecDepth 100000
theorem ref15_Packed_ok {p0 : api_Array} {p1 : api_Array} {p2 : api_Array} {out : Out} {r : api_Array × Int} (h : ref15_Packed p0 p1 p2 = some r) : FunOk PP 52 [.d (api_Array.d p0), .d (api_Array.d p1), .d (api_Array.d p2)] out ⟨.tup [.d (api_Array.d r.1), .d (.int .i64 r.2)], []⟩ := by
  unfold ref15_Packed at h
  refine fi Try.func52 rfl (by kernel_rfl) (by kernel_rfl) (by kernel_rfl) ?_
  refine sr ?_
  refine ta (bx (n := 0) rfl rfl rfl) ?_
  refine ta (bx (n := 0) rfl rfl rfl) ?_
  refine ta (bx (n := 0) rfl rfl rfl) ?_
  refine ta (al (n := 0) zT59 rfl) ?_
  refine ts (ac rfl rfl) ?_
  refine rn ?_
  refine CWp.seq ?_
  refine sr ?_
  refine ts (ldW (e := api_Array.d p0) aT59 rfl (ow rfl) rfl rfl) ?_
  obtain ⟨x1, hx1, h⟩ := bnd h
  refine ts (cl0 kf rfl (.c le1 .n) (ref15_Err_ok hx1) rfl) ?_
  refine ts (as_ rfl) ?_
  refine rn ?_
  refine sr ?_
  refine ts (mv rfl) ?_
  refine ts (neq rfl rfl) ?_
  refine rn ?_
  rcases ite h with ⟨c2, h⟩ | ⟨c2, h⟩
  · refine ct rfl (nt c2) ?_
    refine sr ?_
    refine ts ((bld (v := .d (.agg [.nilsl, .nilsl])) rfl (by kernel_rfl)).wk (x' := api_Array.d (api_Array.mk [] [])) rfl) ?_
    refine ts (mv rfl) ?_
    refine tt0 (stW aT59 rfl rfl rfl rfl rfl rfl .h) ?_
    refine ts (as_ rfl) ?_
    refine rn ?_
    refine CWp.ret ?_
    obtain rfl := some_inj h
    exact ⟨trivial, rt2 (ex := false) (by exact (rcW aT59 rfl (ow rfl) rfl rfl (.t rfl .n))) (by exact (sc (gd (by rfl)) (sc (gd (by rfl)) sn))) (by rfl) (by rfl)⟩
  · refine cf rfl (nf c2) ?_
    refine CWp.skip ?_
    refine CWp.seq ?_
    refine sr ?_
    refine ts (ldW (e := api_Array.d p1) aT59 rfl (ow rfl) rfl rfl) ?_
    obtain ⟨x3, hx3, h⟩ := bnd h
    refine ts (cl0 kf rfl (.c le1 .n) (ref15_Err_ok hx3) rfl) ?_
    refine ts (as_ rfl) ?_
    refine rn ?_
    refine sr ?_
    refine ts (mv rfl) ?_
    refine ts (neq rfl rfl) ?_
    refine rn ?_
    rcases ite h with ⟨c4, h⟩ | ⟨c4, h⟩
    · refine ct rfl (nt c4) ?_
      refine sr ?_
      refine ts ((bld (v := .d (.agg [.nilsl, .nilsl])) rfl (by kernel_rfl)).wk (x' := api_Array.d (api_Array.mk [] [])) rfl) ?_
      refine ts (mv rfl) ?_
      refine tt0 (stW aT59 rfl rfl rfl rfl rfl rfl .h) ?_
      refine ts (as_ rfl) ?_
      refine rn ?_
      refine CWp.ret ?_
      obtain rfl := some_inj h
      exact ⟨trivial, rt2 (ex := false) (by exact (rcW aT59 rfl (ow rfl) rfl rfl (.t rfl .n))) (by exact (sc (gd (by rfl)) (sc (gd (by rfl)) sn))) (by rfl) (by rfl)⟩
    · refine cf rfl (nf c4) ?_
      refine CWp.skip ?_
      refine CWp.seq ?_
      refine sr ?_
      refine ts (ldW (e := api_Array.d p2) aT59 rfl (ow rfl) rfl rfl) ?_
      obtain ⟨x5, hx5, h⟩ := bnd h
      refine ts (cl0 kf rfl (.c le1 .n) (ref15_Err_ok hx5) rfl) ?_
      refine ts (as_ rfl) ?_
      refine rn ?_
      refine sr ?_
      refine ts (mv rfl) ?_
      refine ts (neq rfl rfl) ?_
      refine rn ?_
      rcases ite h with ⟨c6, h⟩ | ⟨c6, h⟩
      · refine ct rfl (nt c6) ?_
        refine sr ?_
        refine ts ((bld (v := .d (.agg [.nilsl, .nilsl])) rfl (by kernel_rfl)).wk (x' := api_Array.d (api_Array.mk [] [])) rfl) ?_
        refine ts (mv rfl) ?_
        refine tt0 (stW aT59 rfl rfl rfl rfl rfl rfl .h) ?_
        refine ts (as_ rfl) ?_
        refine rn ?_
        refine CWp.ret ?_
        obtain rfl := some_inj h
        exact ⟨trivial, rt2 (ex := false) (by exact (rcW aT59 rfl (ow rfl) rfl rfl (.t rfl .n))) (by exact (sc (gd (by rfl)) (sc (gd (by rfl)) sn))) (by rfl) (by rfl)⟩
      · refine cf rfl (nf c6) ?_
        refine CWp.skip ?_
        refine jn (E := fun a7 => [(3, .bptr ⟨out.length, 3, 0⟩ 0), (4, .bptr ⟨out.length, 4, 0⟩ 0), (5, .bptr ⟨out.length, 5, 0⟩ 0), (6, .bptr ⟨out.length, 6, 0⟩ 0)]) (M := fun a7 => ⟨[((3, 0), .box [.d (.sl (p0.Bounds.map api_Bound.d)), .d (.sl (p0.Elements.map dI))]), ((4, 0), .box [.d (.sl (p1.Bounds.map api_Bound.d)), .d (.sl (p1.Elements.map dI))]), ((5, 0), .box [.d (.sl (p2.Bounds.map api_Bound.d)), .d (.sl (p2.Elements.map dI))]), ((6, 0), .box [.d .nilsl, .d .nilsl])], out, []⟩) (F := fun a7 => ref15_Packed.j1 p0 p1 p2 a7) (r := r) ?_ ?_
        · intro a7 h
          unfold ref15_Packed.j1 at h
          refine CWp.seq ?_
          refine sr ?_
          refine ts (fa fT59_0 rfl rfl) ?_
          refine ts (ld sT22 rfl (ow rfl) rfl) ?_
          refine ts (lnD lT22 rfl rfl) ?_
          refine ts (gtr rfl rfl) ?_
          refine rn ?_
          rcases ite h with ⟨c8, h⟩ | ⟨c8, h⟩
          · refine ct rfl (bt c8) ?_
            refine sr ?_
            refine ts ((bld (v := .d (.agg [.nilsl, .nilsl])) rfl (by kernel_rfl)).wk (x' := api_Array.d (api_Array.mk [] [])) rfl) ?_
            refine tt0 (stW aT59 rfl rfl rfl rfl rfl rfl (.s rfl (.s rfl (.s rfl .h)))) ?_
            refine ts (ac rfl rfl) ?_
            refine rn ?_
            refine CWp.ret ?_
            obtain rfl := some_inj h
            exact ⟨trivial, rt2 (ex := false) (by exact (rcW aT59 rfl (ow rfl) rfl rfl (.t rfl .n))) (by exact (sc (gd (by rfl)) (sc (gd (by rfl)) sn))) (by rfl) (by rfl)⟩
          · refine cf rfl (bf c8) ?_
            refine CWp.skip ?_
            refine sr ?_
            refine ta (an (n := 0) lT26 rfl) ?_
            refine rn ?_
            refine CWp.seq ?_
            refine sr ?_
            refine ts (ac rfl rfl) ?_
            refine rn ?_
            obtain ⟨z15, hz15, h⟩ := bnd h
            refine lb (E := fun s9 => [(3, .bptr ⟨out.length, 3, 0⟩ 0), (4, .bptr ⟨out.length, 4, 0⟩ 0), (5, .bptr ⟨out.length, 5, 0⟩ 0), (6, .bptr ⟨out.length, 6, 0⟩ 0), (11, .ref ⟨out.length, 11, 0⟩ 0 s9.2.length s9.2.length), (12, .d (.int .i64 s9.1))]) (M := fun s9 => ⟨[((3, 0), .box [.d (.sl (p0.Bounds.map api_Bound.d)), .d (.sl (p0.Elements.map dI))]), ((4, 0), .box [.d (.sl (p1.Bounds.map api_Bound.d)), .d (.sl (p1.Elements.map dI))]), ((5, 0), .box [.d (.sl (p2.Bounds.map api_Bound.d)), .d (.sl (p2.Elements.map dI))]), ((6, 0), .box [.d .nilsl, .d .nilsl]), ((11, 0), .arr 1 false (s9.2.map dI))], out, []⟩) (E' := fun y => [(5, .bptr ⟨out.length, 5, 0⟩ 0), (6, .bptr ⟨out.length, 6, 0⟩ 0), (11, .ref ⟨out.length, 11, 0⟩ 0 y.length y.length)]) (M' := fun y => ⟨[((5, 0), .box [.d (.sl (p2.Bounds.map api_Bound.d)), .d (.sl (p2.Elements.map dI))]), ((6, 0), .box [.d .nilsl, .d .nilsl]), ((11, 0), .arr 1 false (y.map dI))], out, []⟩) hz15 (by (try simp only [List.length_set, copied_len]); exact trk (by kernel_rfl) (by kernel_rfl) (by kernel_rfl)) ?_ ?_
            · intro s9 ww h
              unfold ref15_Packed.s2 at h
              refine CWp.seq ?_
              refine sr ?_
              refine ts (mv rfl) ?_
              refine ts (fa fT59_1 rfl rfl) ?_
              refine ts (ld sT26 rfl (ow rfl) rfl) ?_
              refine ts (lnD lT26 rfl rfl) ?_
              refine ts (lss rfl rfl) ?_
              refine rn ?_
              rcases ite h with ⟨c10, h⟩ | ⟨c10, h⟩
              · refine ct rfl (bt c10) ?_
                refine CWp.skip ?_
                refine CWp.seq ?_
                refine CWp.block ?_
                refine sr ?_
                refine ts (ldW (e := api_Array.d p1) aT59 rfl (ow rfl) rfl rfl) ?_
                refine ts (mv rfl) ?_
                obtain ⟨x11, hx11, h⟩ := bnd h
                refine ts (cl0 kf rfl (.c le1 (.c le1 .n)) (ref15_At_ok hx11) rfl) ?_
                refine ts (neq rfl rfl) ?_
                refine rn ?_
                rcases ite h with ⟨c12, h⟩ | ⟨c12, h⟩
                · refine ct rfl (nt c12) ?_
                  refine lr ?_
                  refine ts (mv rfl) ?_
                  refine ts (fa fT59_1 rfl rfl) ?_
                  refine ts (ld sT26 rfl (ow rfl) rfl) ?_
                  refine ts (mv rfl) ?_
                  obtain ⟨x13, hx13, h⟩ := bnd h
                  refine ts (ixD lT26 szI rfl rfl hx13) ?_
                  refine ts (ldI sT3 rfl rfl) ?_
                  refine ts (bsT (l := (([x13] : List Int).map dI)) lT26 rfl rfl rfl (by kernel_rfl)) ?_
                  obtain ⟨x14, hx14, h⟩ := bnd h
                  refine tp (apR (ys := ([x13] : List Int)) (xs := s9.2) (f := dI) lT26 uT26 szI rfl rfl rfl elT rfl hx14 (.s rfl (.s rfl (.s rfl (.s rfl .h))))) ?_
                  refine ts (as_ rfl) ?_
                  refine rn ?_
                  refine lr ?_
                  refine ts (mv rfl) ?_
                  refine ts (add rfl rfl) ?_
                  refine ts (as_ rfl) ?_
                  refine rn ?_
                  obtain rfl := some_inj h
                  exact ⟨rfl, (by (try simp only [List.length_set, copied_len]); exact trk (by kernel_rfl) (by kernel_rfl) (by kernel_rfl))⟩
                · refine cf rfl (nf c12) ?_
                  refine CWp.skip ?_
                  refine lr ?_
                  refine ts (mv rfl) ?_
                  refine ts (add rfl rfl) ?_
                  refine ts (as_ rfl) ?_
                  refine rn ?_
                  obtain rfl := some_inj h
                  exact ⟨rfl, (by (try simp only [List.length_set, copied_len]); exact trk (by kernel_rfl) (by kernel_rfl) (by kernel_rfl))⟩
              · refine cf rfl (bf c10) ?_
                refine CWp.exit ?_
                obtain rfl := some_inj h
                exact ⟨rfl, (by (try simp only [List.length_set, copied_len]); exact trk (by kernel_rfl) (by kernel_rfl) (by kernel_rfl))⟩
            · intro e s ht
              refine CWp.trim ht ?_
              refine CWp.seq ?_
              refine sr ?_
              refine ts (fa fT59_0 rfl rfl) ?_
              refine ts (ld sT22 rfl (ow rfl) rfl) ?_
              refine ts (lnD lT22 rfl rfl) ?_
              refine ts (eql rfl rfl) ?_
              refine rn ?_
              rcases ite h with ⟨c16, h⟩ | ⟨c16, h⟩
              · refine ct rfl (et c16) ?_
                refine CWp.seq ?_
                refine sr ?_
                refine ts (fa fT59_1 rfl rfl) ?_
                refine ts (ld sT26 rfl (ow rfl) rfl) ?_
                refine ts (lnD lT26 rfl rfl) ?_
                refine ts (mv rfl) ?_
                refine ts (lnR lT26 rfl rfl) ?_
                refine ts (lss rfl rfl) ?_
                refine rn ?_
                rcases ite h with ⟨c17, h⟩ | ⟨c17, h⟩
                · refine ct rfl (bt c17) ?_
                  refine sr ?_
                  refine ts ((bld (v := .d (.agg [.nilsl, .nilsl])) rfl (by kernel_rfl)).wk (x' := api_Array.d (api_Array.mk [] [])) rfl) ?_
                  refine tt0 (stW aT59 rfl rfl rfl rfl rfl rfl (.s rfl .h)) ?_
                  refine ts (ac rfl rfl) ?_
                  refine rn ?_
                  refine CWp.ret ?_
                  obtain rfl := some_inj h
                  exact ⟨trivial, rt2 (ex := false) (by exact (rcW aT59 rfl (ow rfl) rfl rfl (.t rfl .n))) (by exact (sc (gd (by rfl)) (sc (gd (by rfl)) sn))) (by rfl) (by rfl)⟩
                · refine cf rfl (bf c17) ?_
                  refine CWp.skip ?_
                  refine lr ?_
                  refine ts (mv rfl) ?_
                  refine ts (fa fT59_1 rfl rfl) ?_
                  refine ts (ld sT26 rfl (ow rfl) rfl) ?_
                  refine ts (mv rfl) ?_
                  refine ts (lnR lT26 rfl rfl) ?_
                  obtain ⟨x18, hx18, h⟩ := bnd h
                  refine ts (slD lT26 szI rfl (.is rfl) .no hx18) ?_
                  obtain ⟨x19, hx19, h⟩ := bnd h
                  refine tp (apR (ys := x18) (xs := z15) (f := dI) lT26 uT26 szI rfl rfl rfl elD rfl hx19 (.s rfl (.s rfl .h))) ?_
                  refine ts (as_ rfl) ?_
                  refine rn ?_
                  refine sr ?_
                  refine ts (mv rfl) ?_
                  refine ts (lnR lT26 rfl rfl) ?_
                  refine ts (bsT (l := (([(x19.length : Int)] : List Int).map dI)) lT26 rfl rfl rfl (by kernel_rfl)) ?_
                  refine ts (mv rfl) ?_
                  obtain ⟨x20, hx20, h⟩ := bnd h
                  refine tt (cl1 kf rfl (.c le2 (.w (le4 rfl rfl (.s rfl (.s rfl .h))) .n)) (ref15_Of_ok hx20) rfl) ?_
                  refine tt0 (stW aT59 rfl rfl rfl rfl rfl rfl (.s rfl .h)) ?_
                  refine ts (ac rfl rfl) ?_
                  refine rn ?_
                  refine CWp.ret ?_
                  obtain rfl := some_inj h
                  exact ⟨trivial, rt2 (ex := false) (by exact (rcW aT59 rfl (ow rfl) rfl rfl (.t rfl .n))) (by exact (sc (gd (by rfl)) (sc (gd (by rfl)) sn))) (by rfl) (by rfl)⟩
              · refine cf rfl (ef c16) ?_
                refine CWp.skip ?_
                refine sr ?_
                refine ts (mv rfl) ?_
                refine ts (lnR lT26 rfl rfl) ?_
                refine ts (bsT (l := (([(z15.length : Int)] : List Int).map dI)) lT26 rfl rfl rfl (by kernel_rfl)) ?_
                refine ts (mv rfl) ?_
                obtain ⟨x21, hx21, h⟩ := bnd h
                refine tt (cl1 kf rfl (.c le2 (.w (le4 rfl rfl (.s rfl (.s rfl .h))) .n)) (ref15_Of_ok hx21) rfl) ?_
                refine tt0 (stW aT59 rfl rfl rfl rfl rfl rfl (.s rfl .h)) ?_
                refine ts (ac rfl rfl) ?_
                refine rn ?_
                refine CWp.ret ?_
                obtain rfl := some_inj h
                exact ⟨trivial, rt2 (ex := false) (by exact (rcW aT59 rfl (ow rfl) rfl rfl (.t rfl .n))) (by exact (sc (gd (by rfl)) (sc (gd (by rfl)) sn))) (by rfl) (by rfl)⟩
        · refine sd mixed (b := [0, 1, 3, 0, 8, 31, 63, 127, 255, 511, 1023, 2047, 4095, 8191]) (by kernel_rfl) ?_
          refine ds (fa fT59_0 rfl rfl) rfl ?_
          refine dr (ld sT22 rfl (ow rfl) rfl) rfl ?_
          obtain ⟨x7, hx7, h⟩ := bnd h
          refine dr (cl0 kf rfl (.c le1 .n) (ref15_Extents_ok hx7) rfl) rfl ?_
          refine ds (fa fT59_0 rfl rfl) rfl ?_
          refine dr (ld sT22 rfl (ow rfl) rfl) rfl ?_
          obtain ⟨x8, hx8, h⟩ := bnd h
          refine dr (cl0 kf rfl (.c le1 .n) (ref15_Extents_ok hx8) rfl) rfl ?_
          obtain ⟨x9, hx9, h⟩ := bnd h
          refine dr (cl0 kf rfl (.c le1 (.c le1 .n)) (base_Ints_ok hx9) rfl) rfl ?_
          refine ds (not_ rfl) rfl ?_
          refine ds (mv rfl) rfl ?_
          rcases ite h with ⟨c10, h⟩ | ⟨c10, h⟩
          · refine vs (gy rfl rfl (not_t (vf c10))) (fa fT59_0 rfl rfl) rfl ?_
            refine vs (gy rfl rfl (not_t (vf c10))) (ld sT22 rfl (ow rfl) rfl) rfl ?_
            refine vs (gy rfl rfl (not_t (vf c10))) (lnD lT22 rfl rfl) rfl ?_
            refine vs (gy rfl rfl (not_t (vf c10))) (gtr rfl rfl) rfl ?_
            refine ds (pt rfl (not_t (vf c10)) rfl) rfl ?_
            refine dn (by kernel_rfl) ?_
            rcases ite h with ⟨c11, h⟩ | ⟨c11, h⟩
            · refine ct rfl (bt c11) ?_
              refine sr ?_
              refine ts ((bld (v := .d (.agg [.nilsl, .nilsl])) rfl (by kernel_rfl)).wk (x' := api_Array.d (api_Array.mk [] [])) rfl) ?_
              refine tt0 (stW aT59 rfl rfl rfl rfl rfl rfl .h) ?_
              refine ts (ac rfl rfl) ?_
              refine rn ?_
              refine CWp.ret ?_
              obtain rfl := some_inj h
              exact ⟨trivial, rt2 (ex := false) (by exact (rcW aT59 rfl (ow rfl) rfl rfl (.t rfl .n))) (by exact (sc (gd (by rfl)) (sc (gd (by rfl)) sn))) (by rfl) (by rfl)⟩
            · refine cf rfl (bf c11) ?_
              refine CWp.skip ?_
              exact ⟨(), h, (by (try simp only [List.length_set, copied_len]); exact trk (by kernel_rfl) (by kernel_rfl) (by kernel_rfl))⟩
          · refine vn (gn rfl rfl (not_f (Classical.not_not.1 c10))) ?_
            refine vn (gn rfl rfl (not_f (Classical.not_not.1 c10))) ?_
            refine vn (gn rfl rfl (not_f (Classical.not_not.1 c10))) ?_
            refine vn (gn rfl rfl (not_f (Classical.not_not.1 c10))) ?_
            refine ds (pf rfl (not_f (Classical.not_not.1 c10)) rfl) rfl ?_
            refine dn (by kernel_rfl) ?_
            refine cf rfl rfl ?_
            refine CWp.skip ?_
            exact ⟨(), h, (by (try simp only [List.length_set, copied_len]); exact trk (by kernel_rfl) (by kernel_rfl) (by kernel_rfl))⟩
theorem ref15_Same_ok {p0 : api_Array} {p1 : api_Array} {out : Out} {r : Bool} (h : ref15_Same p0 p1 = some r) : FunOk PP 49 [.d (api_Array.d p0), .d (api_Array.d p1)] out ⟨.d (.bool r), []⟩ := by
  unfold ref15_Same at h
  refine fi Try.func49 rfl (by kernel_rfl) (by kernel_rfl) (by kernel_rfl) ?_
  refine sr ?_
  refine ta (bx (n := 0) rfl rfl rfl) ?_
  refine ta (bx (n := 0) rfl rfl rfl) ?_
  refine ts (ac rfl rfl) ?_
  refine rn ?_
  refine CWp.seq ?_
  refine sr ?_
  refine ts (fa fT59_0 rfl rfl) ?_
  refine ts (ld sT22 rfl (ow rfl) rfl) ?_
  refine ts (lnD lT22 rfl rfl) ?_
  refine ts (fa fT59_0 rfl rfl) ?_
  refine ts (ld sT22 rfl (ow rfl) rfl) ?_
  refine ts (lnD lT22 rfl rfl) ?_
  refine ts (neq rfl rfl) ?_
  refine ts (mv rfl) ?_
  rcases ite h with ⟨c1, h⟩ | ⟨c1, h⟩
  · refine un (gn rfl rfl (nt c1)) ?_
    refine un (gn rfl rfl (nt c1)) ?_
    refine un (gn rfl rfl (nt c1)) ?_
    refine un (gn rfl rfl (nt c1)) ?_
    refine un (gn rfl rfl (nt c1)) ?_
    refine un (gn rfl rfl (nt c1)) ?_
    refine ts (pt rfl (nt c1) rfl) ?_
    refine rn ?_
    refine ct rfl rfl ?_
    refine sr ?_
    refine ts (ac rfl rfl) ?_
    refine rn ?_
    refine CWp.ret ?_
    obtain rfl := some_inj h
    exact ⟨trivial, rt1 (ex := false) (by exact (.t rfl .n)) (by exact (gd (by rfl))) (by rfl) (by rfl)⟩
  · refine us (gy rfl rfl (nf c1)) (fa fT59_1 rfl rfl) ?_
    refine us (gy rfl rfl (nf c1)) (ld sT26 rfl (ow rfl) rfl) ?_
    refine us (gy rfl rfl (nf c1)) (fa fT59_1 rfl rfl) ?_
    refine us (gy rfl rfl (nf c1)) (ld sT26 rfl (ow rfl) rfl) ?_
    obtain ⟨x2, hx2, h⟩ := bnd h
    refine us (gy rfl rfl (nf c1)) (cl0 kf rfl (.c le1 (.c le1 .n)) (base_Ints_ok hx2) rfl) ?_
    refine us (gy rfl rfl (nf c1)) (not_ rfl) ?_
    refine ts (pf rfl (nf c1) rfl) ?_
    refine rn ?_
    rcases ite h with ⟨c3, h⟩ | ⟨c3, h⟩
    · refine ct rfl (not_t (vf c3)) ?_
      refine sr ?_
      refine ts (ac rfl rfl) ?_
      refine rn ?_
      refine CWp.ret ?_
      obtain rfl := some_inj h
      exact ⟨trivial, rt1 (ex := false) (by exact (.t rfl .n)) (by exact (gd (by rfl))) (by rfl) (by rfl)⟩
    · refine cf rfl (not_f (Classical.not_not.1 c3)) ?_
      refine CWp.skip ?_
      refine CWp.seq ?_
      refine sr ?_
      refine ts (ac rfl rfl) ?_
      refine rn ?_
      obtain ⟨z9, hz9, h⟩ := bnd h
      refine lbr (E := fun s4 => [(2, .bptr ⟨out.length, 2, 0⟩ 0), (3, .bptr ⟨out.length, 3, 0⟩ 0), (5, .d (.int .i64 s4))]) (M := fun s4 => ⟨[((2, 0), .box [.d (.sl (p0.Bounds.map api_Bound.d)), .d (.sl (p0.Elements.map dI))]), ((3, 0), .box [.d (.sl (p1.Bounds.map api_Bound.d)), .d (.sl (p1.Elements.map dI))])], out, []⟩) (E' := fun y => []) (M' := fun y => ⟨[], out, []⟩) (RT := fun r e s => Lx.Returns PP Try.f49.results.toList e s ⟨.d (.bool r), []⟩) hz9 (by (try simp only [List.length_set, copied_len]); exact trk (by kernel_rfl) (by kernel_rfl) (by kernel_rfl)) ?_ ?_
      · intro s4 ww h
        unfold ref15_Same.s1 at h
        refine CWp.seq ?_
        refine sr ?_
        refine ts (mv rfl) ?_
        refine ts (fa fT59_0 rfl rfl) ?_
        refine ts (ld sT22 rfl (ow rfl) rfl) ?_
        refine ts (lnD lT22 rfl rfl) ?_
        refine ts (lss rfl rfl) ?_
        refine rn ?_
        rcases ite h with ⟨c5, h⟩ | ⟨c5, h⟩
        · refine ct rfl (bt c5) ?_
          refine CWp.skip ?_
          refine CWp.seq ?_
          refine CWp.block ?_
          refine sd mixed (b := [0, 1, 0, 7, 15, 0, 32, 0, 224, 480, 1023]) (by kernel_rfl) ?_
          refine ds (fa fT59_0 rfl rfl) rfl ?_
          refine dr (ld sT22 rfl (ow rfl) rfl) rfl ?_
          refine ds (mv rfl) rfl ?_
          obtain ⟨x6, hx6, h⟩ := bnd h
          refine ds (ixD lT22 api_Bound.sz rfl rfl hx6) rfl ?_
          refine dr (ldIW aT31 rfl rfl rfl) rfl ?_
          refine ds (fa fT59_0 rfl rfl) rfl ?_
          refine dr (ld sT22 rfl (ow rfl) rfl) rfl ?_
          refine ds (mv rfl) rfl ?_
          obtain ⟨x7, hx7, h⟩ := bnd h
          refine ds (ixD lT22 api_Bound.sz rfl rfl hx7) rfl ?_
          refine dr (ldIW aT31 rfl rfl rfl) rfl ?_
          refine ds (sne_ (r := ((x6.Low == x7.Low) && ((x6.High == x7.High) && true))) rfl rfl ffT31 (by kernel_rfl)) rfl ?_
          refine dn (by kernel_rfl) ?_
          rcases ite h with ⟨c8, h⟩ | ⟨c8, h⟩
          · refine ct rfl (not_t (vf c8)) ?_
            refine sr ?_
            refine ts (ac rfl rfl) ?_
            refine rn ?_
            refine CWp.ret ?_
            obtain rfl := some_inj h
            exact ⟨rfl, rt1 (ex := false) (by exact (.t rfl .n)) (by exact (gd (by rfl))) (by rfl) (by rfl)⟩
          · refine cf rfl (not_f (Classical.not_not.1 c8)) ?_
            refine CWp.skip ?_
            refine lr ?_
            refine ts (mv rfl) ?_
            refine ts (add rfl rfl) ?_
            refine ts (as_ rfl) ?_
            refine rn ?_
            obtain rfl := some_inj h
            exact ⟨rfl, (by (try simp only [List.length_set, copied_len]); exact trk (by kernel_rfl) (by kernel_rfl) (by kernel_rfl))⟩
        · refine cf rfl (bf c5) ?_
          refine CWp.exit ?_
          obtain rfl := some_inj h
          exact ⟨rfl, (by (try simp only [List.length_set, copied_len]); exact trk (by kernel_rfl) (by kernel_rfl) (by kernel_rfl))⟩
      · cases z9 with
        | inl v10 =>
          intro e s ht
          refine CWp.trim ht ?_
          refine sr ?_
          refine ts (ac rfl rfl) ?_
          refine rn ?_
          refine CWp.ret ?_
          obtain rfl := some_inj h
          exact ⟨trivial, rt1 (ex := false) (by exact (.t rfl .n)) (by exact (gd (by rfl))) (by rfl) (by rfl)⟩
        | inr r11 =>
          intro e s hr
          obtain rfl := some_inj h
          exact ⟨trivial, hr⟩
theorem law15_is_ok {p0 : api_Array} {p1 : Int} {p2 : api_Array} {p3 : Int} {out : Out} {r : Bool} (h : law15_is p0 p1 p2 p3 = some r) : FunOk PP 36 [.d (api_Array.d p0), .d (.int .i64 p1), .d (api_Array.d p2), .d (.int .i64 p3)] out ⟨.d (.bool r), []⟩ := by
  unfold law15_is at h
  refine fi Try.func36 rfl (by kernel_rfl) (by kernel_rfl) (by kernel_rfl) ?_
  refine sr ?_
  refine ta (bx (n := 0) rfl rfl rfl) ?_
  refine ta (bx (n := 0) rfl rfl rfl) ?_
  refine ts (ac rfl rfl) ?_
  refine rn ?_
  refine sr ?_
  refine ts (mv rfl) ?_
  refine ts (mv rfl) ?_
  refine ts (eql rfl rfl) ?_
  refine ts (mv rfl) ?_
  rcases ite h with ⟨c1, h⟩ | ⟨c1, h⟩
  · refine us (gy rfl rfl (et c1)) (ldW (e := api_Array.d p0) aT59 rfl (ow rfl) rfl rfl) ?_
    refine us (gy rfl rfl (et c1)) (ldW (e := api_Array.d p2) aT59 rfl (ow rfl) rfl rfl) ?_
    obtain ⟨x2, hx2, h⟩ := bnd h
    refine us (gy rfl rfl (et c1)) (cl0 kf rfl (.c le1 (.c le1 .n)) (ref15_Same_ok hx2) rfl) ?_
    refine ts (pt rfl (et c1) rfl) ?_
    refine ts (as_ rfl) ?_
    refine rn ?_
    refine CWp.ret ?_
    obtain rfl := some_inj h
    exact ⟨trivial, rt1 (ex := false) (by exact (.t rfl .n)) (by exact (gd (by rfl))) (by rfl) (by rfl)⟩
  · refine un (gn rfl rfl (ef c1)) ?_
    refine un (gn rfl rfl (ef c1)) ?_
    refine un (gn rfl rfl (ef c1)) ?_
    refine ts (pf rfl (ef c1) rfl) ?_
    refine ts (as_ rfl) ?_
    refine rn ?_
    refine CWp.ret ?_
    obtain rfl := some_inj h
    exact ⟨trivial, rt1 (ex := false) (by exact (.t rfl .n)) (by exact (gd (by rfl))) (by rfl) (by rfl)⟩
theorem ref15_Unpacked_ok {p0 : api_Array} {p1 : api_Array} {p2 : api_Array} {out : Out} {r : api_Array × Int} (h : ref15_Unpacked p0 p1 p2 = some r) : FunOk PP 53 [.d (api_Array.d p0), .d (api_Array.d p1), .d (api_Array.d p2)] out ⟨.tup [.d (api_Array.d r.1), .d (.int .i64 r.2)], []⟩ := by
  unfold ref15_Unpacked at h
  refine fi Try.func53 rfl (by kernel_rfl) (by kernel_rfl) (by kernel_rfl) ?_
  refine sr ?_
  refine ta (bx (n := 0) rfl rfl rfl) ?_
  refine ta (bx (n := 0) rfl rfl rfl) ?_
  refine ta (bx (n := 0) rfl rfl rfl) ?_
  refine ta (al (n := 0) zT59 rfl) ?_
  refine ts (ac rfl rfl) ?_
  refine rn ?_
  refine CWp.seq ?_
  refine sr ?_
  refine ts (ldW (e := api_Array.d p0) aT59 rfl (ow rfl) rfl rfl) ?_
  obtain ⟨x1, hx1, h⟩ := bnd h
  refine ts (cl0 kf rfl (.c le1 .n) (ref15_Err_ok hx1) rfl) ?_
  refine ts (as_ rfl) ?_
  refine rn ?_
  refine sr ?_
  refine ts (mv rfl) ?_
  refine ts (neq rfl rfl) ?_
  refine rn ?_
  rcases ite h with ⟨c2, h⟩ | ⟨c2, h⟩
  · refine ct rfl (nt c2) ?_
    refine sr ?_
    refine ts ((bld (v := .d (.agg [.nilsl, .nilsl])) rfl (by kernel_rfl)).wk (x' := api_Array.d (api_Array.mk [] [])) rfl) ?_
    refine ts (mv rfl) ?_
    refine tt0 (stW aT59 rfl rfl rfl rfl rfl rfl .h) ?_
    refine ts (as_ rfl) ?_
    refine rn ?_
    refine CWp.ret ?_
    obtain rfl := some_inj h
    exact ⟨trivial, rt2 (ex := false) (by exact (rcW aT59 rfl (ow rfl) rfl rfl (.t rfl .n))) (by exact (sc (gd (by rfl)) (sc (gd (by rfl)) sn))) (by rfl) (by rfl)⟩
  · refine cf rfl (nf c2) ?_
    refine CWp.skip ?_
    refine CWp.seq ?_
    refine sr ?_
    refine ts (ldW (e := api_Array.d p1) aT59 rfl (ow rfl) rfl rfl) ?_
    obtain ⟨x3, hx3, h⟩ := bnd h
    refine ts (cl0 kf rfl (.c le1 .n) (ref15_Err_ok hx3) rfl) ?_
    refine ts (as_ rfl) ?_
    refine rn ?_
    refine sr ?_
    refine ts (mv rfl) ?_
    refine ts (neq rfl rfl) ?_
    refine rn ?_
    rcases ite h with ⟨c4, h⟩ | ⟨c4, h⟩
    · refine ct rfl (nt c4) ?_
      refine sr ?_
      refine ts ((bld (v := .d (.agg [.nilsl, .nilsl])) rfl (by kernel_rfl)).wk (x' := api_Array.d (api_Array.mk [] [])) rfl) ?_
      refine ts (mv rfl) ?_
      refine tt0 (stW aT59 rfl rfl rfl rfl rfl rfl .h) ?_
      refine ts (as_ rfl) ?_
      refine rn ?_
      refine CWp.ret ?_
      obtain rfl := some_inj h
      exact ⟨trivial, rt2 (ex := false) (by exact (rcW aT59 rfl (ow rfl) rfl rfl (.t rfl .n))) (by exact (sc (gd (by rfl)) (sc (gd (by rfl)) sn))) (by rfl) (by rfl)⟩
    · refine cf rfl (nf c4) ?_
      refine CWp.skip ?_
      refine CWp.seq ?_
      refine sr ?_
      refine ts (ldW (e := api_Array.d p2) aT59 rfl (ow rfl) rfl rfl) ?_
      obtain ⟨x5, hx5, h⟩ := bnd h
      refine ts (cl0 kf rfl (.c le1 .n) (ref15_Err_ok hx5) rfl) ?_
      refine ts (as_ rfl) ?_
      refine rn ?_
      refine sr ?_
      refine ts (mv rfl) ?_
      refine ts (neq rfl rfl) ?_
      refine rn ?_
      rcases ite h with ⟨c6, h⟩ | ⟨c6, h⟩
      · refine ct rfl (nt c6) ?_
        refine sr ?_
        refine ts ((bld (v := .d (.agg [.nilsl, .nilsl])) rfl (by kernel_rfl)).wk (x' := api_Array.d (api_Array.mk [] [])) rfl) ?_
        refine ts (mv rfl) ?_
        refine tt0 (stW aT59 rfl rfl rfl rfl rfl rfl .h) ?_
        refine ts (as_ rfl) ?_
        refine rn ?_
        refine CWp.ret ?_
        obtain rfl := some_inj h
        exact ⟨trivial, rt2 (ex := false) (by exact (rcW aT59 rfl (ow rfl) rfl rfl (.t rfl .n))) (by exact (sc (gd (by rfl)) (sc (gd (by rfl)) sn))) (by rfl) (by rfl)⟩
      · refine cf rfl (nf c6) ?_
        refine CWp.skip ?_
        refine CWp.seq ?_
        refine sr ?_
        refine ts (fa fT59_0 rfl rfl) ?_
        refine ts (ld sT22 rfl (ow rfl) rfl) ?_
        refine ts (lnD lT22 rfl rfl) ?_
        refine ts (neq rfl rfl) ?_
        refine rn ?_
        rcases ite h with ⟨c7, h⟩ | ⟨c7, h⟩
        · refine ct rfl (nt c7) ?_
          refine sr ?_
          refine ts ((bld (v := .d (.agg [.nilsl, .nilsl])) rfl (by kernel_rfl)).wk (x' := api_Array.d (api_Array.mk [] [])) rfl) ?_
          refine tt0 (stW aT59 rfl rfl rfl rfl rfl rfl .h) ?_
          refine ts (ac rfl rfl) ?_
          refine rn ?_
          refine CWp.ret ?_
          obtain rfl := some_inj h
          exact ⟨trivial, rt2 (ex := false) (by exact (rcW aT59 rfl (ow rfl) rfl rfl (.t rfl .n))) (by exact (sc (gd (by rfl)) (sc (gd (by rfl)) sn))) (by rfl) (by rfl)⟩
        · refine cf rfl (nf c7) ?_
          refine CWp.skip ?_
          refine jn (E := fun a8 => [(3, .bptr ⟨out.length, 3, 0⟩ 0), (4, .bptr ⟨out.length, 4, 0⟩ 0), (5, .bptr ⟨out.length, 5, 0⟩ 0), (6, .bptr ⟨out.length, 6, 0⟩ 0)]) (M := fun a8 => ⟨[((3, 0), .box [.d (.sl (p0.Bounds.map api_Bound.d)), .d (.sl (p0.Elements.map dI))]), ((4, 0), .box [.d (.sl (p1.Bounds.map api_Bound.d)), .d (.sl (p1.Elements.map dI))]), ((5, 0), .box [.d (.sl (p2.Bounds.map api_Bound.d)), .d (.sl (p2.Elements.map dI))]), ((6, 0), .box [.d .nilsl, .d .nilsl])], out, []⟩) (F := fun a8 => ref15_Unpacked.j1 p0 p1 p2 a8) (r := r) ?_ ?_
          · intro a8 h
            unfold ref15_Unpacked.j1 at h
            refine sr ?_
            refine ts (ldW (e := api_Array.d p1) aT59 rfl (ow rfl) rfl rfl) ?_
            obtain ⟨x9, hx9, h⟩ := bnd h
            refine tas (ch0 (n := 0) (v' := .agg [.ref ⟨out.length, 53, 0⟩ 0 x9.Bounds.length x9.Bounds.length, .ref ⟨out.length, 53, 1⟩ 0 x9.Elements.length x9.Elements.length]) (bs := [((53, 0), .arr 2 false (x9.Bounds.map api_Bound.d)), ((53, 1), .arr 1 false (x9.Elements.map dI))]) kf rfl (.c le1 .n) (ref15_Copy_ok hx9) rfl rfl (by simp [homeVal, homeVals])) ?_
            refine ta (al (n := 0) zT59 rfl) ?_
            refine gz (Le.nilBox (t := 11) (n := 0) (t' := 1221) (n' := 0) (off := 1) (sz := 1) rfl rfl rfl rfl) ?_
            refine tt0 (stW aT59 rfl rfl rfl rfl rfl rfl (.s rfl .h)) ?_
            refine rn ?_
            refine sr ?_
            refine ts (ac rfl rfl) ?_
            refine rn ?_
            refine CWp.seq ?_
            refine sr ?_
            refine ts (ac rfl rfl) ?_
            refine rn ?_
            obtain ⟨z19, hz19, h⟩ := bnd h
            refine lbr (E := fun s10 => [(3, .bptr ⟨out.length, 3, 0⟩ 0), (4, .bptr ⟨out.length, 4, 0⟩ 0), (5, .bptr ⟨out.length, 5, 0⟩ 0), (6, .bptr ⟨out.length, 6, 0⟩ 0), (11, .bptr ⟨out.length, 11, 0⟩ 0), (12, .d (.int .i64 s10.1)), (13, .d (.int .i64 s10.2.1))]) (M := fun s10 => ⟨[((3, 0), .box [.d (.sl (p0.Bounds.map api_Bound.d)), .d (.sl (p0.Elements.map dI))]), ((4, 0), .box [.d (.sl (p1.Bounds.map api_Bound.d)), .d (.sl (p1.Elements.map dI))]), ((5, 0), .box [.d (.sl (p2.Bounds.map api_Bound.d)), .d (.sl (p2.Elements.map dI))]), ((6, 0), .box [.d .nilsl, .d .nilsl]), ((11, 0), .box [.ref ⟨out.length, 53, 0⟩ 0 x9.Bounds.length x9.Bounds.length, .ref ⟨out.length, 53, 1⟩ 0 s10.2.2.length s10.2.2.length]), ((53, 0), .arr 2 false (x9.Bounds.map api_Bound.d)), ((53, 1), .arr 1 false (s10.2.2.map dI))], out, []⟩) (E' := fun y => [(6, .bptr ⟨out.length, 6, 0⟩ 0), (11, .bptr ⟨out.length, 11, 0⟩ 0)]) (M' := fun y => ⟨[((6, 0), .box [.d .nilsl, .d .nilsl]), ((11, 0), .box [.ref ⟨out.length, 53, 0⟩ 0 x9.Bounds.length x9.Bounds.length, .ref ⟨out.length, 53, 1⟩ 0 y.length y.length]), ((53, 0), .arr 2 false (x9.Bounds.map api_Bound.d)), ((53, 1), .arr 1 false (y.map dI))], out, []⟩) (RT := fun r e s => Lx.Returns PP Try.f53.results.toList e s ⟨.tup [.d (api_Array.d r.1), .d (.int .i64 r.2)], []⟩) hz19 (by (try simp only [List.length_set, copied_len]); exact trk (by kernel_rfl) (by kernel_rfl) (by kernel_rfl)) ?_ ?_
            · intro s10 ww h
              unfold ref15_Unpacked.s2 at h
              refine CWp.seq ?_
              refine sr ?_
              refine ts (mv rfl) ?_
              refine ts (fa fT59_1 rfl rfl) ?_
              refine ts (ld sT26 rfl (ow rfl) rfl) ?_
              refine ts (lnR lT26 rfl rfl) ?_
              refine ts (lss rfl rfl) ?_
              refine rn ?_
              rcases ite h with ⟨c11, h⟩ | ⟨c11, h⟩
              · refine ct rfl (bt c11) ?_
                refine CWp.skip ?_
                refine CWp.seq ?_
                refine CWp.block ?_
                refine CWp.seq ?_
                refine sr ?_
                refine ts (fa fT59_1 rfl rfl) ?_
                refine ts (ld sT26 rfl (ow rfl) rfl) ?_
                refine ts (mv rfl) ?_
                obtain ⟨x12, hx12, h⟩ := bnd h
                refine ts (ixD lT26 szI rfl rfl hx12) ?_
                refine ts (ldI sT3 rfl rfl) ?_
                refine ts (eql rfl rfl) ?_
                refine rn ?_
                rcases ite h with ⟨c13, h⟩ | ⟨c13, h⟩
                · refine ct rfl (et c13) ?_
                  refine sd mixed (b := [0, 1, 0, 0, 0, 24, 63, 127]) (by kernel_rfl) ?_
                  refine ds (fa fT59_1 rfl rfl) rfl ?_
                  refine dr (ld sT26 rfl (ow rfl) rfl) rfl ?_
                  refine ds (mv rfl) rfl ?_
                  refine dr (ldW (e := api_Array.d p2) aT59 rfl (ow rfl) rfl rfl) rfl ?_
                  refine ds (mv rfl) rfl ?_
                  obtain ⟨x14, hx14, h⟩ := bnd h
                  refine dr (cl0 kf rfl (.c le1 (.c le1 .n)) (ref15_At_ok hx14) rfl) rfl ?_
                  obtain ⟨x15, hx15, h⟩ := bnd h
                  refine dr (ixR lT26 rfl rfl rfl (ow rfl) hx15) rfl ?_
                  refine dt0 (stE (b := x14) sT3 rfl rfl rfl rfl rfl hx15 rfl rfl (.s rfl (.s rfl (.s rfl (.s rfl (.s rfl (.s rfl .h))))))) rfl ?_
                  refine dn (by kernel_rfl) ?_
                  refine CWp.exit ?_
                  refine lr ?_
                  refine ts (mv rfl) ?_
                  refine ts (add rfl rfl) ?_
                  refine ts (as_ rfl) ?_
                  refine rn ?_
                  obtain rfl := some_inj h
                  exact ⟨rfl, (by (try simp only [List.length_set, copied_len]); exact trk (by kernel_rfl) (by kernel_rfl) (by kernel_rfl))⟩
                · refine cf rfl (ef c13) ?_
                  refine CWp.skip ?_
                  refine CWp.seq ?_
                  refine sr ?_
                  refine ts (mv rfl) ?_
                  refine ts (fa fT59_1 rfl rfl) ?_
                  refine ts (ld sT26 rfl (ow rfl) rfl) ?_
                  refine ts (lnD lT26 rfl rfl) ?_
                  refine ts (geq rfl rfl) ?_
                  refine rn ?_
                  rcases ite h with ⟨c16, h⟩ | ⟨c16, h⟩
                  · refine ct rfl (bt c16) ?_
                    refine sr ?_
                    refine ts ((bld (v := .d (.agg [.nilsl, .nilsl])) rfl (by kernel_rfl)).wk (x' := api_Array.d (api_Array.mk [] [])) rfl) ?_
                    refine tt0 (stW aT59 rfl rfl rfl rfl rfl rfl (.s rfl (.s rfl (.s rfl .h)))) ?_
                    refine ts (ac rfl rfl) ?_
                    refine rn ?_
                    refine CWp.ret ?_
                    obtain rfl := some_inj h
                    exact ⟨rfl, rt2 (ex := false) (by exact (rcW aT59 rfl (ow rfl) rfl rfl (.t rfl .n))) (by exact (sc (gd (by rfl)) (sc (gd (by rfl)) sn))) (by rfl) (by rfl)⟩
                  · refine cf rfl (bf c16) ?_
                    refine CWp.skip ?_
                    refine ld_ mixed (b := [0, 1, 0, 0, 8, 0, 56, 120, 0, 256, 255, 1279, 4095]) (by kernel_rfl) ?_
                    refine ds (fa fT59_1 rfl rfl) rfl ?_
                    refine dr (ld sT26 rfl (ow rfl) rfl) rfl ?_
                    refine ds (mv rfl) rfl ?_
                    refine ds (fa fT59_1 rfl rfl) rfl ?_
                    refine dr (ld sT26 rfl (ow rfl) rfl) rfl ?_
                    refine ds (mv rfl) rfl ?_
                    obtain ⟨x17, hx17, h⟩ := bnd h
                    refine ds (ixD lT26 szI rfl rfl hx17) rfl ?_
                    refine dr (ldI sT3 rfl rfl) rfl ?_
                    refine ds (mv rfl) rfl ?_
                    refine ds (add rfl rfl) rfl ?_
                    obtain ⟨x18, hx18, h⟩ := bnd h
                    refine dr (ixR lT26 rfl rfl rfl (ow rfl) hx18) rfl ?_
                    refine dt0 (stE (b := x17) sT3 rfl rfl rfl rfl rfl hx18 rfl rfl (.s rfl (.s rfl (.s rfl (.s rfl (.s rfl (.s rfl .h))))))) rfl ?_
                    refine ds (as_ rfl) rfl ?_
                    refine dn (by kernel_rfl) ?_
                    refine lr ?_
                    refine ts (mv rfl) ?_
                    refine ts (add rfl rfl) ?_
                    refine ts (as_ rfl) ?_
                    refine rn ?_
                    obtain rfl := some_inj h
                    exact ⟨rfl, (by (try simp only [List.length_set, copied_len]); exact trk (by kernel_rfl) (by kernel_rfl) (by kernel_rfl))⟩
              · refine cf rfl (bf c11) ?_
                refine CWp.exit ?_
                obtain rfl := some_inj h
                exact ⟨rfl, (by (try simp only [List.length_set, copied_len]); exact trk (by kernel_rfl) (by kernel_rfl) (by kernel_rfl))⟩
            · cases z19 with
              | inl v20 =>
                intro e s ht
                refine CWp.trim ht ?_
                refine sr ?_
                refine ts (ldA (v := .agg [.ref ⟨out.length, 53, 0⟩ 0 x9.Bounds.length x9.Bounds.length, .ref ⟨out.length, 53, 1⟩ 0 v20.length v20.length]) aT59 rfl (ow rfl) (by kernel_rfl)) ?_
                refine tt0 (stW aT59 rfl rfl rfl rfl rfl rfl .h) ?_
                refine ts (ac rfl rfl) ?_
                refine rn ?_
                refine CWp.ret ?_
                obtain rfl := some_inj h
                exact ⟨trivial, rt2 (ex := false) (by exact (rcA (v := .agg [.ref ⟨out.length, 53, 0⟩ 0 x9.Bounds.length x9.Bounds.length, .ref ⟨out.length, 53, 1⟩ 0 v20.length v20.length]) aT59 rfl (ow rfl) (by kernel_rfl) (.t rfl .n))) (by exact (sc (ga (sc (gf rfl rfl) (sc (gf rfl rfl) sn)) rfl) (sc (gd (by rfl)) sn))) (by rfl) (by rfl)⟩
              | inr r21 =>
                intro e s hr
                obtain rfl := some_inj h
                exact ⟨trivial, hr⟩
          · refine sd mixed (b := [0, 1, 3, 7, 15, 31, 63, 127, 31, 287, 1023, 2047, 4095, 8191]) (by kernel_rfl) ?_
            refine ds (fa fT59_0 rfl rfl) rfl ?_
            refine dr (ld sT22 rfl (ow rfl) rfl) rfl ?_
            refine ds (lnD lT22 rfl rfl) rfl ?_
            refine ds (gtr rfl rfl) rfl ?_
            refine ds (mv rfl) rfl ?_
            rcases ite h with ⟨c8, h⟩ | ⟨c8, h⟩
            · refine vs (gy rfl rfl (bt c8)) (fa fT59_0 rfl rfl) rfl ?_
              refine vs (gy rfl rfl (bt c8)) (ld sT22 rfl (ow rfl) rfl) rfl ?_
              obtain ⟨x9, hx9, h⟩ := bnd h
              refine vs (gy rfl rfl (bt c8)) (cl0 kf rfl (.c le1 .n) (ref15_Extents_ok hx9) rfl) rfl ?_
              refine vs (gy rfl rfl (bt c8)) (fa fT59_0 rfl rfl) rfl ?_
              refine vs (gy rfl rfl (bt c8)) (ld sT22 rfl (ow rfl) rfl) rfl ?_
              obtain ⟨x10, hx10, h⟩ := bnd h
              refine vs (gy rfl rfl (bt c8)) (cl0 kf rfl (.c le1 .n) (ref15_Extents_ok hx10) rfl) rfl ?_
              obtain ⟨x11, hx11, h⟩ := bnd h
              refine vs (gy rfl rfl (bt c8)) (cl0 kf rfl (.c le1 (.c le1 .n)) (base_Ints_ok hx11) rfl) rfl ?_
              refine vs (gy rfl rfl (bt c8)) (not_ rfl) rfl ?_
              refine ds (pt rfl (bt c8) rfl) rfl ?_
              refine dn (by kernel_rfl) ?_
              rcases ite h with ⟨c12, h⟩ | ⟨c12, h⟩
              · refine ct rfl (not_t (vf c12)) ?_
                refine sr ?_
                refine ts ((bld (v := .d (.agg [.nilsl, .nilsl])) rfl (by kernel_rfl)).wk (x' := api_Array.d (api_Array.mk [] [])) rfl) ?_
                refine tt0 (stW aT59 rfl rfl rfl rfl rfl rfl .h) ?_
                refine ts (ac rfl rfl) ?_
                refine rn ?_
                refine CWp.ret ?_
                obtain rfl := some_inj h
                exact ⟨trivial, rt2 (ex := false) (by exact (rcW aT59 rfl (ow rfl) rfl rfl (.t rfl .n))) (by exact (sc (gd (by rfl)) (sc (gd (by rfl)) sn))) (by rfl) (by rfl)⟩
              · refine cf rfl (not_f (Classical.not_not.1 c12)) ?_
                refine CWp.skip ?_
                exact ⟨(), h, (by (try simp only [List.length_set, copied_len]); exact trk (by kernel_rfl) (by kernel_rfl) (by kernel_rfl))⟩
            · refine vn (gn rfl rfl (bf c8)) ?_
              refine vn (gn rfl rfl (bf c8)) ?_
              refine vn (gn rfl rfl (bf c8)) ?_
              refine vn (gn rfl rfl (bf c8)) ?_
              refine vn (gn rfl rfl (bf c8)) ?_
              refine vn (gn rfl rfl (bf c8)) ?_
              refine vn (gn rfl rfl (bf c8)) ?_
              refine vn (gn rfl rfl (bf c8)) ?_
              refine ds (pf rfl (bf c8) rfl) rfl ?_
              refine dn (by kernel_rfl) ?_
              refine cf rfl rfl ?_
              refine CWp.skip ?_
              exact ⟨(), h, (by (try simp only [List.length_set, copied_len]); exact trk (by kernel_rfl) (by kernel_rfl) (by kernel_rfl))⟩
theorem law15_ShapesPacks_ok {p0 : api_Array} {p1 : api_Array} {p2 : api_Array} {out : Out} {r : Bool} (h : law15_ShapesPacks p0 p1 p2 = some r) : FunOk PP 8 [.d (api_Array.d p0), .d (api_Array.d p1), .d (api_Array.d p2)] out ⟨.d (.bool r), []⟩ := by
  unfold law15_ShapesPacks at h
  refine fi Try.func8 rfl (by kernel_rfl) (by kernel_rfl) (by kernel_rfl) ?_
  refine sr ?_
  refine ta (bx (n := 0) rfl rfl rfl) ?_
  refine ta (bx (n := 0) rfl rfl rfl) ?_
  refine ta (bx (n := 0) rfl rfl rfl) ?_
  refine ts (ac rfl rfl) ?_
  refine rn ?_
  refine CWp.seq ?_
  refine sr ?_
  obtain ⟨x1, hx1, h⟩ := bnd h
  refine ts (cl0 kf rfl .n (law15_awake_ok hx1) rfl) ?_
  refine ts (not_ rfl) ?_
  refine rn ?_
  rcases ite h with ⟨c2, h⟩ | ⟨c2, h⟩
  · refine ct rfl (not_t (vf c2)) ?_
    refine sr ?_
    refine ts (ac rfl rfl) ?_
    refine rn ?_
    refine CWp.ret ?_
    obtain rfl := some_inj h
    exact ⟨trivial, rt1 (ex := false) (by exact (.t rfl .n)) (by exact (gd (by rfl))) (by rfl) (by rfl)⟩
  · refine cf rfl (not_f (Classical.not_not.1 c2)) ?_
    refine CWp.skip ?_
    refine CWp.seq ?_
    refine sr ?_
    refine ts (ldW (e := api_Array.d p0) aT59 rfl (ow rfl) rfl rfl) ?_
    refine ts (cl0 kf rfl (.c le1 .n) (law15_few_ok rfl) rfl) ?_
    refine ts (not_ rfl) ?_
    refine ts (mv rfl) ?_
    refine sg 4 [(25, .d (.bool ((!(law15_few p0)) || (!(law15_few p1)))))] ?_ ?_
    · rcases bool_or (!(law15_few p0)) with g3 | g4
      · refine un (gn rfl rfl g3) ?_
        refine un (gn rfl rfl g3) ?_
        refine un (gn rfl rfl g3) ?_
        refine ts (pt rfl g3 rfl) ?_
        exact rn (trD 4 rfl (.c (bq (or_t g3)) .n) (by kernel_rfl))
      · refine us (gy rfl rfl g4) (ldW (e := api_Array.d p1) aT59 rfl (ow rfl) rfl rfl) ?_
        refine us (gy rfl rfl g4) (cl0 kf rfl (.c le1 .n) (law15_few_ok rfl) rfl) ?_
        refine us (gy rfl rfl g4) (not_ rfl) ?_
        refine ts (pf rfl g4 rfl) ?_
        exact rn (trD 4 rfl (.c (bq (or_f g4)) .n) (by kernel_rfl))
    refine ts (mv rfl) ?_
    refine sg 4 [(30, .d (.bool (((!(law15_few p0)) || (!(law15_few p1))) || (!(law15_few p2)))))] ?_ ?_
    · rcases bool_or ((!(law15_few p0)) || (!(law15_few p1))) with g5 | g6
      · refine un (gn rfl rfl g5) ?_
        refine un (gn rfl rfl g5) ?_
        refine un (gn rfl rfl g5) ?_
        refine ts (pt rfl g5 rfl) ?_
        exact rn (trD 4 rfl (.c (bq (or_t g5)) .n) (by kernel_rfl))
      · refine us (gy rfl rfl g6) (ldW (e := api_Array.d p2) aT59 rfl (ow rfl) rfl rfl) ?_
        refine us (gy rfl rfl g6) (cl0 kf rfl (.c le1 .n) (law15_few_ok rfl) rfl) ?_
        refine us (gy rfl rfl g6) (not_ rfl) ?_
        refine ts (pf rfl g6 rfl) ?_
        exact rn (trD 4 rfl (.c (bq (or_f g6)) .n) (by kernel_rfl))
    refine rn ?_
    rcases ite h with ⟨c7, h⟩ | ⟨c7, h⟩
    · refine ct rfl c7 ?_
      refine sr ?_
      refine ts (ac rfl rfl) ?_
      refine rn ?_
      refine CWp.ret ?_
      obtain rfl := some_inj h
      exact ⟨trivial, rt1 (ex := false) (by exact (.t rfl .n)) (by exact (gd (by rfl))) (by rfl) (by rfl)⟩
    · refine cf rfl (vf c7) ?_
      refine CWp.skip ?_
      refine sd mixed (b := [0, 1, 0, 7, 0, 31, 63, 127, 255, 255, 0, 1535, 4095]) (by kernel_rfl) ?_
      refine dr (ldW (e := api_Array.d p0) aT59 rfl (ow rfl) rfl rfl) rfl ?_
      obtain ⟨x8, hx8, h⟩ := bnd h
      refine dr (cz0 (v' := .d (api_Array.d x8)) kf rfl (.c le1 .n) (ref15_Copy_ok hx8) rfl rfl) rfl ?_
      refine dr (ldW (e := api_Array.d p1) aT59 rfl (ow rfl) rfl rfl) rfl ?_
      obtain ⟨x9, hx9, h⟩ := bnd h
      refine dr (cz0 (v' := .d (api_Array.d x9)) kf rfl (.c le1 .n) (ref15_Copy_ok hx9) rfl rfl) rfl ?_
      refine dr (ldW (e := api_Array.d p2) aT59 rfl (ow rfl) rfl rfl) rfl ?_
      obtain ⟨x10, hx10, h⟩ := bnd h
      refine dr (cz0 (v' := .d (api_Array.d x10)) kf rfl (.c le1 .n) (ref15_Copy_ok hx10) rfl rfl) rfl ?_
      obtain ⟨x11, hx11, h⟩ := bnd h
      refine dr (cl0 kf rfl (.c le1 (.c le1 (.c le1 .n))) (shapes_Pack_ok hx11) rfl) rfl ?_
      refine ds (mv rfl) rfl ?_
      refine ds (ex_ rfl rfl) rfl ?_
      refine ds (ex_ rfl rfl) rfl ?_
      refine da (al (n := 0) zT59 rfl) rfl ?_
      refine et0 rfl (stW aT59 rfl rfl rfl rfl rfl rfl .h) (by kernel_rfl) rfl ?_
      refine ds (as_ rfl) rfl ?_
      refine dn (by kernel_rfl) ?_
      refine sd mixed (b := [0, 1, 0, 7, 0, 31, 63, 127, 255, 255, 0, 1535, 4095]) (by kernel_rfl) ?_
      refine dr (ldW (e := api_Array.d p2) aT59 rfl (ow rfl) rfl rfl) rfl ?_
      obtain ⟨x12, hx12, h⟩ := bnd h
      refine dr (cz0 (v' := .d (api_Array.d x12)) kf rfl (.c le1 .n) (ref15_Copy_ok hx12) rfl rfl) rfl ?_
      refine dr (ldW (e := api_Array.d p1) aT59 rfl (ow rfl) rfl rfl) rfl ?_
      obtain ⟨x13, hx13, h⟩ := bnd h
      refine dr (cz0 (v' := .d (api_Array.d x13)) kf rfl (.c le1 .n) (ref15_Copy_ok hx13) rfl rfl) rfl ?_
      refine dr (ldW (e := api_Array.d p0) aT59 rfl (ow rfl) rfl rfl) rfl ?_
      obtain ⟨x14, hx14, h⟩ := bnd h
      refine dr (cz0 (v' := .d (api_Array.d x14)) kf rfl (.c le1 .n) (ref15_Copy_ok hx14) rfl rfl) rfl ?_
      obtain ⟨x15, hx15, h⟩ := bnd h
      refine dr (cl0 kf rfl (.c le1 (.c le1 (.c le1 .n))) (shapes_Unpack_ok hx15) rfl) rfl ?_
      refine ds (mv rfl) rfl ?_
      refine ds (ex_ rfl rfl) rfl ?_
      refine ds (ex_ rfl rfl) rfl ?_
      refine da (al (n := 0) zT59 rfl) rfl ?_
      refine et0 rfl (stW aT59 rfl rfl rfl rfl rfl rfl .h) (by kernel_rfl) rfl ?_
      refine ds (as_ rfl) rfl ?_
      refine dn (by kernel_rfl) ?_
      refine sr ?_
      refine ts (ldW (e := api_Array.d p0) aT59 rfl (ow rfl) rfl rfl) ?_
      refine ts (ldW (e := api_Array.d p1) aT59 rfl (ow rfl) rfl rfl) ?_
      refine ts (ldW (e := api_Array.d p2) aT59 rfl (ow rfl) rfl rfl) ?_
      obtain ⟨x16, hx16, h⟩ := bnd h
      refine ts (cl0 kf rfl (.c le1 (.c le1 (.c le1 .n))) (ref15_Packed_ok hx16) rfl) ?_
      refine ts (mv rfl) ?_
      refine ts (ex_ rfl rfl) ?_
      refine ts (ex_ rfl rfl) ?_
      refine ta (al (n := 0) zT59 rfl) ?_
      refine tt0 (stW aT59 rfl rfl rfl rfl rfl rfl .h) ?_
      refine ts (as_ rfl) ?_
      refine rn ?_
      refine CWp.seq ?_
      refine sr ?_
      refine ts (ldW (e := api_Array.d x11.1) aT59 rfl (ow rfl) rfl rfl) ?_
      refine ts (mv rfl) ?_
      refine ts (ldW (e := api_Array.d x16.1) aT59 rfl (ow rfl) rfl rfl) ?_
      refine ts (mv rfl) ?_
      obtain ⟨x17, hx17, h⟩ := bnd h
      refine ts (cl0 kf rfl (.c le1 (.c le1 (.c le1 (.c le1 .n)))) (law15_is_ok hx17) rfl) ?_
      refine ts (not_ rfl) ?_
      refine rn ?_
      rcases ite h with ⟨c18, h⟩ | ⟨c18, h⟩
      · refine ct rfl (not_t (vf c18)) ?_
        refine sr ?_
        refine ts (ac rfl rfl) ?_
        refine rn ?_
        refine CWp.ret ?_
        obtain rfl := some_inj h
        exact ⟨trivial, rt1 (ex := false) (by exact (.t rfl .n)) (by exact (gd (by rfl))) (by rfl) (by rfl)⟩
      · refine cf rfl (not_f (Classical.not_not.1 c18)) ?_
        refine CWp.skip ?_
        refine sr ?_
        refine ts (ldW (e := api_Array.d p2) aT59 rfl (ow rfl) rfl rfl) ?_
        refine ts (ldW (e := api_Array.d p1) aT59 rfl (ow rfl) rfl rfl) ?_
        refine ts (ldW (e := api_Array.d p0) aT59 rfl (ow rfl) rfl rfl) ?_
        obtain ⟨x19, hx19, h⟩ := bnd h
        refine ts (cl0 kf rfl (.c le1 (.c le1 (.c le1 .n))) (ref15_Unpacked_ok hx19) rfl) ?_
        refine ts (mv rfl) ?_
        refine ts (ex_ rfl rfl) ?_
        refine ts (ex_ rfl rfl) ?_
        refine tt0 (stW aT59 rfl rfl rfl rfl rfl rfl .h) ?_
        refine ts (as_ rfl) ?_
        refine rn ?_
        refine CWp.seq ?_
        refine sr ?_
        refine ts (ldW (e := api_Array.d x15.1) aT59 rfl (ow rfl) rfl rfl) ?_
        refine ts (mv rfl) ?_
        refine ts (ldW (e := api_Array.d x19.1) aT59 rfl (ow rfl) rfl rfl) ?_
        refine ts (mv rfl) ?_
        obtain ⟨x20, hx20, h⟩ := bnd h
        refine ts (cl0 kf rfl (.c le1 (.c le1 (.c le1 (.c le1 .n)))) (law15_is_ok hx20) rfl) ?_
        refine ts (not_ rfl) ?_
        refine rn ?_
        rcases ite h with ⟨c21, h⟩ | ⟨c21, h⟩
        · refine ct rfl (not_t (vf c21)) ?_
          refine sr ?_
          refine ts (ac rfl rfl) ?_
          refine rn ?_
          refine CWp.ret ?_
          obtain rfl := some_inj h
          exact ⟨trivial, rt1 (ex := false) (by exact (.t rfl .n)) (by exact (gd (by rfl))) (by rfl) (by rfl)⟩
        · refine cf rfl (not_f (Classical.not_not.1 c21)) ?_
          refine CWp.skip ?_
          refine CWp.seq ?_
          refine sr ?_
          refine ts (mv rfl) ?_
          refine ts (neq rfl rfl) ?_
          refine ts (mv rfl) ?_
          refine sg 8 [(87, .d (.bool ((x16.2 != 0) || ((p1.Bounds.length : Int) != (p0.Bounds.length : Int)))))] ?_ ?_
          · rcases bool_or (x16.2 != 0) with g22 | g23
            · refine un (gn rfl rfl g22) ?_
              refine un (gn rfl rfl g22) ?_
              refine un (gn rfl rfl g22) ?_
              refine un (gn rfl rfl g22) ?_
              refine un (gn rfl rfl g22) ?_
              refine un (gn rfl rfl g22) ?_
              refine un (gn rfl rfl g22) ?_
              refine ts (pt rfl g22 rfl) ?_
              exact rn (trD 8 rfl (.c (bq (or_t g22)) .n) (by kernel_rfl))
            · refine us (gy rfl rfl g23) (fa fT59_0 rfl rfl) ?_
              refine us (gy rfl rfl g23) (ld sT22 rfl (ow rfl) rfl) ?_
              refine us (gy rfl rfl g23) (lnD lT22 rfl rfl) ?_
              refine us (gy rfl rfl g23) (fa fT59_0 rfl rfl) ?_
              refine us (gy rfl rfl g23) (ld sT22 rfl (ow rfl) rfl) ?_
              refine us (gy rfl rfl g23) (lnD lT22 rfl rfl) ?_
              refine us (gy rfl rfl g23) (neq rfl rfl) ?_
              refine ts (pf rfl g23 rfl) ?_
              exact rn (trD 8 rfl (.c (bq (or_f g23)) .n) (by kernel_rfl))
          refine rn ?_
          rcases ite h with ⟨c24, h⟩ | ⟨c24, h⟩
          · refine ct rfl c24 ?_
            refine sr ?_
            refine ts (ac rfl rfl) ?_
            refine rn ?_
            refine CWp.ret ?_
            obtain rfl := some_inj h
            exact ⟨trivial, rt1 (ex := false) (by exact (.t rfl .n)) (by exact (gd (by rfl))) (by rfl) (by rfl)⟩
          · refine cf rfl (vf c24) ?_
            refine CWp.skip ?_
            refine sd mixed (b := [0, 0, 2, 0, 14, 31, 63, 127, 127, 0, 767, 2047]) (by kernel_rfl) ?_
            refine dr (ldW (e := api_Array.d x11.1) aT59 rfl (ow rfl) rfl rfl) rfl ?_
            refine dr (ldW (e := api_Array.d p1) aT59 rfl (ow rfl) rfl rfl) rfl ?_
            obtain ⟨x25, hx25, h⟩ := bnd h
            refine dr (cz0 (v' := .d (api_Array.d x25)) kf rfl (.c le1 .n) (ref15_Copy_ok hx25) rfl rfl) rfl ?_
            refine dr (ldW (e := api_Array.d p0) aT59 rfl (ow rfl) rfl rfl) rfl ?_
            obtain ⟨x26, hx26, h⟩ := bnd h
            refine dr (cz0 (v' := .d (api_Array.d x26)) kf rfl (.c le1 .n) (ref15_Copy_ok hx26) rfl rfl) rfl ?_
            obtain ⟨x27, hx27, h⟩ := bnd h
            refine dr (cl0 kf rfl (.c le1 (.c le1 (.c le1 .n))) (shapes_Unpack_ok hx27) rfl) rfl ?_
            refine ds (mv rfl) rfl ?_
            refine ds (ex_ rfl rfl) rfl ?_
            refine ds (ex_ rfl rfl) rfl ?_
            refine da (al (n := 0) zT59 rfl) rfl ?_
            refine et0 rfl (stW aT59 rfl rfl rfl rfl rfl rfl .h) (by kernel_rfl) rfl ?_
            refine ds (as_ rfl) rfl ?_
            refine dn (by kernel_rfl) ?_
            refine sr ?_
            refine ts (mv rfl) ?_
            refine ts (eql rfl rfl) ?_
            refine ts (mv rfl) ?_
            rcases ite h with ⟨c28, h⟩ | ⟨c28, h⟩
            · refine us (gy rfl rfl (et c28)) (fa fT59_1 rfl rfl) ?_
              refine us (gy rfl rfl (et c28)) (ld sT26 rfl (ow rfl) rfl) ?_
              refine us (gy rfl rfl (et c28)) (fa fT59_1 rfl rfl) ?_
              refine us (gy rfl rfl (et c28)) (ld sT26 rfl (ow rfl) rfl) ?_
              obtain ⟨x29, hx29, h⟩ := bnd h
              refine us (gy rfl rfl (et c28)) (cl0 kf rfl (.c le1 (.c le1 .n)) (base_Ints_ok hx29) rfl) ?_
              refine ts (pt rfl (et c28) rfl) ?_
              refine ts (as_ rfl) ?_
              refine rn ?_
              refine CWp.ret ?_
              obtain rfl := some_inj h
              exact ⟨trivial, rt1 (ex := false) (by exact (.t rfl .n)) (by exact (gd (by rfl))) (by rfl) (by rfl)⟩
            · refine un (gn rfl rfl (ef c28)) ?_
              refine un (gn rfl rfl (ef c28)) ?_
              refine un (gn rfl rfl (ef c28)) ?_
              refine un (gn rfl rfl (ef c28)) ?_
              refine un (gn rfl rfl (ef c28)) ?_
              refine ts (pf rfl (ef c28) rfl) ?_
              refine ts (as_ rfl) ?_
              refine rn ?_
              refine CWp.ret ?_
              obtain rfl := some_inj h
              exact ⟨trivial, rt1 (ex := false) (by exact (.t rfl .n)) (by exact (gd (by rfl))) (by rfl) (by rfl)⟩
end Go.Proofs.Ytoelcmbacfhdnaa
