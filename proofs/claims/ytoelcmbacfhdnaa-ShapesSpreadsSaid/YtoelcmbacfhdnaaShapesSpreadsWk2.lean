/- The walks: the program does what the functions in plain form say. Part 2. -/
import Derived.Test.YtoelcmbacfhdnaaShapesSpreadsWk1
set_option linter.all false
namespace Go.Proofs.Ytoelcmbacfhdnaa
open Go.Lx Go.Sh
set_option linter.unusedVariables false
set_option maxRecDepth 100000
theorem ref15_Spread_ok {p0 : api_Array} {p1 : Int} {p2 : Int} {out : Out} {r : api_Array × Int} (h : ref15_Spread p0 p1 p2 = some r) : FunOk PP 59 [.d (api_Array.d p0), .d (.int .i64 p1), .d (.int .i64 p2)] out ⟨.tup [.d (api_Array.d r.1), .d (.int .i64 r.2)], []⟩ := by
  unfold ref15_Spread at h
  refine fi Try.func59 rfl (by kernel_rfl) (by kernel_rfl) (by kernel_rfl) ?_
  refine sr ?_
  refine ts (bxI rfl) ?_
  refine ta (al (n := 0) zT59 rfl) ?_
  refine ts (ac rfl rfl) ?_
  refine rn ?_
  refine CWp.seq ?_
  refine sr ?_
  refine ts (ldIW aT59 rfl rfl rfl) ?_
  obtain ⟨x1, hx1, h⟩ := bnd h
  refine ts (cln (f := fun _ => false) kf rfl (.c rfl le1 .n) (curOf_nil _) (ref15_Err_ok hx1) rfl) ?_
  refine ts (as_ rfl) ?_
  refine rn ?_
  refine sr ?_
  refine ts (mv rfl) ?_
  refine ts (neq rfl rfl) ?_
  refine rn ?_
  rcases ite h with ⟨c2, h⟩ | ⟨c2, h⟩
  · refine ct rfl (nt c2) ?_
    refine sr ?_
    refine ts ((bld (v := .d (.agg [.nilsl, .nilsl])) rfl (by kernel_rfl)).wk (x' := api_Array.d (api_Array.mk [] [])) rfl) ?_
    refine ts (mv rfl) ?_
    refine tt0 (stW aT59 rfl rfl rfl rfl rfl rfl .h) ?_
    refine ts (as_ rfl) ?_
    refine rn ?_
    refine CWp.ret ?_
    obtain rfl := some_inj h
    exact ⟨trivial, rt2 (ex := false) (by exact (rcW aT59 rfl (ow rfl) rfl rfl (.t rfl .n))) (by exact (sc (gd (by rfl)) (sc (gd (by rfl)) sn))) (by rfl) (by rfl)⟩
  · refine cf rfl (nf c2) ?_
    refine CWp.skip ?_
    refine CWp.seq ?_
    refine sr ?_
    refine ts (faI fT59_0 rfl rfl) ?_
    refine ts (ldI sT22 rfl rfl) ?_
    refine ts (lnD lT22 rfl rfl) ?_
    refine ts (geq rfl rfl) ?_
    refine ts (mv rfl) ?_
    refine sg 8 [(33, .d (.bool ((decide ((p0.Bounds.length : Int) ≥ 7)) || (!(base_Within p1 1 (w ((p0.Bounds.length : Int) + 1)))))))] ?_ ?_
    · rcases bool_or (decide ((p0.Bounds.length : Int) ≥ 7)) with g3 | g4
      · refine un (gn rfl rfl g3) ?_
        refine un (gn rfl rfl g3) ?_
        refine un (gn rfl rfl g3) ?_
        refine un (gn rfl rfl g3) ?_
        refine un (gn rfl rfl g3) ?_
        refine un (gn rfl rfl g3) ?_
        refine un (gn rfl rfl g3) ?_
        refine ts (pt rfl g3 rfl) ?_
        exact rn (trD 8 rfl (.c (bq (or_t g3)) .n) (by kernel_rfl))
      · refine us (gy rfl rfl g4) (mv rfl) ?_
        refine us (gy rfl rfl g4) (faI fT59_0 rfl rfl) ?_
        refine us (gy rfl rfl g4) (ldI sT22 rfl rfl) ?_
        refine us (gy rfl rfl g4) (lnD lT22 rfl rfl) ?_
        refine us (gy rfl rfl g4) (add rfl rfl) ?_
        refine us (gy rfl rfl g4) (cln (f := fun _ => false) kf rfl (.c rfl le1 (.c rfl le1 (.c rfl le1 .n))) (curOf_nil _) (base_Within_ok rfl) rfl) ?_
        refine us (gy rfl rfl g4) (not_ rfl) ?_
        refine ts (pf rfl g4 rfl) ?_
        exact rn (trD 8 rfl (.c (bq (or_f g4)) .n) (by kernel_rfl))
    refine rn ?_
    rcases ite h with ⟨c5, h⟩ | ⟨c5, h⟩
    · refine ct rfl c5 ?_
      refine sr ?_
      refine ts ((bld (v := .d (.agg [.nilsl, .nilsl])) rfl (by kernel_rfl)).wk (x' := api_Array.d (api_Array.mk [] [])) rfl) ?_
      refine tt0 (stW aT59 rfl rfl rfl rfl rfl rfl .h) ?_
      refine ts (ac rfl rfl) ?_
      refine rn ?_
      refine CWp.ret ?_
      obtain rfl := some_inj h
      exact ⟨trivial, rt2 (ex := false) (by exact (rcW aT59 rfl (ow rfl) rfl rfl (.t rfl .n))) (by exact (sc (gd (by rfl)) (sc (gd (by rfl)) sn))) (by rfl) (by rfl)⟩
    · refine cf rfl (vf c5) ?_
      refine CWp.skip ?_
      refine CWp.seq ?_
      refine sr ?_
      refine ts (mv rfl) ?_
      refine ts (gtr rfl rfl) ?_
      refine rn ?_
      rcases ite h with ⟨c6, h⟩ | ⟨c6, h⟩
      · refine ct rfl (bt c6) ?_
        refine sr ?_
        refine ts ((bld (v := .d (.agg [.nilsl, .nilsl])) rfl (by kernel_rfl)).wk (x' := api_Array.d (api_Array.mk [] [])) rfl) ?_
        refine tt0 (stW aT59 rfl rfl rfl rfl rfl rfl .h) ?_
        refine ts (ac rfl rfl) ?_
        refine rn ?_
        refine CWp.ret ?_
        obtain rfl := some_inj h
        exact ⟨trivial, rt2 (ex := false) (by exact (rcW aT59 rfl (ow rfl) rfl rfl (.t rfl .n))) (by exact (sc (gd (by rfl)) (sc (gd (by rfl)) sn))) (by rfl) (by rfl)⟩
      · refine cf rfl (bf c6) ?_
        refine CWp.skip ?_
        refine sr ?_
        refine ts (faI fT59_0 rfl rfl) ?_
        refine ts (ldI sT22 rfl rfl) ?_
        obtain ⟨x7, hx7, h⟩ := bnd h
        refine ts (cln (f := fun _ => false) kf rfl (.c rfl le1 .n) (curOf_nil _) (ref15_Extents_ok hx7) rfl) ?_
        refine ts (as_ rfl) ?_
        refine rn ?_
        refine jd mixed (b := [0, 0, 2, 7, 15, 0, 32, 96, 255, 0, 0, 1024, 3584, 8191, 16383]) (by kernel_rfl) (E := fun a8 => [(1, .d (.int .i64 p1)), (3, .pimm (api_Array.d p0) 0), (6, .bptr ⟨out.length, 6, 0⟩ 0), (9, .d (.sl (x7.map dI))), (10, .ref ⟨out.length, 45, 0⟩ 0 a8.length a8.length)]) (M := fun a8 => ⟨[((6, 0), .box [.d .nilsl, .d .nilsl]), ((45, 0), .arr 1 false (a8.map dI))], out, []⟩) (F := fun a8 => ref15_Spread.j1 p0 p1 x7 a8) (r := r) ?_ ?_
        · intro a8 h
          unfold ref15_Spread.j1 at h
          refine sr ?_
          refine ts (mv rfl) ?_
          obtain ⟨x9, hx9, h⟩ := bnd h
          refine tt (cll (f := fun _ => false) kf rfl (.w rfl (leG4 rfl (ow rfl) (so (.s rfl .h))) .n) (curOf_nil _) (ref15_Product_ok hx9) rfl) ?_
          refine ts (as_ rfl) ?_
          refine rn ?_
          refine CWp.seq ?_
          refine sr ?_
          refine ts (mv rfl) ?_
          refine ts (gtr rfl rfl) ?_
          refine rn ?_
          rcases ite h with ⟨c10, h⟩ | ⟨c10, h⟩
          · refine ct rfl (bt c10) ?_
            refine sr ?_
            refine ts ((bld (v := .d (.agg [.nilsl, .nilsl])) rfl (by kernel_rfl)).wk (x' := api_Array.d (api_Array.mk [] [])) rfl) ?_
            refine tt0 (stW aT59 rfl rfl rfl rfl rfl rfl .h) ?_
            refine ts (ac rfl rfl) ?_
            refine rn ?_
            refine CWp.ret ?_
            obtain rfl := some_inj h
            exact ⟨trivial, rt2 (ex := false) (by exact (rcW aT59 rfl (ow rfl) rfl rfl (.t rfl .n))) (by exact (sc (gd (by rfl)) (sc (gd (by rfl)) sn))) (by rfl) (by rfl)⟩
          · refine cf rfl (bf c10) ?_
            refine CWp.skip ?_
            refine sr ?_
            refine ta (an (n := 0) lT26 rfl) ?_
            refine rn ?_
            refine CWp.seq ?_
            refine sr ?_
            refine ts (ac rfl rfl) ?_
            refine rn ?_
            obtain ⟨z25, hz25, h⟩ := bnd h
            refine lb (E := fun s11 => [(1, .d (.int .i64 p1)), (3, .pimm (api_Array.d p0) 0), (6, .bptr ⟨out.length, 6, 0⟩ 0), (9, .d (.sl (x7.map dI))), (10, .ref ⟨out.length, 45, 0⟩ 0 a8.length a8.length), (11, .d (.int .i64 x9)), (12, .ref ⟨out.length, 12, 0⟩ 0 s11.2.length s11.2.length), (13, .d (.int .i64 s11.1))]) (M := fun s11 => ⟨[((6, 0), .box [.d .nilsl, .d .nilsl]), ((45, 0), .arr 1 true (a8.map dI)), ((12, 0), .arr 1 false (s11.2.map dI))], out, []⟩) (E' := fun y => [(6, .bptr ⟨out.length, 6, 0⟩ 0), (10, .ref ⟨out.length, 45, 0⟩ 0 a8.length a8.length), (12, .ref ⟨out.length, 12, 0⟩ 0 y.length y.length)]) (M' := fun y => ⟨[((6, 0), .box [.d .nilsl, .d .nilsl]), ((45, 0), .arr 1 true (a8.map dI)), ((12, 0), .arr 1 false (y.map dI))], out, []⟩) hz25 (by (try simp only [List.length_set, copied_len]); exact trk (by kernel_rfl) (by kernel_rfl) (by kernel_rfl)) ?_ ?_
            · intro s11 ww h
              unfold ref15_Spread.s2 at h
              refine CWp.seq ?_
              refine sr ?_
              refine ts (mv rfl) ?_
              refine ts (mv rfl) ?_
              refine ts (lss rfl rfl) ?_
              refine rn ?_
              rcases ite h with ⟨c12, h⟩ | ⟨c12, h⟩
              · refine ct rfl (bt c12) ?_
                refine CWp.skip ?_
                refine CWp.seq ?_
                refine CWp.block ?_
                refine sr ?_
                refine ts (mv rfl) ?_
                refine ts (mv rfl) ?_
                obtain ⟨x13, hx13, h⟩ := bnd h
                refine ts (cln (f := fun _ => false) kf rfl (.c rfl (le3 rfl (ow rfl)) (.c rfl le1 .n)) (curOf_nil _) (ref15_Indexes_ok hx13) rfl) ?_
                refine ts (as_ rfl) ?_
                refine rn ?_
                refine ld_ mixed (b := [0, 0, 2, 0, 0, 0, 32, 112, 240, 0, 0, 1536, 4080, 8184, 16382, 32766, 65534, 131071, 262143]) (by kernel_rfl) ?_
                refine ds (mv rfl) rfl ?_
                refine ds (faI fT59_1 rfl rfl) rfl ?_
                refine ds (ldI sT26 rfl rfl) rfl ?_
                refine ds (mv rfl) rfl ?_
                refine ds (mv rfl) rfl ?_
                refine ds (mv rfl) rfl ?_
                refine ds (sub rfl rfl) rfl ?_
                obtain ⟨x14, hx14, h⟩ := bnd h
                refine ds (slD lT26 szI rfl .no (.is rfl) hx14) rfl ?_
                obtain ⟨x15, hx15, h⟩ := bnd h
                refine da (chn (f := fun _ => false) (n := 0) (v' := .ref ⟨out.length, 76, 0⟩ 0 x15.length x15.length) (bs := [((76, 0), .arr 1 false (x15.map dI))]) kf rfl (.c rfl le1 .n) (curOf_nil _) (base_CopyInts_ok hx15) rfl rfl (by simp [homeVal, homeVals])) rfl ?_
                refine es rfl (mv rfl) rfl ?_
                refine es rfl (mv rfl) rfl ?_
                obtain ⟨x16, hx16, h⟩ := bnd h
                refine es rfl (slD lT26 szI rfl (.is rfl) .no hx16) rfl ?_
                obtain ⟨x17, hx17, h⟩ := bnd h
                rcases ite h with ⟨c18, h⟩ | ⟨c18, h⟩
                · refine es rfl (apGe (ys := x16) (xs := x15) (f := dI) lT26 uT26 szI rfl rfl rfl elD (ow rfl) hx17 c18) rfl ?_
                  obtain ⟨x19, hx19, h⟩ := bnd h
                  refine et_ rfl (cll (f := fun _ => false) kf rfl (.c rfl le1 (.w rfl (leG4 rfl (ow rfl) (so .h)) .n)) (curOf_nil _) (ref15_Place_ok hx19) rfl) (by kernel_rfl) rfl ?_
                  obtain ⟨x20, hx20, h⟩ := bnd h
                  refine ds (ixD lT26 szI rfl rfl hx20) rfl ?_
                  refine ds (ldI sT3 rfl rfl) rfl ?_
                  refine ds (bsT (l := (([x20] : List Int).map dI)) lT26 rfl rfl rfl (by kernel_rfl)) rfl ?_
                  obtain ⟨x21, hx21, h⟩ := bnd h
                  refine dt (apGn (ys := ([x20] : List Int)) (xs := s11.2) (f := dI) lT26 uT26 szI rfl rfl rfl elT (ow rfl) hx21 (so (.s rfl (.s rfl (.s rfl .h)))) rfl) rfl ?_
                  refine ds (as_ rfl) rfl ?_
                  refine dn (by kernel_rfl) ?_
                  refine lr ?_
                  refine ts (mv rfl) ?_
                  refine ts (add rfl rfl) ?_
                  refine ts (as_ rfl) ?_
                  refine rn ?_
                  obtain rfl := some_inj h
                  exact ⟨rfl, (by (try simp only [List.length_set, copied_len]); exact trk (by kernel_rfl) (by kernel_rfl) (by kernel_rfl))⟩
                · refine et_ rfl (apGn (ys := x16) (xs := x15) (f := dI) lT26 uT26 szI rfl rfl rfl elD (ow rfl) hx17 (so .h) (vf c18)) (by kernel_rfl) rfl ?_
                  obtain ⟨x22, hx22, h⟩ := bnd h
                  refine dt (cll (f := fun _ => false) kf rfl (.c rfl le1 (.w rfl (leG4 rfl (ow rfl) (so .h)) .n)) (curOf_nil _) (ref15_Place_ok hx22) rfl) rfl ?_
                  obtain ⟨x23, hx23, h⟩ := bnd h
                  refine ds (ixD lT26 szI rfl rfl hx23) rfl ?_
                  refine ds (ldI sT3 rfl rfl) rfl ?_
                  refine ds (bsT (l := (([x23] : List Int).map dI)) lT26 rfl rfl rfl (by kernel_rfl)) rfl ?_
                  obtain ⟨x24, hx24, h⟩ := bnd h
                  refine dt (apGn (ys := ([x23] : List Int)) (xs := s11.2) (f := dI) lT26 uT26 szI rfl rfl rfl elT (ow rfl) hx24 (so (.s rfl (.s rfl (.s rfl .h)))) rfl) rfl ?_
                  refine ds (as_ rfl) rfl ?_
                  refine dn (by kernel_rfl) ?_
                  refine lr ?_
                  refine ts (mv rfl) ?_
                  refine ts (add rfl rfl) ?_
                  refine ts (as_ rfl) ?_
                  refine rn ?_
                  obtain rfl := some_inj h
                  exact ⟨rfl, (by (try simp only [List.length_set, copied_len]); exact trk (by kernel_rfl) (by kernel_rfl) (by kernel_rfl))⟩
              · refine cf rfl (bf c12) ?_
                refine CWp.exit ?_
                obtain rfl := some_inj h
                exact ⟨rfl, (by (try simp only [List.length_set, copied_len]); exact trk (by kernel_rfl) (by kernel_rfl) (by kernel_rfl))⟩
            · intro e s ht
              refine CWp.trim ht ?_
              refine sr ?_
              refine ts (mv rfl) ?_
              refine ts (mv rfl) ?_
              obtain ⟨x26, hx26, h⟩ := bnd h
              refine tt (cll (f := fun _ => false) kf rfl (.c rfl (le3 rfl (ow rfl)) (.w rfl (leG4 rfl (ow rfl) (so (.s rfl (.s rfl .h)))) .n)) (curOf_nil _) (ref15_Of_ok hx26) rfl) ?_
              refine tt0 (stW aT59 rfl rfl rfl rfl rfl rfl .h) ?_
              refine ts (ac rfl rfl) ?_
              refine rn ?_
              refine CWp.ret ?_
              obtain rfl := some_inj h
              exact ⟨trivial, rt2 (ex := false) (by exact (rcW aT59 rfl (ow rfl) rfl rfl (.t rfl .n))) (by exact (sc (gd (by rfl)) (sc (gd (by rfl)) sn))) (by rfl) (by rfl)⟩
        · refine ds (mv rfl) rfl ?_
          refine ds (mv rfl) rfl ?_
          refine ds (sub rfl rfl) rfl ?_
          obtain ⟨x8, hx8, h⟩ := bnd h
          refine ds (slD lT26 szI rfl .no (.is rfl) hx8) rfl ?_
          obtain ⟨x9, hx9, h⟩ := bnd h
          refine da (chn (f := fun _ => false) (n := 0) (v' := .ref ⟨out.length, 45, 0⟩ 0 x9.length x9.length) (bs := [((45, 0), .arr 1 false (x9.map dI))]) kf rfl (.c rfl le1 .n) (curOf_nil _) (base_CopyInts_ok hx9) rfl rfl (by simp [homeVal, homeVals])) rfl ?_
          refine es rfl (mv rfl) rfl ?_
          refine es rfl (mx_ rfl) rfl ?_
          refine es rfl (bsT (l := (([(mx 0 p2)] : List Int).map dI)) lT26 rfl rfl rfl (by kernel_rfl)) rfl ?_
          obtain ⟨x10, hx10, h⟩ := bnd h
          refine et_ rfl (apGn (ys := ([(mx 0 p2)] : List Int)) (xs := x9) (f := dI) lT26 uT26 szI rfl rfl rfl elT (ow rfl) hx10 (so .h) rfl) (by kernel_rfl) rfl ?_
          refine ds (mv rfl) rfl ?_
          refine ds (mv rfl) rfl ?_
          refine ds (sub rfl rfl) rfl ?_
          obtain ⟨x11, hx11, h⟩ := bnd h
          refine ds (slD lT26 szI rfl (.is rfl) .no hx11) rfl ?_
          obtain ⟨x12, hx12, h⟩ := bnd h
          rcases ite h with ⟨c13, h⟩ | ⟨c13, h⟩
          · refine dr (apGe (ys := x11) (xs := x10) (f := dI) lT26 uT26 szI rfl rfl rfl elD (ow rfl) hx12 c13) rfl ?_
            refine ds (as_ rfl) rfl ?_
            refine dn (by kernel_rfl) ?_
            exact ⟨x10, h, (by (try simp only [List.length_set, copied_len]); exact trk (by kernel_rfl) (by kernel_rfl) (by kernel_rfl))⟩
          · refine dt (apGn (ys := x11) (xs := x10) (f := dI) lT26 uT26 szI rfl rfl rfl elD (ow rfl) hx12 (so .h) (vf c13)) rfl ?_
            refine ds (as_ rfl) rfl ?_
            refine dn (by kernel_rfl) ?_
            exact ⟨x12, h, (by (try simp only [List.length_set, copied_len]); exact trk (by kernel_rfl) (by kernel_rfl) (by kernel_rfl))⟩
theorem slices_Max_int_ok {p0 : (List Int)} {out : Out} {r : Int} (h : slices_Max_int p0 = some r) : FunOk PP 118 [.d (.sl (p0.map dI))] out ⟨.d (.int .i64 r), []⟩ := by
  unfold slices_Max_int at h
  refine fi Try.func118 rfl (by kernel_rfl) (by kernel_rfl) (by kernel_rfl) ?_
  refine sr ?_
  refine ts (ac rfl rfl) ?_
  refine rn ?_
  refine CWp.seq ?_
  refine sr ?_
  refine ts (mv rfl) ?_
  refine ts (lnD lT26 rfl rfl) ?_
  refine ts (lss rfl rfl) ?_
  refine rn ?_
  rcases ite h with ⟨c1, h⟩ | ⟨c1, h⟩
  · refine ct rfl (bt c1) ?_
    refine lr ?_
    cases h
  · refine cf rfl (bf c1) ?_
    refine CWp.skip ?_
    refine sr ?_
    refine ts (mv rfl) ?_
    obtain ⟨x2, hx2, h⟩ := bnd h
    refine ts (ixD lT26 szI rfl rfl hx2) ?_
    refine ts (ldI sT3 rfl rfl) ?_
    refine ts (as_ rfl) ?_
    refine rn ?_
    refine CWp.seq ?_
    refine sr ?_
    refine ts (ac rfl rfl) ?_
    refine rn ?_
    obtain ⟨z6, hz6, h⟩ := bnd h
    refine lb (E := fun s3 => [(0, .d (.sl (p0.map dI))), (3, .d (.int .i64 s3.1)), (4, .d (.int .i64 s3.2))]) (M := fun s3 => ⟨[], out, []⟩) (E' := fun y => [(3, .d (.int .i64 y))]) (M' := fun y => ⟨[], out, []⟩) hz6 (by (try simp only [List.length_set, copied_len]); exact trk (by kernel_rfl) (by kernel_rfl) (by kernel_rfl)) ?_ ?_
    · intro s3 ww h
      unfold slices_Max_int.s1 at h
      refine CWp.seq ?_
      refine sr ?_
      refine ts (mv rfl) ?_
      refine ts (mv rfl) ?_
      refine ts (lnD lT26 rfl rfl) ?_
      refine ts (lss rfl rfl) ?_
      refine rn ?_
      rcases ite h with ⟨c4, h⟩ | ⟨c4, h⟩
      · refine ct rfl (bt c4) ?_
        refine CWp.skip ?_
        refine CWp.seq ?_
        refine CWp.block ?_
        refine lr ?_
        refine ts (mv rfl) ?_
        refine ts (mv rfl) ?_
        refine ts (mv rfl) ?_
        obtain ⟨x5, hx5, h⟩ := bnd h
        refine ts (ixD lT26 szI rfl rfl hx5) ?_
        refine ts (ldI sT3 rfl rfl) ?_
        refine ts (mx_ rfl) ?_
        refine ts (as_ rfl) ?_
        refine rn ?_
        refine lr ?_
        refine ts (mv rfl) ?_
        refine ts (add rfl rfl) ?_
        refine ts (as_ rfl) ?_
        refine rn ?_
        obtain rfl := some_inj h
        exact ⟨rfl, (by (try simp only [List.length_set, copied_len]); exact trk (by kernel_rfl) (by kernel_rfl) (by kernel_rfl))⟩
      · refine cf rfl (bf c4) ?_
        refine CWp.exit ?_
        obtain rfl := some_inj h
        exact ⟨rfl, (by (try simp only [List.length_set, copied_len]); exact trk (by kernel_rfl) (by kernel_rfl) (by kernel_rfl))⟩
    · intro e s ht
      refine CWp.trim ht ?_
      refine sr ?_
      refine ts (mv rfl) ?_
      refine ts (as_ rfl) ?_
      refine rn ?_
      refine CWp.ret ?_
      obtain rfl := some_inj h
      exact ⟨trivial, rt1 (ex := false) (by exact (.t rfl .n)) (by exact (gd (by rfl))) (by rfl) (by rfl)⟩
theorem slices_Min_int_ok {p0 : (List Int)} {out : Out} {r : Int} (h : slices_Min_int p0 = some r) : FunOk PP 119 [.d (.sl (p0.map dI))] out ⟨.d (.int .i64 r), []⟩ := by
  unfold slices_Min_int at h
  refine fi Try.func119 rfl (by kernel_rfl) (by kernel_rfl) (by kernel_rfl) ?_
  refine sr ?_
  refine ts (ac rfl rfl) ?_
  refine rn ?_
  refine CWp.seq ?_
  refine sr ?_
  refine ts (mv rfl) ?_
  refine ts (lnD lT26 rfl rfl) ?_
  refine ts (lss rfl rfl) ?_
  refine rn ?_
  rcases ite h with ⟨c1, h⟩ | ⟨c1, h⟩
  · refine ct rfl (bt c1) ?_
    refine lr ?_
    cases h
  · refine cf rfl (bf c1) ?_
    refine CWp.skip ?_
    refine sr ?_
    refine ts (mv rfl) ?_
    obtain ⟨x2, hx2, h⟩ := bnd h
    refine ts (ixD lT26 szI rfl rfl hx2) ?_
    refine ts (ldI sT3 rfl rfl) ?_
    refine ts (as_ rfl) ?_
    refine rn ?_
    refine CWp.seq ?_
    refine sr ?_
    refine ts (ac rfl rfl) ?_
    refine rn ?_
    obtain ⟨z6, hz6, h⟩ := bnd h
    refine lb (E := fun s3 => [(0, .d (.sl (p0.map dI))), (3, .d (.int .i64 s3.1)), (4, .d (.int .i64 s3.2))]) (M := fun s3 => ⟨[], out, []⟩) (E' := fun y => [(3, .d (.int .i64 y))]) (M' := fun y => ⟨[], out, []⟩) hz6 (by (try simp only [List.length_set, copied_len]); exact trk (by kernel_rfl) (by kernel_rfl) (by kernel_rfl)) ?_ ?_
    · intro s3 ww h
      unfold slices_Min_int.s1 at h
      refine CWp.seq ?_
      refine sr ?_
      refine ts (mv rfl) ?_
      refine ts (mv rfl) ?_
      refine ts (lnD lT26 rfl rfl) ?_
      refine ts (lss rfl rfl) ?_
      refine rn ?_
      rcases ite h with ⟨c4, h⟩ | ⟨c4, h⟩
      · refine ct rfl (bt c4) ?_
        refine CWp.skip ?_
        refine CWp.seq ?_
        refine CWp.block ?_
        refine lr ?_
        refine ts (mv rfl) ?_
        refine ts (mv rfl) ?_
        refine ts (mv rfl) ?_
        obtain ⟨x5, hx5, h⟩ := bnd h
        refine ts (ixD lT26 szI rfl rfl hx5) ?_
        refine ts (ldI sT3 rfl rfl) ?_
        refine ts (mn_ rfl) ?_
        refine ts (as_ rfl) ?_
        refine rn ?_
        refine lr ?_
        refine ts (mv rfl) ?_
        refine ts (add rfl rfl) ?_
        refine ts (as_ rfl) ?_
        refine rn ?_
        obtain rfl := some_inj h
        exact ⟨rfl, (by (try simp only [List.length_set, copied_len]); exact trk (by kernel_rfl) (by kernel_rfl) (by kernel_rfl))⟩
      · refine cf rfl (bf c4) ?_
        refine CWp.exit ?_
        obtain rfl := some_inj h
        exact ⟨rfl, (by (try simp only [List.length_set, copied_len]); exact trk (by kernel_rfl) (by kernel_rfl) (by kernel_rfl))⟩
    · intro e s ht
      refine CWp.trim ht ?_
      refine sr ?_
      refine ts (mv rfl) ?_
      refine ts (as_ rfl) ?_
      refine rn ?_
      refine CWp.ret ?_
      obtain rfl := some_inj h
      exact ⟨trivial, rt1 (ex := false) (by exact (.t rfl .n)) (by exact (gd (by rfl))) (by rfl) (by rfl)⟩
theorem shapes_fold_ok {p0 : Int} {p1 : (List Int)} {out : Out} {r : Int × Bool} (h : shapes_fold p0 p1 = some r) : FunOk PP 104 [.d (.int .i64 p0), .d (.sl (p1.map dI))] out ⟨.tup [.d (.int .i64 r.1), .d (.bool r.2)], []⟩ := by
  unfold shapes_fold at h
  refine fi Try.func104 rfl (by kernel_rfl) (by kernel_rfl) (by kernel_rfl) ?_
  refine sr ?_
  refine ts (ac rfl rfl) ?_
  refine ts (ac rfl rfl) ?_
  refine rn ?_
  refine CWp.seq ?_
  refine sr ?_
  refine ts (mv rfl) ?_
  refine rn ?_
  refine CWp.block ?_
  refine sr ?_
  refine ts (eql rfl rfl) ?_
  refine ts (as_ rfl) ?_
  refine rn ?_
  rcases ite h with ⟨c1, h⟩ | ⟨c1, h⟩
  · refine ct rfl (et c1) ?_
    refine sr ?_
    refine ta (bsM (n := 0) (xs := ([(-2147483648)] : List Int)) (f := dI) lT26 rfl rfl rfl (by kernel_rfl) rfl rfl) ?_
    refine ts (mv rfl) ?_
    obtain ⟨x2, hx2, h⟩ := bnd h
    refine tp (apG (ys := p1) (xs := ([(-2147483648)] : List Int)) (f := dI) lT26 uT26 szI rfl (by first | rfl | simp only [List.length_set, copied_len]) rfl elD (ow rfl) hx2 (so .h)) ?_
    obtain ⟨x3, hx3, h⟩ := bnd h
    refine tt (cll (f := fun _ => false) kf rfl (.w rfl (leG4 rfl (ow rfl) (so .h)) .n) (curOf_nil _) (slices_Max_int_ok hx3) rfl) ?_
    refine ts (as_ rfl) ?_
    refine ts (ac rfl rfl) ?_
    refine rn ?_
    refine CWp.ret ?_
    obtain rfl := some_inj h
    exact ⟨trivial, rt2 (ex := false) (by exact (.t rfl (.t rfl .n))) (by exact (sc (gd (by rfl)) (sc (gd (by rfl)) sn))) (by rfl) (by rfl)⟩
  · refine cf rfl (ef c1) ?_
    refine sr ?_
    refine ts (eql rfl rfl) ?_
    refine ts (as_ rfl) ?_
    refine rn ?_
    rcases ite h with ⟨c4, h⟩ | ⟨c4, h⟩
    · refine ct rfl (et c4) ?_
      refine sr ?_
      refine ta (bsM (n := 0) (xs := ([2147483647] : List Int)) (f := dI) lT26 rfl rfl rfl (by kernel_rfl) rfl rfl) ?_
      refine ts (mv rfl) ?_
      obtain ⟨x5, hx5, h⟩ := bnd h
      refine tp (apG (ys := p1) (xs := ([2147483647] : List Int)) (f := dI) lT26 uT26 szI rfl (by first | rfl | simp only [List.length_set, copied_len]) rfl elD (ow rfl) hx5 (so .h)) ?_
      obtain ⟨x6, hx6, h⟩ := bnd h
      refine tt (cll (f := fun _ => false) kf rfl (.w rfl (leG4 rfl (ow rfl) (so .h)) .n) (curOf_nil _) (slices_Min_int_ok hx6) rfl) ?_
      refine ts (as_ rfl) ?_
      refine ts (ac rfl rfl) ?_
      refine rn ?_
      refine CWp.ret ?_
      obtain rfl := some_inj h
      exact ⟨trivial, rt2 (ex := false) (by exact (.t rfl (.t rfl .n))) (by exact (sc (gd (by rfl)) (sc (gd (by rfl)) sn))) (by rfl) (by rfl)⟩
    · refine cf rfl (ef c4) ?_
      refine CWp.skip ?_
      refine sr ?_
      refine ts (ac rfl rfl) ?_
      refine rn ?_
      refine jn (E := fun a7 => [(0, .d (.int .i64 p0)), (1, .d (.sl (p1.map dI))), (6, .d (.int .i64 a7))]) (M := fun a7 => ⟨[], out, []⟩) (F := fun a7 => shapes_fold.j1 p0 p1 a7) (r := r) ?_ ?_
      · intro a7 h
        unfold shapes_fold.j1 at h
        refine CWp.seq ?_
        refine sr ?_
        refine ts (mv rfl) ?_
        refine ts (lnD lT26 rfl rfl) ?_
        refine ts (mv rfl) ?_
        refine rn ?_
        obtain ⟨z16, hz16, h⟩ := bnd h
        refine lbr (E := fun s8 => [(0, .d (.int .i64 p0)), (6, .d (.int .i64 s8.1)), (24, .d (.sl (p1.map dI))), (25, .d (.int .i64 (p1.length : Int))), (26, .d (.int .i64 s8.2))]) (M := fun s8 => ⟨[], out, []⟩) (E' := fun y => [(6, .d (.int .i64 y))]) (M' := fun y => ⟨[], out, []⟩) (RT := fun r e s => Lx.Returns PP Try.f104.results.toList e s ⟨.tup [.d (.int .i64 r.1), .d (.bool r.2)], []⟩) hz16 (by (try simp only [List.length_set, copied_len]); exact trk (by kernel_rfl) (by kernel_rfl) (by kernel_rfl)) ?_ ?_
        · intro s8 ww h
          unfold shapes_fold.s2 at h
          refine sr ?_
          refine ts (lss rfl rfl) ?_
          refine rn ?_
          refine CWp.seq ?_
          rcases ite h with ⟨c9, h⟩ | ⟨c9, h⟩
          · refine ct rfl (bt c9) ?_
            refine CWp.skip ?_
            refine CWp.seq ?_
            refine CWp.block ?_
            refine sr ?_
            obtain ⟨x10, hx10, h⟩ := bnd h
            refine ts (ixD lT26 szI rfl rfl hx10) ?_
            refine ts (ldI sT3 rfl rfl) ?_
            refine ts (as_ rfl) ?_
            refine rn ?_
            refine sr ?_
            refine ts (mv rfl) ?_
            refine rn ?_
            refine CWp.block ?_
            refine sr ?_
            refine ts (eql rfl rfl) ?_
            refine ts (as_ rfl) ?_
            refine rn ?_
            rcases ite h with ⟨c11, h⟩ | ⟨c11, h⟩
            · refine ct rfl (et c11) ?_
              refine lr ?_
              refine ts (mv rfl) ?_
              refine ts (mv rfl) ?_
              refine ts (add rfl rfl) ?_
              refine ts (as_ rfl) ?_
              refine rn ?_
              refine lr ?_
              refine ts (add rfl rfl) ?_
              refine ts (mv rfl) ?_
              refine rn ?_
              obtain rfl := some_inj h
              exact ⟨rfl, (by (try simp only [List.length_set, copied_len]); exact trk (by kernel_rfl) (by kernel_rfl) (by kernel_rfl))⟩
            · refine cf rfl (ef c11) ?_
              refine sr ?_
              refine ts (eql rfl rfl) ?_
              refine ts (as_ rfl) ?_
              refine rn ?_
              rcases ite h with ⟨c12, h⟩ | ⟨c12, h⟩
              · refine ct rfl (et c12) ?_
                refine sr ?_
                refine ts (mv rfl) ?_
                refine ts (neq rfl rfl) ?_
                refine rn ?_
                rcases ite h with ⟨c13, h⟩ | ⟨c13, h⟩
                · refine ct rfl (nt c13) ?_
                  refine lr ?_
                  refine ts (mv rfl) ?_
                  refine ts (add rfl rfl) ?_
                  refine ts (as_ rfl) ?_
                  refine rn ?_
                  refine lr ?_
                  refine ts (add rfl rfl) ?_
                  refine ts (mv rfl) ?_
                  refine rn ?_
                  obtain rfl := some_inj h
                  exact ⟨rfl, (by (try simp only [List.length_set, copied_len]); exact trk (by kernel_rfl) (by kernel_rfl) (by kernel_rfl))⟩
                · refine cf rfl (nf c13) ?_
                  refine CWp.skip ?_
                  refine lr ?_
                  refine ts (add rfl rfl) ?_
                  refine ts (mv rfl) ?_
                  refine rn ?_
                  obtain rfl := some_inj h
                  exact ⟨rfl, (by (try simp only [List.length_set, copied_len]); exact trk (by kernel_rfl) (by kernel_rfl) (by kernel_rfl))⟩
              · refine cf rfl (ef c12) ?_
                refine sr ?_
                refine ts (eql rfl rfl) ?_
                refine ts (as_ rfl) ?_
                refine rn ?_
                rcases ite h with ⟨c14, h⟩ | ⟨c14, h⟩
                · refine ct rfl (et c14) ?_
                  refine sr ?_
                  refine ts (mv rfl) ?_
                  refine ts (mv rfl) ?_
                  refine ts (mul rfl rfl) ?_
                  refine ts (as_ rfl) ?_
                  refine rn ?_
                  refine sr ?_
                  refine ts (mv rfl) ?_
                  refine ts (cln (f := fun _ => false) kf rfl (.c rfl le1 .n) (curOf_nil _) (shapes_isInteger_ok rfl) rfl) ?_
                  refine ts (not_ rfl) ?_
                  refine rn ?_
                  rcases ite h with ⟨c15, h⟩ | ⟨c15, h⟩
                  · refine ct rfl (not_t (vf c15)) ?_
                    refine sr ?_
                    refine ts (ac rfl rfl) ?_
                    refine ts (ac rfl rfl) ?_
                    refine rn ?_
                    refine CWp.ret ?_
                    obtain rfl := some_inj h
                    exact ⟨rfl, rt2 (ex := false) (by exact (.t rfl (.t rfl .n))) (by exact (sc (gd (by rfl)) (sc (gd (by rfl)) sn))) (by rfl) (by rfl)⟩
                  · refine cf rfl (not_f (Classical.not_not.1 c15)) ?_
                    refine CWp.skip ?_
                    refine lr ?_
                    refine ts (add rfl rfl) ?_
                    refine ts (mv rfl) ?_
                    refine rn ?_
                    obtain rfl := some_inj h
                    exact ⟨rfl, (by (try simp only [List.length_set, copied_len]); exact trk (by kernel_rfl) (by kernel_rfl) (by kernel_rfl))⟩
                · refine cf rfl (ef c14) ?_
                  refine CWp.skip ?_
                  refine lr ?_
                  refine ts (add rfl rfl) ?_
                  refine ts (mv rfl) ?_
                  refine rn ?_
                  obtain rfl := some_inj h
                  exact ⟨rfl, (by (try simp only [List.length_set, copied_len]); exact trk (by kernel_rfl) (by kernel_rfl) (by kernel_rfl))⟩
          · refine cf rfl (bf c9) ?_
            refine CWp.exit ?_
            obtain rfl := some_inj h
            exact ⟨rfl, (by (try simp only [List.length_set, copied_len]); exact trk (by kernel_rfl) (by kernel_rfl) (by kernel_rfl))⟩
        · cases z16 with
          | inl v17 =>
            intro e s ht
            refine CWp.trim ht ?_
            refine sr ?_
            refine ts (mv rfl) ?_
            refine ts (mv rfl) ?_
            refine ts (cln (f := fun _ => false) kf rfl (.c rfl le1 .n) (curOf_nil _) (shapes_isInteger_ok rfl) rfl) ?_
            refine ts (as_ rfl) ?_
            refine ts (as_ rfl) ?_
            refine rn ?_
            refine CWp.ret ?_
            obtain rfl := some_inj h
            exact ⟨trivial, rt2 (ex := false) (by exact (.t rfl (.t rfl .n))) (by exact (sc (gd (by rfl)) (sc (gd (by rfl)) sn))) (by rfl) (by rfl)⟩
          | inr r18 =>
            intro e s hr
            obtain rfl := some_inj h
            exact ⟨trivial, hr⟩
      · refine sr ?_
        refine ts (mv rfl) ?_
        refine ts (eql rfl rfl) ?_
        refine rn ?_
        rcases ite h with ⟨c7, h⟩ | ⟨c7, h⟩
        · refine ct rfl (et c7) ?_
          refine lr ?_
          refine ts (ac rfl rfl) ?_
          refine rn ?_
          exact ⟨1, h, (by (try simp only [List.length_set, copied_len]); exact trk (by kernel_rfl) (by kernel_rfl) (by kernel_rfl))⟩
        · refine cf rfl (ef c7) ?_
          refine CWp.skip ?_
          exact ⟨0, h, (by (try simp only [List.length_set, copied_len]); exact trk (by kernel_rfl) (by kernel_rfl) (by kernel_rfl))⟩
theorem shapes_Reduced_ok {p0 : api_Array} {p1 : Int} {p2 : Int} {out : Out} {r : api_Array × Int} (h : shapes_Reduced p0 p1 p2 = some r) : FunOk PP 54 [.d (api_Array.d p0), .d (.int .i64 p1), .d (.int .i64 p2)] out ⟨.tup [.d (api_Array.d r.1), .d (.int .i64 r.2)], []⟩ := by
  unfold shapes_Reduced at h
  refine fi Try.func54 rfl (by kernel_rfl) (by kernel_rfl) (by kernel_rfl) ?_
  refine sr ?_
  refine ts (bxI rfl) ?_
  refine ta (al (n := 0) zT59 rfl) ?_
  refine gz (Le.weakBox (t := 6) (n := 0) (off := 0) rfl rfl rfl) ?_
  refine gz (Le.weakBox (t := 6) (n := 0) (off := 1) rfl rfl rfl) ?_
  refine ts (ac rfl rfl) ?_
  refine rn ?_
  refine sd mixed (b := [0, 1, 3, 0, 0, 16, 48, 127, 255, 0, 767, 1791, 4095, 8191, 16383, 32767, 65535]) (by kernel_rfl) ?_
  refine ds (ldIW aT59 rfl rfl rfl) rfl ?_
  refine ds (bsT (l := (([p0] : List api_Array).map api_Array.d)) lT134 rfl rfl rfl (by kernel_rfl)) rfl ?_
  obtain ⟨x1, hx1, h⟩ := bnd h
  refine dr (cln (f := fun _ => false) kf rfl (.c rfl le2 .n) (curOf_nil _) (shapes_arraysErr_ok hx1) rfl) rfl ?_
  refine ds (mv rfl) rfl ?_
  refine ds (faI fT59_0 rfl rfl) rfl ?_
  refine ds (ldI sT22 rfl rfl) rfl ?_
  refine ds (lnD lT22 rfl rfl) rfl ?_
  refine dr (cln (f := fun _ => false) kf rfl (.c rfl le1 (.c rfl le1 (.c rfl le1 .n))) (curOf_nil _) (shapes_inside_ok rfl) rfl) rfl ?_
  refine ds (bld (v := .d (shapes_rule.d (shapes_rule.mk (shapes_inside p1 0 (p0.Bounds.length : Int)) 32))) rfl (by kernel_rfl)) rfl ?_
  refine ds (mv rfl) rfl ?_
  refine dr (cln (f := fun _ => false) kf rfl (.c rfl le1 (.c rfl le1 (.c rfl le1 .n))) (curOf_nil _) (shapes_inside_ok rfl) rfl) rfl ?_
  refine ds (bld (v := .d (shapes_rule.d (shapes_rule.mk (shapes_inside p2 0 4) 15))) rfl (by kernel_rfl)) rfl ?_
  refine ds (bsT (l := (([(shapes_rule.mk (shapes_inside p1 0 (p0.Bounds.length : Int)) 32), (shapes_rule.mk (shapes_inside p2 0 4) 15)] : List shapes_rule).map shapes_rule.d)) lT133 rfl rfl rfl (by kernel_rfl)) rfl ?_
  obtain ⟨x2, hx2, h⟩ := bnd h
  refine dr (cln (f := fun _ => false) kf rfl (.c rfl le2 .n) (curOf_nil _) (shapes_broken_ok hx2) rfl) rfl ?_
  refine ds (bsT (l := (([x1, x2] : List Int).map dI)) lT132 rfl rfl rfl (by kernel_rfl)) rfl ?_
  obtain ⟨x3, hx3, h⟩ := bnd h
  refine dr (cln (f := fun _ => false) kf rfl (.c rfl le2 .n) (curOf_nil _) (cmp_Or_api_Errno_ok hx3) rfl) rfl ?_
  refine ds (as_ rfl) rfl ?_
  refine dn (by kernel_rfl) ?_
  refine CWp.seq ?_
  refine sr ?_
  refine ts (mv rfl) ?_
  refine ts (neq rfl rfl) ?_
  refine rn ?_
  rcases ite h with ⟨c4, h⟩ | ⟨c4, h⟩
  · refine ct rfl (nt c4) ?_
    refine sr ?_
    refine ts ((bld (v := .d (.agg [.nilsl, .nilsl])) rfl (by kernel_rfl)).wk (x' := api_Array.d (api_Array.mk [] [])) rfl) ?_
    refine ts (mv rfl) ?_
    refine tt0 (stW aT59 rfl rfl rfl rfl rfl rfl .h) ?_
    refine ts (as_ rfl) ?_
    refine rn ?_
    refine CWp.ret ?_
    obtain rfl := some_inj h
    exact ⟨trivial, rt2 (ex := false) (by exact (rcW aT59 rfl (ow rfl) rfl rfl (.t rfl .n))) (by exact (sc (gd (by rfl)) (sc (gd (by rfl)) sn))) (by rfl) (by rfl)⟩
  · refine cf rfl (nf c4) ?_
    refine CWp.skip ?_
    refine sr ?_
    refine ta (al (n := 0) zT59 rfl) ?_
    refine gz (Le.weakBox (t := 9) (n := 0) (off := 0) rfl rfl rfl) ?_
    refine gz (Le.nilBox (t := 9) (n := 0) (t' := 1181) (n' := 0) (off := 1) (sz := 1) rfl rfl rfl rfl) ?_
    refine rn ?_
    refine sr ?_
    refine ta (an (n := 0) lT100 rfl) ?_
    refine rn ?_
    refine jn (E := fun a5 => [(2, .d (.int .i64 p2)), (6, .bptr ⟨out.length, 6, 0⟩ 0), (9, .bptr ⟨out.length, 9, 0⟩ 0), (10, .ref ⟨out.length, 10, 0⟩ 0 a5.2.length a5.2.length)]) (M := fun a5 => ⟨[((6, 0), .box [.d (.sl (([] : List api_Bound).map api_Bound.d)), .d (.sl (([] : List Int).map dI))]), ((9, 0), .box [.d (.sl (a5.1.map api_Bound.d)), .ref ⟨out.length, 1181, 0⟩ 0 ([] : List Int).length ([] : List Int).length]), ((1181, 0), .arr 1 false (([] : List Int).map dI)), ((10, 0), .arr 1 false (a5.2.map (dL dI)))], out, []⟩) (F := fun a5 => shapes_Reduced.j1 p2 a5) (r := r) ?_ ?_
    · intro a5 h
      unfold shapes_Reduced.j1 at h
      refine CWp.seq ?_
      refine sr ?_
      refine ts (mv rfl) ?_
      refine ts (lnR lT100 rfl rfl) ?_
      refine ts (mv rfl) ?_
      refine rn ?_
      obtain ⟨z12, hz12, h⟩ := bnd h
      refine lbr (E := fun s6 => [(2, .d (.int .i64 p2)), (6, .bptr ⟨out.length, 6, 0⟩ 0), (9, .bptr ⟨out.length, 9, 0⟩ 0), (79, .ref ⟨out.length, 10, 0⟩ 0 a5.2.length a5.2.length), (80, .d (.int .i64 (a5.2.length : Int))), (81, .d (.int .i64 s6.1))]) (M := fun s6 => ⟨[((6, 0), .box [.d (.sl (([] : List api_Bound).map api_Bound.d)), .d (.sl (([] : List Int).map dI))]), ((9, 0), .box [.d (.sl (a5.1.map api_Bound.d)), .ref ⟨out.length, 1181, 0⟩ 0 s6.2.length s6.2.length]), ((1181, 0), .arr 1 false (s6.2.map dI)), ((10, 0), .arr 1 false (a5.2.map (dL dI)))], out, []⟩) (E' := fun y => [(6, .bptr ⟨out.length, 6, 0⟩ 0), (9, .bptr ⟨out.length, 9, 0⟩ 0)]) (M' := fun y => ⟨[((6, 0), .box [.d (.sl (([] : List api_Bound).map api_Bound.d)), .d (.sl (([] : List Int).map dI))]), ((9, 0), .box [.d (.sl (a5.1.map api_Bound.d)), .ref ⟨out.length, 1181, 0⟩ 0 y.length y.length]), ((1181, 0), .arr 1 false (y.map dI))], out, []⟩) (RT := fun r e s => Lx.Returns PP Try.f54.results.toList e s ⟨.tup [.d (api_Array.d r.1), .d (.int .i64 r.2)], []⟩) hz12 (by (try simp only [List.length_set, copied_len]); exact trk (by kernel_rfl) (by kernel_rfl) (by kernel_rfl)) ?_ ?_
      · intro s6 ww h
        unfold shapes_Reduced.s2 at h
        refine sr ?_
        refine ts (lss rfl rfl) ?_
        refine rn ?_
        refine CWp.seq ?_
        rcases ite h with ⟨c7, h⟩ | ⟨c7, h⟩
        · refine ct rfl (bt c7) ?_
          refine CWp.skip ?_
          refine CWp.seq ?_
          refine CWp.block ?_
          refine sr ?_
          obtain ⟨x8, hx8, h⟩ := bnd h
          refine ts (ixR lT100 rfl rfl rfl (ow rfl) hx8) ?_
          refine ts (ldE sT26 rfl rfl (ow rfl) hx8 rfl) ?_
          refine ts (as_ rfl) ?_
          refine rn ?_
          refine sr ?_
          refine ts (mv rfl) ?_
          refine ts (mv rfl) ?_
          obtain ⟨x9, hx9, h⟩ := bnd h
          refine ts (cln (f := fun _ => false) kf rfl (.c rfl le1 (.c rfl le1 .n)) (curOf_nil _) (shapes_fold_ok hx9) rfl) ?_
          refine ts (mv rfl) ?_
          refine ts (ex_ rfl rfl) ?_
          refine ts (ex_ rfl rfl) ?_
          refine ts (as_ rfl) ?_
          refine ts (as_ rfl) ?_
          refine rn ?_
          refine CWp.seq ?_
          refine sr ?_
          refine ts (mv rfl) ?_
          refine ts (not_ rfl) ?_
          refine rn ?_
          rcases ite h with ⟨c10, h⟩ | ⟨c10, h⟩
          · refine ct rfl (not_t (vf c10)) ?_
            refine sr ?_
            refine ts ((bld (v := .d (.agg [.nilsl, .nilsl])) rfl (by kernel_rfl)).wk (x' := api_Array.d (api_Array.mk [] [])) rfl) ?_
            refine tt0 (stW aT59 rfl rfl rfl rfl rfl rfl .h) ?_
            refine ts (ac rfl rfl) ?_
            refine rn ?_
            refine CWp.ret ?_
            obtain rfl := some_inj h
            exact ⟨rfl, rt2 (ex := false) (by exact (rcW aT59 rfl (ow rfl) rfl rfl (.t rfl .n))) (by exact (sc (gd (by rfl)) (sc (gd (by rfl)) sn))) (by rfl) (by rfl)⟩
          · refine cf rfl (not_f (Classical.not_not.1 c10)) ?_
            refine CWp.skip ?_
            refine lr ?_
            refine ts (fa fT59_1 rfl rfl) ?_
            refine ts (ld sT26 rfl (ow rfl) rfl) ?_
            refine ts (mv rfl) ?_
            refine ts (bsT (l := (([x9.1] : List Int).map dI)) lT26 rfl rfl rfl (by kernel_rfl)) ?_
            obtain ⟨x11, hx11, h⟩ := bnd h
            refine tp (apG (ys := ([x9.1] : List Int)) (xs := s6.2) (f := dI) lT26 uT26 szI rfl rfl rfl elT (ow rfl) hx11 (so (.s rfl (.s rfl .h)))) ?_
            refine ts (fa fT59_1 rfl rfl) ?_
            refine tt0 (st sT26 rfl rfl rfl rfl (.s .h) (.s rfl .h)) ?_
            refine rn ?_
            refine lr ?_
            refine ts (add rfl rfl) ?_
            refine ts (mv rfl) ?_
            refine rn ?_
            obtain rfl := some_inj h
            exact ⟨rfl, (by (try simp only [List.length_set, copied_len]); exact trk (by kernel_rfl) (by kernel_rfl) (by kernel_rfl))⟩
        · refine cf rfl (bf c7) ?_
          refine CWp.exit ?_
          obtain rfl := some_inj h
          exact ⟨rfl, (by (try simp only [List.length_set, copied_len]); exact trk (by kernel_rfl) (by kernel_rfl) (by kernel_rfl))⟩
      · cases z12 with
        | inl v13 =>
          intro e s ht
          refine CWp.trim ht ?_
          refine sr ?_
          refine ts (ldA (v := .agg [.d (.sl (a5.1.map api_Bound.d)), .ref ⟨out.length, 1181, 0⟩ 0 v13.length v13.length]) aT59 rfl (ow rfl) (by kernel_rfl)) ?_
          refine tt0 (stW aT59 rfl rfl rfl rfl rfl rfl .h) ?_
          refine ts (ac rfl rfl) ?_
          refine rn ?_
          refine CWp.ret ?_
          obtain rfl := some_inj h
          exact ⟨trivial, rt2 (ex := false) (by exact (rcA (v := .agg [.d (.sl (a5.1.map api_Bound.d)), .ref ⟨out.length, 1181, 0⟩ 0 v13.length v13.length]) aT59 rfl (ow rfl) (by kernel_rfl) (.t rfl .n))) (by exact (sc (ga (sc (gd (by rfl)) (sc (gf rfl rfl) sn)) rfl) (sc (gd (by rfl)) sn))) (by rfl) (by rfl)⟩
        | inr r14 =>
          intro e s hr
          obtain rfl := some_inj h
          exact ⟨trivial, hr⟩
    · refine sr ?_
      refine ts (mv rfl) ?_
      refine ts (eql rfl rfl) ?_
      refine rn ?_
      rcases ite h with ⟨c5, h⟩ | ⟨c5, h⟩
      · refine ct rfl (et c5) ?_
        refine lr ?_
        refine ts (mv rfl) ?_
        refine ts (faI fT59_1 rfl rfl) ?_
        refine ts (ldI sT26 rfl rfl) ?_
        refine ts (bsT (l := (([p0.Elements] : List (List Int)).map (dL dI))) lT100 rfl rfl rfl (by kernel_rfl)) ?_
        obtain ⟨x6, hx6, h⟩ := bnd h
        refine tp (apG (ys := ([p0.Elements] : List (List Int))) (xs := ([] : List (List Int))) (f := (dL dI)) lT100 uT100 szL rfl (by first | rfl | simp only [List.length_set, copied_len]) rfl elT (ow rfl) hx6 (so .h)) ?_
        refine ts (as_ rfl) ?_
        refine rn ?_
        exact ⟨([], x6), h, (by (try simp only [List.length_set, copied_len]); exact trk (by kernel_rfl) (by kernel_rfl) (by kernel_rfl))⟩
      · refine cf rfl (ef c5) ?_
        refine sr ?_
        refine ts (faI fT59_0 rfl rfl) ?_
        refine ts (ldI sT22 rfl rfl) ?_
        obtain ⟨x7, hx7, h⟩ := bnd h
        refine ts (czn (f := fun _ => false) (v' := .d (.sl (x7.map dI))) kf rfl (.c rfl le1 .n) (curOf_nil _) (shapes_extents_ok hx7) rfl rfl) ?_
        refine ts (as_ rfl) ?_
        refine rn ?_
        refine sr ?_
        refine ts (mv rfl) ?_
        obtain ⟨x8, hx8, h⟩ := bnd h
        refine ta (chn (f := fun _ => false) (n := 0) (v' := .ref ⟨out.length, 50, 0⟩ 0 x8.length x8.length) (bs := [((50, 0), .arr 1 false (x8.map dI))]) kf rfl (.c rfl le1 .n) (curOf_nil _) (slices_Clone_int_ok hx8) rfl rfl (by simp [homeVal, homeVals])) ?_
        refine ts (mv rfl) ?_
        refine ts (sub rfl rfl) ?_
        refine ts (mv rfl) ?_
        obtain ⟨x9, hx9, h⟩ := bnd h
        refine tt (cb_ (v := .d (.sl (x9.map dI))) (xs := [.int .i64 (w (p1 - 1)), .int .i64 p1]) kf rfl (slices_Delete_int_ok hx9 rfl rfl .h) rfl) ?_
        refine ts (as_ rfl) ?_
        refine rn ?_
        refine CWp.seq ?_
        refine sr ?_
        refine ts (mv rfl) ?_
        obtain ⟨x10, hx10, h⟩ := bnd h
        refine ts (cln (f := fun _ => false) kf rfl (.c rfl le1 .n) (curOf_nil _) (shapes_product_ok hx10) rfl) ?_
        refine ts (gtr rfl rfl) ?_
        refine rn ?_
        rcases ite h with ⟨c11, h⟩ | ⟨c11, h⟩
        · refine ct rfl (bt c11) ?_
          refine sr ?_
          refine ts ((bld (v := .d (.agg [.nilsl, .nilsl])) rfl (by kernel_rfl)).wk (x' := api_Array.d (api_Array.mk [] [])) rfl) ?_
          refine tt0 (stW aT59 rfl rfl rfl rfl rfl rfl (.s rfl (.s rfl (.s rfl (.s rfl .h))))) ?_
          refine ts (ac rfl rfl) ?_
          refine rn ?_
          refine CWp.ret ?_
          obtain rfl := some_inj h
          exact ⟨trivial, rt2 (ex := false) (by exact (rcW aT59 rfl (ow rfl) rfl rfl (.t rfl .n))) (by exact (sc (gd (by rfl)) (sc (gd (by rfl)) sn))) (by rfl) (by rfl)⟩
        · refine cf rfl (bf c11) ?_
          refine CWp.skip ?_
          refine sr ?_
          refine ts (mv rfl) ?_
          obtain ⟨x12, hx12, h⟩ := bnd h
          refine ts (cln (f := fun _ => false) kf rfl (.c rfl le1 .n) (curOf_nil _) (shapes_from_ok hx12) rfl) ?_
          refine ts (fa fT59_0 rfl rfl) ?_
          refine tt0 (st sT22 rfl rfl rfl rfl .h (.s rfl (.s rfl (.s rfl .h)))) ?_
          refine rn ?_
          refine sr ?_
          refine ts (mv rfl) ?_
          refine ts (mv rfl) ?_
          refine ts (sub rfl rfl) ?_
          obtain ⟨x13, hx13, h⟩ := bnd h
          refine ts (cln (f := fun _ => false) kf rfl (.c rfl le1 (.c rfl le1 .n)) (curOf_nil _) (shapes_lines_ok hx13) rfl) ?_
          refine ts (lnD lT109 rfl rfl) ?_
          refine ts (mv rfl) ?_
          refine rn ?_
          obtain ⟨z19, hz19, h⟩ := bnd h
          refine lb (E := fun s14 => [(2, .d (.int .i64 p2)), (3, .pimm (api_Array.d p0) 0), (6, .bptr ⟨out.length, 6, 0⟩ 0), (9, .bptr ⟨out.length, 9, 0⟩ 0), (10, .ref ⟨out.length, 10, 0⟩ 0 s14.2.length s14.2.length), (65, .d (.sl (x13.map (dL dI)))), (66, .d (.int .i64 (x13.length : Int))), (67, .d (.int .i64 s14.1))]) (M := fun s14 => ⟨[((6, 0), .box [.d (.sl (([] : List api_Bound).map api_Bound.d)), .d (.sl (([] : List Int).map dI))]), ((9, 0), .box [.d (.sl (x12.map api_Bound.d)), .ref ⟨out.length, 1181, 0⟩ 0 ([] : List Int).length ([] : List Int).length]), ((1181, 0), .arr 1 false (([] : List Int).map dI)), ((10, 0), .arr 1 false (s14.2.map (dL dI)))], out, []⟩) (E' := fun y => [(2, .d (.int .i64 p2)), (6, .bptr ⟨out.length, 6, 0⟩ 0), (9, .bptr ⟨out.length, 9, 0⟩ 0), (10, .ref ⟨out.length, 10, 0⟩ 0 y.length y.length)]) (M' := fun y => ⟨[((6, 0), .box [.d (.sl (([] : List api_Bound).map api_Bound.d)), .d (.sl (([] : List Int).map dI))]), ((9, 0), .box [.d (.sl (x12.map api_Bound.d)), .ref ⟨out.length, 1181, 0⟩ 0 ([] : List Int).length ([] : List Int).length]), ((1181, 0), .arr 1 false (([] : List Int).map dI)), ((10, 0), .arr 1 false (y.map (dL dI)))], out, []⟩) hz19 (by (try simp only [List.length_set, copied_len]); exact trk (by kernel_rfl) (by kernel_rfl) (by kernel_rfl)) ?_ ?_
          · intro s14 ww h
            unfold shapes_Reduced.s3 at h
            refine sr ?_
            refine ts (lss rfl rfl) ?_
            refine rn ?_
            refine CWp.seq ?_
            rcases ite h with ⟨c15, h⟩ | ⟨c15, h⟩
            · refine ct rfl (bt c15) ?_
              refine CWp.skip ?_
              refine CWp.seq ?_
              refine CWp.block ?_
              refine sr ?_
              obtain ⟨x16, hx16, h⟩ := bnd h
              refine ts (ixD lT109 szL rfl rfl hx16) ?_
              refine ts (ldI sT111 rfl rfl) ?_
              refine ts (as_ rfl) ?_
              refine rn ?_
              refine lr ?_
              refine ts (mv rfl) ?_
              refine ts (ldIW aT59 rfl rfl rfl) ?_
              refine ts (mv rfl) ?_
              obtain ⟨x17, hx17, h⟩ := bnd h
              refine ts (cln (f := fun _ => false) kf rfl (.c rfl le1 (.c rfl le1 (.c rfl le1 .n))) (curOf_nil _) ((shapes_picked_ok hx17).args (.c (.w (.nil _) (.c .n)))) rfl) ?_
              refine ts (fdD (v := .sl (x17.Elements.map dI)) fT59_1 rfl (by kernel_rfl)) ?_
              refine ts (bsT (l := (([x17.Elements] : List (List Int)).map (dL dI))) lT100 rfl rfl rfl (by kernel_rfl)) ?_
              obtain ⟨x18, hx18, h⟩ := bnd h
              refine tp (apG (ys := ([x17.Elements] : List (List Int))) (xs := s14.2) (f := (dL dI)) lT100 uT100 szL rfl rfl rfl elT (ow rfl) hx18 (so (.s rfl (.s rfl (.s rfl .h))))) ?_
              refine ts (as_ rfl) ?_
              refine rn ?_
              refine lr ?_
              refine ts (add rfl rfl) ?_
              refine ts (mv rfl) ?_
              refine rn ?_
              obtain rfl := some_inj h
              exact ⟨rfl, (by (try simp only [List.length_set, copied_len]); exact trk (by kernel_rfl) (by kernel_rfl) (by kernel_rfl))⟩
            · refine cf rfl (bf c15) ?_
              refine CWp.exit ?_
              obtain rfl := some_inj h
              exact ⟨rfl, (by (try simp only [List.length_set, copied_len]); exact trk (by kernel_rfl) (by kernel_rfl) (by kernel_rfl))⟩
          · intro e s ht
            exact ⟨(x12, z19), h, ht.trans (by (try simp only [List.length_set, copied_len]); exact trk (by kernel_rfl) (by kernel_rfl) (by kernel_rfl))⟩
theorem law15_ShapesSpreads_ok {p0 : api_Array} {p1 : Int} {p2 : Int} {out : Out} {r : Bool} (h : law15_ShapesSpreads p0 p1 p2 = some r) : FunOk PP 10 [.d (api_Array.d p0), .d (.int .i64 p1), .d (.int .i64 p2)] out ⟨.d (.bool r), []⟩ := by
  unfold law15_ShapesSpreads at h
  refine fi Try.func10 rfl (by kernel_rfl) (by kernel_rfl) (by kernel_rfl) ?_
  refine sr ?_
  refine ts (bxI rfl) ?_
  refine ts (ac rfl rfl) ?_
  refine rn ?_
  refine CWp.seq ?_
  refine sr ?_
  obtain ⟨x1, hx1, h⟩ := bnd h
  refine ts (cln (f := fun _ => false) kf rfl .n (curOf_nil _) (law15_awake_ok hx1) rfl) ?_
  refine ts (not_ rfl) ?_
  refine rn ?_
  rcases ite h with ⟨c2, h⟩ | ⟨c2, h⟩
  · refine ct rfl (not_t (vf c2)) ?_
    refine sr ?_
    refine ts (ac rfl rfl) ?_
    refine rn ?_
    refine CWp.ret ?_
    obtain rfl := some_inj h
    exact ⟨trivial, rt1 (ex := false) (by exact (.t rfl .n)) (by exact (gd (by rfl))) (by rfl) (by rfl)⟩
  · refine cf rfl (not_f (Classical.not_not.1 c2)) ?_
    refine CWp.skip ?_
    refine CWp.seq ?_
    refine sr ?_
    refine ts (ldIW aT59 rfl rfl rfl) ?_
    refine ts (cln (f := fun _ => false) kf rfl (.c rfl le1 .n) (curOf_nil _) (law15_few_ok rfl) rfl) ?_
    refine ts (not_ rfl) ?_
    refine rn ?_
    rcases ite h with ⟨c3, h⟩ | ⟨c3, h⟩
    · refine ct rfl (not_t (vf c3)) ?_
      refine sr ?_
      refine ts (ac rfl rfl) ?_
      refine rn ?_
      refine CWp.ret ?_
      obtain rfl := some_inj h
      exact ⟨trivial, rt1 (ex := false) (by exact (.t rfl .n)) (by exact (gd (by rfl))) (by rfl) (by rfl)⟩
    · refine cf rfl (not_f (Classical.not_not.1 c3)) ?_
      refine CWp.skip ?_
      refine sr ?_
      refine ts (ldIW aT59 rfl rfl rfl) ?_
      obtain ⟨x4, hx4, h⟩ := bnd h
      refine ts (cln (f := fun _ => false) kf rfl (.c rfl le1 .n) (curOf_nil _) (ref15_Copy_ok hx4) rfl) ?_
      obtain ⟨x5, hx5, h⟩ := bnd h
      refine ts (cln (f := fun _ => false) kf rfl (.c rfl le1 .n) (curOf_nil _) (shapes_Transpose_ok hx5) rfl) ?_
      refine ts (mv rfl) ?_
      refine ts (ex_ rfl rfl) ?_
      refine ts (ex_ rfl rfl) ?_
      refine ta (al (n := 0) zT59 rfl) ?_
      refine tt0 (stW aT59 rfl rfl rfl rfl rfl rfl .h) ?_
      refine ts (as_ rfl) ?_
      refine rn ?_
      refine sr ?_
      refine ts (ldIW aT59 rfl rfl rfl) ?_
      obtain ⟨x6, hx6, h⟩ := bnd h
      refine ts (cln (f := fun _ => false) kf rfl (.c rfl le1 .n) (curOf_nil _) (ref15_Copy_ok hx6) rfl) ?_
      refine ts (mv rfl) ?_
      refine ts (mv rfl) ?_
      obtain ⟨x7, hx7, h⟩ := bnd h
      refine ts (cln (f := fun _ => false) kf rfl (.c rfl le1 (.c rfl le1 (.c rfl le1 .n))) (curOf_nil _) (shapes_Spread_ok hx7) rfl) ?_
      refine ts (mv rfl) ?_
      refine ts (ex_ rfl rfl) ?_
      refine ts (ex_ rfl rfl) ?_
      refine ta (al (n := 0) zT59 rfl) ?_
      refine tt0 (stW aT59 rfl rfl rfl rfl rfl rfl .h) ?_
      refine ts (as_ rfl) ?_
      refine rn ?_
      refine sr ?_
      refine ts (ldIW aT59 rfl rfl rfl) ?_
      obtain ⟨x8, hx8, h⟩ := bnd h
      refine ts (cln (f := fun _ => false) kf rfl (.c rfl le1 .n) (curOf_nil _) (ref15_Transposed_ok hx8) rfl) ?_
      refine ts (mv rfl) ?_
      refine ts (ex_ rfl rfl) ?_
      refine ts (ex_ rfl rfl) ?_
      refine ta (al (n := 0) zT59 rfl) ?_
      refine tt0 (stW aT59 rfl rfl rfl rfl rfl rfl .h) ?_
      refine ts (as_ rfl) ?_
      refine rn ?_
      refine CWp.seq ?_
      refine sr ?_
      refine ts (ldW (e := api_Array.d x5.1) aT59 rfl (ow rfl) rfl rfl) ?_
      refine ts (mv rfl) ?_
      refine ts (ldW (e := api_Array.d x8.1) aT59 rfl (ow rfl) rfl rfl) ?_
      refine ts (mv rfl) ?_
      obtain ⟨x9, hx9, h⟩ := bnd h
      refine ts (cln (f := fun _ => false) kf rfl (.c rfl le1 (.c rfl le1 (.c rfl le1 (.c rfl le1 .n)))) (curOf_nil _) (law15_is_ok hx9) rfl) ?_
      refine ts (not_ rfl) ?_
      refine rn ?_
      rcases ite h with ⟨c10, h⟩ | ⟨c10, h⟩
      · refine ct rfl (not_t (vf c10)) ?_
        refine sr ?_
        refine ts (ac rfl rfl) ?_
        refine rn ?_
        refine CWp.ret ?_
        obtain rfl := some_inj h
        exact ⟨trivial, rt1 (ex := false) (by exact (.t rfl .n)) (by exact (gd (by rfl))) (by rfl) (by rfl)⟩
      · refine cf rfl (not_f (Classical.not_not.1 c10)) ?_
        refine CWp.skip ?_
        refine sr ?_
        refine ts (ldIW aT59 rfl rfl rfl) ?_
        refine ts (mv rfl) ?_
        refine ts (mv rfl) ?_
        obtain ⟨x11, hx11, h⟩ := bnd h
        refine ts (cln (f := fun _ => false) kf rfl (.c rfl le1 (.c rfl le1 (.c rfl le1 .n))) (curOf_nil _) (ref15_Spread_ok hx11) rfl) ?_
        refine ts (mv rfl) ?_
        refine ts (ex_ rfl rfl) ?_
        refine ts (ex_ rfl rfl) ?_
        refine tt0 (stW aT59 rfl rfl rfl rfl rfl rfl .h) ?_
        refine ts (as_ rfl) ?_
        refine rn ?_
        refine CWp.seq ?_
        refine sr ?_
        refine ts (ldW (e := api_Array.d x7.1) aT59 rfl (ow rfl) rfl rfl) ?_
        refine ts (mv rfl) ?_
        refine ts (ldW (e := api_Array.d x11.1) aT59 rfl (ow rfl) rfl rfl) ?_
        refine ts (mv rfl) ?_
        obtain ⟨x12, hx12, h⟩ := bnd h
        refine ts (cln (f := fun _ => false) kf rfl (.c rfl le1 (.c rfl le1 (.c rfl le1 (.c rfl le1 .n)))) (curOf_nil _) (law15_is_ok hx12) rfl) ?_
        refine ts (not_ rfl) ?_
        refine rn ?_
        rcases ite h with ⟨c13, h⟩ | ⟨c13, h⟩
        · refine ct rfl (not_t (vf c13)) ?_
          refine sr ?_
          refine ts (ac rfl rfl) ?_
          refine rn ?_
          refine CWp.ret ?_
          obtain rfl := some_inj h
          exact ⟨trivial, rt1 (ex := false) (by exact (.t rfl .n)) (by exact (gd (by rfl))) (by rfl) (by rfl)⟩
        · refine cf rfl (not_f (Classical.not_not.1 c13)) ?_
          refine CWp.skip ?_
          refine sr ?_
          refine ts (ldIW aT59 rfl rfl rfl) ?_
          obtain ⟨x14, hx14, h⟩ := bnd h
          refine ts (cln (f := fun _ => false) kf rfl (.c rfl le1 .n) (curOf_nil _) (ref15_Copy_ok hx14) rfl) ?_
          refine ts (mv rfl) ?_
          obtain ⟨x15, hx15, h⟩ := bnd h
          refine ts (cln (f := fun _ => false) kf rfl (.c rfl le1 (.c rfl le1 (.c rfl le1 .n))) (curOf_nil _) (shapes_Spread_ok hx15) rfl) ?_
          refine ts (mv rfl) ?_
          refine ts (ex_ rfl rfl) ?_
          refine ts (ex_ rfl rfl) ?_
          refine ta (al (n := 0) zT59 rfl) ?_
          refine tt0 (stW aT59 rfl rfl rfl rfl rfl rfl .h) ?_
          refine ts (as_ rfl) ?_
          refine rn ?_
          refine CWp.seq ?_
          refine sr ?_
          refine ts (mv rfl) ?_
          refine ts (neq rfl rfl) ?_
          refine rn ?_
          rcases ite h with ⟨c16, h⟩ | ⟨c16, h⟩
          · refine ct rfl (nt c16) ?_
            refine sr ?_
            refine ts (ac rfl rfl) ?_
            refine rn ?_
            refine CWp.ret ?_
            obtain rfl := some_inj h
            exact ⟨trivial, rt1 (ex := false) (by exact (.t rfl .n)) (by exact (gd (by rfl))) (by rfl) (by rfl)⟩
          · refine cf rfl (nf c16) ?_
            refine CWp.skip ?_
            refine sr ?_
            refine ts (ldW (e := api_Array.d x15.1) aT59 rfl (ow rfl) rfl rfl) ?_
            refine ts (mv rfl) ?_
            obtain ⟨x17, hx17, h⟩ := bnd h
            refine ts (cln (f := fun _ => false) kf rfl (.c rfl le1 (.c rfl le1 (.c rfl le1 .n))) (curOf_nil _) (shapes_Reduced_ok hx17) rfl) ?_
            refine ts (mv rfl) ?_
            refine ts (ex_ rfl rfl) ?_
            refine ts (ex_ rfl rfl) ?_
            refine ta (al (n := 0) zT59 rfl) ?_
            refine tt0 (stW aT59 rfl rfl rfl rfl rfl rfl .h) ?_
            refine ts (as_ rfl) ?_
            refine rn ?_
            refine sd mixed (b := [0, 1, 3, 7, 15, 7, 39, 127, 255, 511, 1023, 2047, 4095, 1023, 9215, 32767, 65535, 131071, 262143]) (by kernel_rfl) ?_
            refine ds (mv rfl) rfl ?_
            refine ds (eql rfl rfl) rfl ?_
            refine ds (mv rfl) rfl ?_
            rcases ite h with ⟨c18, h⟩ | ⟨c18, h⟩
            · refine vs (gy rfl rfl (et c18)) (fa fT59_1 rfl rfl) rfl ?_
              refine vs (gy rfl rfl (et c18)) (ld sT26 rfl (ow rfl) rfl) rfl ?_
              refine vs (gy rfl rfl (et c18)) (faI fT59_1 rfl rfl) rfl ?_
              refine vs (gy rfl rfl (et c18)) (ldI sT26 rfl rfl) rfl ?_
              obtain ⟨x19, hx19, h⟩ := bnd h
              refine vs (gy rfl rfl (et c18)) (cln (f := fun _ => false) kf rfl (.c rfl le1 (.c rfl le1 .n)) (curOf_nil _) (base_Ints_ok hx19) rfl) rfl ?_
              refine ds (pt rfl (et c18) rfl) rfl ?_
              refine ds (mv rfl) rfl ?_
              rcases ite h with ⟨c20, h⟩ | ⟨c20, h⟩
              · refine vs (gy rfl rfl c20) (fa fT59_0 rfl rfl) rfl ?_
                refine vs (gy rfl rfl c20) (ld sT22 rfl (ow rfl) rfl) rfl ?_
                obtain ⟨x21, hx21, h⟩ := bnd h
                refine vs (gy rfl rfl c20) (cln (f := fun _ => false) kf rfl (.c rfl le1 .n) (curOf_nil _) (ref15_Extents_ok hx21) rfl) rfl ?_
                refine vs (gy rfl rfl c20) (faI fT59_0 rfl rfl) rfl ?_
                refine vs (gy rfl rfl c20) (ldI sT22 rfl rfl) rfl ?_
                obtain ⟨x22, hx22, h⟩ := bnd h
                refine vs (gy rfl rfl c20) (cln (f := fun _ => false) kf rfl (.c rfl le1 .n) (curOf_nil _) (ref15_Extents_ok hx22) rfl) rfl ?_
                obtain ⟨x23, hx23, h⟩ := bnd h
                refine vs (gy rfl rfl c20) (cln (f := fun _ => false) kf rfl (.c rfl le1 (.c rfl le1 .n)) (curOf_nil _) (base_Ints_ok hx23) rfl) rfl ?_
                refine ds (pt rfl c20 rfl) rfl ?_
                refine ds (as_ rfl) rfl ?_
                refine dn (by kernel_rfl) ?_
                refine CWp.ret ?_
                obtain rfl := some_inj h
                exact ⟨trivial, rt1 (ex := false) (by exact (.t rfl .n)) (by exact (gd (by rfl))) (by rfl) (by rfl)⟩
              · refine vn (gn rfl rfl (vf c20)) ?_
                refine vn (gn rfl rfl (vf c20)) ?_
                refine vn (gn rfl rfl (vf c20)) ?_
                refine vn (gn rfl rfl (vf c20)) ?_
                refine vn (gn rfl rfl (vf c20)) ?_
                refine vn (gn rfl rfl (vf c20)) ?_
                refine vn (gn rfl rfl (vf c20)) ?_
                refine ds (pf rfl (vf c20) rfl) rfl ?_
                refine ds (as_ rfl) rfl ?_
                refine dn (by kernel_rfl) ?_
                refine CWp.ret ?_
                obtain rfl := some_inj h
                exact ⟨trivial, rt1 (ex := false) (by exact (.t rfl .n)) (by exact (gd (by rfl))) (by rfl) (by rfl)⟩
            · refine vn (gn rfl rfl (ef c18)) ?_
              refine vn (gn rfl rfl (ef c18)) ?_
              refine vn (gn rfl rfl (ef c18)) ?_
              refine vn (gn rfl rfl (ef c18)) ?_
              refine vn (gn rfl rfl (ef c18)) ?_
              refine ds (pf rfl (ef c18) rfl) rfl ?_
              refine ds (mv rfl) rfl ?_
              refine vn (gn rfl rfl rfl) ?_
              refine vn (gn rfl rfl rfl) ?_
              refine vn (gn rfl rfl rfl) ?_
              refine vn (gn rfl rfl rfl) ?_
              refine vn (gn rfl rfl rfl) ?_
              refine vn (gn rfl rfl rfl) ?_
              refine vn (gn rfl rfl rfl) ?_
              refine ds (pf rfl rfl rfl) rfl ?_
              refine ds (as_ rfl) rfl ?_
              refine dn (by kernel_rfl) ?_
              refine CWp.ret ?_
              obtain rfl := some_inj h
              exact ⟨trivial, rt1 (ex := false) (by exact (.t rfl .n)) (by exact (gd (by rfl))) (by rfl) (by rfl)⟩
end Go.Proofs.Ytoelcmbacfhdnaa
