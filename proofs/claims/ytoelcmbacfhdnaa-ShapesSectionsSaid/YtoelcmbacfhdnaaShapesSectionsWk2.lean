/- The walks: the program does what the functions in plain form say. Part 2. -/
import Derived.Test.YtoelcmbacfhdnaaShapesSectionsWk1
set_option linter.all false
namespace Go.Proofs.Ytoelcmbacfhdnaa
open Go.Lx Go.Sh
set_option linter.unusedVariables false
set_option maxRecDepth 100000
theorem ref15_Section_ok {p0 : (List api_Bound)} {p1 : (List api_Subscript)} {out : Out} {r : api_Section × Int} (h : ref15_Section p0 p1 = some r) : FunOk PP 19 [.d (.sl (p0.map api_Bound.d)), .d (.sl (p1.map api_Subscript.d))] out ⟨.tup [.d (api_Section.d r.1), .d (.int .i64 r.2)], []⟩ := by
  unfold ref15_Section at h
  refine fi Try.func19 rfl (by kernel_rfl) (by kernel_rfl) (by kernel_rfl) ?_
  refine sr ?_
  refine ta (al (n := 0) zT39 rfl) ?_
  refine ts (ac rfl rfl) ?_
  refine rn ?_
  refine CWp.seq ?_
  refine sr ?_
  refine ts (mv rfl) ?_
  obtain ⟨x1, hx1, h⟩ := bnd h
  refine ts (cl0 kf rfl (.c le1 .n) (ref15_BoundsErr_ok hx1) rfl) ?_
  refine ts (as_ rfl) ?_
  refine rn ?_
  refine sr ?_
  refine ts (mv rfl) ?_
  refine ts (neq rfl rfl) ?_
  refine rn ?_
  rcases ite h with ⟨c2, h⟩ | ⟨c2, h⟩
  · refine ct rfl (nt c2) ?_
    refine sr ?_
    refine ts ((bld (v := .d (.agg [.nilsl, .nilsl, .bool false])) rfl (by kernel_rfl)).wk (x' := api_Section.d (api_Section.mk [] [] false)) rfl) ?_
    refine ts (mv rfl) ?_
    refine tt0 (stW aT39 rfl rfl rfl rfl rfl rfl .h) ?_
    refine ts (as_ rfl) ?_
    refine rn ?_
    refine CWp.ret ?_
    obtain rfl := some_inj h
    exact ⟨trivial, rt2 (ex := false) (by exact (rcW aT39 rfl (ow rfl) rfl rfl (.t rfl .n))) (by exact (sc (gd (by rfl)) (sc (gd (by rfl)) sn))) (by rfl) (by rfl)⟩
  · refine cf rfl (nf c2) ?_
    refine CWp.skip ?_
    refine CWp.seq ?_
    refine sr ?_
    refine ts (mv rfl) ?_
    refine ts (lnD lT23 rfl rfl) ?_
    refine ts (mv rfl) ?_
    refine ts (lnD lT22 rfl rfl) ?_
    refine ts (neq rfl rfl) ?_
    refine rn ?_
    rcases ite h with ⟨c3, h⟩ | ⟨c3, h⟩
    · refine ct rfl (nt c3) ?_
      refine sr ?_
      refine ts ((bld (v := .d (.agg [.nilsl, .nilsl, .bool false])) rfl (by kernel_rfl)).wk (x' := api_Section.d (api_Section.mk [] [] false)) rfl) ?_
      refine tt0 (stW aT39 rfl rfl rfl rfl rfl rfl .h) ?_
      refine ts (ac rfl rfl) ?_
      refine rn ?_
      refine CWp.ret ?_
      obtain rfl := some_inj h
      exact ⟨trivial, rt2 (ex := false) (by exact (rcW aT39 rfl (ow rfl) rfl rfl (.t rfl .n))) (by exact (sc (gd (by rfl)) (sc (gd (by rfl)) sn))) (by rfl) (by rfl)⟩
    · refine cf rfl (nf c3) ?_
      refine CWp.skip ?_
      refine sr ?_
      refine ta (an (n := 0) lT100 rfl) ?_
      refine rn ?_
      refine sr ?_
      refine ta (an (n := 0) lT26 rfl) ?_
      refine rn ?_
      refine sr ?_
      refine ta (al (n := 0) zT39 rfl) ?_
      refine gz (Le.nilBox (t := 9) (n := 0) (t' := 1180) (n' := 0) (off := 0) (sz := 1) rfl rfl rfl rfl) ?_
      refine gz (Le.nilBox (t := 9) (n := 0) (t' := 1181) (n' := 0) (off := 1) (sz := 1) rfl rfl rfl rfl) ?_
      refine rn ?_
      refine CWp.seq ?_
      refine sr ?_
      refine ts (ac rfl rfl) ?_
      refine rn ?_
      obtain ⟨z15, hz15, h⟩ := bnd h
      refine lbr (E := fun s4 => [(0, .d (.sl (p0.map api_Bound.d))), (1, .d (.sl (p1.map api_Subscript.d))), (4, .bptr ⟨out.length, 4, 0⟩ 0), (7, .ref ⟨out.length, 7, 0⟩ 0 s4.2.1.length s4.2.1.length), (8, .ref ⟨out.length, 8, 0⟩ 0 s4.2.2.1.length s4.2.2.1.length), (9, .bptr ⟨out.length, 9, 0⟩ 0), (10, .d (.int .i64 s4.1))]) (M := fun s4 => ⟨[((4, 0), .box [.d .nilsl, .d .nilsl, .d (.bool false)]), ((7, 0), .arr 1 false (s4.2.1.map (dL dI))), ((8, 0), .arr 1 false (s4.2.2.1.map dI)), ((9, 0), .box [.ref ⟨out.length, 1180, 0⟩ 0 s4.2.2.2.length s4.2.2.2.length, .ref ⟨out.length, 1181, 0⟩ 0 ([] : List Int).length ([] : List Int).length, .d (.bool false)]), ((1180, 0), .arr 1 false (s4.2.2.2.map dI)), ((1181, 0), .arr 1 false (([] : List Int).map dI))], out, []⟩) (E' := fun y => [(0, .d (.sl (p0.map api_Bound.d))), (4, .bptr ⟨out.length, 4, 0⟩ 0), (7, .ref ⟨out.length, 7, 0⟩ 0 y.1.length y.1.length), (8, .ref ⟨out.length, 8, 0⟩ 0 y.2.1.length y.2.1.length), (9, .bptr ⟨out.length, 9, 0⟩ 0)]) (M' := fun y => ⟨[((4, 0), .box [.d .nilsl, .d .nilsl, .d (.bool false)]), ((7, 0), .arr 1 false (y.1.map (dL dI))), ((8, 0), .arr 1 false (y.2.1.map dI)), ((9, 0), .box [.ref ⟨out.length, 1180, 0⟩ 0 y.2.2.length y.2.2.length, .ref ⟨out.length, 1181, 0⟩ 0 ([] : List Int).length ([] : List Int).length, .d (.bool false)]), ((1180, 0), .arr 1 false (y.2.2.map dI)), ((1181, 0), .arr 1 false (([] : List Int).map dI))], out, []⟩) (RT := fun r e s => Lx.Returns PP Try.f19.results.toList e s ⟨.tup [.d (api_Section.d r.1), .d (.int .i64 r.2)], []⟩) hz15 (by (try simp only [List.length_set, copied_len]); exact trk (by kernel_rfl) (by kernel_rfl) (by kernel_rfl)) ?_ ?_
      · intro s4 ww h
        unfold ref15_Section.s1 at h
        refine CWp.seq ?_
        refine sr ?_
        refine ts (mv rfl) ?_
        refine ts (mv rfl) ?_
        refine ts (lnD lT23 rfl rfl) ?_
        refine ts (lss rfl rfl) ?_
        refine rn ?_
        rcases ite h with ⟨c5, h⟩ | ⟨c5, h⟩
        · refine ct rfl (bt c5) ?_
          refine CWp.skip ?_
          refine CWp.seq ?_
          refine CWp.block ?_
          refine sd mixed (b := [0, 0, 3, 7, 0, 0, 48, 112, 255, 511, 1023, 1023, 2047, 8191]) (by kernel_rfl) ?_
          refine ds (mv rfl) rfl ?_
          refine ds (mv rfl) rfl ?_
          obtain ⟨x6, hx6, h⟩ := bnd h
          refine ds (ixD lT22 api_Bound.sz rfl rfl hx6) rfl ?_
          refine dr (ldIW aT31 rfl rfl rfl) rfl ?_
          refine ds (mv rfl) rfl ?_
          refine ds (mv rfl) rfl ?_
          obtain ⟨x7, hx7, h⟩ := bnd h
          refine ds (ixD lT23 api_Subscript.sz rfl rfl hx7) rfl ?_
          refine dr (ldIW aT33 rfl rfl rfl) rfl ?_
          obtain ⟨x8, hx8, h⟩ := bnd h
          refine dr (cl0 kf rfl (.c le1 (.c le1 .n)) (ref15_Selected_ok hx8) rfl) rfl ?_
          refine ds (mv rfl) rfl ?_
          refine ds (ex_ rfl rfl) rfl ?_
          refine ds (ex_ rfl rfl) rfl ?_
          refine ds (as_ rfl) rfl ?_
          refine ds (as_ rfl) rfl ?_
          refine dn (by kernel_rfl) ?_
          refine CWp.seq ?_
          refine sr ?_
          refine ts (mv rfl) ?_
          refine ts (neq rfl rfl) ?_
          refine rn ?_
          rcases ite h with ⟨c9, h⟩ | ⟨c9, h⟩
          · refine ct rfl (nt c9) ?_
            refine sr ?_
            refine ts ((bld (v := .d (.agg [.nilsl, .nilsl, .bool false])) rfl (by kernel_rfl)).wk (x' := api_Section.d (api_Section.mk [] [] false)) rfl) ?_
            refine ts (mv rfl) ?_
            refine tt0 (stW aT39 rfl rfl rfl rfl rfl rfl .h) ?_
            refine ts (as_ rfl) ?_
            refine rn ?_
            refine CWp.ret ?_
            obtain rfl := some_inj h
            exact ⟨rfl, rt2 (ex := false) (by exact (rcW aT39 rfl (ow rfl) rfl rfl (.t rfl .n))) (by exact (sc (gd (by rfl)) (sc (gd (by rfl)) sn))) (by rfl) (by rfl)⟩
          · refine cf rfl (nf c9) ?_
            refine CWp.skip ?_
            refine sr ?_
            refine ts (mv rfl) ?_
            refine ts (mv rfl) ?_
            refine ts (bsT (l := (([x8.1] : List (List Int)).map (dL dI))) lT100 rfl rfl rfl (by kernel_rfl)) ?_
            obtain ⟨x10, hx10, h⟩ := bnd h
            refine tp (apR (ys := ([x8.1] : List (List Int))) (xs := s4.2.1) (f := (dL dI)) lT100 uT100 szL rfl rfl rfl elT rfl hx10 (.s rfl .h)) ?_
            refine ts (mv rfl) ?_
            refine ts (mv rfl) ?_
            refine ts (lnD lT26 rfl rfl) ?_
            refine ts (bsT (l := (([(x8.1.length : Int)] : List Int).map dI)) lT26 rfl rfl rfl (by kernel_rfl)) ?_
            obtain ⟨x11, hx11, h⟩ := bnd h
            refine tp (apR (ys := ([(x8.1.length : Int)] : List Int)) (xs := s4.2.2.1) (f := dI) lT26 uT26 szI rfl rfl rfl elT rfl hx11 (.s rfl (.s rfl .h))) ?_
            refine ts (as_ rfl) ?_
            refine ts (as_ rfl) ?_
            refine rn ?_
            refine sr ?_
            refine ts (mv rfl) ?_
            refine ts (mv rfl) ?_
            obtain ⟨x12, hx12, h⟩ := bnd h
            refine ts (ixD lT23 api_Subscript.sz rfl rfl hx12) ?_
            refine ts (faI fT33_0 rfl rfl) ?_
            refine ts (ldI sT3 rfl rfl) ?_
            refine ts (neq rfl rfl) ?_
            refine rn ?_
            rcases ite h with ⟨c13, h⟩ | ⟨c13, h⟩
            · refine ct rfl (nt c13) ?_
              refine lr ?_
              refine ts (fa fT39_0 rfl rfl) ?_
              refine ts (ld sT26 rfl (ow rfl) rfl) ?_
              refine ts (mv rfl) ?_
              refine ts (lnD lT26 rfl rfl) ?_
              refine ts (bsT (l := (([(x8.1.length : Int)] : List Int).map dI)) lT26 rfl rfl rfl (by kernel_rfl)) ?_
              obtain ⟨x14, hx14, h⟩ := bnd h
              refine tp (apR (ys := ([(x8.1.length : Int)] : List Int)) (xs := s4.2.2.2) (f := dI) lT26 uT26 szI rfl rfl rfl elT rfl hx14 (.s rfl (.s rfl (.s rfl (.s rfl .h))))) ?_
              refine ts (fa fT39_0 rfl rfl) ?_
              refine tt0 (st sT26 rfl rfl rfl rfl .h (.s rfl (.s rfl (.s rfl .h)))) ?_
              refine rn ?_
              refine lr ?_
              refine ts (mv rfl) ?_
              refine ts (add rfl rfl) ?_
              refine ts (as_ rfl) ?_
              refine rn ?_
              obtain rfl := some_inj h
              exact ⟨rfl, (by (try simp only [List.length_set, copied_len]); exact trk (by kernel_rfl) (by kernel_rfl) (by kernel_rfl))⟩
            · refine cf rfl (nf c13) ?_
              refine CWp.skip ?_
              refine lr ?_
              refine ts (mv rfl) ?_
              refine ts (add rfl rfl) ?_
              refine ts (as_ rfl) ?_
              refine rn ?_
              obtain rfl := some_inj h
              exact ⟨rfl, (by (try simp only [List.length_set, copied_len]); exact trk (by kernel_rfl) (by kernel_rfl) (by kernel_rfl))⟩
        · refine cf rfl (bf c5) ?_
          refine CWp.exit ?_
          obtain rfl := some_inj h
          exact ⟨rfl, (by (try simp only [List.length_set, copied_len]); exact trk (by kernel_rfl) (by kernel_rfl) (by kernel_rfl))⟩
      · cases z15 with
        | inl v16 =>
          intro e s ht
          refine CWp.trim ht ?_
          refine sr ?_
          refine ts (mv rfl) ?_
          obtain ⟨x17, hx17, h⟩ := bnd h
          refine tt (cl1 kf rfl (.w (le4 rfl rfl (.s rfl (.s rfl .h))) .n) (ref15_Product_ok hx17) rfl) ?_
          refine ts (as_ rfl) ?_
          refine rn ?_
          refine CWp.seq ?_
          refine sr ?_
          refine ts (mv rfl) ?_
          refine ts (gtr rfl rfl) ?_
          refine rn ?_
          rcases ite h with ⟨c18, h⟩ | ⟨c18, h⟩
          · refine ct rfl (bt c18) ?_
            refine sr ?_
            refine ts ((bld (v := .d (.agg [.nilsl, .nilsl, .bool false])) rfl (by kernel_rfl)).wk (x' := api_Section.d (api_Section.mk [] [] false)) rfl) ?_
            refine tt0 (stW aT39 rfl rfl rfl rfl rfl rfl .h) ?_
            refine ts (ac rfl rfl) ?_
            refine rn ?_
            refine CWp.ret ?_
            obtain rfl := some_inj h
            exact ⟨trivial, rt2 (ex := false) (by exact (rcW aT39 rfl (ow rfl) rfl rfl (.t rfl .n))) (by exact (sc (gd (by rfl)) (sc (gd (by rfl)) sn))) (by rfl) (by rfl)⟩
          · refine cf rfl (bf c18) ?_
            refine CWp.skip ?_
            refine CWp.seq ?_
            refine sr ?_
            refine ts (ac rfl rfl) ?_
            refine rn ?_
            refine CWp.trim (Le.lent (t := 1181) (n := 0) rfl (.s rfl (.s rfl (.s rfl (.s rfl (.s rfl .h)))))) ?_
            obtain ⟨z35, hz35, h⟩ := bnd h
            refine lb (E := fun s19 => [(0, .d (.sl (p0.map api_Bound.d))), (4, .bptr ⟨out.length, 4, 0⟩ 0), (7, .ref ⟨out.length, 7, 0⟩ 0 v16.1.length v16.1.length), (8, .ref ⟨out.length, 8, 0⟩ 0 v16.2.1.length v16.2.1.length), (9, .bptr ⟨out.length, 9, 0⟩ 0), (13, .d (.int .i64 x17)), (14, .d (.int .i64 s19.1))]) (M := fun s19 => ⟨[((4, 0), .box [.d .nilsl, .d .nilsl, .d (.bool false)]), ((7, 0), .arr 1 false (v16.1.map (dL dI))), ((8, 0), .arr 1 true (v16.2.1.map dI)), ((9, 0), .box [.ref ⟨out.length, 1180, 0⟩ 0 v16.2.2.length v16.2.2.length, .ref ⟨out.length, 1181, 0⟩ 0 s19.2.2.length s19.2.2.length, .d (.bool s19.2.1)]), ((1180, 0), .arr 1 false (v16.2.2.map dI)), ((1181, 0), .arr 1 true (s19.2.2.map dI))], out, []⟩) (E' := fun y => [(4, .bptr ⟨out.length, 4, 0⟩ 0), (9, .bptr ⟨out.length, 9, 0⟩ 0)]) (M' := fun y => ⟨[((4, 0), .box [.d .nilsl, .d .nilsl, .d (.bool false)]), ((9, 0), .box [.ref ⟨out.length, 1180, 0⟩ 0 v16.2.2.length v16.2.2.length, .ref ⟨out.length, 1181, 0⟩ 0 y.2.length y.2.length, .d (.bool y.1)]), ((1180, 0), .arr 1 false (v16.2.2.map dI)), ((1181, 0), .arr 1 true (y.2.map dI))], out, []⟩) hz35 (by (try simp only [List.length_set, copied_len]); exact trk (by kernel_rfl) (by kernel_rfl) (by kernel_rfl)) ?_ ?_
            · intro s19 ww h
              unfold ref15_Section.s2 at h
              refine CWp.seq ?_
              refine sr ?_
              refine ts (mv rfl) ?_
              refine ts (mv rfl) ?_
              refine ts (lss rfl rfl) ?_
              refine rn ?_
              rcases ite h with ⟨c20, h⟩ | ⟨c20, h⟩
              · refine ct rfl (bt c20) ?_
                refine CWp.skip ?_
                refine CWp.seq ?_
                refine CWp.block ?_
                refine sr ?_
                refine ts (mv rfl) ?_
                refine ts (mv rfl) ?_
                obtain ⟨x21, hx21, h⟩ := bnd h
                refine ta (ch0 (n := 0) (v' := .ref ⟨out.length, 86, 0⟩ 0 x21.length x21.length) (bs := [((86, 0), .arr 1 false (x21.map dI))]) kf rfl (.c (le3 rfl (ow rfl)) (.c le1 .n)) (ref15_Indexes_ok hx21) rfl rfl (by simp [homeVal, homeVals])) ?_
                refine ts (as_ rfl) ?_
                refine rn ?_
                refine CWp.seq ?_
                refine sr ?_
                refine ts (ac rfl rfl) ?_
                refine rn ?_
                obtain ⟨z28, hz28, h⟩ := bnd h
                refine lb (E := fun s22 => [(0, .d (.sl (p0.map api_Bound.d))), (4, .bptr ⟨out.length, 4, 0⟩ 0), (7, .ref ⟨out.length, 7, 0⟩ 0 v16.1.length v16.1.length), (8, .ref ⟨out.length, 8, 0⟩ 0 v16.2.1.length v16.2.1.length), (9, .bptr ⟨out.length, 9, 0⟩ 0), (13, .d (.int .i64 x17)), (14, .d (.int .i64 s19.1)), (15, .ref ⟨out.length, 86, 0⟩ 0 s22.2.length s22.2.length), (16, .d (.int .i64 s22.1))]) (M := fun s22 => ⟨[((4, 0), .box [.d .nilsl, .d .nilsl, .d (.bool false)]), ((7, 0), .arr 1 false (v16.1.map (dL dI))), ((8, 0), .arr 1 true (v16.2.1.map dI)), ((9, 0), .box [.ref ⟨out.length, 1180, 0⟩ 0 v16.2.2.length v16.2.2.length, .ref ⟨out.length, 1181, 0⟩ 0 s19.2.2.length s19.2.2.length, .d (.bool s19.2.1)]), ((1180, 0), .arr 1 false (v16.2.2.map dI)), ((1181, 0), .arr 1 true (s19.2.2.map dI)), ((86, 0), .arr 1 false (s22.2.map dI))], out, []⟩) (E' := fun y => [(0, .d (.sl (p0.map api_Bound.d))), (4, .bptr ⟨out.length, 4, 0⟩ 0), (7, .ref ⟨out.length, 7, 0⟩ 0 v16.1.length v16.1.length), (8, .ref ⟨out.length, 8, 0⟩ 0 v16.2.1.length v16.2.1.length), (9, .bptr ⟨out.length, 9, 0⟩ 0), (13, .d (.int .i64 x17)), (14, .d (.int .i64 s19.1)), (15, .ref ⟨out.length, 86, 0⟩ 0 y.length y.length)]) (M' := fun y => ⟨[((4, 0), .box [.d .nilsl, .d .nilsl, .d (.bool false)]), ((7, 0), .arr 1 false (v16.1.map (dL dI))), ((8, 0), .arr 1 true (v16.2.1.map dI)), ((9, 0), .box [.ref ⟨out.length, 1180, 0⟩ 0 v16.2.2.length v16.2.2.length, .ref ⟨out.length, 1181, 0⟩ 0 s19.2.2.length s19.2.2.length, .d (.bool s19.2.1)]), ((1180, 0), .arr 1 false (v16.2.2.map dI)), ((1181, 0), .arr 1 true (s19.2.2.map dI)), ((86, 0), .arr 1 false (y.map dI))], out, []⟩) hz28 (by (try simp only [List.length_set, copied_len]); exact trk (by kernel_rfl) (by kernel_rfl) (by kernel_rfl)) ?_ ?_
                · intro s22 ww h
                  unfold ref15_Section.s3 at h
                  refine CWp.seq ?_
                  refine sr ?_
                  refine ts (mv rfl) ?_
                  refine ts (mv rfl) ?_
                  refine ts (lnR lT26 rfl rfl) ?_
                  refine ts (lss rfl rfl) ?_
                  refine rn ?_
                  rcases ite h with ⟨c23, h⟩ | ⟨c23, h⟩
                  · refine ct rfl (bt c23) ?_
                    refine CWp.skip ?_
                    refine CWp.seq ?_
                    refine CWp.block ?_
                    refine ld_ mixed (b := [0, 0, 0, 0, 12, 28, 0, 0, 192, 448, 1020, 2044, 4095, 8191]) (by kernel_rfl) ?_
                    refine ds (mv rfl) rfl ?_
                    refine ds (mv rfl) rfl ?_
                    refine ds (mv rfl) rfl ?_
                    refine ds (mv rfl) rfl ?_
                    obtain ⟨x24, hx24, h⟩ := bnd h
                    refine dr (ixR lT100 rfl rfl rfl (ow rfl) hx24) rfl ?_
                    refine dr (ldE sT26 rfl rfl (ow rfl) hx24 rfl) rfl ?_
                    refine ds (mv rfl) rfl ?_
                    refine ds (mv rfl) rfl ?_
                    obtain ⟨x25, hx25, h⟩ := bnd h
                    refine dr (ixR lT26 rfl rfl rfl (ow rfl) hx25) rfl ?_
                    refine dr (ldE sT3 rfl rfl (ow rfl) hx25 rfl) rfl ?_
                    obtain ⟨x26, hx26, h⟩ := bnd h
                    refine ds (ixD lT26 szI rfl rfl hx26) rfl ?_
                    refine dr (ldI sT3 rfl rfl) rfl ?_
                    obtain ⟨x27, hx27, h⟩ := bnd h
                    refine dr (ixR lT26 rfl rfl rfl (ow rfl) hx27) rfl ?_
                    refine dt0 (stE (b := x26) sT3 rfl rfl rfl rfl rfl hx27 rfl rfl (.s rfl (.s rfl (.s rfl (.s rfl (.s rfl (.s rfl .h))))))) rfl ?_
                    refine dn (by kernel_rfl) ?_
                    refine lr ?_
                    refine ts (mv rfl) ?_
                    refine ts (add rfl rfl) ?_
                    refine ts (as_ rfl) ?_
                    refine rn ?_
                    obtain rfl := some_inj h
                    exact ⟨rfl, (by (try simp only [List.length_set, copied_len]); exact trk (by kernel_rfl) (by kernel_rfl) (by kernel_rfl))⟩
                  · refine cf rfl (bf c23) ?_
                    refine CWp.exit ?_
                    obtain rfl := some_inj h
                    exact ⟨rfl, (by (try simp only [List.length_set, copied_len]); exact trk (by kernel_rfl) (by kernel_rfl) (by kernel_rfl))⟩
                · intro e s ht
                  refine CWp.trim ht ?_
                  refine sr ?_
                  refine ts (mv rfl) ?_
                  refine ts (mv rfl) ?_
                  obtain ⟨x29, hx29, h⟩ := bnd h
                  refine tt (cl1 kf rfl (.c le1 (.w (le4 rfl rfl (.s rfl (.s rfl (.s rfl (.s rfl (.s rfl (.s rfl .h))))))) .n)) (ref15_Offset_ok hx29) rfl) ?_
                  refine ts (as_ rfl) ?_
                  refine rn ?_
                  refine sr ?_
                  refine ts (fa fT39_2 rfl rfl) ?_
                  refine ts (ld sT4 rfl (ow rfl) rfl) ?_
                  refine ts (mv rfl) ?_
                  rcases ite h with ⟨c30, h⟩ | ⟨c30, h⟩
                  · refine un (gn rfl rfl c30) ?_
                    refine un (gn rfl rfl c30) ?_
                    refine un (gn rfl rfl c30) ?_
                    refine un (gn rfl rfl c30) ?_
                    refine ts (pt rfl c30 rfl) ?_
                    refine ts (fa fT39_2 rfl rfl) ?_
                    refine tt0 (st sT4 rfl rfl rfl rfl (.s (.s .h)) (.s rfl (.s rfl (.s rfl .h)))) ?_
                    refine rn ?_
                    refine lr ?_
                    refine ts (fa fT39_1 rfl rfl) ?_
                    refine ts (ld sT26 rfl (ow rfl) rfl) ?_
                    refine ts (mv rfl) ?_
                    refine ts (bsT (l := (([x29] : List Int).map dI)) lT26 rfl rfl rfl (by kernel_rfl)) ?_
                    obtain ⟨x31, hx31, h⟩ := bnd h
                    refine tp (apR (ys := ([x29] : List Int)) (xs := s19.2.2) (f := dI) lT26 uT26 szI rfl rfl rfl elT rfl hx31 (.s rfl (.s rfl (.s rfl (.s rfl (.s rfl .h)))))) ?_
                    refine ts (fa fT39_1 rfl rfl) ?_
                    refine tt0 (st sT26 rfl rfl rfl rfl (.s .h) (.s rfl (.s rfl (.s rfl .h)))) ?_
                    refine rn ?_
                    refine lr ?_
                    refine ts (mv rfl) ?_
                    refine ts (add rfl rfl) ?_
                    refine ts (as_ rfl) ?_
                    refine rn ?_
                    obtain rfl := some_inj h
                    exact ⟨rfl, (by (try simp only [List.length_set, copied_len]); exact trk (by kernel_rfl) (by kernel_rfl) (by kernel_rfl))⟩
                  · refine us (gy rfl rfl (vf c30)) (fa fT39_1 rfl rfl) ?_
                    refine us (gy rfl rfl (vf c30)) (ld sT26 rfl (ow rfl) rfl) ?_
                    refine us (gy rfl rfl (vf c30)) (mv rfl) ?_
                    obtain ⟨x32, hx32, h⟩ := bnd h
                    refine us (gy rfl rfl (vf c30)) (cl0 kf rfl (.c (le3 rfl (ow rfl)) (.c le1 .n)) (base_Has_ok hx32) rfl) ?_
                    refine ts (pf rfl (vf c30) rfl) ?_
                    refine ts (fa fT39_2 rfl rfl) ?_
                    refine tt0 (st sT4 rfl rfl rfl rfl (.s (.s .h)) (.s rfl (.s rfl (.s rfl .h)))) ?_
                    refine rn ?_
                    refine lr ?_
                    refine ts (fa fT39_1 rfl rfl) ?_
                    refine ts (ld sT26 rfl (ow rfl) rfl) ?_
                    refine ts (mv rfl) ?_
                    refine ts (bsT (l := (([x29] : List Int).map dI)) lT26 rfl rfl rfl (by kernel_rfl)) ?_
                    obtain ⟨x33, hx33, h⟩ := bnd h
                    refine tp (apR (ys := ([x29] : List Int)) (xs := s19.2.2) (f := dI) lT26 uT26 szI rfl rfl rfl elT rfl hx33 (.s rfl (.s rfl (.s rfl (.s rfl (.s rfl .h)))))) ?_
                    refine ts (fa fT39_1 rfl rfl) ?_
                    refine tt0 (st sT26 rfl rfl rfl rfl (.s .h) (.s rfl (.s rfl (.s rfl .h)))) ?_
                    refine rn ?_
                    refine lr ?_
                    refine ts (mv rfl) ?_
                    refine ts (add rfl rfl) ?_
                    refine ts (as_ rfl) ?_
                    refine rn ?_
                    obtain rfl := some_inj h
                    exact ⟨rfl, (by (try simp only [List.length_set, copied_len]); exact trk (by kernel_rfl) (by kernel_rfl) (by kernel_rfl))⟩
              · refine cf rfl (bf c20) ?_
                refine CWp.exit ?_
                obtain rfl := some_inj h
                exact ⟨rfl, (by (try simp only [List.length_set, copied_len]); exact trk (by kernel_rfl) (by kernel_rfl) (by kernel_rfl))⟩
            · intro e s ht
              refine CWp.trim ht ?_
              refine sr ?_
              refine ts (ldA (v := .agg [.ref ⟨out.length, 1180, 0⟩ 0 v16.2.2.length v16.2.2.length, .ref ⟨out.length, 1181, 0⟩ 0 z35.2.length z35.2.length, .d (.bool z35.1)]) aT39 rfl (ow rfl) (by kernel_rfl)) ?_
              refine tt0 (stW aT39 rfl rfl rfl rfl rfl rfl .h) ?_
              refine ts (ac rfl rfl) ?_
              refine rn ?_
              refine CWp.ret ?_
              obtain rfl := some_inj h
              exact ⟨trivial, rt2 (ex := false) (by exact (rcA (v := .agg [.ref ⟨out.length, 1180, 0⟩ 0 v16.2.2.length v16.2.2.length, .ref ⟨out.length, 1181, 0⟩ 0 z35.2.length z35.2.length, .d (.bool z35.1)]) aT39 rfl (ow rfl) (by kernel_rfl) (.t rfl .n))) (by exact (sc (ga (sc (gf rfl rfl) (sc (gf rfl rfl) (sc (gd (by rfl)) sn))) rfl) (sc (gd (by rfl)) sn))) (by rfl) (by rfl)⟩
        | inr r37 =>
          intro e s hr
          obtain rfl := some_inj h
          exact ⟨trivial, hr⟩
theorem ref15_SameSection_ok {p0 : api_Section} {p1 : api_Section} {out : Out} {r : Bool} (h : ref15_SameSection p0 p1 = some r) : FunOk PP 20 [.d (api_Section.d p0), .d (api_Section.d p1)] out ⟨.d (.bool r), []⟩ := by
  unfold ref15_SameSection at h
  refine fi Try.func20 rfl (by kernel_rfl) (by kernel_rfl) (by kernel_rfl) ?_
  refine sr ?_
  refine ta (bx (n := 0) rfl rfl rfl) ?_
  refine ta (bx (n := 0) rfl rfl rfl) ?_
  refine ts (ac rfl rfl) ?_
  refine rn ?_
  refine sr ?_
  refine ts (fa fT39_0 rfl rfl) ?_
  refine ts (ld sT26 rfl (ow rfl) rfl) ?_
  refine ts (fa fT39_0 rfl rfl) ?_
  refine ts (ld sT26 rfl (ow rfl) rfl) ?_
  obtain ⟨x1, hx1, h⟩ := bnd h
  refine ts (cl0 kf rfl (.c le1 (.c le1 .n)) (base_Ints_ok hx1) rfl) ?_
  refine ts (mv rfl) ?_
  rcases ite h with ⟨c2, h⟩ | ⟨c2, h⟩
  · refine us (gy rfl rfl c2) (fa fT39_1 rfl rfl) ?_
    refine us (gy rfl rfl c2) (ld sT26 rfl (ow rfl) rfl) ?_
    refine us (gy rfl rfl c2) (fa fT39_1 rfl rfl) ?_
    refine us (gy rfl rfl c2) (ld sT26 rfl (ow rfl) rfl) ?_
    obtain ⟨x3, hx3, h⟩ := bnd h
    refine us (gy rfl rfl c2) (cl0 kf rfl (.c le1 (.c le1 .n)) (base_Ints_ok hx3) rfl) ?_
    refine ts (pt rfl c2 rfl) ?_
    refine ts (mv rfl) ?_
    refine sg 6 [(23, .d (.bool (x3 && (p0.ManyOne == p1.ManyOne))))] ?_ ?_
    · rcases bool_or x3 with g4 | g5
      · refine us (gy rfl rfl g4) (fa fT39_2 rfl rfl) ?_
        refine us (gy rfl rfl g4) (ld sT4 rfl (ow rfl) rfl) ?_
        refine us (gy rfl rfl g4) (fa fT39_2 rfl rfl) ?_
        refine us (gy rfl rfl g4) (ld sT4 rfl (ow rfl) rfl) ?_
        refine us (gy rfl rfl g4) (beq_ rfl rfl uT4) ?_
        refine ts (pt rfl g4 rfl) ?_
        exact rn (trD 6 rfl (.c (bq (and_t g4)) .n) (by kernel_rfl))
      · refine un (gn rfl rfl g5) ?_
        refine un (gn rfl rfl g5) ?_
        refine un (gn rfl rfl g5) ?_
        refine un (gn rfl rfl g5) ?_
        refine un (gn rfl rfl g5) ?_
        refine ts (pf rfl g5 rfl) ?_
        exact rn (trD 6 rfl (.c (bq (and_f g5)) .n) (by kernel_rfl))
    refine ts (as_ rfl) ?_
    refine rn ?_
    refine CWp.ret ?_
    obtain rfl := some_inj h
    exact ⟨trivial, rt1 (ex := false) (by exact (.t rfl .n)) (by exact (gd (by rfl))) (by rfl) (by rfl)⟩
  · refine un (gn rfl rfl (vf c2)) ?_
    refine un (gn rfl rfl (vf c2)) ?_
    refine un (gn rfl rfl (vf c2)) ?_
    refine un (gn rfl rfl (vf c2)) ?_
    refine un (gn rfl rfl (vf c2)) ?_
    refine ts (pf rfl (vf c2) rfl) ?_
    refine ts (mv rfl) ?_
    refine un (gn rfl rfl rfl) ?_
    refine un (gn rfl rfl rfl) ?_
    refine un (gn rfl rfl rfl) ?_
    refine un (gn rfl rfl rfl) ?_
    refine un (gn rfl rfl rfl) ?_
    refine ts (pf rfl rfl rfl) ?_
    refine ts (as_ rfl) ?_
    refine rn ?_
    refine CWp.ret ?_
    obtain rfl := some_inj h
    exact ⟨trivial, rt1 (ex := false) (by exact (.t rfl .n)) (by exact (gd (by rfl))) (by rfl) (by rfl)⟩
theorem law15_ShapesSections_ok {p0 : (List api_Bound)} {p1 : (List api_Subscript)} {out : Out} {r : Bool} (h : law15_ShapesSections p0 p1 = some r) : FunOk PP 3 [.d (.sl (p0.map api_Bound.d)), .d (.sl (p1.map api_Subscript.d))] out ⟨.d (.bool r), []⟩ := by
  unfold law15_ShapesSections at h
  refine fi Try.func3 rfl (by kernel_rfl) (by kernel_rfl) (by kernel_rfl) ?_
  refine sr ?_
  refine ts (ac rfl rfl) ?_
  refine rn ?_
  refine CWp.seq ?_
  refine sr ?_
  obtain ⟨x1, hx1, h⟩ := bnd h
  refine ts (cl0 kf rfl .n (law15_awake_ok hx1) rfl) ?_
  refine ts (not_ rfl) ?_
  refine rn ?_
  rcases ite h with ⟨c2, h⟩ | ⟨c2, h⟩
  · refine ct rfl (not_t (vf c2)) ?_
    refine sr ?_
    refine ts (ac rfl rfl) ?_
    refine rn ?_
    refine CWp.ret ?_
    obtain rfl := some_inj h
    exact ⟨trivial, rt1 (ex := false) (by exact (.t rfl .n)) (by exact (gd (by rfl))) (by rfl) (by rfl)⟩
  · refine cf rfl (not_f (Classical.not_not.1 c2)) ?_
    refine CWp.skip ?_
    refine CWp.seq ?_
    refine sr ?_
    refine ts (mv rfl) ?_
    refine ts (lnD lT22 rfl rfl) ?_
    refine ts (gtr rfl rfl) ?_
    refine ts (mv rfl) ?_
    rcases ite h with ⟨c3, h⟩ | ⟨c3, h⟩
    · refine un (gn rfl rfl (bt c3)) ?_
      refine un (gn rfl rfl (bt c3)) ?_
      refine un (gn rfl rfl (bt c3)) ?_
      refine ts (pt rfl (bt c3) rfl) ?_
      refine rn ?_
      refine ct rfl rfl ?_
      refine sr ?_
      refine ts (ac rfl rfl) ?_
      refine rn ?_
      refine CWp.ret ?_
      obtain rfl := some_inj h
      exact ⟨trivial, rt1 (ex := false) (by exact (.t rfl .n)) (by exact (gd (by rfl))) (by rfl) (by rfl)⟩
    · refine us (gy rfl rfl (bf c3)) (mv rfl) ?_
      obtain ⟨x4, hx4, h⟩ := bnd h
      refine us (gy rfl rfl (bf c3)) (cl0 kf rfl (.c le1 .n) (law15_brief_ok hx4) rfl) ?_
      refine us (gy rfl rfl (bf c3)) (not_ rfl) ?_
      refine ts (pf rfl (bf c3) rfl) ?_
      refine rn ?_
      rcases ite h with ⟨c5, h⟩ | ⟨c5, h⟩
      · refine ct rfl (not_t (vf c5)) ?_
        refine sr ?_
        refine ts (ac rfl rfl) ?_
        refine rn ?_
        refine CWp.ret ?_
        obtain rfl := some_inj h
        exact ⟨trivial, rt1 (ex := false) (by exact (.t rfl .n)) (by exact (gd (by rfl))) (by rfl) (by rfl)⟩
      · refine cf rfl (not_f (Classical.not_not.1 c5)) ?_
        refine CWp.skip ?_
        refine CWp.seq ?_
        refine sr ?_
        refine ts (ac rfl rfl) ?_
        refine rn ?_
        obtain ⟨z20, hz20, h⟩ := bnd h
        refine lbr (E := fun s6 => [(0, .d (.sl (p0.map api_Bound.d))), (1, .d (.sl (p1.map api_Subscript.d))), (5, .d (.int .i64 s6))]) (M := fun s6 => ⟨[], out, []⟩) (E' := fun y => [(0, .d (.sl (p0.map api_Bound.d))), (1, .d (.sl (p1.map api_Subscript.d)))]) (M' := fun y => ⟨[], out, []⟩) (RT := fun r e s => Lx.Returns PP Try.f3.results.toList e s ⟨.d (.bool r), []⟩) hz20 (by (try simp only [List.length_set, copied_len]); exact trk (by kernel_rfl) (by kernel_rfl) (by kernel_rfl)) ?_ ?_
        · intro s6 ww h
          unfold law15_ShapesSections.s1 at h
          refine CWp.seq ?_
          refine sr ?_
          refine ts (mv rfl) ?_
          refine ts (mv rfl) ?_
          refine ts (lnD lT23 rfl rfl) ?_
          refine ts (lss rfl rfl) ?_
          refine ts (mv rfl) ?_
          refine sg 5 [(33, .d (.bool ((decide (s6 < (p1.length : Int))) && (decide (s6 < (p0.length : Int))))))] ?_ ?_
          · rcases bool_or (decide (s6 < (p1.length : Int))) with g7 | g8
            · refine us (gy rfl rfl g7) (mv rfl) ?_
              refine us (gy rfl rfl g7) (mv rfl) ?_
              refine us (gy rfl rfl g7) (lnD lT22 rfl rfl) ?_
              refine us (gy rfl rfl g7) (lss rfl rfl) ?_
              refine ts (pt rfl g7 rfl) ?_
              exact rn (trD 5 rfl (.c (bq (and_t g7)) .n) (by kernel_rfl))
            · refine un (gn rfl rfl g8) ?_
              refine un (gn rfl rfl g8) ?_
              refine un (gn rfl rfl g8) ?_
              refine un (gn rfl rfl g8) ?_
              refine ts (pf rfl g8 rfl) ?_
              exact rn (trD 5 rfl (.c (bq (and_f g8)) .n) (by kernel_rfl))
          refine rn ?_
          rcases ite h with ⟨c9, h⟩ | ⟨c9, h⟩
          · refine ct rfl c9 ?_
            refine CWp.skip ?_
            refine CWp.seq ?_
            refine CWp.block ?_
            refine sd mixed (b := [0, 0, 3, 7, 0, 16, 0, 112, 240, 511, 1023, 2047, 2047, 4095, 16383]) (by kernel_rfl) ?_
            refine ds (mv rfl) rfl ?_
            refine ds (mv rfl) rfl ?_
            obtain ⟨x10, hx10, h⟩ := bnd h
            refine ds (ixD lT22 api_Bound.sz rfl rfl hx10) rfl ?_
            refine dr (ldIW aT31 rfl rfl rfl) rfl ?_
            refine ds (mv rfl) rfl ?_
            obtain ⟨x11, hx11, h⟩ := bnd h
            refine dr (cl0 kf rfl (.c le1 .n) (ref15_CopySubscripts_ok hx11) rfl) rfl ?_
            refine ds (mv rfl) rfl ?_
            obtain ⟨x12, hx12, h⟩ := bnd h
            refine ds (ixD lT23 api_Subscript.sz rfl rfl hx12) rfl ?_
            refine dr (ldIW aT33 rfl rfl rfl) rfl ?_
            obtain ⟨x13, hx13, h⟩ := bnd h
            refine dr (cl0 kf rfl (.c le1 (.c le1 .n)) (shapes_IndexesOf_ok hx13) rfl) rfl ?_
            refine ds (mv rfl) rfl ?_
            refine ds (ex_ rfl rfl) rfl ?_
            refine ds (ex_ rfl rfl) rfl ?_
            refine ds (as_ rfl) rfl ?_
            refine ds (as_ rfl) rfl ?_
            refine dn (by kernel_rfl) ?_
            refine sd mixed (b := [0, 0, 3, 7, 0, 0, 48, 112, 255, 511, 1023, 1023, 2047, 8191]) (by kernel_rfl) ?_
            refine ds (mv rfl) rfl ?_
            refine ds (mv rfl) rfl ?_
            obtain ⟨x14, hx14, h⟩ := bnd h
            refine ds (ixD lT22 api_Bound.sz rfl rfl hx14) rfl ?_
            refine dr (ldIW aT31 rfl rfl rfl) rfl ?_
            refine ds (mv rfl) rfl ?_
            refine ds (mv rfl) rfl ?_
            obtain ⟨x15, hx15, h⟩ := bnd h
            refine ds (ixD lT23 api_Subscript.sz rfl rfl hx15) rfl ?_
            refine dr (ldIW aT33 rfl rfl rfl) rfl ?_
            obtain ⟨x16, hx16, h⟩ := bnd h
            refine dr (cl0 kf rfl (.c le1 (.c le1 .n)) (ref15_Selected_ok hx16) rfl) rfl ?_
            refine ds (mv rfl) rfl ?_
            refine ds (ex_ rfl rfl) rfl ?_
            refine ds (ex_ rfl rfl) rfl ?_
            refine ds (as_ rfl) rfl ?_
            refine ds (as_ rfl) rfl ?_
            refine dn (by kernel_rfl) ?_
            refine sr ?_
            refine ts (mv rfl) ?_
            refine ts (mv rfl) ?_
            refine ts (neq rfl rfl) ?_
            refine ts (mv rfl) ?_
            rcases ite h with ⟨c17, h⟩ | ⟨c17, h⟩
            · refine un (gn rfl rfl (nt c17)) ?_
              refine un (gn rfl rfl (nt c17)) ?_
              refine un (gn rfl rfl (nt c17)) ?_
              refine un (gn rfl rfl (nt c17)) ?_
              refine ts (pt rfl (nt c17) rfl) ?_
              refine rn ?_
              refine ct rfl rfl ?_
              refine sr ?_
              refine ts (ac rfl rfl) ?_
              refine rn ?_
              refine CWp.ret ?_
              obtain rfl := some_inj h
              exact ⟨rfl, rt1 (ex := false) (by exact (.t rfl .n)) (by exact (gd (by rfl))) (by rfl) (by rfl)⟩
            · refine us (gy rfl rfl (nf c17)) (mv rfl) ?_
              refine us (gy rfl rfl (nf c17)) (mv rfl) ?_
              obtain ⟨x18, hx18, h⟩ := bnd h
              refine us (gy rfl rfl (nf c17)) (cl0 kf rfl (.c le1 (.c le1 .n)) (base_Ints_ok hx18) rfl) ?_
              refine us (gy rfl rfl (nf c17)) (not_ rfl) ?_
              refine ts (pf rfl (nf c17) rfl) ?_
              refine rn ?_
              rcases ite h with ⟨c19, h⟩ | ⟨c19, h⟩
              · refine ct rfl (not_t (vf c19)) ?_
                refine sr ?_
                refine ts (ac rfl rfl) ?_
                refine rn ?_
                refine CWp.ret ?_
                obtain rfl := some_inj h
                exact ⟨rfl, rt1 (ex := false) (by exact (.t rfl .n)) (by exact (gd (by rfl))) (by rfl) (by rfl)⟩
              · refine cf rfl (not_f (Classical.not_not.1 c19)) ?_
                refine CWp.skip ?_
                refine lr ?_
                refine ts (mv rfl) ?_
                refine ts (add rfl rfl) ?_
                refine ts (as_ rfl) ?_
                refine rn ?_
                obtain rfl := some_inj h
                exact ⟨rfl, (by (try simp only [List.length_set, copied_len]); exact trk (by kernel_rfl) (by kernel_rfl) (by kernel_rfl))⟩
          · refine cf rfl (vf c9) ?_
            refine CWp.exit ?_
            obtain rfl := some_inj h
            exact ⟨rfl, (by (try simp only [List.length_set, copied_len]); exact trk (by kernel_rfl) (by kernel_rfl) (by kernel_rfl))⟩
        · cases z20 with
          | inl v21 =>
            intro e s ht
            refine CWp.trim ht ?_
            refine sr ?_
            refine ts (mv rfl) ?_
            obtain ⟨x22, hx22, h⟩ := bnd h
            refine ts (cl0 kf rfl (.c le1 .n) (ref15_CopyBounds_ok hx22) rfl) ?_
            refine ts (mv rfl) ?_
            obtain ⟨x23, hx23, h⟩ := bnd h
            refine ts (cl0 kf rfl (.c le1 .n) (ref15_CopySubscripts_ok hx23) rfl) ?_
            obtain ⟨x24, hx24, h⟩ := bnd h
            refine ts (cl0 kf rfl (.c le1 (.c le1 .n)) (shapes_SectionOf_ok hx24) rfl) ?_
            refine ts (mv rfl) ?_
            refine ts (ex_ rfl rfl) ?_
            refine ts (ex_ rfl rfl) ?_
            refine ta (al (n := 0) zT39 rfl) ?_
            refine tt0 (stW aT39 rfl rfl rfl rfl rfl rfl .h) ?_
            refine ts (as_ rfl) ?_
            refine rn ?_
            refine sr ?_
            refine ts (mv rfl) ?_
            refine ts (mv rfl) ?_
            obtain ⟨x25, hx25, h⟩ := bnd h
            refine ts (cl0 kf rfl (.c le1 (.c le1 .n)) (ref15_Section_ok hx25) rfl) ?_
            refine ts (mv rfl) ?_
            refine ts (ex_ rfl rfl) ?_
            refine ts (ex_ rfl rfl) ?_
            refine ta (al (n := 0) zT39 rfl) ?_
            refine tt0 (stW aT39 rfl rfl rfl rfl rfl rfl .h) ?_
            refine ts (as_ rfl) ?_
            refine rn ?_
            refine sr ?_
            refine ts (mv rfl) ?_
            refine ts (mv rfl) ?_
            refine ts (eql rfl rfl) ?_
            refine ts (mv rfl) ?_
            rcases ite h with ⟨c26, h⟩ | ⟨c26, h⟩
            · refine us (gy rfl rfl (et c26)) (ldW (e := api_Section.d x24.1) aT39 rfl (ow rfl) rfl rfl) ?_
              refine us (gy rfl rfl (et c26)) (ldW (e := api_Section.d x25.1) aT39 rfl (ow rfl) rfl rfl) ?_
              obtain ⟨x27, hx27, h⟩ := bnd h
              refine us (gy rfl rfl (et c26)) (cl0 kf rfl (.c le1 (.c le1 .n)) (ref15_SameSection_ok hx27) rfl) ?_
              refine ts (pt rfl (et c26) rfl) ?_
              refine ts (as_ rfl) ?_
              refine rn ?_
              refine CWp.ret ?_
              obtain rfl := some_inj h
              exact ⟨trivial, rt1 (ex := false) (by exact (.t rfl .n)) (by exact (gd (by rfl))) (by rfl) (by rfl)⟩
            · refine un (gn rfl rfl (ef c26)) ?_
              refine un (gn rfl rfl (ef c26)) ?_
              refine un (gn rfl rfl (ef c26)) ?_
              refine ts (pf rfl (ef c26) rfl) ?_
              refine ts (as_ rfl) ?_
              refine rn ?_
              refine CWp.ret ?_
              obtain rfl := some_inj h
              exact ⟨trivial, rt1 (ex := false) (by exact (.t rfl .n)) (by exact (gd (by rfl))) (by rfl) (by rfl)⟩
          | inr r28 =>
            intro e s hr
            obtain rfl := some_inj h
            exact ⟨trivial, hr⟩
end Go.Proofs.Ytoelcmbacfhdnaa
