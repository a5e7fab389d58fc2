/- The walks: the program does what the functions in plain form say. Part 2. -/
import Derived.Test.YtoelcmbacfhdnaaShapesStoresWk1
set_option linter.all false
namespace Go.Proofs.Ytoelcmbacfhdnaa
open Go.Lx Go.Sh
set_option linter.unusedVariables false
set_option maxRecDepth 100000
theorem ref15_Selected_ok {p0 : api_Bound} {p1 : api_Subscript} {out : Out} {r : (List Int) × Int} (h : ref15_Selected p0 p1 = some r) : FunOk PP 15 [.d (api_Bound.d p0), .d (api_Subscript.d p1)] out ⟨.tup [.d (.sl (r.1.map dI)), .d (.int .i64 r.2)], []⟩ := by
  unfold ref15_Selected at h
  refine fi Try.func15 rfl (by kernel_rfl) (by kernel_rfl) (by kernel_rfl) ?_
  refine sr ?_
  refine ta (bx (n := 0) rfl rfl rfl) ?_
  refine ta (bx (n := 0) rfl rfl rfl) ?_
  refine ts (ak.wk (x' := .sl (([] : List Int).map dI)) rfl) ?_
  refine ts (ac rfl rfl) ?_
  refine rn ?_
  refine CWp.seq ?_
  refine sr ?_
  refine ts (fa fT31_0 rfl rfl) ?_
  refine ts (ld sT3 rfl (ow rfl) rfl) ?_
  refine ts (cl0 kf rfl (.c le1 .n) (ref15_isBound_ok rfl) rfl) ?_
  refine ts (not_ rfl) ?_
  refine ts (mv rfl) ?_
  refine sg 5 [(19, .d (.bool ((!(ref15_isBound p0.Low)) || (!(ref15_isBound p0.High)))))] ?_ ?_
  · rcases bool_or (!(ref15_isBound p0.Low)) with g1 | g2
    · refine un (gn rfl rfl g1) ?_
      refine un (gn rfl rfl g1) ?_
      refine un (gn rfl rfl g1) ?_
      refine un (gn rfl rfl g1) ?_
      refine ts (pt rfl g1 rfl) ?_
      exact rn (trD 5 rfl (.c (bq (or_t g1)) .n) (by kernel_rfl))
    · refine us (gy rfl rfl g2) (fa fT31_1 rfl rfl) ?_
      refine us (gy rfl rfl g2) (ld sT3 rfl (ow rfl) rfl) ?_
      refine us (gy rfl rfl g2) (cl0 kf rfl (.c le1 .n) (ref15_isBound_ok rfl) rfl) ?_
      refine us (gy rfl rfl g2) (not_ rfl) ?_
      refine ts (pf rfl g2 rfl) ?_
      exact rn (trD 5 rfl (.c (bq (or_f g2)) .n) (by kernel_rfl))
  refine rn ?_
  rcases ite h with ⟨c3, h⟩ | ⟨c3, h⟩
  · refine ct rfl c3 ?_
    refine sr ?_
    refine ts (ak.wk (x' := .sl (([] : List Int).map dI)) rfl) ?_
    refine ts (ac rfl rfl) ?_
    refine rn ?_
    refine CWp.ret ?_
    obtain rfl := some_inj h
    exact ⟨trivial, rt2 (ex := false) (by exact (.t rfl (.t rfl .n))) (by exact (sc (gd (by rfl)) (sc (gd (by rfl)) sn))) (by rfl) (by rfl)⟩
  · refine cf rfl (vf c3) ?_
    refine CWp.skip ?_
    refine CWp.seq ?_
    refine sr ?_
    refine ts (fa fT33_0 rfl rfl) ?_
    refine ts (ld sT3 rfl (ow rfl) rfl) ?_
    refine ts (cl0 kf rfl (.c le1 (.c le1 (.c le1 .n))) (base_Within_ok rfl) rfl) ?_
    refine ts (not_ rfl) ?_
    refine rn ?_
    rcases ite h with ⟨c4, h⟩ | ⟨c4, h⟩
    · refine ct rfl (not_t (vf c4)) ?_
      refine sr ?_
      refine ts (ak.wk (x' := .sl (([] : List Int).map dI)) rfl) ?_
      refine ts (ac rfl rfl) ?_
      refine rn ?_
      refine CWp.ret ?_
      obtain rfl := some_inj h
      exact ⟨trivial, rt2 (ex := false) (by exact (.t rfl (.t rfl .n))) (by exact (sc (gd (by rfl)) (sc (gd (by rfl)) sn))) (by rfl) (by rfl)⟩
    · refine cf rfl (not_f (Classical.not_not.1 c4)) ?_
      refine CWp.skip ?_
      refine CWp.seq ?_
      refine sr ?_
      refine ts (fa fT33_0 rfl rfl) ?_
      refine ts (ld sT3 rfl (ow rfl) rfl) ?_
      refine ts (neq rfl rfl) ?_
      refine ts (mv rfl) ?_
      refine sg 9 [(36, .d (.bool ((p1.Kind != 1) && ((p1.High != 0) || (p1.Step != 0)))))] ?_ ?_
      · rcases bool_or (p1.Kind != 1) with g5 | g8
        · refine us (gy rfl rfl g5) (fa fT33_2 rfl rfl) ?_
          refine us (gy rfl rfl g5) (ld sT3 rfl (ow rfl) rfl) ?_
          refine us (gy rfl rfl g5) (neq rfl rfl) ?_
          refine us (gy rfl rfl g5) (mv rfl) ?_
          refine sg 4 [(35, .d (.bool ((p1.High != 0) || (p1.Step != 0))))] ?_ ?_
          · rcases bool_or (p1.High != 0) with g6 | g7
            · refine un (gn rfl rfl g6) ?_
              refine un (gn rfl rfl g6) ?_
              refine un (gn rfl rfl g6) ?_
              refine us (gy rfl rfl g5) (pt rfl g6 rfl) ?_
              exact rn (trD 4 rfl (.c (bq (or_t g6)) .n) (by kernel_rfl))
            · refine us (gy rfl rfl g7) (fa fT33_3 rfl rfl) ?_
              refine us (gy rfl rfl g7) (ld sT3 rfl (ow rfl) rfl) ?_
              refine us (gy rfl rfl g7) (neq rfl rfl) ?_
              refine us (gy rfl rfl g5) (pf rfl g7 rfl) ?_
              exact rn (trD 4 rfl (.c (bq (or_f g7)) .n) (by kernel_rfl))
          refine ts (pt rfl g5 rfl) ?_
          exact rn (trD 6 rfl (.c (bq (and_t g5)) .n) (by kernel_rfl))
        · refine un (gn rfl rfl g8) ?_
          refine un (gn rfl rfl g8) ?_
          refine un (gn rfl rfl g8) ?_
          refine un (gn rfl rfl g8) ?_
          refine un (gu rfl rfl) ?_
          refine un (gu rfl rfl) ?_
          refine un (gu rfl rfl) ?_
          refine un (gn rfl rfl g8) ?_
          refine ts (pf rfl g8 rfl) ?_
          exact rn (trD 9 rfl (.c (bq (and_f g8)) .n) (by kernel_rfl))
      refine ts (mv rfl) ?_
      refine sg 9 [(46, .d (.bool (((p1.Kind != 1) && ((p1.High != 0) || (p1.Step != 0))) || ((p1.Kind == 2) && (p1.Low != 0)))))] ?_ ?_
      · rcases bool_or ((p1.Kind != 1) && ((p1.High != 0) || (p1.Step != 0))) with g9 | g10
        · refine un (gn rfl rfl g9) ?_
          refine un (gn rfl rfl g9) ?_
          refine un (gn rfl rfl g9) ?_
          refine un (gn rfl rfl g9) ?_
          refine un (gu rfl rfl) ?_
          refine un (gu rfl rfl) ?_
          refine un (gu rfl rfl) ?_
          refine un (gn rfl rfl g9) ?_
          refine ts (pt rfl g9 rfl) ?_
          exact rn (trD 9 rfl (.c (bq (or_t g9)) .n) (by kernel_rfl))
        · refine us (gy rfl rfl g10) (fa fT33_0 rfl rfl) ?_
          refine us (gy rfl rfl g10) (ld sT3 rfl (ow rfl) rfl) ?_
          refine us (gy rfl rfl g10) (eql rfl rfl) ?_
          refine us (gy rfl rfl g10) (mv rfl) ?_
          refine sg 4 [(45, .d (.bool ((p1.Kind == 2) && (p1.Low != 0))))] ?_ ?_
          · rcases bool_or (p1.Kind == 2) with g11 | g12
            · refine us (gy rfl rfl g11) (fa fT33_1 rfl rfl) ?_
              refine us (gy rfl rfl g11) (ld sT3 rfl (ow rfl) rfl) ?_
              refine us (gy rfl rfl g11) (neq rfl rfl) ?_
              refine us (gy rfl rfl g10) (pt rfl g11 rfl) ?_
              exact rn (trD 4 rfl (.c (bq (and_t g11)) .n) (by kernel_rfl))
            · refine un (gn rfl rfl g12) ?_
              refine un (gn rfl rfl g12) ?_
              refine un (gn rfl rfl g12) ?_
              refine us (gy rfl rfl g10) (pf rfl g12 rfl) ?_
              exact rn (trD 4 rfl (.c (bq (and_f g12)) .n) (by kernel_rfl))
          refine ts (pf rfl g10 rfl) ?_
          exact rn (trD 6 rfl (.c (bq (or_f g10)) .n) (by kernel_rfl))
      refine ts (mv rfl) ?_
      refine sg 10 [(57, .d (.bool ((((p1.Kind != 1) && ((p1.High != 0) || (p1.Step != 0))) || ((p1.Kind == 2) && (p1.Low != 0))) || ((p1.Kind != 2) && (decide ((p1.List.length : Int) > 0))))))] ?_ ?_
      · rcases bool_or (((p1.Kind != 1) && ((p1.High != 0) || (p1.Step != 0))) || ((p1.Kind == 2) && (p1.Low != 0))) with g13 | g14
        · refine un (gn rfl rfl g13) ?_
          refine un (gn rfl rfl g13) ?_
          refine un (gn rfl rfl g13) ?_
          refine un (gn rfl rfl g13) ?_
          refine un (gu rfl rfl) ?_
          refine un (gu rfl rfl) ?_
          refine un (gu rfl rfl) ?_
          refine un (gu rfl rfl) ?_
          refine un (gn rfl rfl g13) ?_
          refine ts (pt rfl g13 rfl) ?_
          exact rn (trD 10 rfl (.c (bq (or_t g13)) .n) (by kernel_rfl))
        · refine us (gy rfl rfl g14) (fa fT33_0 rfl rfl) ?_
          refine us (gy rfl rfl g14) (ld sT3 rfl (ow rfl) rfl) ?_
          refine us (gy rfl rfl g14) (neq rfl rfl) ?_
          refine us (gy rfl rfl g14) (mv rfl) ?_
          refine sg 5 [(56, .d (.bool ((p1.Kind != 2) && (decide ((p1.List.length : Int) > 0)))))] ?_ ?_
          · rcases bool_or (p1.Kind != 2) with g15 | g16
            · refine us (gy rfl rfl g15) (fa fT33_4 rfl rfl) ?_
              refine us (gy rfl rfl g15) (ld sT26 rfl (ow rfl) rfl) ?_
              refine us (gy rfl rfl g15) (lnD lT26 rfl rfl) ?_
              refine us (gy rfl rfl g15) (gtr rfl rfl) ?_
              refine us (gy rfl rfl g14) (pt rfl g15 rfl) ?_
              exact rn (trD 5 rfl (.c (bq (and_t g15)) .n) (by kernel_rfl))
            · refine un (gn rfl rfl g16) ?_
              refine un (gn rfl rfl g16) ?_
              refine un (gn rfl rfl g16) ?_
              refine un (gn rfl rfl g16) ?_
              refine us (gy rfl rfl g14) (pf rfl g16 rfl) ?_
              exact rn (trD 5 rfl (.c (bq (and_f g16)) .n) (by kernel_rfl))
          refine ts (pf rfl g14 rfl) ?_
          exact rn (trD 6 rfl (.c (bq (or_f g14)) .n) (by kernel_rfl))
      refine rn ?_
      rcases ite h with ⟨c17, h⟩ | ⟨c17, h⟩
      · refine ct rfl c17 ?_
        refine sr ?_
        refine ts (ak.wk (x' := .sl (([] : List Int).map dI)) rfl) ?_
        refine ts (ac rfl rfl) ?_
        refine rn ?_
        refine CWp.ret ?_
        obtain rfl := some_inj h
        exact ⟨trivial, rt2 (ex := false) (by exact (.t rfl (.t rfl .n))) (by exact (sc (gd (by rfl)) (sc (gd (by rfl)) sn))) (by rfl) (by rfl)⟩
      · refine cf rfl (vf c17) ?_
        refine CWp.skip ?_
        refine CWp.seq ?_
        refine sr ?_
        refine ts (fa fT33_0 rfl rfl) ?_
        refine ts (ld sT3 rfl (ow rfl) rfl) ?_
        refine ts (eql rfl rfl) ?_
        refine ts (mv rfl) ?_
        refine sg 4 [(65, .d (.bool ((p1.Kind == 1) && (p1.Step == 0))))] ?_ ?_
        · rcases bool_or (p1.Kind == 1) with g18 | g19
          · refine us (gy rfl rfl g18) (fa fT33_3 rfl rfl) ?_
            refine us (gy rfl rfl g18) (ld sT3 rfl (ow rfl) rfl) ?_
            refine us (gy rfl rfl g18) (eql rfl rfl) ?_
            refine ts (pt rfl g18 rfl) ?_
            exact rn (trD 4 rfl (.c (bq (and_t g18)) .n) (by kernel_rfl))
          · refine un (gn rfl rfl g19) ?_
            refine un (gn rfl rfl g19) ?_
            refine un (gn rfl rfl g19) ?_
            refine ts (pf rfl g19 rfl) ?_
            exact rn (trD 4 rfl (.c (bq (and_f g19)) .n) (by kernel_rfl))
        refine rn ?_
        rcases ite h with ⟨c20, h⟩ | ⟨c20, h⟩
        · refine ct rfl c20 ?_
          refine sr ?_
          refine ts (ak.wk (x' := .sl (([] : List Int).map dI)) rfl) ?_
          refine ts (ac rfl rfl) ?_
          refine rn ?_
          refine CWp.ret ?_
          obtain rfl := some_inj h
          exact ⟨trivial, rt2 (ex := false) (by exact (.t rfl (.t rfl .n))) (by exact (sc (gd (by rfl)) (sc (gd (by rfl)) sn))) (by rfl) (by rfl)⟩
        · refine cf rfl (vf c20) ?_
          refine CWp.skip ?_
          refine CWp.seq ?_
          refine sr ?_
          refine ts (fa fT33_1 rfl rfl) ?_
          refine ts (ld sT3 rfl (ow rfl) rfl) ?_
          refine ts (cl0 kf rfl (.c le1 .n) (ref15_isBound_ok rfl) rfl) ?_
          refine ts (not_ rfl) ?_
          refine ts (mv rfl) ?_
          refine sg 5 [(75, .d (.bool ((!(ref15_isBound p1.Low)) || (!(ref15_isBound p1.High)))))] ?_ ?_
          · rcases bool_or (!(ref15_isBound p1.Low)) with g21 | g22
            · refine un (gn rfl rfl g21) ?_
              refine un (gn rfl rfl g21) ?_
              refine un (gn rfl rfl g21) ?_
              refine un (gn rfl rfl g21) ?_
              refine ts (pt rfl g21 rfl) ?_
              exact rn (trD 5 rfl (.c (bq (or_t g21)) .n) (by kernel_rfl))
            · refine us (gy rfl rfl g22) (fa fT33_2 rfl rfl) ?_
              refine us (gy rfl rfl g22) (ld sT3 rfl (ow rfl) rfl) ?_
              refine us (gy rfl rfl g22) (cl0 kf rfl (.c le1 .n) (ref15_isBound_ok rfl) rfl) ?_
              refine us (gy rfl rfl g22) (not_ rfl) ?_
              refine ts (pf rfl g22 rfl) ?_
              exact rn (trD 5 rfl (.c (bq (or_f g22)) .n) (by kernel_rfl))
          refine ts (mv rfl) ?_
          refine sg 5 [(81, .d (.bool (((!(ref15_isBound p1.Low)) || (!(ref15_isBound p1.High))) || (!(ref15_isBound p1.Step)))))] ?_ ?_
          · rcases bool_or ((!(ref15_isBound p1.Low)) || (!(ref15_isBound p1.High))) with g23 | g24
            · refine un (gn rfl rfl g23) ?_
              refine un (gn rfl rfl g23) ?_
              refine un (gn rfl rfl g23) ?_
              refine un (gn rfl rfl g23) ?_
              refine ts (pt rfl g23 rfl) ?_
              exact rn (trD 5 rfl (.c (bq (or_t g23)) .n) (by kernel_rfl))
            · refine us (gy rfl rfl g24) (fa fT33_3 rfl rfl) ?_
              refine us (gy rfl rfl g24) (ld sT3 rfl (ow rfl) rfl) ?_
              refine us (gy rfl rfl g24) (cl0 kf rfl (.c le1 .n) (ref15_isBound_ok rfl) rfl) ?_
              refine us (gy rfl rfl g24) (not_ rfl) ?_
              refine ts (pf rfl g24 rfl) ?_
              exact rn (trD 5 rfl (.c (bq (or_f g24)) .n) (by kernel_rfl))
          refine rn ?_
          rcases ite h with ⟨c25, h⟩ | ⟨c25, h⟩
          · refine ct rfl c25 ?_
            refine sr ?_
            refine ts (ak.wk (x' := .sl (([] : List Int).map dI)) rfl) ?_
            refine ts (ac rfl rfl) ?_
            refine rn ?_
            refine CWp.ret ?_
            obtain rfl := some_inj h
            exact ⟨trivial, rt2 (ex := false) (by exact (.t rfl (.t rfl .n))) (by exact (sc (gd (by rfl)) (sc (gd (by rfl)) sn))) (by rfl) (by rfl)⟩
          · refine cf rfl (vf c25) ?_
            refine CWp.skip ?_
            refine sr ?_
            refine ta (an (n := 0) lT26 rfl) ?_
            refine rn ?_
            refine jn (E := fun a26 => [(2, .bptr ⟨out.length, 2, 0⟩ 0), (6, .d (.sl (a26.map dI)))]) (M := fun a26 => ⟨[((2, 0), .box [.d (.int .i64 p0.Low), .d (.int .i64 p0.High)])], out, []⟩) (F := fun a26 => ref15_Selected.j1 p0 a26) (r := r) ?_ ?_
            · intro a26 h
              unfold ref15_Selected.j1 at h
              refine CWp.seq ?_
              refine sr ?_
              refine ts (ac rfl rfl) ?_
              refine rn ?_
              obtain ⟨z31, hz31, h⟩ := bnd h
              refine lbr (E := fun s27 => [(2, .bptr ⟨out.length, 2, 0⟩ 0), (6, .d (.sl (a26.map dI))), (9, .d (.int .i64 s27))]) (M := fun s27 => ⟨[((2, 0), .box [.d (.int .i64 p0.Low), .d (.int .i64 p0.High)])], out, []⟩) (E' := fun y => [(6, .d (.sl (a26.map dI)))]) (M' := fun y => ⟨[], out, []⟩) (RT := fun r e s => Lx.Returns PP Try.f15.results.toList e s ⟨.tup [.d (.sl (r.1.map dI)), .d (.int .i64 r.2)], []⟩) hz31 (by (try simp only [List.length_set, copied_len]); exact trk (by kernel_rfl) (by kernel_rfl) (by kernel_rfl)) ?_ ?_
              · intro s27 ww h
                unfold ref15_Selected.s2 at h
                refine CWp.seq ?_
                refine sr ?_
                refine ts (mv rfl) ?_
                refine ts (mv rfl) ?_
                refine ts (lnD lT26 rfl rfl) ?_
                refine ts (lss rfl rfl) ?_
                refine rn ?_
                rcases ite h with ⟨c28, h⟩ | ⟨c28, h⟩
                · refine ct rfl (bt c28) ?_
                  refine CWp.skip ?_
                  refine CWp.seq ?_
                  refine CWp.block ?_
                  refine sd mixed (b := [0, 0, 3, 7, 0, 16, 0, 64, 255, 511]) (by kernel_rfl) ?_
                  refine ds (mv rfl) rfl ?_
                  refine ds (mv rfl) rfl ?_
                  obtain ⟨x29, hx29, h⟩ := bnd h
                  refine ds (ixD lT26 szI rfl rfl hx29) rfl ?_
                  refine dr (ldI sT3 rfl rfl) rfl ?_
                  refine ds (fa fT31_0 rfl rfl) rfl ?_
                  refine dr (ld sT3 rfl (ow rfl) rfl) rfl ?_
                  refine ds (fa fT31_1 rfl rfl) rfl ?_
                  refine dr (ld sT3 rfl (ow rfl) rfl) rfl ?_
                  refine dr (cl0 kf rfl (.c le1 (.c le1 (.c le1 .n))) (base_Within_ok rfl) rfl) rfl ?_
                  refine ds (not_ rfl) rfl ?_
                  refine dn (by kernel_rfl) ?_
                  rcases ite h with ⟨c30, h⟩ | ⟨c30, h⟩
                  · refine ct rfl (not_t (vf c30)) ?_
                    refine sr ?_
                    refine ts (ak.wk (x' := .sl (([] : List Int).map dI)) rfl) ?_
                    refine ts (ac rfl rfl) ?_
                    refine rn ?_
                    refine CWp.ret ?_
                    obtain rfl := some_inj h
                    exact ⟨rfl, rt2 (ex := false) (by exact (.t rfl (.t rfl .n))) (by exact (sc (gd (by rfl)) (sc (gd (by rfl)) sn))) (by rfl) (by rfl)⟩
                  · refine cf rfl (not_f (Classical.not_not.1 c30)) ?_
                    refine CWp.skip ?_
                    refine lr ?_
                    refine ts (mv rfl) ?_
                    refine ts (add rfl rfl) ?_
                    refine ts (as_ rfl) ?_
                    refine rn ?_
                    obtain rfl := some_inj h
                    exact ⟨rfl, (by (try simp only [List.length_set, copied_len]); exact trk (by kernel_rfl) (by kernel_rfl) (by kernel_rfl))⟩
                · refine cf rfl (bf c28) ?_
                  refine CWp.exit ?_
                  obtain rfl := some_inj h
                  exact ⟨rfl, (by (try simp only [List.length_set, copied_len]); exact trk (by kernel_rfl) (by kernel_rfl) (by kernel_rfl))⟩
              · cases z31 with
                | inl v32 =>
                  intro e s ht
                  refine CWp.trim ht ?_
                  refine sr ?_
                  refine ts (mv rfl) ?_
                  refine ts (as_ rfl) ?_
                  refine ts (ac rfl rfl) ?_
                  refine rn ?_
                  refine CWp.ret ?_
                  obtain rfl := some_inj h
                  exact ⟨trivial, rt2 (ex := false) (by exact (.t rfl (.t rfl .n))) (by exact (sc (gd (by rfl)) (sc (gd (by rfl)) sn))) (by rfl) (by rfl)⟩
                | inr r33 =>
                  intro e s hr
                  obtain rfl := some_inj h
                  exact ⟨trivial, hr⟩
            · refine sr ?_
              refine ts (fa fT33_0 rfl rfl) ?_
              refine ts (ld sT3 rfl (ow rfl) rfl) ?_
              refine rn ?_
              refine CWp.block ?_
              refine sr ?_
              refine ts (eql rfl rfl) ?_
              refine ts (as_ rfl) ?_
              refine rn ?_
              rcases ite h with ⟨c26, h⟩ | ⟨c26, h⟩
              · refine ct rfl (et c26) ?_
                refine lr ?_
                refine ts (fa fT33_1 rfl rfl) ?_
                refine ts (ld sT3 rfl (ow rfl) rfl) ?_
                refine ta (bsM (n := 0) (xs := ([p1.Low] : List Int)) (f := dI) lT26 rfl rfl rfl (by kernel_rfl) rfl rfl) ?_
                refine ts (as_ rfl) ?_
                refine rn ?_
                exact ⟨[p1.Low], h, ((Le.fz (t := 6) rfl (by first | rfl | simp only [List.length_set, copied_len]) rfl .h).trans (by (try simp only [List.length_set, copied_len]); exact trk (by kernel_rfl) (by kernel_rfl) (by kernel_rfl)))⟩
              · refine cf rfl (ef c26) ?_
                refine sr ?_
                refine ts (eql rfl rfl) ?_
                refine ts (as_ rfl) ?_
                refine rn ?_
                rcases ite h with ⟨c27, h⟩ | ⟨c27, h⟩
                · refine ct rfl (et c27) ?_
                  refine sd mixed (b := [0, 1, 0, 4, 15, 0, 32, 96, 255, 511, 1023, 2047]) (by kernel_rfl) ?_
                  refine ds (fa fT33_2 rfl rfl) rfl ?_
                  refine dr (ld sT3 rfl (ow rfl) rfl) rfl ?_
                  refine ds (fa fT33_1 rfl rfl) rfl ?_
                  refine dr (ld sT3 rfl (ow rfl) rfl) rfl ?_
                  refine ds (sub rfl rfl) rfl ?_
                  refine ds (fa fT33_3 rfl rfl) rfl ?_
                  refine dr (ld sT3 rfl (ow rfl) rfl) rfl ?_
                  refine dr (cl0 kf rfl (.c le1 .n) (base_Size_ok rfl) rfl) rfl ?_
                  obtain ⟨x28, hx28, h⟩ := bnd h
                  refine dr (cl0 kf rfl (.c le1 (.c le1 .n)) (base_Floor_ok hx28) rfl) rfl ?_
                  refine ds (add rfl rfl) rfl ?_
                  refine ds (mx_ rfl) rfl ?_
                  refine ds (as_ rfl) rfl ?_
                  refine dn (by kernel_rfl) ?_
                  refine jn (E := fun a29 => [(2, .bptr ⟨out.length, 2, 0⟩ 0), (3, .bptr ⟨out.length, 3, 0⟩ 0), (6, .ref ⟨out.length, 6, 0⟩ 0 ([] : List Int).length ([] : List Int).length), (7, .d (.int .i64 a29))]) (M := fun a29 => ⟨[((2, 0), .box [.d (.int .i64 p0.Low), .d (.int .i64 p0.High)]), ((3, 0), .box [.d (.int .i64 p1.Kind), .d (.int .i64 p1.Low), .d (.int .i64 p1.High), .d (.int .i64 p1.Step), .d (.sl (p1.List.map dI))]), ((6, 0), .arr 1 false (([] : List Int).map dI))], out, []⟩) (F := fun a29 => ref15_Selected.j3 p0 p1 a29) (r := r) ?_ ?_
                  · intro a29 h
                    unfold ref15_Selected.j3 at h
                    refine CWp.seq ?_
                    refine sr ?_
                    refine ts (mv rfl) ?_
                    refine ts (gtr rfl rfl) ?_
                    refine rn ?_
                    rcases ite h with ⟨c30, h⟩ | ⟨c30, h⟩
                    · refine ct rfl (bt c30) ?_
                      refine sr ?_
                      refine ts (ak.wk (x' := .sl (([] : List Int).map dI)) rfl) ?_
                      refine ts (ac rfl rfl) ?_
                      refine rn ?_
                      refine CWp.ret ?_
                      obtain rfl := some_inj h
                      exact ⟨trivial, rt2 (ex := false) (by exact (.t rfl (.t rfl .n))) (by exact (sc (gd (by rfl)) (sc (gd (by rfl)) sn))) (by rfl) (by rfl)⟩
                    · refine cf rfl (bf c30) ?_
                      refine CWp.skip ?_
                      refine sr ?_
                      refine ts (ac rfl rfl) ?_
                      refine rn ?_
                      obtain ⟨z34, hz34, h⟩ := bnd h
                      refine lb (E := fun s31 => [(2, .bptr ⟨out.length, 2, 0⟩ 0), (3, .bptr ⟨out.length, 3, 0⟩ 0), (6, .ref ⟨out.length, 6, 0⟩ 0 s31.2.length s31.2.length), (7, .d (.int .i64 a29)), (8, .d (.int .i64 s31.1))]) (M := fun s31 => ⟨[((2, 0), .box [.d (.int .i64 p0.Low), .d (.int .i64 p0.High)]), ((3, 0), .box [.d (.int .i64 p1.Kind), .d (.int .i64 p1.Low), .d (.int .i64 p1.High), .d (.int .i64 p1.Step), .d (.sl (p1.List.map dI))]), ((6, 0), .arr 1 false (s31.2.map dI))], out, []⟩) (E' := fun y => [(2, .bptr ⟨out.length, 2, 0⟩ 0), (6, .ref ⟨out.length, 6, 0⟩ 0 y.length y.length)]) (M' := fun y => ⟨[((2, 0), .box [.d (.int .i64 p0.Low), .d (.int .i64 p0.High)]), ((6, 0), .arr 1 false (y.map dI))], out, []⟩) hz34 (by (try simp only [List.length_set, copied_len]); exact trk (by kernel_rfl) (by kernel_rfl) (by kernel_rfl)) ?_ ?_
                      · intro s31 ww h
                        unfold ref15_Selected.s4 at h
                        refine CWp.seq ?_
                        refine sr ?_
                        refine ts (mv rfl) ?_
                        refine ts (mv rfl) ?_
                        refine ts (lss rfl rfl) ?_
                        refine rn ?_
                        rcases ite h with ⟨c32, h⟩ | ⟨c32, h⟩
                        · refine ct rfl (bt c32) ?_
                          refine CWp.skip ?_
                          refine CWp.seq ?_
                          refine CWp.block ?_
                          refine lr ?_
                          refine ts (mv rfl) ?_
                          refine ts (fa fT33_1 rfl rfl) ?_
                          refine ts (ld sT3 rfl (ow rfl) rfl) ?_
                          refine ts (mv rfl) ?_
                          refine ts (fa fT33_3 rfl rfl) ?_
                          refine ts (ld sT3 rfl (ow rfl) rfl) ?_
                          refine ts (mul rfl rfl) ?_
                          refine ts (add rfl rfl) ?_
                          refine ts (bsT (l := (([(w (p1.Low + (w (s31.1 * p1.Step))))] : List Int).map dI)) lT26 rfl rfl rfl (by kernel_rfl)) ?_
                          obtain ⟨x33, hx33, h⟩ := bnd h
                          refine tp (apR (ys := ([(w (p1.Low + (w (s31.1 * p1.Step))))] : List Int)) (xs := s31.2) (f := dI) lT26 uT26 szI rfl rfl rfl elT rfl hx33 (.s rfl (.s rfl .h))) ?_
                          refine ts (as_ rfl) ?_
                          refine rn ?_
                          refine lr ?_
                          refine ts (mv rfl) ?_
                          refine ts (add rfl rfl) ?_
                          refine ts (as_ rfl) ?_
                          refine rn ?_
                          obtain rfl := some_inj h
                          exact ⟨rfl, (by (try simp only [List.length_set, copied_len]); exact trk (by kernel_rfl) (by kernel_rfl) (by kernel_rfl))⟩
                        · refine cf rfl (bf c32) ?_
                          refine CWp.exit ?_
                          obtain rfl := some_inj h
                          exact ⟨rfl, (by (try simp only [List.length_set, copied_len]); exact trk (by kernel_rfl) (by kernel_rfl) (by kernel_rfl))⟩
                      · intro e s ht
                        exact ⟨z34, h, ht.trans ((Le.fz (t := 6) rfl rfl rfl (.s rfl .h)).trans (by (try simp only [List.length_set, copied_len]); exact trk (by kernel_rfl) (by kernel_rfl) (by kernel_rfl)))⟩
                  · refine sr ?_
                    refine ts (fa fT33_3 rfl rfl) ?_
                    refine ts (ld sT3 rfl (ow rfl) rfl) ?_
                    refine ts (lss rfl rfl) ?_
                    refine rn ?_
                    rcases ite h with ⟨c29, h⟩ | ⟨c29, h⟩
                    · refine ct rfl (bt c29) ?_
                      refine ld_ mixed (b := [0, 1, 0, 4, 15, 0, 32, 96, 255, 511, 1023, 2047]) (by kernel_rfl) ?_
                      refine ds (fa fT33_1 rfl rfl) rfl ?_
                      refine dr (ld sT3 rfl (ow rfl) rfl) rfl ?_
                      refine ds (fa fT33_2 rfl rfl) rfl ?_
                      refine dr (ld sT3 rfl (ow rfl) rfl) rfl ?_
                      refine ds (sub rfl rfl) rfl ?_
                      refine ds (fa fT33_3 rfl rfl) rfl ?_
                      refine dr (ld sT3 rfl (ow rfl) rfl) rfl ?_
                      refine dr (cl0 kf rfl (.c le1 .n) (base_Size_ok rfl) rfl) rfl ?_
                      obtain ⟨x30, hx30, h⟩ := bnd h
                      refine dr (cl0 kf rfl (.c le1 (.c le1 .n)) (base_Floor_ok hx30) rfl) rfl ?_
                      refine ds (add rfl rfl) rfl ?_
                      refine ds (mx_ rfl) rfl ?_
                      refine ds (as_ rfl) rfl ?_
                      refine dn (by kernel_rfl) ?_
                      exact ⟨(mx 0 (w (x30 + 1))), h, (by (try simp only [List.length_set, copied_len]); exact trk (by kernel_rfl) (by kernel_rfl) (by kernel_rfl))⟩
                    · refine cf rfl (bf c29) ?_
                      refine CWp.skip ?_
                      exact ⟨(mx 0 (w (x28 + 1))), h, (by (try simp only [List.length_set, copied_len]); exact trk (by kernel_rfl) (by kernel_rfl) (by kernel_rfl))⟩
                · refine cf rfl (ef c27) ?_
                  refine CWp.seq ?_
                  refine sr ?_
                  refine ts (fa fT33_4 rfl rfl) ?_
                  refine ts (ld sT26 rfl (ow rfl) rfl) ?_
                  refine ts (lnD lT26 rfl rfl) ?_
                  refine ts (gtr rfl rfl) ?_
                  refine rn ?_
                  rcases ite h with ⟨c36, h⟩ | ⟨c36, h⟩
                  · refine ct rfl (bt c36) ?_
                    refine sr ?_
                    refine ts (ak.wk (x' := .sl (([] : List Int).map dI)) rfl) ?_
                    refine ts (ac rfl rfl) ?_
                    refine rn ?_
                    refine CWp.ret ?_
                    obtain rfl := some_inj h
                    exact ⟨trivial, rt2 (ex := false) (by exact (.t rfl (.t rfl .n))) (by exact (sc (gd (by rfl)) (sc (gd (by rfl)) sn))) (by rfl) (by rfl)⟩
                  · refine cf rfl (bf c36) ?_
                    refine CWp.skip ?_
                    refine lr ?_
                    refine ts (fa fT33_4 rfl rfl) ?_
                    refine ts (ld sT26 rfl (ow rfl) rfl) ?_
                    obtain ⟨x37, hx37, h⟩ := bnd h
                    refine ta (ch0 (n := 0) (v' := .ref ⟨out.length, 90, 0⟩ 0 x37.length x37.length) (bs := [((90, 0), .arr 1 false (x37.map dI))]) kf rfl (.c le1 .n) (base_CopyInts_ok hx37) rfl rfl (by simp [homeVal, homeVals])) ?_
                    refine ts (as_ rfl) ?_
                    refine rn ?_
                    exact ⟨x37, h, ((Le.fz (t := 6) rfl rfl rfl .h).trans (by (try simp only [List.length_set, copied_len]); exact trk (by kernel_rfl) (by kernel_rfl) (by kernel_rfl)))⟩
theorem ref15_Indexes_ok {p0 : (List Int)} {p1 : Int} {out : Out} {r : (List Int)} (h : ref15_Indexes p0 p1 = some r) : FunOk PP 72 [.d (.sl (p0.map dI)), .d (.int .i64 p1)] out ⟨.own 1 (r.map dI), []⟩ := by
  unfold ref15_Indexes at h
  refine fi Try.func72 rfl (by kernel_rfl) (by kernel_rfl) (by kernel_rfl) ?_
  refine sr ?_
  refine ta (an (n := 0) lT26 rfl) ?_
  refine rn ?_
  refine sr ?_
  refine ta (an (n := 0) lT26 rfl) ?_
  refine rn ?_
  refine CWp.seq ?_
  refine sr ?_
  refine ts (ac rfl rfl) ?_
  refine rn ?_
  obtain ⟨z8, hz8, h⟩ := bnd h
  refine lb (E := fun s1 => [(0, .d (.sl (p0.map dI))), (1, .d (.int .i64 s1.1)), (5, .ref ⟨out.length, 5, 0⟩ 0 s1.2.2.length s1.2.2.length), (6, .d (.int .i64 s1.2.1))]) (M := fun s1 => ⟨[((5, 0), .arr 1 false (s1.2.2.map dI))], out, []⟩) (E' := fun y => [(5, .ref ⟨out.length, 5, 0⟩ 0 y.length y.length)]) (M' := fun y => ⟨[((5, 0), .arr 1 false (y.map dI))], out, []⟩) hz8 (by (try simp only [List.length_set, copied_len]); exact trk (by kernel_rfl) (by kernel_rfl) (by kernel_rfl)) ?_ ?_
  · intro s1 ww h
    unfold ref15_Indexes.s1 at h
    refine CWp.seq ?_
    refine sr ?_
    refine ts (mv rfl) ?_
    refine ts (mv rfl) ?_
    refine ts (lnD lT26 rfl rfl) ?_
    refine ts (lss rfl rfl) ?_
    refine rn ?_
    rcases ite h with ⟨c2, h⟩ | ⟨c2, h⟩
    · refine ct rfl (bt c2) ?_
      refine CWp.skip ?_
      refine CWp.seq ?_
      refine CWp.block ?_
      refine sr ?_
      refine ts (mv rfl) ?_
      refine ts (mv rfl) ?_
      refine ts (mv rfl) ?_
      refine ts (mv rfl) ?_
      obtain ⟨x3, hx3, h⟩ := bnd h
      refine ts (ixD lT26 szI rfl rfl hx3) ?_
      refine ts (ldI sT3 rfl rfl) ?_
      obtain ⟨x4, hx4, h⟩ := bnd h
      refine ts (rem_ rfl rfl hx4) ?_
      refine ts (bsT (l := (([x4] : List Int).map dI)) lT26 rfl rfl rfl (by kernel_rfl)) ?_
      obtain ⟨x5, hx5, h⟩ := bnd h
      refine tp (apR (ys := ([x4] : List Int)) (xs := s1.2.2) (f := dI) lT26 uT26 szI rfl rfl rfl elT rfl hx5 .h) ?_
      refine ts (as_ rfl) ?_
      refine rn ?_
      refine lr ?_
      refine ts (mv rfl) ?_
      refine ts (mv rfl) ?_
      refine ts (mv rfl) ?_
      obtain ⟨x6, hx6, h⟩ := bnd h
      refine ts (ixD lT26 szI rfl rfl hx6) ?_
      refine ts (ldI sT3 rfl rfl) ?_
      obtain ⟨x7, hx7, h⟩ := bnd h
      refine ts (quo_ rfl rfl hx7) ?_
      refine ts (as_ rfl) ?_
      refine rn ?_
      refine lr ?_
      refine ts (mv rfl) ?_
      refine ts (add rfl rfl) ?_
      refine ts (as_ rfl) ?_
      refine rn ?_
      obtain rfl := some_inj h
      exact ⟨rfl, (by (try simp only [List.length_set, copied_len]); exact trk (by kernel_rfl) (by kernel_rfl) (by kernel_rfl))⟩
    · refine cf rfl (bf c2) ?_
      refine CWp.exit ?_
      obtain rfl := some_inj h
      exact ⟨rfl, (by (try simp only [List.length_set, copied_len]); exact trk (by kernel_rfl) (by kernel_rfl) (by kernel_rfl))⟩
  · intro e s ht
    refine CWp.trim ht ?_
    refine sr ?_
    refine ts (mv rfl) ?_
    refine ts (as_ rfl) ?_
    refine rn ?_
    refine CWp.ret ?_
    obtain rfl := some_inj h
    exact ⟨trivial, rt1 (ex := true) (by exact (.t rfl .n)) (by exact (go rfl rfl)) (by rfl) (by rfl)⟩
theorem ref15_Place_ok {p0 : (List Int)} {p1 : (List Int)} {out : Out} {r : Int} (h : ref15_Place p0 p1 = some r) : FunOk PP 81 [.d (.sl (p0.map dI)), .d (.sl (p1.map dI))] out ⟨.d (.int .i64 r), []⟩ := by
  unfold ref15_Place at h
  refine fi Try.func81 rfl (by kernel_rfl) (by kernel_rfl) (by kernel_rfl) ?_
  refine sr ?_
  refine ts (ac rfl rfl) ?_
  refine rn ?_
  refine sr ?_
  refine ts (ac rfl rfl) ?_
  refine rn ?_
  refine CWp.seq ?_
  refine sr ?_
  refine ts (mv rfl) ?_
  refine ts (lnD lT26 rfl rfl) ?_
  refine ts (sub rfl rfl) ?_
  refine ts (as_ rfl) ?_
  refine rn ?_
  obtain ⟨z5, hz5, h⟩ := bnd h
  refine lb (E := fun s1 => [(0, .d (.sl (p0.map dI))), (1, .d (.sl (p1.map dI))), (5, .d (.int .i64 s1.1)), (6, .d (.int .i64 s1.2))]) (M := fun s1 => ⟨[], out, []⟩) (E' := fun y => [(5, .d (.int .i64 y))]) (M' := fun y => ⟨[], out, []⟩) hz5 (by (try simp only [List.length_set, copied_len]); exact trk (by kernel_rfl) (by kernel_rfl) (by kernel_rfl)) ?_ ?_
  · intro s1 ww h
    unfold ref15_Place.s1 at h
    refine CWp.seq ?_
    refine sr ?_
    refine ts (mv rfl) ?_
    refine ts (geq rfl rfl) ?_
    refine rn ?_
    rcases ite h with ⟨c2, h⟩ | ⟨c2, h⟩
    · refine ct rfl (bt c2) ?_
      refine CWp.skip ?_
      refine CWp.seq ?_
      refine CWp.block ?_
      refine ld_ mixed (b := [0, 0, 0, 6, 14, 31, 0, 0, 192, 448, 1023, 2047]) (by kernel_rfl) ?_
      refine ds (mv rfl) rfl ?_
      refine ds (mv rfl) rfl ?_
      refine ds (mv rfl) rfl ?_
      obtain ⟨x3, hx3, h⟩ := bnd h
      refine ds (ixD lT26 szI rfl rfl hx3) rfl ?_
      refine dr (ldI sT3 rfl rfl) rfl ?_
      refine ds (mul rfl rfl) rfl ?_
      refine ds (mv rfl) rfl ?_
      refine ds (mv rfl) rfl ?_
      obtain ⟨x4, hx4, h⟩ := bnd h
      refine ds (ixD lT26 szI rfl rfl hx4) rfl ?_
      refine dr (ldI sT3 rfl rfl) rfl ?_
      refine ds (add rfl rfl) rfl ?_
      refine ds (as_ rfl) rfl ?_
      refine dn (by kernel_rfl) ?_
      refine lr ?_
      refine ts (mv rfl) ?_
      refine ts (sub rfl rfl) ?_
      refine ts (as_ rfl) ?_
      refine rn ?_
      obtain rfl := some_inj h
      exact ⟨rfl, (by (try simp only [List.length_set, copied_len]); exact trk (by kernel_rfl) (by kernel_rfl) (by kernel_rfl))⟩
    · refine cf rfl (bf c2) ?_
      refine CWp.exit ?_
      obtain rfl := some_inj h
      exact ⟨rfl, (by (try simp only [List.length_set, copied_len]); exact trk (by kernel_rfl) (by kernel_rfl) (by kernel_rfl))⟩
  · intro e s ht
    refine CWp.trim ht ?_
    refine sr ?_
    refine ts (mv rfl) ?_
    refine ts (as_ rfl) ?_
    refine rn ?_
    refine CWp.ret ?_
    obtain rfl := some_inj h
    exact ⟨trivial, rt1 (ex := false) (by exact (.t rfl .n)) (by exact (gd (by rfl))) (by rfl) (by rfl)⟩
theorem ref15_Offset_ok {p0 : (List api_Bound)} {p1 : (List Int)} {out : Out} {r : Int} (h : ref15_Offset p0 p1 = some r) : FunOk PP 25 [.d (.sl (p0.map api_Bound.d)), .d (.sl (p1.map dI))] out ⟨.d (.int .i64 r), []⟩ := by
  unfold ref15_Offset at h
  refine fi Try.func25 rfl (by kernel_rfl) (by kernel_rfl) (by kernel_rfl) ?_
  refine sr ?_
  refine ts (ac rfl rfl) ?_
  refine rn ?_
  refine sr ?_
  refine ta (an (n := 0) lT26 rfl) ?_
  refine rn ?_
  refine CWp.seq ?_
  refine sr ?_
  refine ts (ac rfl rfl) ?_
  refine rn ?_
  obtain ⟨z6, hz6, h⟩ := bnd h
  refine lb (E := fun s1 => [(0, .d (.sl (p0.map api_Bound.d))), (1, .d (.sl (p1.map dI))), (5, .ref ⟨out.length, 5, 0⟩ 0 s1.2.length s1.2.length), (6, .d (.int .i64 s1.1))]) (M := fun s1 => ⟨[((5, 0), .arr 1 false (s1.2.map dI))], out, []⟩) (E' := fun y => [(0, .d (.sl (p0.map api_Bound.d))), (5, .ref ⟨out.length, 5, 0⟩ 0 y.length y.length)]) (M' := fun y => ⟨[((5, 0), .arr 1 false (y.map dI))], out, []⟩) hz6 (by (try simp only [List.length_set, copied_len]); exact trk (by kernel_rfl) (by kernel_rfl) (by kernel_rfl)) ?_ ?_
  · intro s1 ww h
    unfold ref15_Offset.s1 at h
    refine CWp.seq ?_
    refine sr ?_
    refine ts (mv rfl) ?_
    refine ts (mv rfl) ?_
    refine ts (lnD lT22 rfl rfl) ?_
    refine ts (lss rfl rfl) ?_
    refine rn ?_
    rcases ite h with ⟨c2, h⟩ | ⟨c2, h⟩
    · refine ct rfl (bt c2) ?_
      refine CWp.skip ?_
      refine CWp.seq ?_
      refine CWp.block ?_
      refine ld_ mixed (b := [0, 0, 0, 6, 14, 0, 0, 96, 224, 480, 1022, 2046, 4095, 8191]) (by kernel_rfl) ?_
      refine ds (mv rfl) rfl ?_
      refine ds (mv rfl) rfl ?_
      refine ds (mv rfl) rfl ?_
      obtain ⟨x3, hx3, h⟩ := bnd h
      refine ds (ixD lT26 szI rfl rfl hx3) rfl ?_
      refine dr (ldI sT3 rfl rfl) rfl ?_
      refine ds (mv rfl) rfl ?_
      refine ds (mv rfl) rfl ?_
      obtain ⟨x4, hx4, h⟩ := bnd h
      refine ds (ixD lT22 api_Bound.sz rfl rfl hx4) rfl ?_
      refine ds (faI fT31_0 rfl rfl) rfl ?_
      refine dr (ldI sT3 rfl rfl) rfl ?_
      refine ds (sub rfl rfl) rfl ?_
      refine ds (bsT (l := (([(w (x3 - x4.Low))] : List Int).map dI)) lT26 rfl rfl rfl (by kernel_rfl)) rfl ?_
      obtain ⟨x5, hx5, h⟩ := bnd h
      refine dt (apRn (ys := ([(w (x3 - x4.Low))] : List Int)) (xs := s1.2) (f := dI) lT26 uT26 szI rfl rfl rfl elT rfl hx5 .h rfl) rfl ?_
      refine ds (as_ rfl) rfl ?_
      refine dn (by kernel_rfl) ?_
      refine lr ?_
      refine ts (mv rfl) ?_
      refine ts (add rfl rfl) ?_
      refine ts (as_ rfl) ?_
      refine rn ?_
      obtain rfl := some_inj h
      exact ⟨rfl, (by (try simp only [List.length_set, copied_len]); exact trk (by kernel_rfl) (by kernel_rfl) (by kernel_rfl))⟩
    · refine cf rfl (bf c2) ?_
      refine CWp.exit ?_
      obtain rfl := some_inj h
      exact ⟨rfl, (by (try simp only [List.length_set, copied_len]); exact trk (by kernel_rfl) (by kernel_rfl) (by kernel_rfl))⟩
  · intro e s ht
    refine CWp.trim ht ?_
    refine sr ?_
    refine ts (mv rfl) ?_
    obtain ⟨x7, hx7, h⟩ := bnd h
    refine ts (cl0 kf rfl (.c le1 .n) (ref15_Extents_ok hx7) rfl) ?_
    refine ts (mv rfl) ?_
    obtain ⟨x8, hx8, h⟩ := bnd h
    refine tt (cl1 kf rfl (.c le1 (.w (le4 rfl rfl .h) .n)) (ref15_Place_ok hx8) rfl) ?_
    refine ts (as_ rfl) ?_
    refine rn ?_
    refine CWp.ret ?_
    obtain rfl := some_inj h
    exact ⟨trivial, rt1 (ex := false) (by exact (.t rfl .n)) (by exact (gd (by rfl))) (by rfl) (by rfl)⟩
theorem base_Has_ok {p0 : (List Int)} {p1 : Int} {out : Out} {r : Bool} (h : base_Has p0 p1 = some r) : FunOk PP 73 [.d (.sl (p0.map dI)), .d (.int .i64 p1)] out ⟨.d (.bool r), []⟩ := by
  unfold base_Has at h
  refine fi Try.func73 rfl (by kernel_rfl) (by kernel_rfl) (by kernel_rfl) ?_
  refine sr ?_
  refine ts (ac rfl rfl) ?_
  refine rn ?_
  refine sr ?_
  refine ts (ac rfl rfl) ?_
  refine rn ?_
  refine CWp.seq ?_
  refine sr ?_
  refine ts (mv rfl) ?_
  refine ts (lnD lT26 rfl rfl) ?_
  refine ts (mv rfl) ?_
  refine rn ?_
  obtain ⟨z6, hz6, h⟩ := bnd h
  refine lb (E := fun s1 => [(1, .d (.int .i64 p1)), (5, .d (.bool s1.1)), (8, .d (.sl (p0.map dI))), (9, .d (.int .i64 (p0.length : Int))), (10, .d (.int .i64 s1.2))]) (M := fun s1 => ⟨[], out, []⟩) (E' := fun y => [(5, .d (.bool y))]) (M' := fun y => ⟨[], out, []⟩) hz6 (by (try simp only [List.length_set, copied_len]); exact trk (by kernel_rfl) (by kernel_rfl) (by kernel_rfl)) ?_ ?_
  · intro s1 ww h
    unfold base_Has.s1 at h
    refine sr ?_
    refine ts (lss rfl rfl) ?_
    refine rn ?_
    refine CWp.seq ?_
    rcases ite h with ⟨c2, h⟩ | ⟨c2, h⟩
    · refine ct rfl (bt c2) ?_
      refine CWp.skip ?_
      refine CWp.seq ?_
      refine CWp.block ?_
      refine sr ?_
      obtain ⟨x3, hx3, h⟩ := bnd h
      refine ts (ixD lT26 szI rfl rfl hx3) ?_
      refine ts (ldI sT3 rfl rfl) ?_
      refine ts (as_ rfl) ?_
      refine rn ?_
      refine lr ?_
      refine ts (mv rfl) ?_
      refine ts (mv rfl) ?_
      refine sg 4 [(19, .d (.bool (s1.1 || (x3 == p1))))] ?_ ?_
      · rcases bool_or s1.1 with g4 | g5
        · refine un (gn rfl rfl g4) ?_
          refine un (gn rfl rfl g4) ?_
          refine un (gn rfl rfl g4) ?_
          refine ts (pt rfl g4 rfl) ?_
          exact rn (trD 4 rfl (.c (bq (or_t g4)) .n) (by kernel_rfl))
        · refine us (gy rfl rfl g5) (mv rfl) ?_
          refine us (gy rfl rfl g5) (mv rfl) ?_
          refine us (gy rfl rfl g5) (eql rfl rfl) ?_
          refine ts (pf rfl g5 rfl) ?_
          exact rn (trD 4 rfl (.c (bq (or_f g5)) .n) (by kernel_rfl))
      refine ts (as_ rfl) ?_
      refine rn ?_
      refine lr ?_
      refine ts (add rfl rfl) ?_
      refine ts (mv rfl) ?_
      refine rn ?_
      obtain rfl := some_inj h
      exact ⟨rfl, (by (try simp only [List.length_set, copied_len]); exact trk (by kernel_rfl) (by kernel_rfl) (by kernel_rfl))⟩
    · refine cf rfl (bf c2) ?_
      refine CWp.exit ?_
      obtain rfl := some_inj h
      exact ⟨rfl, (by (try simp only [List.length_set, copied_len]); exact trk (by kernel_rfl) (by kernel_rfl) (by kernel_rfl))⟩
  · intro e s ht
    refine CWp.trim ht ?_
    refine sr ?_
    refine ts (mv rfl) ?_
    refine ts (as_ rfl) ?_
    refine rn ?_
    refine CWp.ret ?_
    obtain rfl := some_inj h
    exact ⟨trivial, rt1 (ex := false) (by exact (.t rfl .n)) (by exact (gd (by rfl))) (by rfl) (by rfl)⟩
theorem ref15_Section_ok {p0 : (List api_Bound)} {p1 : (List api_Subscript)} {out : Out} {r : api_Section × Int} (h : ref15_Section p0 p1 = some r) : FunOk PP 19 [.d (.sl (p0.map api_Bound.d)), .d (.sl (p1.map api_Subscript.d))] out ⟨.tup [.d (api_Section.d r.1), .d (.int .i64 r.2)], []⟩ := by
  unfold ref15_Section at h
  refine fi Try.func19 rfl (by kernel_rfl) (by kernel_rfl) (by kernel_rfl) ?_
  refine sr ?_
  refine ta (al (n := 0) zT39 rfl) ?_
  refine ts (ac rfl rfl) ?_
  refine rn ?_
  refine CWp.seq ?_
  refine sr ?_
  refine ts (mv rfl) ?_
  obtain ⟨x1, hx1, h⟩ := bnd h
  refine ts (cl0 kf rfl (.c le1 .n) (ref15_BoundsErr_ok hx1) rfl) ?_
  refine ts (as_ rfl) ?_
  refine rn ?_
  refine sr ?_
  refine ts (mv rfl) ?_
  refine ts (neq rfl rfl) ?_
  refine rn ?_
  rcases ite h with ⟨c2, h⟩ | ⟨c2, h⟩
  · refine ct rfl (nt c2) ?_
    refine sr ?_
    refine ts ((bld (v := .d (.agg [.nilsl, .nilsl, .bool false])) rfl (by kernel_rfl)).wk (x' := api_Section.d (api_Section.mk [] [] false)) rfl) ?_
    refine ts (mv rfl) ?_
    refine tt0 (stW aT39 rfl rfl rfl rfl rfl rfl .h) ?_
    refine ts (as_ rfl) ?_
    refine rn ?_
    refine CWp.ret ?_
    obtain rfl := some_inj h
    exact ⟨trivial, rt2 (ex := false) (by exact (rcW aT39 rfl (ow rfl) rfl rfl (.t rfl .n))) (by exact (sc (gd (by rfl)) (sc (gd (by rfl)) sn))) (by rfl) (by rfl)⟩
  · refine cf rfl (nf c2) ?_
    refine CWp.skip ?_
    refine CWp.seq ?_
    refine sr ?_
    refine ts (mv rfl) ?_
    refine ts (lnD lT23 rfl rfl) ?_
    refine ts (mv rfl) ?_
    refine ts (lnD lT22 rfl rfl) ?_
    refine ts (neq rfl rfl) ?_
    refine rn ?_
    rcases ite h with ⟨c3, h⟩ | ⟨c3, h⟩
    · refine ct rfl (nt c3) ?_
      refine sr ?_
      refine ts ((bld (v := .d (.agg [.nilsl, .nilsl, .bool false])) rfl (by kernel_rfl)).wk (x' := api_Section.d (api_Section.mk [] [] false)) rfl) ?_
      refine tt0 (stW aT39 rfl rfl rfl rfl rfl rfl .h) ?_
      refine ts (ac rfl rfl) ?_
      refine rn ?_
      refine CWp.ret ?_
      obtain rfl := some_inj h
      exact ⟨trivial, rt2 (ex := false) (by exact (rcW aT39 rfl (ow rfl) rfl rfl (.t rfl .n))) (by exact (sc (gd (by rfl)) (sc (gd (by rfl)) sn))) (by rfl) (by rfl)⟩
    · refine cf rfl (nf c3) ?_
      refine CWp.skip ?_
      refine sr ?_
      refine ta (an (n := 0) lT100 rfl) ?_
      refine rn ?_
      refine sr ?_
      refine ta (an (n := 0) lT26 rfl) ?_
      refine rn ?_
      refine sr ?_
      refine ta (al (n := 0) zT39 rfl) ?_
      refine gz (Le.nilBox (t := 9) (n := 0) (t' := 1180) (n' := 0) (off := 0) (sz := 1) rfl rfl rfl rfl) ?_
      refine gz (Le.nilBox (t := 9) (n := 0) (t' := 1181) (n' := 0) (off := 1) (sz := 1) rfl rfl rfl rfl) ?_
      refine rn ?_
      refine CWp.seq ?_
      refine sr ?_
      refine ts (ac rfl rfl) ?_
      refine rn ?_
      obtain ⟨z15, hz15, h⟩ := bnd h
      refine lbr (E := fun s4 => [(0, .d (.sl (p0.map api_Bound.d))), (1, .d (.sl (p1.map api_Subscript.d))), (4, .bptr ⟨out.length, 4, 0⟩ 0), (7, .ref ⟨out.length, 7, 0⟩ 0 s4.2.1.length s4.2.1.length), (8, .ref ⟨out.length, 8, 0⟩ 0 s4.2.2.1.length s4.2.2.1.length), (9, .bptr ⟨out.length, 9, 0⟩ 0), (10, .d (.int .i64 s4.1))]) (M := fun s4 => ⟨[((4, 0), .box [.d .nilsl, .d .nilsl, .d (.bool false)]), ((7, 0), .arr 1 false (s4.2.1.map (dL dI))), ((8, 0), .arr 1 false (s4.2.2.1.map dI)), ((9, 0), .box [.ref ⟨out.length, 1180, 0⟩ 0 s4.2.2.2.length s4.2.2.2.length, .ref ⟨out.length, 1181, 0⟩ 0 ([] : List Int).length ([] : List Int).length, .d (.bool false)]), ((1180, 0), .arr 1 false (s4.2.2.2.map dI)), ((1181, 0), .arr 1 false (([] : List Int).map dI))], out, []⟩) (E' := fun y => [(0, .d (.sl (p0.map api_Bound.d))), (4, .bptr ⟨out.length, 4, 0⟩ 0), (7, .ref ⟨out.length, 7, 0⟩ 0 y.1.length y.1.length), (8, .ref ⟨out.length, 8, 0⟩ 0 y.2.1.length y.2.1.length), (9, .bptr ⟨out.length, 9, 0⟩ 0)]) (M' := fun y => ⟨[((4, 0), .box [.d .nilsl, .d .nilsl, .d (.bool false)]), ((7, 0), .arr 1 false (y.1.map (dL dI))), ((8, 0), .arr 1 false (y.2.1.map dI)), ((9, 0), .box [.ref ⟨out.length, 1180, 0⟩ 0 y.2.2.length y.2.2.length, .ref ⟨out.length, 1181, 0⟩ 0 ([] : List Int).length ([] : List Int).length, .d (.bool false)]), ((1180, 0), .arr 1 false (y.2.2.map dI)), ((1181, 0), .arr 1 false (([] : List Int).map dI))], out, []⟩) (RT := fun r e s => Lx.Returns PP Try.f19.results.toList e s ⟨.tup [.d (api_Section.d r.1), .d (.int .i64 r.2)], []⟩) hz15 (by (try simp only [List.length_set, copied_len]); exact trk (by kernel_rfl) (by kernel_rfl) (by kernel_rfl)) ?_ ?_
      · intro s4 ww h
        unfold ref15_Section.s1 at h
        refine CWp.seq ?_
        refine sr ?_
        refine ts (mv rfl) ?_
        refine ts (mv rfl) ?_
        refine ts (lnD lT23 rfl rfl) ?_
        refine ts (lss rfl rfl) ?_
        refine rn ?_
        rcases ite h with ⟨c5, h⟩ | ⟨c5, h⟩
        · refine ct rfl (bt c5) ?_
          refine CWp.skip ?_
          refine CWp.seq ?_
          refine CWp.block ?_
          refine sd mixed (b := [0, 0, 3, 7, 0, 0, 48, 112, 255, 511, 1023, 1023, 2047, 8191]) (by kernel_rfl) ?_
          refine ds (mv rfl) rfl ?_
          refine ds (mv rfl) rfl ?_
          obtain ⟨x6, hx6, h⟩ := bnd h
          refine ds (ixD lT22 api_Bound.sz rfl rfl hx6) rfl ?_
          refine dr (ldIW aT31 rfl rfl rfl) rfl ?_
          refine ds (mv rfl) rfl ?_
          refine ds (mv rfl) rfl ?_
          obtain ⟨x7, hx7, h⟩ := bnd h
          refine ds (ixD lT23 api_Subscript.sz rfl rfl hx7) rfl ?_
          refine dr (ldIW aT33 rfl rfl rfl) rfl ?_
          obtain ⟨x8, hx8, h⟩ := bnd h
          refine dr (cl0 kf rfl (.c le1 (.c le1 .n)) (ref15_Selected_ok hx8) rfl) rfl ?_
          refine ds (mv rfl) rfl ?_
          refine ds (ex_ rfl rfl) rfl ?_
          refine ds (ex_ rfl rfl) rfl ?_
          refine ds (as_ rfl) rfl ?_
          refine ds (as_ rfl) rfl ?_
          refine dn (by kernel_rfl) ?_
          refine CWp.seq ?_
          refine sr ?_
          refine ts (mv rfl) ?_
          refine ts (neq rfl rfl) ?_
          refine rn ?_
          rcases ite h with ⟨c9, h⟩ | ⟨c9, h⟩
          · refine ct rfl (nt c9) ?_
            refine sr ?_
            refine ts ((bld (v := .d (.agg [.nilsl, .nilsl, .bool false])) rfl (by kernel_rfl)).wk (x' := api_Section.d (api_Section.mk [] [] false)) rfl) ?_
            refine ts (mv rfl) ?_
            refine tt0 (stW aT39 rfl rfl rfl rfl rfl rfl .h) ?_
            refine ts (as_ rfl) ?_
            refine rn ?_
            refine CWp.ret ?_
            obtain rfl := some_inj h
            exact ⟨rfl, rt2 (ex := false) (by exact (rcW aT39 rfl (ow rfl) rfl rfl (.t rfl .n))) (by exact (sc (gd (by rfl)) (sc (gd (by rfl)) sn))) (by rfl) (by rfl)⟩
          · refine cf rfl (nf c9) ?_
            refine CWp.skip ?_
            refine sr ?_
            refine ts (mv rfl) ?_
            refine ts (mv rfl) ?_
            refine ts (bsT (l := (([x8.1] : List (List Int)).map (dL dI))) lT100 rfl rfl rfl (by kernel_rfl)) ?_
            obtain ⟨x10, hx10, h⟩ := bnd h
            refine tp (apR (ys := ([x8.1] : List (List Int))) (xs := s4.2.1) (f := (dL dI)) lT100 uT100 szL rfl rfl rfl elT rfl hx10 (.s rfl .h)) ?_
            refine ts (mv rfl) ?_
            refine ts (mv rfl) ?_
            refine ts (lnD lT26 rfl rfl) ?_
            refine ts (bsT (l := (([(x8.1.length : Int)] : List Int).map dI)) lT26 rfl rfl rfl (by kernel_rfl)) ?_
            obtain ⟨x11, hx11, h⟩ := bnd h
            refine tp (apR (ys := ([(x8.1.length : Int)] : List Int)) (xs := s4.2.2.1) (f := dI) lT26 uT26 szI rfl rfl rfl elT rfl hx11 (.s rfl (.s rfl .h))) ?_
            refine ts (as_ rfl) ?_
            refine ts (as_ rfl) ?_
            refine rn ?_
            refine sr ?_
            refine ts (mv rfl) ?_
            refine ts (mv rfl) ?_
            obtain ⟨x12, hx12, h⟩ := bnd h
            refine ts (ixD lT23 api_Subscript.sz rfl rfl hx12) ?_
            refine ts (faI fT33_0 rfl rfl) ?_
            refine ts (ldI sT3 rfl rfl) ?_
            refine ts (neq rfl rfl) ?_
            refine rn ?_
            rcases ite h with ⟨c13, h⟩ | ⟨c13, h⟩
            · refine ct rfl (nt c13) ?_
              refine lr ?_
              refine ts (fa fT39_0 rfl rfl) ?_
              refine ts (ld sT26 rfl (ow rfl) rfl) ?_
              refine ts (mv rfl) ?_
              refine ts (lnD lT26 rfl rfl) ?_
              refine ts (bsT (l := (([(x8.1.length : Int)] : List Int).map dI)) lT26 rfl rfl rfl (by kernel_rfl)) ?_
              obtain ⟨x14, hx14, h⟩ := bnd h
              refine tp (apR (ys := ([(x8.1.length : Int)] : List Int)) (xs := s4.2.2.2) (f := dI) lT26 uT26 szI rfl rfl rfl elT rfl hx14 (.s rfl (.s rfl (.s rfl (.s rfl .h))))) ?_
              refine ts (fa fT39_0 rfl rfl) ?_
              refine tt0 (st sT26 rfl rfl rfl rfl .h (.s rfl (.s rfl (.s rfl .h)))) ?_
              refine rn ?_
              refine lr ?_
              refine ts (mv rfl) ?_
              refine ts (add rfl rfl) ?_
              refine ts (as_ rfl) ?_
              refine rn ?_
              obtain rfl := some_inj h
              exact ⟨rfl, (by (try simp only [List.length_set, copied_len]); exact trk (by kernel_rfl) (by kernel_rfl) (by kernel_rfl))⟩
            · refine cf rfl (nf c13) ?_
              refine CWp.skip ?_
              refine lr ?_
              refine ts (mv rfl) ?_
              refine ts (add rfl rfl) ?_
              refine ts (as_ rfl) ?_
              refine rn ?_
              obtain rfl := some_inj h
              exact ⟨rfl, (by (try simp only [List.length_set, copied_len]); exact trk (by kernel_rfl) (by kernel_rfl) (by kernel_rfl))⟩
        · refine cf rfl (bf c5) ?_
          refine CWp.exit ?_
          obtain rfl := some_inj h
          exact ⟨rfl, (by (try simp only [List.length_set, copied_len]); exact trk (by kernel_rfl) (by kernel_rfl) (by kernel_rfl))⟩
      · cases z15 with
        | inl v16 =>
          intro e s ht
          refine CWp.trim ht ?_
          refine sr ?_
          refine ts (mv rfl) ?_
          obtain ⟨x17, hx17, h⟩ := bnd h
          refine tt (cl1 kf rfl (.w (le4 rfl rfl (.s rfl (.s rfl .h))) .n) (ref15_Product_ok hx17) rfl) ?_
          refine ts (as_ rfl) ?_
          refine rn ?_
          refine CWp.seq ?_
          refine sr ?_
          refine ts (mv rfl) ?_
          refine ts (gtr rfl rfl) ?_
          refine rn ?_
          rcases ite h with ⟨c18, h⟩ | ⟨c18, h⟩
          · refine ct rfl (bt c18) ?_
            refine sr ?_
            refine ts ((bld (v := .d (.agg [.nilsl, .nilsl, .bool false])) rfl (by kernel_rfl)).wk (x' := api_Section.d (api_Section.mk [] [] false)) rfl) ?_
            refine tt0 (stW aT39 rfl rfl rfl rfl rfl rfl .h) ?_
            refine ts (ac rfl rfl) ?_
            refine rn ?_
            refine CWp.ret ?_
            obtain rfl := some_inj h
            exact ⟨trivial, rt2 (ex := false) (by exact (rcW aT39 rfl (ow rfl) rfl rfl (.t rfl .n))) (by exact (sc (gd (by rfl)) (sc (gd (by rfl)) sn))) (by rfl) (by rfl)⟩
          · refine cf rfl (bf c18) ?_
            refine CWp.skip ?_
            refine CWp.seq ?_
            refine sr ?_
            refine ts (ac rfl rfl) ?_
            refine rn ?_
            refine CWp.trim (Le.lent (t := 1181) (n := 0) rfl (.s rfl (.s rfl (.s rfl (.s rfl (.s rfl .h)))))) ?_
            obtain ⟨z35, hz35, h⟩ := bnd h
            refine lb (E := fun s19 => [(0, .d (.sl (p0.map api_Bound.d))), (4, .bptr ⟨out.length, 4, 0⟩ 0), (7, .ref ⟨out.length, 7, 0⟩ 0 v16.1.length v16.1.length), (8, .ref ⟨out.length, 8, 0⟩ 0 v16.2.1.length v16.2.1.length), (9, .bptr ⟨out.length, 9, 0⟩ 0), (13, .d (.int .i64 x17)), (14, .d (.int .i64 s19.1))]) (M := fun s19 => ⟨[((4, 0), .box [.d .nilsl, .d .nilsl, .d (.bool false)]), ((7, 0), .arr 1 false (v16.1.map (dL dI))), ((8, 0), .arr 1 true (v16.2.1.map dI)), ((9, 0), .box [.ref ⟨out.length, 1180, 0⟩ 0 v16.2.2.length v16.2.2.length, .ref ⟨out.length, 1181, 0⟩ 0 s19.2.2.length s19.2.2.length, .d (.bool s19.2.1)]), ((1180, 0), .arr 1 false (v16.2.2.map dI)), ((1181, 0), .arr 1 true (s19.2.2.map dI))], out, []⟩) (E' := fun y => [(4, .bptr ⟨out.length, 4, 0⟩ 0), (9, .bptr ⟨out.length, 9, 0⟩ 0)]) (M' := fun y => ⟨[((4, 0), .box [.d .nilsl, .d .nilsl, .d (.bool false)]), ((9, 0), .box [.ref ⟨out.length, 1180, 0⟩ 0 v16.2.2.length v16.2.2.length, .ref ⟨out.length, 1181, 0⟩ 0 y.2.length y.2.length, .d (.bool y.1)]), ((1180, 0), .arr 1 false (v16.2.2.map dI)), ((1181, 0), .arr 1 true (y.2.map dI))], out, []⟩) hz35 (by (try simp only [List.length_set, copied_len]); exact trk (by kernel_rfl) (by kernel_rfl) (by kernel_rfl)) ?_ ?_
            · intro s19 ww h
              unfold ref15_Section.s2 at h
              refine CWp.seq ?_
              refine sr ?_
              refine ts (mv rfl) ?_
              refine ts (mv rfl) ?_
              refine ts (lss rfl rfl) ?_
              refine rn ?_
              rcases ite h with ⟨c20, h⟩ | ⟨c20, h⟩
              · refine ct rfl (bt c20) ?_
                refine CWp.skip ?_
                refine CWp.seq ?_
                refine CWp.block ?_
                refine sr ?_
                refine ts (mv rfl) ?_
                refine ts (mv rfl) ?_
                obtain ⟨x21, hx21, h⟩ := bnd h
                refine ta (ch0 (n := 0) (v' := .ref ⟨out.length, 86, 0⟩ 0 x21.length x21.length) (bs := [((86, 0), .arr 1 false (x21.map dI))]) kf rfl (.c (le3 rfl (ow rfl)) (.c le1 .n)) (ref15_Indexes_ok hx21) rfl rfl (by simp [homeVal, homeVals])) ?_
                refine ts (as_ rfl) ?_
                refine rn ?_
                refine CWp.seq ?_
                refine sr ?_
                refine ts (ac rfl rfl) ?_
                refine rn ?_
                obtain ⟨z28, hz28, h⟩ := bnd h
                refine lb (E := fun s22 => [(0, .d (.sl (p0.map api_Bound.d))), (4, .bptr ⟨out.length, 4, 0⟩ 0), (7, .ref ⟨out.length, 7, 0⟩ 0 v16.1.length v16.1.length), (8, .ref ⟨out.length, 8, 0⟩ 0 v16.2.1.length v16.2.1.length), (9, .bptr ⟨out.length, 9, 0⟩ 0), (13, .d (.int .i64 x17)), (14, .d (.int .i64 s19.1)), (15, .ref ⟨out.length, 86, 0⟩ 0 s22.2.length s22.2.length), (16, .d (.int .i64 s22.1))]) (M := fun s22 => ⟨[((4, 0), .box [.d .nilsl, .d .nilsl, .d (.bool false)]), ((7, 0), .arr 1 false (v16.1.map (dL dI))), ((8, 0), .arr 1 true (v16.2.1.map dI)), ((9, 0), .box [.ref ⟨out.length, 1180, 0⟩ 0 v16.2.2.length v16.2.2.length, .ref ⟨out.length, 1181, 0⟩ 0 s19.2.2.length s19.2.2.length, .d (.bool s19.2.1)]), ((1180, 0), .arr 1 false (v16.2.2.map dI)), ((1181, 0), .arr 1 true (s19.2.2.map dI)), ((86, 0), .arr 1 false (s22.2.map dI))], out, []⟩) (E' := fun y => [(0, .d (.sl (p0.map api_Bound.d))), (4, .bptr ⟨out.length, 4, 0⟩ 0), (7, .ref ⟨out.length, 7, 0⟩ 0 v16.1.length v16.1.length), (8, .ref ⟨out.length, 8, 0⟩ 0 v16.2.1.length v16.2.1.length), (9, .bptr ⟨out.length, 9, 0⟩ 0), (13, .d (.int .i64 x17)), (14, .d (.int .i64 s19.1)), (15, .ref ⟨out.length, 86, 0⟩ 0 y.length y.length)]) (M' := fun y => ⟨[((4, 0), .box [.d .nilsl, .d .nilsl, .d (.bool false)]), ((7, 0), .arr 1 false (v16.1.map (dL dI))), ((8, 0), .arr 1 true (v16.2.1.map dI)), ((9, 0), .box [.ref ⟨out.length, 1180, 0⟩ 0 v16.2.2.length v16.2.2.length, .ref ⟨out.length, 1181, 0⟩ 0 s19.2.2.length s19.2.2.length, .d (.bool s19.2.1)]), ((1180, 0), .arr 1 false (v16.2.2.map dI)), ((1181, 0), .arr 1 true (s19.2.2.map dI)), ((86, 0), .arr 1 false (y.map dI))], out, []⟩) hz28 (by (try simp only [List.length_set, copied_len]); exact trk (by kernel_rfl) (by kernel_rfl) (by kernel_rfl)) ?_ ?_
                · intro s22 ww h
                  unfold ref15_Section.s3 at h
                  refine CWp.seq ?_
                  refine sr ?_
                  refine ts (mv rfl) ?_
                  refine ts (mv rfl) ?_
                  refine ts (lnR lT26 rfl rfl) ?_
                  refine ts (lss rfl rfl) ?_
                  refine rn ?_
                  rcases ite h with ⟨c23, h⟩ | ⟨c23, h⟩
                  · refine ct rfl (bt c23) ?_
                    refine CWp.skip ?_
                    refine CWp.seq ?_
                    refine CWp.block ?_
                    refine ld_ mixed (b := [0, 0, 0, 0, 12, 28, 0, 0, 192, 448, 1020, 2044, 4095, 8191]) (by kernel_rfl) ?_
                    refine ds (mv rfl) rfl ?_
                    refine ds (mv rfl) rfl ?_
                    refine ds (mv rfl) rfl ?_
                    refine ds (mv rfl) rfl ?_
                    obtain ⟨x24, hx24, h⟩ := bnd h
                    refine dr (ixR lT100 rfl rfl rfl (ow rfl) hx24) rfl ?_
                    refine dr (ldE sT26 rfl rfl (ow rfl) hx24 rfl) rfl ?_
                    refine ds (mv rfl) rfl ?_
                    refine ds (mv rfl) rfl ?_
                    obtain ⟨x25, hx25, h⟩ := bnd h
                    refine dr (ixR lT26 rfl rfl rfl (ow rfl) hx25) rfl ?_
                    refine dr (ldE sT3 rfl rfl (ow rfl) hx25 rfl) rfl ?_
                    obtain ⟨x26, hx26, h⟩ := bnd h
                    refine ds (ixD lT26 szI rfl rfl hx26) rfl ?_
                    refine dr (ldI sT3 rfl rfl) rfl ?_
                    obtain ⟨x27, hx27, h⟩ := bnd h
                    refine dr (ixR lT26 rfl rfl rfl (ow rfl) hx27) rfl ?_
                    refine dt0 (stE (b := x26) sT3 rfl rfl rfl rfl rfl hx27 rfl rfl (.s rfl (.s rfl (.s rfl (.s rfl (.s rfl (.s rfl .h))))))) rfl ?_
                    refine dn (by kernel_rfl) ?_
                    refine lr ?_
                    refine ts (mv rfl) ?_
                    refine ts (add rfl rfl) ?_
                    refine ts (as_ rfl) ?_
                    refine rn ?_
                    obtain rfl := some_inj h
                    exact ⟨rfl, (by (try simp only [List.length_set, copied_len]); exact trk (by kernel_rfl) (by kernel_rfl) (by kernel_rfl))⟩
                  · refine cf rfl (bf c23) ?_
                    refine CWp.exit ?_
                    obtain rfl := some_inj h
                    exact ⟨rfl, (by (try simp only [List.length_set, copied_len]); exact trk (by kernel_rfl) (by kernel_rfl) (by kernel_rfl))⟩
                · intro e s ht
                  refine CWp.trim ht ?_
                  refine sr ?_
                  refine ts (mv rfl) ?_
                  refine ts (mv rfl) ?_
                  obtain ⟨x29, hx29, h⟩ := bnd h
                  refine tt (cl1 kf rfl (.c le1 (.w (le4 rfl rfl (.s rfl (.s rfl (.s rfl (.s rfl (.s rfl (.s rfl .h))))))) .n)) (ref15_Offset_ok hx29) rfl) ?_
                  refine ts (as_ rfl) ?_
                  refine rn ?_
                  refine sr ?_
                  refine ts (fa fT39_2 rfl rfl) ?_
                  refine ts (ld sT4 rfl (ow rfl) rfl) ?_
                  refine ts (mv rfl) ?_
                  rcases ite h with ⟨c30, h⟩ | ⟨c30, h⟩
                  · refine un (gn rfl rfl c30) ?_
                    refine un (gn rfl rfl c30) ?_
                    refine un (gn rfl rfl c30) ?_
                    refine un (gn rfl rfl c30) ?_
                    refine ts (pt rfl c30 rfl) ?_
                    refine ts (fa fT39_2 rfl rfl) ?_
                    refine tt0 (st sT4 rfl rfl rfl rfl (.s (.s .h)) (.s rfl (.s rfl (.s rfl .h)))) ?_
                    refine rn ?_
                    refine lr ?_
                    refine ts (fa fT39_1 rfl rfl) ?_
                    refine ts (ld sT26 rfl (ow rfl) rfl) ?_
                    refine ts (mv rfl) ?_
                    refine ts (bsT (l := (([x29] : List Int).map dI)) lT26 rfl rfl rfl (by kernel_rfl)) ?_
                    obtain ⟨x31, hx31, h⟩ := bnd h
                    refine tp (apR (ys := ([x29] : List Int)) (xs := s19.2.2) (f := dI) lT26 uT26 szI rfl rfl rfl elT rfl hx31 (.s rfl (.s rfl (.s rfl (.s rfl (.s rfl .h)))))) ?_
                    refine ts (fa fT39_1 rfl rfl) ?_
                    refine tt0 (st sT26 rfl rfl rfl rfl (.s .h) (.s rfl (.s rfl (.s rfl .h)))) ?_
                    refine rn ?_
                    refine lr ?_
                    refine ts (mv rfl) ?_
                    refine ts (add rfl rfl) ?_
                    refine ts (as_ rfl) ?_
                    refine rn ?_
                    obtain rfl := some_inj h
                    exact ⟨rfl, (by (try simp only [List.length_set, copied_len]); exact trk (by kernel_rfl) (by kernel_rfl) (by kernel_rfl))⟩
                  · refine us (gy rfl rfl (vf c30)) (fa fT39_1 rfl rfl) ?_
                    refine us (gy rfl rfl (vf c30)) (ld sT26 rfl (ow rfl) rfl) ?_
                    refine us (gy rfl rfl (vf c30)) (mv rfl) ?_
                    obtain ⟨x32, hx32, h⟩ := bnd h
                    refine us (gy rfl rfl (vf c30)) (cl0 kf rfl (.c (le3 rfl (ow rfl)) (.c le1 .n)) (base_Has_ok hx32) rfl) ?_
                    refine ts (pf rfl (vf c30) rfl) ?_
                    refine ts (fa fT39_2 rfl rfl) ?_
                    refine tt0 (st sT4 rfl rfl rfl rfl (.s (.s .h)) (.s rfl (.s rfl (.s rfl .h)))) ?_
                    refine rn ?_
                    refine lr ?_
                    refine ts (fa fT39_1 rfl rfl) ?_
                    refine ts (ld sT26 rfl (ow rfl) rfl) ?_
                    refine ts (mv rfl) ?_
                    refine ts (bsT (l := (([x29] : List Int).map dI)) lT26 rfl rfl rfl (by kernel_rfl)) ?_
                    obtain ⟨x33, hx33, h⟩ := bnd h
                    refine tp (apR (ys := ([x29] : List Int)) (xs := s19.2.2) (f := dI) lT26 uT26 szI rfl rfl rfl elT rfl hx33 (.s rfl (.s rfl (.s rfl (.s rfl (.s rfl .h)))))) ?_
                    refine ts (fa fT39_1 rfl rfl) ?_
                    refine tt0 (st sT26 rfl rfl rfl rfl (.s .h) (.s rfl (.s rfl (.s rfl .h)))) ?_
                    refine rn ?_
                    refine lr ?_
                    refine ts (mv rfl) ?_
                    refine ts (add rfl rfl) ?_
                    refine ts (as_ rfl) ?_
                    refine rn ?_
                    obtain rfl := some_inj h
                    exact ⟨rfl, (by (try simp only [List.length_set, copied_len]); exact trk (by kernel_rfl) (by kernel_rfl) (by kernel_rfl))⟩
              · refine cf rfl (bf c20) ?_
                refine CWp.exit ?_
                obtain rfl := some_inj h
                exact ⟨rfl, (by (try simp only [List.length_set, copied_len]); exact trk (by kernel_rfl) (by kernel_rfl) (by kernel_rfl))⟩
            · intro e s ht
              refine CWp.trim ht ?_
              refine sr ?_
              refine ts (ldA (v := .agg [.ref ⟨out.length, 1180, 0⟩ 0 v16.2.2.length v16.2.2.length, .ref ⟨out.length, 1181, 0⟩ 0 z35.2.length z35.2.length, .d (.bool z35.1)]) aT39 rfl (ow rfl) (by kernel_rfl)) ?_
              refine tt0 (stW aT39 rfl rfl rfl rfl rfl rfl .h) ?_
              refine ts (ac rfl rfl) ?_
              refine rn ?_
              refine CWp.ret ?_
              obtain rfl := some_inj h
              exact ⟨trivial, rt2 (ex := false) (by exact (rcA (v := .agg [.ref ⟨out.length, 1180, 0⟩ 0 v16.2.2.length v16.2.2.length, .ref ⟨out.length, 1181, 0⟩ 0 z35.2.length z35.2.length, .d (.bool z35.1)]) aT39 rfl (ow rfl) (by kernel_rfl) (.t rfl .n))) (by exact (sc (ga (sc (gf rfl rfl) (sc (gf rfl rfl) (sc (gd (by rfl)) sn))) rfl) (sc (gd (by rfl)) sn))) (by rfl) (by rfl)⟩
        | inr r37 =>
          intro e s hr
          obtain rfl := some_inj h
          exact ⟨trivial, hr⟩
theorem ref15_Of_ok {p0 : (List Int)} {p1 : (List Int)} {out : Out} {r : api_Array} (h : ref15_Of p0 p1 = some r) : FunOk PP 98 [.d (.sl (p0.map dI)), .d (.sl (p1.map dI))] out ⟨.d (api_Array.d r), []⟩ := by
  unfold ref15_Of at h
  refine fi Try.func98 rfl (by kernel_rfl) (by kernel_rfl) (by kernel_rfl) ?_
  refine sr ?_
  refine ta (al (n := 0) zT59 rfl) ?_
  refine rn ?_
  refine sr ?_
  refine ts (mv rfl) ?_
  refine ts (bld (v := .d (.agg [.nilsl, .sl (p1.map dI)])) rfl (by kernel_rfl)) ?_
  refine ta (al (n := 0) zT59 rfl) ?_
  refine gz (Le.nilBox (t := 5) (n := 0) (t' := 1100) (n' := 0) (off := 0) (sz := 2) rfl rfl rfl rfl) ?_
  refine tt0 (stW aT59 rfl rfl rfl rfl rfl rfl (.s rfl .h)) ?_
  refine gz (Le.nilBox (t := 5) (n := 0) (t' := 1100) (n' := 1) (off := 0) (sz := 2) rfl rfl rfl rfl) ?_
  refine rn ?_
  refine CWp.seq ?_
  refine sr ?_
  refine ts (ac rfl rfl) ?_
  refine rn ?_
  obtain ⟨z5, hz5, h⟩ := bnd h
  refine lb (E := fun s1 => [(0, .d (.sl (p0.map dI))), (4, .bptr ⟨out.length, 4, 0⟩ 0), (5, .bptr ⟨out.length, 5, 0⟩ 0), (6, .d (.int .i64 s1.1))]) (M := fun s1 => ⟨[((4, 0), .box [.d .nilsl, .d .nilsl]), ((5, 0), .box [.ref ⟨out.length, 1100, 1⟩ 0 s1.2.length s1.2.length, .d (.sl (p1.map dI))]), ((1100, 1), .arr 2 false (s1.2.map api_Bound.d))], out, []⟩) (E' := fun y => [(4, .bptr ⟨out.length, 4, 0⟩ 0), (5, .bptr ⟨out.length, 5, 0⟩ 0)]) (M' := fun y => ⟨[((4, 0), .box [.d .nilsl, .d .nilsl]), ((5, 0), .box [.ref ⟨out.length, 1100, 1⟩ 0 y.length y.length, .d (.sl (p1.map dI))]), ((1100, 1), .arr 2 false (y.map api_Bound.d))], out, []⟩) hz5 (by (try simp only [List.length_set, copied_len]); exact trk (by kernel_rfl) (by kernel_rfl) (by kernel_rfl)) ?_ ?_
  · intro s1 ww h
    unfold ref15_Of.s1 at h
    refine CWp.seq ?_
    refine sr ?_
    refine ts (mv rfl) ?_
    refine ts (mv rfl) ?_
    refine ts (lnD lT26 rfl rfl) ?_
    refine ts (lss rfl rfl) ?_
    refine rn ?_
    rcases ite h with ⟨c2, h⟩ | ⟨c2, h⟩
    · refine ct rfl (bt c2) ?_
      refine CWp.skip ?_
      refine CWp.seq ?_
      refine CWp.block ?_
      refine ld_ mixed (b := [0, 1, 0, 0, 12, 28, 60, 124, 255, 511, 1023]) (by kernel_rfl) ?_
      refine ds (fa fT59_0 rfl rfl) rfl ?_
      refine dr (ld sT22 rfl (ow rfl) rfl) rfl ?_
      refine ds (mv rfl) rfl ?_
      refine ds (mv rfl) rfl ?_
      obtain ⟨x3, hx3, h⟩ := bnd h
      refine ds (ixD lT26 szI rfl rfl hx3) rfl ?_
      refine dr (ldI sT3 rfl rfl) rfl ?_
      refine ds (bld (v := .d (api_Bound.d (api_Bound.mk 1 x3))) rfl (by kernel_rfl)) rfl ?_
      refine ds (bsT (l := (([(api_Bound.mk 1 x3)] : List api_Bound).map api_Bound.d)) lT22 rfl rfl rfl (by kernel_rfl)) rfl ?_
      obtain ⟨x4, hx4, h⟩ := bnd h
      refine dt (apRn (ys := ([(api_Bound.mk 1 x3)] : List api_Bound)) (xs := s1.2) (f := api_Bound.d) lT22 uT22 api_Bound.sz rfl rfl rfl elT rfl hx4 (.s rfl (.s rfl .h)) rfl) rfl ?_
      refine ds (fa fT59_0 rfl rfl) rfl ?_
      refine dt0 (st sT22 rfl rfl rfl rfl .h (.s rfl .h)) rfl ?_
      refine dn (by kernel_rfl) ?_
      refine lr ?_
      refine ts (mv rfl) ?_
      refine ts (add rfl rfl) ?_
      refine ts (as_ rfl) ?_
      refine rn ?_
      obtain rfl := some_inj h
      exact ⟨rfl, (by (try simp only [List.length_set, copied_len]); exact trk (by kernel_rfl) (by kernel_rfl) (by kernel_rfl))⟩
    · refine cf rfl (bf c2) ?_
      refine CWp.exit ?_
      obtain rfl := some_inj h
      exact ⟨rfl, (by (try simp only [List.length_set, copied_len]); exact trk (by kernel_rfl) (by kernel_rfl) (by kernel_rfl))⟩
  · intro e s ht
    refine CWp.trim ht ?_
    refine sr ?_
    refine ts (ldA (v := .agg [.ref ⟨out.length, 1100, 1⟩ 0 z5.length z5.length, .d (.sl (p1.map dI))]) aT59 rfl (ow rfl) (by kernel_rfl)) ?_
    refine tt0 (stW aT59 rfl rfl rfl rfl rfl rfl .h) ?_
    refine rn ?_
    refine CWp.ret ?_
    obtain rfl := some_inj h
    exact ⟨trivial, rt1 (ex := false) (by exact (rcA (v := .agg [.ref ⟨out.length, 1100, 1⟩ 0 z5.length z5.length, .d (.sl (p1.map dI))]) aT59 rfl (ow rfl) (by kernel_rfl) .n)) (by exact (ga (sc (gf rfl rfl) (sc (gd (by rfl)) sn)) rfl)) (by rfl) (by rfl)⟩
theorem ref15_Taken_ok {p0 : api_Array} {p1 : (List api_Subscript)} {out : Out} {r : api_Array × Int} (h : ref15_Taken p0 p1 = some r) : FunOk PP 46 [.d (api_Array.d p0), .d (.sl (p1.map api_Subscript.d))] out ⟨.tup [.d (api_Array.d r.1), .d (.int .i64 r.2)], []⟩ := by
  unfold ref15_Taken at h
  refine fi Try.func46 rfl (by kernel_rfl) (by kernel_rfl) (by kernel_rfl) ?_
  refine sr ?_
  refine ta (bx (n := 0) rfl rfl rfl) ?_
  refine ta (al (n := 0) zT59 rfl) ?_
  refine ts (ac rfl rfl) ?_
  refine rn ?_
  refine CWp.seq ?_
  refine sr ?_
  refine ts (ldW (e := api_Array.d p0) aT59 rfl (ow rfl) rfl rfl) ?_
  obtain ⟨x1, hx1, h⟩ := bnd h
  refine ts (cl0 kf rfl (.c le1 .n) (ref15_Err_ok hx1) rfl) ?_
  refine ts (as_ rfl) ?_
  refine rn ?_
  refine sr ?_
  refine ts (mv rfl) ?_
  refine ts (neq rfl rfl) ?_
  refine rn ?_
  rcases ite h with ⟨c2, h⟩ | ⟨c2, h⟩
  · refine ct rfl (nt c2) ?_
    refine sr ?_
    refine ts ((bld (v := .d (.agg [.nilsl, .nilsl])) rfl (by kernel_rfl)).wk (x' := api_Array.d (api_Array.mk [] [])) rfl) ?_
    refine ts (mv rfl) ?_
    refine tt0 (stW aT59 rfl rfl rfl rfl rfl rfl .h) ?_
    refine ts (as_ rfl) ?_
    refine rn ?_
    refine CWp.ret ?_
    obtain rfl := some_inj h
    exact ⟨trivial, rt2 (ex := false) (by exact (rcW aT59 rfl (ow rfl) rfl rfl (.t rfl .n))) (by exact (sc (gd (by rfl)) (sc (gd (by rfl)) sn))) (by rfl) (by rfl)⟩
  · refine cf rfl (nf c2) ?_
    refine CWp.skip ?_
    refine sr ?_
    refine ts (fa fT59_0 rfl rfl) ?_
    refine ts (ld sT22 rfl (ow rfl) rfl) ?_
    refine ts (mv rfl) ?_
    obtain ⟨x3, hx3, h⟩ := bnd h
    refine ts (cl0 kf rfl (.c le1 (.c le1 .n)) (ref15_Section_ok hx3) rfl) ?_
    refine ts (mv rfl) ?_
    refine ts (ex_ rfl rfl) ?_
    refine ts (ex_ rfl rfl) ?_
    refine ta (al (n := 0) zT39 rfl) ?_
    refine tt0 (stW aT39 rfl rfl rfl rfl rfl rfl .h) ?_
    refine ts (as_ rfl) ?_
    refine rn ?_
    refine CWp.seq ?_
    refine sr ?_
    refine ts (mv rfl) ?_
    refine ts (neq rfl rfl) ?_
    refine rn ?_
    rcases ite h with ⟨c4, h⟩ | ⟨c4, h⟩
    · refine ct rfl (nt c4) ?_
      refine sr ?_
      refine ts ((bld (v := .d (.agg [.nilsl, .nilsl])) rfl (by kernel_rfl)).wk (x' := api_Array.d (api_Array.mk [] [])) rfl) ?_
      refine ts (mv rfl) ?_
      refine tt0 (stW aT59 rfl rfl rfl rfl rfl rfl (.s rfl .h)) ?_
      refine ts (as_ rfl) ?_
      refine rn ?_
      refine CWp.ret ?_
      obtain rfl := some_inj h
      exact ⟨trivial, rt2 (ex := false) (by exact (rcW aT59 rfl (ow rfl) rfl rfl (.t rfl .n))) (by exact (sc (gd (by rfl)) (sc (gd (by rfl)) sn))) (by rfl) (by rfl)⟩
    · refine cf rfl (nf c4) ?_
      refine CWp.skip ?_
      refine sr ?_
      refine ta (an (n := 0) lT26 rfl) ?_
      refine rn ?_
      refine CWp.seq ?_
      refine sr ?_
      refine ts (ac rfl rfl) ?_
      refine rn ?_
      obtain ⟨z10, hz10, h⟩ := bnd h
      refine lb (E := fun s5 => [(2, .bptr ⟨out.length, 2, 0⟩ 0), (4, .bptr ⟨out.length, 4, 0⟩ 0), (7, .bptr ⟨out.length, 7, 0⟩ 0), (9, .ref ⟨out.length, 9, 0⟩ 0 s5.2.length s5.2.length), (10, .d (.int .i64 s5.1))]) (M := fun s5 => ⟨[((2, 0), .box [.d (.sl (p0.Bounds.map api_Bound.d)), .d (.sl (p0.Elements.map dI))]), ((4, 0), .box [.d .nilsl, .d .nilsl]), ((7, 0), .box [.d (.sl (x3.1.Extents.map dI)), .d (.sl (x3.1.Offsets.map dI)), .d (.bool x3.1.ManyOne)]), ((9, 0), .arr 1 false (s5.2.map dI))], out, []⟩) (E' := fun y => [(4, .bptr ⟨out.length, 4, 0⟩ 0), (7, .bptr ⟨out.length, 7, 0⟩ 0), (9, .ref ⟨out.length, 9, 0⟩ 0 y.length y.length)]) (M' := fun y => ⟨[((4, 0), .box [.d .nilsl, .d .nilsl]), ((7, 0), .box [.d (.sl (x3.1.Extents.map dI)), .d (.sl (x3.1.Offsets.map dI)), .d (.bool x3.1.ManyOne)]), ((9, 0), .arr 1 false (y.map dI))], out, []⟩) hz10 (by (try simp only [List.length_set, copied_len]); exact trk (by kernel_rfl) (by kernel_rfl) (by kernel_rfl)) ?_ ?_
      · intro s5 ww h
        unfold ref15_Taken.s1 at h
        refine CWp.seq ?_
        refine sr ?_
        refine ts (mv rfl) ?_
        refine ts (fa fT39_1 rfl rfl) ?_
        refine ts (ld sT26 rfl (ow rfl) rfl) ?_
        refine ts (lnD lT26 rfl rfl) ?_
        refine ts (lss rfl rfl) ?_
        refine rn ?_
        rcases ite h with ⟨c6, h⟩ | ⟨c6, h⟩
        · refine ct rfl (bt c6) ?_
          refine CWp.skip ?_
          refine CWp.seq ?_
          refine CWp.block ?_
          refine ld_ mixed (b := [0, 0, 2, 0, 8, 0, 56, 120, 254, 510, 1022, 2047, 4095]) (by kernel_rfl) ?_
          refine ds (mv rfl) rfl ?_
          refine ds (fa fT59_1 rfl rfl) rfl ?_
          refine dr (ld sT26 rfl (ow rfl) rfl) rfl ?_
          refine ds (fa fT39_1 rfl rfl) rfl ?_
          refine dr (ld sT26 rfl (ow rfl) rfl) rfl ?_
          refine ds (mv rfl) rfl ?_
          obtain ⟨x7, hx7, h⟩ := bnd h
          refine ds (ixD lT26 szI rfl rfl hx7) rfl ?_
          refine dr (ldI sT3 rfl rfl) rfl ?_
          obtain ⟨x8, hx8, h⟩ := bnd h
          refine ds (ixD lT26 szI rfl rfl hx8) rfl ?_
          refine dr (ldI sT3 rfl rfl) rfl ?_
          refine ds (bsT (l := (([x8] : List Int).map dI)) lT26 rfl rfl rfl (by kernel_rfl)) rfl ?_
          obtain ⟨x9, hx9, h⟩ := bnd h
          refine dt (apRn (ys := ([x8] : List Int)) (xs := s5.2) (f := dI) lT26 uT26 szI rfl rfl rfl elT rfl hx9 (.s rfl (.s rfl (.s rfl .h))) rfl) rfl ?_
          refine ds (as_ rfl) rfl ?_
          refine dn (by kernel_rfl) ?_
          refine lr ?_
          refine ts (mv rfl) ?_
          refine ts (add rfl rfl) ?_
          refine ts (as_ rfl) ?_
          refine rn ?_
          obtain rfl := some_inj h
          exact ⟨rfl, (by (try simp only [List.length_set, copied_len]); exact trk (by kernel_rfl) (by kernel_rfl) (by kernel_rfl))⟩
        · refine cf rfl (bf c6) ?_
          refine CWp.exit ?_
          obtain rfl := some_inj h
          exact ⟨rfl, (by (try simp only [List.length_set, copied_len]); exact trk (by kernel_rfl) (by kernel_rfl) (by kernel_rfl))⟩
      · intro e s ht
        refine CWp.trim ht ?_
        refine sr ?_
        refine ts (fa fT39_0 rfl rfl) ?_
        refine ts (ld sT26 rfl (ow rfl) rfl) ?_
        refine ts (mv rfl) ?_
        obtain ⟨x11, hx11, h⟩ := bnd h
        refine tt (cl1 kf rfl (.c le1 (.w (le4 rfl rfl (.s rfl (.s rfl .h))) .n)) (ref15_Of_ok hx11) rfl) ?_
        refine tt0 (stW aT59 rfl rfl rfl rfl rfl rfl .h) ?_
        refine ts (ac rfl rfl) ?_
        refine rn ?_
        refine CWp.ret ?_
        obtain rfl := some_inj h
        exact ⟨trivial, rt2 (ex := false) (by exact (rcW aT59 rfl (ow rfl) rfl rfl (.t rfl .n))) (by exact (sc (gd (by rfl)) (sc (gd (by rfl)) sn))) (by rfl) (by rfl)⟩
theorem ref15_At_ok {p0 : api_Array} {p1 : Int} {out : Out} {r : Int} (h : ref15_At p0 p1 = some r) : FunOk PP 48 [.d (api_Array.d p0), .d (.int .i64 p1)] out ⟨.d (.int .i64 r), []⟩ := by
  unfold ref15_At at h
  refine fi Try.func48 rfl (by kernel_rfl) (by kernel_rfl) (by kernel_rfl) ?_
  refine sr ?_
  refine ta (bx (n := 0) rfl rfl rfl) ?_
  refine ts (ac rfl rfl) ?_
  refine rn ?_
  refine CWp.seq ?_
  refine sr ?_
  refine ts (fa fT59_0 rfl rfl) ?_
  refine ts (ld sT22 rfl (ow rfl) rfl) ?_
  refine ts (lnD lT22 rfl rfl) ?_
  refine ts (eql rfl rfl) ?_
  refine rn ?_
  rcases ite h with ⟨c1, h⟩ | ⟨c1, h⟩
  · refine ct rfl (et c1) ?_
    refine sr ?_
    refine ts (fa fT59_1 rfl rfl) ?_
    refine ts (ld sT26 rfl (ow rfl) rfl) ?_
    obtain ⟨x2, hx2, h⟩ := bnd h
    refine ts (ixD lT26 szI rfl rfl hx2) ?_
    refine ts (ldI sT3 rfl rfl) ?_
    refine ts (as_ rfl) ?_
    refine rn ?_
    refine CWp.ret ?_
    obtain rfl := some_inj h
    exact ⟨trivial, rt1 (ex := false) (by exact (.t rfl .n)) (by exact (gd (by rfl))) (by rfl) (by rfl)⟩
  · refine cf rfl (ef c1) ?_
    refine CWp.skip ?_
    refine sr ?_
    refine ts (fa fT59_1 rfl rfl) ?_
    refine ts (ld sT26 rfl (ow rfl) rfl) ?_
    refine ts (mv rfl) ?_
    obtain ⟨x3, hx3, h⟩ := bnd h
    refine ts (ixD lT26 szI rfl rfl hx3) ?_
    refine ts (ldI sT3 rfl rfl) ?_
    refine ts (as_ rfl) ?_
    refine rn ?_
    refine CWp.ret ?_
    obtain rfl := some_inj h
    exact ⟨trivial, rt1 (ex := false) (by exact (.t rfl .n)) (by exact (gd (by rfl))) (by rfl) (by rfl)⟩
theorem ref15_Stored_ok {p0 : api_Array} {p1 : (List api_Subscript)} {p2 : api_Array} {out : Out} {r : api_Array × Int} (h : ref15_Stored p0 p1 p2 = some r) : FunOk PP 47 [.d (api_Array.d p0), .d (.sl (p1.map api_Subscript.d)), .d (api_Array.d p2)] out ⟨.tup [.d (api_Array.d r.1), .d (.int .i64 r.2)], []⟩ := by
  unfold ref15_Stored at h
  refine fi Try.func47 rfl (by kernel_rfl) (by kernel_rfl) (by kernel_rfl) ?_
  refine sr ?_
  refine ta (bx (n := 0) rfl rfl rfl) ?_
  refine ta (bx (n := 0) rfl rfl rfl) ?_
  refine ta (al (n := 0) zT59 rfl) ?_
  refine ts (ac rfl rfl) ?_
  refine rn ?_
  refine CWp.seq ?_
  refine sr ?_
  refine ts (ldW (e := api_Array.d p0) aT59 rfl (ow rfl) rfl rfl) ?_
  obtain ⟨x1, hx1, h⟩ := bnd h
  refine ts (cl0 kf rfl (.c le1 .n) (ref15_Err_ok hx1) rfl) ?_
  refine ts (as_ rfl) ?_
  refine rn ?_
  refine sr ?_
  refine ts (mv rfl) ?_
  refine ts (neq rfl rfl) ?_
  refine rn ?_
  rcases ite h with ⟨c2, h⟩ | ⟨c2, h⟩
  · refine ct rfl (nt c2) ?_
    refine sr ?_
    refine ts ((bld (v := .d (.agg [.nilsl, .nilsl])) rfl (by kernel_rfl)).wk (x' := api_Array.d (api_Array.mk [] [])) rfl) ?_
    refine ts (mv rfl) ?_
    refine tt0 (stW aT59 rfl rfl rfl rfl rfl rfl .h) ?_
    refine ts (as_ rfl) ?_
    refine rn ?_
    refine CWp.ret ?_
    obtain rfl := some_inj h
    exact ⟨trivial, rt2 (ex := false) (by exact (rcW aT59 rfl (ow rfl) rfl rfl (.t rfl .n))) (by exact (sc (gd (by rfl)) (sc (gd (by rfl)) sn))) (by rfl) (by rfl)⟩
  · refine cf rfl (nf c2) ?_
    refine CWp.skip ?_
    refine CWp.seq ?_
    refine sr ?_
    refine ts (ldW (e := api_Array.d p2) aT59 rfl (ow rfl) rfl rfl) ?_
    obtain ⟨x3, hx3, h⟩ := bnd h
    refine ts (cl0 kf rfl (.c le1 .n) (ref15_Err_ok hx3) rfl) ?_
    refine ts (as_ rfl) ?_
    refine rn ?_
    refine sr ?_
    refine ts (mv rfl) ?_
    refine ts (neq rfl rfl) ?_
    refine rn ?_
    rcases ite h with ⟨c4, h⟩ | ⟨c4, h⟩
    · refine ct rfl (nt c4) ?_
      refine sr ?_
      refine ts ((bld (v := .d (.agg [.nilsl, .nilsl])) rfl (by kernel_rfl)).wk (x' := api_Array.d (api_Array.mk [] [])) rfl) ?_
      refine ts (mv rfl) ?_
      refine tt0 (stW aT59 rfl rfl rfl rfl rfl rfl .h) ?_
      refine ts (as_ rfl) ?_
      refine rn ?_
      refine CWp.ret ?_
      obtain rfl := some_inj h
      exact ⟨trivial, rt2 (ex := false) (by exact (rcW aT59 rfl (ow rfl) rfl rfl (.t rfl .n))) (by exact (sc (gd (by rfl)) (sc (gd (by rfl)) sn))) (by rfl) (by rfl)⟩
    · refine cf rfl (nf c4) ?_
      refine CWp.skip ?_
      refine sr ?_
      refine ts (fa fT59_0 rfl rfl) ?_
      refine ts (ld sT22 rfl (ow rfl) rfl) ?_
      refine ts (mv rfl) ?_
      obtain ⟨x5, hx5, h⟩ := bnd h
      refine ts (cl0 kf rfl (.c le1 (.c le1 .n)) (ref15_Section_ok hx5) rfl) ?_
      refine ts (mv rfl) ?_
      refine ts (ex_ rfl rfl) ?_
      refine ts (ex_ rfl rfl) ?_
      refine ta (al (n := 0) zT39 rfl) ?_
      refine tt0 (stW aT39 rfl rfl rfl rfl rfl rfl .h) ?_
      refine ts (as_ rfl) ?_
      refine rn ?_
      refine CWp.seq ?_
      refine sr ?_
      refine ts (mv rfl) ?_
      refine ts (neq rfl rfl) ?_
      refine rn ?_
      rcases ite h with ⟨c6, h⟩ | ⟨c6, h⟩
      · refine ct rfl (nt c6) ?_
        refine sr ?_
        refine ts ((bld (v := .d (.agg [.nilsl, .nilsl])) rfl (by kernel_rfl)).wk (x' := api_Array.d (api_Array.mk [] [])) rfl) ?_
        refine ts (mv rfl) ?_
        refine tt0 (stW aT59 rfl rfl rfl rfl rfl rfl (.s rfl .h)) ?_
        refine ts (as_ rfl) ?_
        refine rn ?_
        refine CWp.ret ?_
        obtain rfl := some_inj h
        exact ⟨trivial, rt2 (ex := false) (by exact (rcW aT59 rfl (ow rfl) rfl rfl (.t rfl .n))) (by exact (sc (gd (by rfl)) (sc (gd (by rfl)) sn))) (by rfl) (by rfl)⟩
      · refine cf rfl (nf c6) ?_
        refine CWp.skip ?_
        refine jn (E := fun a7 => [(3, .bptr ⟨out.length, 3, 0⟩ 0), (5, .bptr ⟨out.length, 5, 0⟩ 0), (6, .bptr ⟨out.length, 6, 0⟩ 0), (10, .bptr ⟨out.length, 10, 0⟩ 0)]) (M := fun a7 => ⟨[((3, 0), .box [.d (.sl (p0.Bounds.map api_Bound.d)), .d (.sl (p0.Elements.map dI))]), ((5, 0), .box [.d (.sl (p2.Bounds.map api_Bound.d)), .d (.sl (p2.Elements.map dI))]), ((6, 0), .box [.d .nilsl, .d .nilsl]), ((10, 0), .box [.d (.sl (x5.1.Extents.map dI)), .d (.sl (x5.1.Offsets.map dI)), .d (.bool x5.1.ManyOne)])], out, []⟩) (F := fun a7 => ref15_Stored.j1 p0 p2 x5 a7) (r := r) ?_ ?_
        · intro a7 h
          unfold ref15_Stored.j1 at h
          refine CWp.seq ?_
          refine sr ?_
          refine ts (fa fT39_2 rfl rfl) ?_
          refine ts (ld sT4 rfl (ow rfl) rfl) ?_
          refine rn ?_
          rcases ite h with ⟨c8, h⟩ | ⟨c8, h⟩
          · refine ct rfl c8 ?_
            refine sr ?_
            refine ts ((bld (v := .d (.agg [.nilsl, .nilsl])) rfl (by kernel_rfl)).wk (x' := api_Array.d (api_Array.mk [] [])) rfl) ?_
            refine tt0 (stW aT59 rfl rfl rfl rfl rfl rfl (.s rfl (.s rfl .h))) ?_
            refine ts (ac rfl rfl) ?_
            refine rn ?_
            refine CWp.ret ?_
            obtain rfl := some_inj h
            exact ⟨trivial, rt2 (ex := false) (by exact (rcW aT59 rfl (ow rfl) rfl rfl (.t rfl .n))) (by exact (sc (gd (by rfl)) (sc (gd (by rfl)) sn))) (by rfl) (by rfl)⟩
          · refine cf rfl (vf c8) ?_
            refine CWp.skip ?_
            refine sr ?_
            refine ts (ldW (e := api_Array.d p0) aT59 rfl (ow rfl) rfl rfl) ?_
            obtain ⟨x9, hx9, h⟩ := bnd h
            refine tas (ch0 (n := 0) (v' := .agg [.ref ⟨out.length, 55, 0⟩ 0 x9.Bounds.length x9.Bounds.length, .ref ⟨out.length, 55, 1⟩ 0 x9.Elements.length x9.Elements.length]) (bs := [((55, 0), .arr 2 false (x9.Bounds.map api_Bound.d)), ((55, 1), .arr 1 false (x9.Elements.map dI))]) kf rfl (.c le1 .n) (ref15_Copy_ok hx9) rfl rfl (by simp [homeVal, homeVals])) ?_
            refine ta (al (n := 0) zT59 rfl) ?_
            refine gz (Le.nilBox (t := 12) (n := 0) (t' := 1241) (n' := 0) (off := 1) (sz := 1) rfl rfl rfl rfl) ?_
            refine tt0 (stW aT59 rfl rfl rfl rfl rfl rfl (.s rfl .h)) ?_
            refine rn ?_
            refine CWp.seq ?_
            refine sr ?_
            refine ts (ac rfl rfl) ?_
            refine rn ?_
            obtain ⟨z15, hz15, h⟩ := bnd h
            refine lb (E := fun s10 => [(5, .bptr ⟨out.length, 5, 0⟩ 0), (6, .bptr ⟨out.length, 6, 0⟩ 0), (10, .bptr ⟨out.length, 10, 0⟩ 0), (12, .bptr ⟨out.length, 12, 0⟩ 0), (13, .d (.int .i64 s10.1))]) (M := fun s10 => ⟨[((5, 0), .box [.d (.sl (p2.Bounds.map api_Bound.d)), .d (.sl (p2.Elements.map dI))]), ((6, 0), .box [.d .nilsl, .d .nilsl]), ((10, 0), .box [.d (.sl (x5.1.Extents.map dI)), .d (.sl (x5.1.Offsets.map dI)), .d (.bool x5.1.ManyOne)]), ((12, 0), .box [.ref ⟨out.length, 55, 0⟩ 0 x9.Bounds.length x9.Bounds.length, .ref ⟨out.length, 55, 1⟩ 0 s10.2.length s10.2.length]), ((55, 0), .arr 2 false (x9.Bounds.map api_Bound.d)), ((55, 1), .arr 1 false (s10.2.map dI))], out, []⟩) (E' := fun y => [(6, .bptr ⟨out.length, 6, 0⟩ 0), (12, .bptr ⟨out.length, 12, 0⟩ 0)]) (M' := fun y => ⟨[((6, 0), .box [.d .nilsl, .d .nilsl]), ((12, 0), .box [.ref ⟨out.length, 55, 0⟩ 0 x9.Bounds.length x9.Bounds.length, .ref ⟨out.length, 55, 1⟩ 0 y.length y.length]), ((55, 0), .arr 2 false (x9.Bounds.map api_Bound.d)), ((55, 1), .arr 1 false (y.map dI))], out, []⟩) hz15 (by (try simp only [List.length_set, copied_len]); exact trk (by kernel_rfl) (by kernel_rfl) (by kernel_rfl)) ?_ ?_
            · intro s10 ww h
              unfold ref15_Stored.s2 at h
              refine CWp.seq ?_
              refine sr ?_
              refine ts (mv rfl) ?_
              refine ts (fa fT39_1 rfl rfl) ?_
              refine ts (ld sT26 rfl (ow rfl) rfl) ?_
              refine ts (lnD lT26 rfl rfl) ?_
              refine ts (lss rfl rfl) ?_
              refine rn ?_
              rcases ite h with ⟨c11, h⟩ | ⟨c11, h⟩
              · refine ct rfl (bt c11) ?_
                refine CWp.skip ?_
                refine CWp.seq ?_
                refine CWp.block ?_
                refine ld_ mixed (b := [0, 1, 0, 4, 0, 28, 60, 0, 0, 384, 1023, 2047]) (by kernel_rfl) ?_
                refine ds (fa fT59_1 rfl rfl) rfl ?_
                refine dr (ld sT26 rfl (ow rfl) rfl) rfl ?_
                refine ds (fa fT39_1 rfl rfl) rfl ?_
                refine dr (ld sT26 rfl (ow rfl) rfl) rfl ?_
                refine ds (mv rfl) rfl ?_
                obtain ⟨x12, hx12, h⟩ := bnd h
                refine ds (ixD lT26 szI rfl rfl hx12) rfl ?_
                refine dr (ldI sT3 rfl rfl) rfl ?_
                refine dr (ldW (e := api_Array.d p2) aT59 rfl (ow rfl) rfl rfl) rfl ?_
                refine ds (mv rfl) rfl ?_
                obtain ⟨x13, hx13, h⟩ := bnd h
                refine dr (cl0 kf rfl (.c le1 (.c le1 .n)) (ref15_At_ok hx13) rfl) rfl ?_
                obtain ⟨x14, hx14, h⟩ := bnd h
                refine dr (ixR lT26 rfl rfl rfl (ow rfl) hx14) rfl ?_
                refine dt0 (stE (b := x13) sT3 rfl rfl rfl rfl rfl hx14 rfl rfl (.s rfl (.s rfl (.s rfl (.s rfl (.s rfl .h)))))) rfl ?_
                refine dn (by kernel_rfl) ?_
                refine lr ?_
                refine ts (mv rfl) ?_
                refine ts (add rfl rfl) ?_
                refine ts (as_ rfl) ?_
                refine rn ?_
                obtain rfl := some_inj h
                exact ⟨rfl, (by (try simp only [List.length_set, copied_len]); exact trk (by kernel_rfl) (by kernel_rfl) (by kernel_rfl))⟩
              · refine cf rfl (bf c11) ?_
                refine CWp.exit ?_
                obtain rfl := some_inj h
                exact ⟨rfl, (by (try simp only [List.length_set, copied_len]); exact trk (by kernel_rfl) (by kernel_rfl) (by kernel_rfl))⟩
            · intro e s ht
              refine CWp.trim ht ?_
              refine sr ?_
              refine ts (ldA (v := .agg [.ref ⟨out.length, 55, 0⟩ 0 x9.Bounds.length x9.Bounds.length, .ref ⟨out.length, 55, 1⟩ 0 z15.length z15.length]) aT59 rfl (ow rfl) (by kernel_rfl)) ?_
              refine tt0 (stW aT59 rfl rfl rfl rfl rfl rfl .h) ?_
              refine ts (ac rfl rfl) ?_
              refine rn ?_
              refine CWp.ret ?_
              obtain rfl := some_inj h
              exact ⟨trivial, rt2 (ex := false) (by exact (rcA (v := .agg [.ref ⟨out.length, 55, 0⟩ 0 x9.Bounds.length x9.Bounds.length, .ref ⟨out.length, 55, 1⟩ 0 z15.length z15.length]) aT59 rfl (ow rfl) (by kernel_rfl) (.t rfl .n))) (by exact (sc (ga (sc (gf rfl rfl) (sc (gf rfl rfl) sn)) rfl) (sc (gd (by rfl)) sn))) (by rfl) (by rfl)⟩
        · refine sd mixed (b := [0, 1, 3, 7, 15, 31, 63, 127, 31, 287, 1023, 2047, 4095]) (by kernel_rfl) ?_
          refine ds (fa fT59_0 rfl rfl) rfl ?_
          refine dr (ld sT22 rfl (ow rfl) rfl) rfl ?_
          refine ds (lnD lT22 rfl rfl) rfl ?_
          refine ds (gtr rfl rfl) rfl ?_
          refine ds (mv rfl) rfl ?_
          rcases ite h with ⟨c7, h⟩ | ⟨c7, h⟩
          · refine vs (gy rfl rfl (bt c7)) (fa fT59_0 rfl rfl) rfl ?_
            refine vs (gy rfl rfl (bt c7)) (ld sT22 rfl (ow rfl) rfl) rfl ?_
            obtain ⟨x8, hx8, h⟩ := bnd h
            refine vs (gy rfl rfl (bt c7)) (cl0 kf rfl (.c le1 .n) (ref15_Extents_ok hx8) rfl) rfl ?_
            refine vs (gy rfl rfl (bt c7)) (fa fT39_0 rfl rfl) rfl ?_
            refine vs (gy rfl rfl (bt c7)) (ld sT26 rfl (ow rfl) rfl) rfl ?_
            obtain ⟨x9, hx9, h⟩ := bnd h
            refine vs (gy rfl rfl (bt c7)) (cl0 kf rfl (.c le1 (.c le1 .n)) (base_Ints_ok hx9) rfl) rfl ?_
            refine vs (gy rfl rfl (bt c7)) (not_ rfl) rfl ?_
            refine ds (pt rfl (bt c7) rfl) rfl ?_
            refine dn (by kernel_rfl) ?_
            rcases ite h with ⟨c10, h⟩ | ⟨c10, h⟩
            · refine ct rfl (not_t (vf c10)) ?_
              refine sr ?_
              refine ts ((bld (v := .d (.agg [.nilsl, .nilsl])) rfl (by kernel_rfl)).wk (x' := api_Array.d (api_Array.mk [] [])) rfl) ?_
              refine tt0 (stW aT59 rfl rfl rfl rfl rfl rfl (.s rfl .h)) ?_
              refine ts (ac rfl rfl) ?_
              refine rn ?_
              refine CWp.ret ?_
              obtain rfl := some_inj h
              exact ⟨trivial, rt2 (ex := false) (by exact (rcW aT59 rfl (ow rfl) rfl rfl (.t rfl .n))) (by exact (sc (gd (by rfl)) (sc (gd (by rfl)) sn))) (by rfl) (by rfl)⟩
            · refine cf rfl (not_f (Classical.not_not.1 c10)) ?_
              refine CWp.skip ?_
              exact ⟨(), h, (by (try simp only [List.length_set, copied_len]); exact trk (by kernel_rfl) (by kernel_rfl) (by kernel_rfl))⟩
          · refine vn (gn rfl rfl (bf c7)) ?_
            refine vn (gn rfl rfl (bf c7)) ?_
            refine vn (gn rfl rfl (bf c7)) ?_
            refine vn (gn rfl rfl (bf c7)) ?_
            refine vn (gn rfl rfl (bf c7)) ?_
            refine vn (gn rfl rfl (bf c7)) ?_
            refine vn (gn rfl rfl (bf c7)) ?_
            refine ds (pf rfl (bf c7) rfl) rfl ?_
            refine dn (by kernel_rfl) ?_
            refine cf rfl rfl ?_
            refine CWp.skip ?_
            exact ⟨(), h, (by (try simp only [List.length_set, copied_len]); exact trk (by kernel_rfl) (by kernel_rfl) (by kernel_rfl))⟩
theorem ref15_Same_ok {p0 : api_Array} {p1 : api_Array} {out : Out} {r : Bool} (h : ref15_Same p0 p1 = some r) : FunOk PP 49 [.d (api_Array.d p0), .d (api_Array.d p1)] out ⟨.d (.bool r), []⟩ := by
  unfold ref15_Same at h
  refine fi Try.func49 rfl (by kernel_rfl) (by kernel_rfl) (by kernel_rfl) ?_
  refine sr ?_
  refine ta (bx (n := 0) rfl rfl rfl) ?_
  refine ta (bx (n := 0) rfl rfl rfl) ?_
  refine ts (ac rfl rfl) ?_
  refine rn ?_
  refine CWp.seq ?_
  refine sr ?_
  refine ts (fa fT59_0 rfl rfl) ?_
  refine ts (ld sT22 rfl (ow rfl) rfl) ?_
  refine ts (lnD lT22 rfl rfl) ?_
  refine ts (fa fT59_0 rfl rfl) ?_
  refine ts (ld sT22 rfl (ow rfl) rfl) ?_
  refine ts (lnD lT22 rfl rfl) ?_
  refine ts (neq rfl rfl) ?_
  refine ts (mv rfl) ?_
  rcases ite h with ⟨c1, h⟩ | ⟨c1, h⟩
  · refine un (gn rfl rfl (nt c1)) ?_
    refine un (gn rfl rfl (nt c1)) ?_
    refine un (gn rfl rfl (nt c1)) ?_
    refine un (gn rfl rfl (nt c1)) ?_
    refine un (gn rfl rfl (nt c1)) ?_
    refine un (gn rfl rfl (nt c1)) ?_
    refine ts (pt rfl (nt c1) rfl) ?_
    refine rn ?_
    refine ct rfl rfl ?_
    refine sr ?_
    refine ts (ac rfl rfl) ?_
    refine rn ?_
    refine CWp.ret ?_
    obtain rfl := some_inj h
    exact ⟨trivial, rt1 (ex := false) (by exact (.t rfl .n)) (by exact (gd (by rfl))) (by rfl) (by rfl)⟩
  · refine us (gy rfl rfl (nf c1)) (fa fT59_1 rfl rfl) ?_
    refine us (gy rfl rfl (nf c1)) (ld sT26 rfl (ow rfl) rfl) ?_
    refine us (gy rfl rfl (nf c1)) (fa fT59_1 rfl rfl) ?_
    refine us (gy rfl rfl (nf c1)) (ld sT26 rfl (ow rfl) rfl) ?_
    obtain ⟨x2, hx2, h⟩ := bnd h
    refine us (gy rfl rfl (nf c1)) (cl0 kf rfl (.c le1 (.c le1 .n)) (base_Ints_ok hx2) rfl) ?_
    refine us (gy rfl rfl (nf c1)) (not_ rfl) ?_
    refine ts (pf rfl (nf c1) rfl) ?_
    refine rn ?_
    rcases ite h with ⟨c3, h⟩ | ⟨c3, h⟩
    · refine ct rfl (not_t (vf c3)) ?_
      refine sr ?_
      refine ts (ac rfl rfl) ?_
      refine rn ?_
      refine CWp.ret ?_
      obtain rfl := some_inj h
      exact ⟨trivial, rt1 (ex := false) (by exact (.t rfl .n)) (by exact (gd (by rfl))) (by rfl) (by rfl)⟩
    · refine cf rfl (not_f (Classical.not_not.1 c3)) ?_
      refine CWp.skip ?_
      refine CWp.seq ?_
      refine sr ?_
      refine ts (ac rfl rfl) ?_
      refine rn ?_
      obtain ⟨z9, hz9, h⟩ := bnd h
      refine lbr (E := fun s4 => [(2, .bptr ⟨out.length, 2, 0⟩ 0), (3, .bptr ⟨out.length, 3, 0⟩ 0), (5, .d (.int .i64 s4))]) (M := fun s4 => ⟨[((2, 0), .box [.d (.sl (p0.Bounds.map api_Bound.d)), .d (.sl (p0.Elements.map dI))]), ((3, 0), .box [.d (.sl (p1.Bounds.map api_Bound.d)), .d (.sl (p1.Elements.map dI))])], out, []⟩) (E' := fun y => []) (M' := fun y => ⟨[], out, []⟩) (RT := fun r e s => Lx.Returns PP Try.f49.results.toList e s ⟨.d (.bool r), []⟩) hz9 (by (try simp only [List.length_set, copied_len]); exact trk (by kernel_rfl) (by kernel_rfl) (by kernel_rfl)) ?_ ?_
      · intro s4 ww h
        unfold ref15_Same.s1 at h
        refine CWp.seq ?_
        refine sr ?_
        refine ts (mv rfl) ?_
        refine ts (fa fT59_0 rfl rfl) ?_
        refine ts (ld sT22 rfl (ow rfl) rfl) ?_
        refine ts (lnD lT22 rfl rfl) ?_
        refine ts (lss rfl rfl) ?_
        refine rn ?_
        rcases ite h with ⟨c5, h⟩ | ⟨c5, h⟩
        · refine ct rfl (bt c5) ?_
          refine CWp.skip ?_
          refine CWp.seq ?_
          refine CWp.block ?_
          refine sd mixed (b := [0, 1, 0, 7, 15, 0, 32, 0, 224, 480, 1023]) (by kernel_rfl) ?_
          refine ds (fa fT59_0 rfl rfl) rfl ?_
          refine dr (ld sT22 rfl (ow rfl) rfl) rfl ?_
          refine ds (mv rfl) rfl ?_
          obtain ⟨x6, hx6, h⟩ := bnd h
          refine ds (ixD lT22 api_Bound.sz rfl rfl hx6) rfl ?_
          refine dr (ldIW aT31 rfl rfl rfl) rfl ?_
          refine ds (fa fT59_0 rfl rfl) rfl ?_
          refine dr (ld sT22 rfl (ow rfl) rfl) rfl ?_
          refine ds (mv rfl) rfl ?_
          obtain ⟨x7, hx7, h⟩ := bnd h
          refine ds (ixD lT22 api_Bound.sz rfl rfl hx7) rfl ?_
          refine dr (ldIW aT31 rfl rfl rfl) rfl ?_
          refine ds (sne_ (r := ((x6.Low == x7.Low) && ((x6.High == x7.High) && true))) rfl rfl ffT31 (by kernel_rfl)) rfl ?_
          refine dn (by kernel_rfl) ?_
          rcases ite h with ⟨c8, h⟩ | ⟨c8, h⟩
          · refine ct rfl (not_t (vf c8)) ?_
            refine sr ?_
            refine ts (ac rfl rfl) ?_
            refine rn ?_
            refine CWp.ret ?_
            obtain rfl := some_inj h
            exact ⟨rfl, rt1 (ex := false) (by exact (.t rfl .n)) (by exact (gd (by rfl))) (by rfl) (by rfl)⟩
          · refine cf rfl (not_f (Classical.not_not.1 c8)) ?_
            refine CWp.skip ?_
            refine lr ?_
            refine ts (mv rfl) ?_
            refine ts (add rfl rfl) ?_
            refine ts (as_ rfl) ?_
            refine rn ?_
            obtain rfl := some_inj h
            exact ⟨rfl, (by (try simp only [List.length_set, copied_len]); exact trk (by kernel_rfl) (by kernel_rfl) (by kernel_rfl))⟩
        · refine cf rfl (bf c5) ?_
          refine CWp.exit ?_
          obtain rfl := some_inj h
          exact ⟨rfl, (by (try simp only [List.length_set, copied_len]); exact trk (by kernel_rfl) (by kernel_rfl) (by kernel_rfl))⟩
      · cases z9 with
        | inl v10 =>
          intro e s ht
          refine CWp.trim ht ?_
          refine sr ?_
          refine ts (ac rfl rfl) ?_
          refine rn ?_
          refine CWp.ret ?_
          obtain rfl := some_inj h
          exact ⟨trivial, rt1 (ex := false) (by exact (.t rfl .n)) (by exact (gd (by rfl))) (by rfl) (by rfl)⟩
        | inr r11 =>
          intro e s hr
          obtain rfl := some_inj h
          exact ⟨trivial, hr⟩
theorem law15_is_ok {p0 : api_Array} {p1 : Int} {p2 : api_Array} {p3 : Int} {out : Out} {r : Bool} (h : law15_is p0 p1 p2 p3 = some r) : FunOk PP 36 [.d (api_Array.d p0), .d (.int .i64 p1), .d (api_Array.d p2), .d (.int .i64 p3)] out ⟨.d (.bool r), []⟩ := by
  unfold law15_is at h
  refine fi Try.func36 rfl (by kernel_rfl) (by kernel_rfl) (by kernel_rfl) ?_
  refine sr ?_
  refine ta (bx (n := 0) rfl rfl rfl) ?_
  refine ta (bx (n := 0) rfl rfl rfl) ?_
  refine ts (ac rfl rfl) ?_
  refine rn ?_
  refine sr ?_
  refine ts (mv rfl) ?_
  refine ts (mv rfl) ?_
  refine ts (eql rfl rfl) ?_
  refine ts (mv rfl) ?_
  rcases ite h with ⟨c1, h⟩ | ⟨c1, h⟩
  · refine us (gy rfl rfl (et c1)) (ldW (e := api_Array.d p0) aT59 rfl (ow rfl) rfl rfl) ?_
    refine us (gy rfl rfl (et c1)) (ldW (e := api_Array.d p2) aT59 rfl (ow rfl) rfl rfl) ?_
    obtain ⟨x2, hx2, h⟩ := bnd h
    refine us (gy rfl rfl (et c1)) (cl0 kf rfl (.c le1 (.c le1 .n)) (ref15_Same_ok hx2) rfl) ?_
    refine ts (pt rfl (et c1) rfl) ?_
    refine ts (as_ rfl) ?_
    refine rn ?_
    refine CWp.ret ?_
    obtain rfl := some_inj h
    exact ⟨trivial, rt1 (ex := false) (by exact (.t rfl .n)) (by exact (gd (by rfl))) (by rfl) (by rfl)⟩
  · refine un (gn rfl rfl (ef c1)) ?_
    refine un (gn rfl rfl (ef c1)) ?_
    refine un (gn rfl rfl (ef c1)) ?_
    refine ts (pf rfl (ef c1) rfl) ?_
    refine ts (as_ rfl) ?_
    refine rn ?_
    refine CWp.ret ?_
    obtain rfl := some_inj h
    exact ⟨trivial, rt1 (ex := false) (by exact (.t rfl .n)) (by exact (gd (by rfl))) (by rfl) (by rfl)⟩
theorem law15_ShapesStores_ok {p0 : api_Array} {p1 : (List api_Subscript)} {p2 : api_Array} {out : Out} {r : Bool} (h : law15_ShapesStores p0 p1 p2 = some r) : FunOk PP 7 [.d (api_Array.d p0), .d (.sl (p1.map api_Subscript.d)), .d (api_Array.d p2)] out ⟨.d (.bool r), []⟩ := by
  unfold law15_ShapesStores at h
  refine fi Try.func7 rfl (by kernel_rfl) (by kernel_rfl) (by kernel_rfl) ?_
  refine sr ?_
  refine ta (bx (n := 0) rfl rfl rfl) ?_
  refine ta (bx (n := 0) rfl rfl rfl) ?_
  refine ts (ac rfl rfl) ?_
  refine rn ?_
  refine CWp.seq ?_
  refine sr ?_
  obtain ⟨x1, hx1, h⟩ := bnd h
  refine ts (cl0 kf rfl .n (law15_awake_ok hx1) rfl) ?_
  refine ts (not_ rfl) ?_
  refine rn ?_
  rcases ite h with ⟨c2, h⟩ | ⟨c2, h⟩
  · refine ct rfl (not_t (vf c2)) ?_
    refine sr ?_
    refine ts (ac rfl rfl) ?_
    refine rn ?_
    refine CWp.ret ?_
    obtain rfl := some_inj h
    exact ⟨trivial, rt1 (ex := false) (by exact (.t rfl .n)) (by exact (gd (by rfl))) (by rfl) (by rfl)⟩
  · refine cf rfl (not_f (Classical.not_not.1 c2)) ?_
    refine CWp.skip ?_
    refine CWp.seq ?_
    refine sr ?_
    refine ts (ldW (e := api_Array.d p0) aT59 rfl (ow rfl) rfl rfl) ?_
    refine ts (cl0 kf rfl (.c le1 .n) (law15_few_ok rfl) rfl) ?_
    refine ts (not_ rfl) ?_
    refine ts (mv rfl) ?_
    refine sg 4 [(29, .d (.bool ((!(law15_few p0)) || (!(law15_few p2)))))] ?_ ?_
    · rcases bool_or (!(law15_few p0)) with g3 | g4
      · refine un (gn rfl rfl g3) ?_
        refine un (gn rfl rfl g3) ?_
        refine un (gn rfl rfl g3) ?_
        refine ts (pt rfl g3 rfl) ?_
        exact rn (trD 4 rfl (.c (bq (or_t g3)) .n) (by kernel_rfl))
      · refine us (gy rfl rfl g4) (ldW (e := api_Array.d p2) aT59 rfl (ow rfl) rfl rfl) ?_
        refine us (gy rfl rfl g4) (cl0 kf rfl (.c le1 .n) (law15_few_ok rfl) rfl) ?_
        refine us (gy rfl rfl g4) (not_ rfl) ?_
        refine ts (pf rfl g4 rfl) ?_
        exact rn (trD 4 rfl (.c (bq (or_f g4)) .n) (by kernel_rfl))
    refine ts (mv rfl) ?_
    rcases ite h with ⟨c5, h⟩ | ⟨c5, h⟩
    · refine un (gn rfl rfl c5) ?_
      refine un (gn rfl rfl c5) ?_
      refine un (gn rfl rfl c5) ?_
      refine ts (pt rfl c5 rfl) ?_
      refine rn ?_
      refine ct rfl rfl ?_
      refine sr ?_
      refine ts (ac rfl rfl) ?_
      refine rn ?_
      refine CWp.ret ?_
      obtain rfl := some_inj h
      exact ⟨trivial, rt1 (ex := false) (by exact (.t rfl .n)) (by exact (gd (by rfl))) (by rfl) (by rfl)⟩
    · refine us (gy rfl rfl (vf c5)) (mv rfl) ?_
      obtain ⟨x6, hx6, h⟩ := bnd h
      refine us (gy rfl rfl (vf c5)) (cl0 kf rfl (.c le1 .n) (law15_brief_ok hx6) rfl) ?_
      refine us (gy rfl rfl (vf c5)) (not_ rfl) ?_
      refine ts (pf rfl (vf c5) rfl) ?_
      refine rn ?_
      rcases ite h with ⟨c7, h⟩ | ⟨c7, h⟩
      · refine ct rfl (not_t (vf c7)) ?_
        refine sr ?_
        refine ts (ac rfl rfl) ?_
        refine rn ?_
        refine CWp.ret ?_
        obtain rfl := some_inj h
        exact ⟨trivial, rt1 (ex := false) (by exact (.t rfl .n)) (by exact (gd (by rfl))) (by rfl) (by rfl)⟩
      · refine cf rfl (not_f (Classical.not_not.1 c7)) ?_
        refine CWp.skip ?_
        refine sr ?_
        refine ts (ldW (e := api_Array.d p0) aT59 rfl (ow rfl) rfl rfl) ?_
        obtain ⟨x8, hx8, h⟩ := bnd h
        refine ts (cz0 (v' := .d (api_Array.d x8)) kf rfl (.c le1 .n) (ref15_Copy_ok hx8) rfl rfl) ?_
        refine ts (mv rfl) ?_
        obtain ⟨x9, hx9, h⟩ := bnd h
        refine ts (cl0 kf rfl (.c le1 .n) (ref15_CopySubscripts_ok hx9) rfl) ?_
        obtain ⟨x10, hx10, h⟩ := bnd h
        refine ts (cl0 kf rfl (.c le1 (.c le1 .n)) (shapes_Taken_ok hx10) rfl) ?_
        refine ts (mv rfl) ?_
        refine ts (ex_ rfl rfl) ?_
        refine ts (ex_ rfl rfl) ?_
        refine ta (al (n := 0) zT59 rfl) ?_
        refine tt0 (stW aT59 rfl rfl rfl rfl rfl rfl .h) ?_
        refine ts (as_ rfl) ?_
        refine rn ?_
        refine sd mixed (b := [0, 1, 0, 7, 0, 31, 63, 127, 255, 255, 0, 1535, 4095]) (by kernel_rfl) ?_
        refine dr (ldW (e := api_Array.d p0) aT59 rfl (ow rfl) rfl rfl) rfl ?_
        obtain ⟨x11, hx11, h⟩ := bnd h
        refine dr (cz0 (v' := .d (api_Array.d x11)) kf rfl (.c le1 .n) (ref15_Copy_ok hx11) rfl rfl) rfl ?_
        refine ds (mv rfl) rfl ?_
        obtain ⟨x12, hx12, h⟩ := bnd h
        refine dr (cl0 kf rfl (.c le1 .n) (ref15_CopySubscripts_ok hx12) rfl) rfl ?_
        refine dr (ldW (e := api_Array.d p2) aT59 rfl (ow rfl) rfl rfl) rfl ?_
        obtain ⟨x13, hx13, h⟩ := bnd h
        refine dr (cz0 (v' := .d (api_Array.d x13)) kf rfl (.c le1 .n) (ref15_Copy_ok hx13) rfl rfl) rfl ?_
        obtain ⟨x14, hx14, h⟩ := bnd h
        refine dr (cl0 kf rfl (.c le1 (.c le1 (.c le1 .n))) (shapes_Stored_ok hx14) rfl) rfl ?_
        refine ds (mv rfl) rfl ?_
        refine ds (ex_ rfl rfl) rfl ?_
        refine ds (ex_ rfl rfl) rfl ?_
        refine da (al (n := 0) zT59 rfl) rfl ?_
        refine et0 rfl (stW aT59 rfl rfl rfl rfl rfl rfl .h) (by kernel_rfl) rfl ?_
        refine ds (as_ rfl) rfl ?_
        refine dn (by kernel_rfl) ?_
        refine sr ?_
        refine ts (ldW (e := api_Array.d p0) aT59 rfl (ow rfl) rfl rfl) ?_
        refine ts (mv rfl) ?_
        obtain ⟨x15, hx15, h⟩ := bnd h
        refine ts (cl0 kf rfl (.c le1 (.c le1 .n)) (ref15_Taken_ok hx15) rfl) ?_
        refine ts (mv rfl) ?_
        refine ts (ex_ rfl rfl) ?_
        refine ts (ex_ rfl rfl) ?_
        refine ta (al (n := 0) zT59 rfl) ?_
        refine tt0 (stW aT59 rfl rfl rfl rfl rfl rfl .h) ?_
        refine ts (as_ rfl) ?_
        refine rn ?_
        refine sr ?_
        refine ts (ldW (e := api_Array.d p0) aT59 rfl (ow rfl) rfl rfl) ?_
        refine ts (mv rfl) ?_
        refine ts (ldW (e := api_Array.d p2) aT59 rfl (ow rfl) rfl rfl) ?_
        obtain ⟨x16, hx16, h⟩ := bnd h
        refine ts (cl0 kf rfl (.c le1 (.c le1 (.c le1 .n))) (ref15_Stored_ok hx16) rfl) ?_
        refine ts (mv rfl) ?_
        refine ts (ex_ rfl rfl) ?_
        refine ts (ex_ rfl rfl) ?_
        refine ta (al (n := 0) zT59 rfl) ?_
        refine tt0 (stW aT59 rfl rfl rfl rfl rfl rfl .h) ?_
        refine ts (as_ rfl) ?_
        refine rn ?_
        refine CWp.seq ?_
        refine sr ?_
        refine ts (ldW (e := api_Array.d x10.1) aT59 rfl (ow rfl) rfl rfl) ?_
        refine ts (mv rfl) ?_
        refine ts (ldW (e := api_Array.d x15.1) aT59 rfl (ow rfl) rfl rfl) ?_
        refine ts (mv rfl) ?_
        obtain ⟨x17, hx17, h⟩ := bnd h
        refine ts (cl0 kf rfl (.c le1 (.c le1 (.c le1 (.c le1 .n)))) (law15_is_ok hx17) rfl) ?_
        refine ts (not_ rfl) ?_
        refine ts (mv rfl) ?_
        rcases ite h with ⟨c18, h⟩ | ⟨c18, h⟩
        · refine un (gn rfl rfl (not_t (vf c18))) ?_
          refine un (gn rfl rfl (not_t (vf c18))) ?_
          refine un (gn rfl rfl (not_t (vf c18))) ?_
          refine un (gn rfl rfl (not_t (vf c18))) ?_
          refine un (gn rfl rfl (not_t (vf c18))) ?_
          refine un (gn rfl rfl (not_t (vf c18))) ?_
          refine ts (pt rfl (not_t (vf c18)) rfl) ?_
          refine rn ?_
          refine ct rfl rfl ?_
          refine sr ?_
          refine ts (ac rfl rfl) ?_
          refine rn ?_
          refine CWp.ret ?_
          obtain rfl := some_inj h
          exact ⟨trivial, rt1 (ex := false) (by exact (.t rfl .n)) (by exact (gd (by rfl))) (by rfl) (by rfl)⟩
        · refine us (gy rfl rfl (not_f (Classical.not_not.1 c18))) (ldW (e := api_Array.d x14.1) aT59 rfl (ow rfl) rfl rfl) ?_
          refine us (gy rfl rfl (not_f (Classical.not_not.1 c18))) (mv rfl) ?_
          refine us (gy rfl rfl (not_f (Classical.not_not.1 c18))) (ldW (e := api_Array.d x16.1) aT59 rfl (ow rfl) rfl rfl) ?_
          refine us (gy rfl rfl (not_f (Classical.not_not.1 c18))) (mv rfl) ?_
          obtain ⟨x19, hx19, h⟩ := bnd h
          refine us (gy rfl rfl (not_f (Classical.not_not.1 c18))) (cl0 kf rfl (.c le1 (.c le1 (.c le1 (.c le1 .n)))) (law15_is_ok hx19) rfl) ?_
          refine us (gy rfl rfl (not_f (Classical.not_not.1 c18))) (not_ rfl) ?_
          refine ts (pf rfl (not_f (Classical.not_not.1 c18)) rfl) ?_
          refine rn ?_
          rcases ite h with ⟨c20, h⟩ | ⟨c20, h⟩
          · refine ct rfl (not_t (vf c20)) ?_
            refine sr ?_
            refine ts (ac rfl rfl) ?_
            refine rn ?_
            refine CWp.ret ?_
            obtain rfl := some_inj h
            exact ⟨trivial, rt1 (ex := false) (by exact (.t rfl .n)) (by exact (gd (by rfl))) (by rfl) (by rfl)⟩
          · refine cf rfl (not_f (Classical.not_not.1 c20)) ?_
            refine CWp.skip ?_
            refine jn (E := fun a21 => [(1, .d (.sl (p1.map api_Subscript.d))), (3, .bptr ⟨out.length, 3, 0⟩ 0), (7, .bptr ⟨out.length, 7, 0⟩ 0), (12, .d (.int .i64 x15.2))]) (M := fun a21 => ⟨[((3, 0), .box [.d (.sl (p0.Bounds.map api_Bound.d)), .d (.sl (p0.Elements.map dI))]), ((7, 0), .box [.d (.sl (x10.1.Bounds.map api_Bound.d)), .d (.sl (x10.1.Elements.map dI))])], out, []⟩) (F := fun a21 => law15_ShapesStores.j1 p0 p1 x10 x15 a21) (r := r) ?_ ?_
            · intro a21 h
              unfold law15_ShapesStores.j1 at h
              refine CWp.seq ?_
              refine sr ?_
              refine ts (mv rfl) ?_
              refine ts (neq rfl rfl) ?_
              refine rn ?_
              rcases ite h with ⟨c22, h⟩ | ⟨c22, h⟩
              · refine ct rfl (nt c22) ?_
                refine sr ?_
                refine ts (ac rfl rfl) ?_
                refine rn ?_
                refine CWp.ret ?_
                obtain rfl := some_inj h
                exact ⟨trivial, rt1 (ex := false) (by exact (.t rfl .n)) (by exact (gd (by rfl))) (by rfl) (by rfl)⟩
              · refine cf rfl (nf c22) ?_
                refine CWp.skip ?_
                refine sd mixed (b := [0, 1, 0, 7, 0, 31, 63, 127, 255, 255, 0, 1535, 4095]) (by kernel_rfl) ?_
                refine dr (ldW (e := api_Array.d p0) aT59 rfl (ow rfl) rfl rfl) rfl ?_
                obtain ⟨x23, hx23, h⟩ := bnd h
                refine dr (cz0 (v' := .d (api_Array.d x23)) kf rfl (.c le1 .n) (ref15_Copy_ok hx23) rfl rfl) rfl ?_
                refine ds (mv rfl) rfl ?_
                obtain ⟨x24, hx24, h⟩ := bnd h
                refine dr (cl0 kf rfl (.c le1 .n) (ref15_CopySubscripts_ok hx24) rfl) rfl ?_
                refine dr (ldW (e := api_Array.d x10.1) aT59 rfl (ow rfl) rfl rfl) rfl ?_
                obtain ⟨x25, hx25, h⟩ := bnd h
                refine dr (cz0 (v' := .d (api_Array.d x25)) kf rfl (.c le1 .n) (ref15_Copy_ok hx25) rfl rfl) rfl ?_
                obtain ⟨x26, hx26, h⟩ := bnd h
                refine dr (cl0 kf rfl (.c le1 (.c le1 (.c le1 .n))) (shapes_Stored_ok hx26) rfl) rfl ?_
                refine ds (mv rfl) rfl ?_
                refine ds (ex_ rfl rfl) rfl ?_
                refine ds (ex_ rfl rfl) rfl ?_
                refine da (al (n := 0) zT59 rfl) rfl ?_
                refine et0 rfl (stW aT59 rfl rfl rfl rfl rfl rfl .h) (by kernel_rfl) rfl ?_
                refine ds (as_ rfl) rfl ?_
                refine dn (by kernel_rfl) ?_
                refine sr ?_
                refine ts (mv rfl) ?_
                refine ts (eql rfl rfl) ?_
                refine ts (mv rfl) ?_
                rcases ite h with ⟨c27, h⟩ | ⟨c27, h⟩
                · refine un (gn rfl rfl (et c27)) ?_
                  refine un (gn rfl rfl (et c27)) ?_
                  refine un (gn rfl rfl (et c27)) ?_
                  refine un (gu rfl rfl) ?_
                  refine un (gu rfl rfl) ?_
                  refine un (gu rfl rfl) ?_
                  refine un (gn rfl rfl (et c27)) ?_
                  refine ts (pt rfl (et c27) rfl) ?_
                  refine ts (as_ rfl) ?_
                  refine rn ?_
                  refine CWp.ret ?_
                  obtain rfl := some_inj h
                  exact ⟨trivial, rt1 (ex := false) (by exact (.t rfl .n)) (by exact (gd (by rfl))) (by rfl) (by rfl)⟩
                · refine us (gy rfl rfl (ef c27)) (mv rfl) ?_
                  refine us (gy rfl rfl (ef c27)) (eql rfl rfl) ?_
                  refine us (gy rfl rfl (ef c27)) (mv rfl) ?_
                  rcases ite h with ⟨c28, h⟩ | ⟨c28, h⟩
                  · refine us (gy rfl rfl (et c28)) (ldW (e := api_Array.d x26.1) aT59 rfl (ow rfl) rfl rfl) ?_
                    refine us (gy rfl rfl (et c28)) (ldW (e := api_Array.d p0) aT59 rfl (ow rfl) rfl rfl) ?_
                    obtain ⟨x29, hx29, h⟩ := bnd h
                    refine us (gy rfl rfl (et c28)) (cl0 kf rfl (.c le1 (.c le1 .n)) (ref15_Same_ok hx29) rfl) ?_
                    refine us (gy rfl rfl (ef c27)) (pt rfl (et c28) rfl) ?_
                    refine ts (pf rfl (ef c27) rfl) ?_
                    refine ts (as_ rfl) ?_
                    refine rn ?_
                    refine CWp.ret ?_
                    obtain rfl := some_inj h
                    exact ⟨trivial, rt1 (ex := false) (by exact (.t rfl .n)) (by exact (gd (by rfl))) (by rfl) (by rfl)⟩
                  · refine un (gn rfl rfl (ef c28)) ?_
                    refine un (gn rfl rfl (ef c28)) ?_
                    refine un (gn rfl rfl (ef c28)) ?_
                    refine us (gy rfl rfl (ef c27)) (pf rfl (ef c28) rfl) ?_
                    refine ts (pf rfl (ef c27) rfl) ?_
                    refine ts (as_ rfl) ?_
                    refine rn ?_
                    refine CWp.ret ?_
                    obtain rfl := some_inj h
                    exact ⟨trivial, rt1 (ex := false) (by exact (.t rfl .n)) (by exact (gd (by rfl))) (by rfl) (by rfl)⟩
            · refine sr ?_
              refine ts (mv rfl) ?_
              refine ts (eql rfl rfl) ?_
              refine rn ?_
              rcases ite h with ⟨c21, h⟩ | ⟨c21, h⟩
              · refine ct rfl (et c21) ?_
                refine sr ?_
                refine ts (ldW (e := api_Array.d x14.1) aT59 rfl (ow rfl) rfl rfl) ?_
                obtain ⟨x22, hx22, h⟩ := bnd h
                refine ts (cz0 (v' := .d (api_Array.d x22)) kf rfl (.c le1 .n) (ref15_Copy_ok hx22) rfl rfl) ?_
                refine ts (mv rfl) ?_
                obtain ⟨x23, hx23, h⟩ := bnd h
                refine ts (cl0 kf rfl (.c le1 .n) (ref15_CopySubscripts_ok hx23) rfl) ?_
                obtain ⟨x24, hx24, h⟩ := bnd h
                refine ts (cl0 kf rfl (.c le1 (.c le1 .n)) (shapes_Taken_ok hx24) rfl) ?_
                refine ts (mv rfl) ?_
                refine ts (ex_ rfl rfl) ?_
                refine ts (ex_ rfl rfl) ?_
                refine ta (al (n := 0) zT59 rfl) ?_
                refine tt0 (stW aT59 rfl rfl rfl rfl rfl rfl .h) ?_
                refine ts (as_ rfl) ?_
                refine rn ?_
                refine CWp.seq ?_
                refine sr ?_
                refine ts (mv rfl) ?_
                refine ts (neq rfl rfl) ?_
                refine ts (mv rfl) ?_
                refine sg 8 [(100, .d (.bool ((x24.2 != 0) || ((x24.1.Elements.length : Int) != (x10.1.Elements.length : Int)))))] ?_ ?_
                · rcases bool_or (x24.2 != 0) with g25 | g26
                  · refine un (gn rfl rfl g25) ?_
                    refine un (gn rfl rfl g25) ?_
                    refine un (gn rfl rfl g25) ?_
                    refine un (gn rfl rfl g25) ?_
                    refine un (gn rfl rfl g25) ?_
                    refine un (gn rfl rfl g25) ?_
                    refine un (gn rfl rfl g25) ?_
                    refine ts (pt rfl g25 rfl) ?_
                    exact rn (trD 8 rfl (.c (bq (or_t g25)) .n) (by kernel_rfl))
                  · refine us (gy rfl rfl g26) (fa fT59_1 rfl rfl) ?_
                    refine us (gy rfl rfl g26) (ld sT26 rfl (ow rfl) rfl) ?_
                    refine us (gy rfl rfl g26) (lnD lT26 rfl rfl) ?_
                    refine us (gy rfl rfl g26) (fa fT59_1 rfl rfl) ?_
                    refine us (gy rfl rfl g26) (ld sT26 rfl (ow rfl) rfl) ?_
                    refine us (gy rfl rfl g26) (lnD lT26 rfl rfl) ?_
                    refine us (gy rfl rfl g26) (neq rfl rfl) ?_
                    refine ts (pf rfl g26 rfl) ?_
                    exact rn (trD 8 rfl (.c (bq (or_f g26)) .n) (by kernel_rfl))
                refine rn ?_
                rcases ite h with ⟨c27, h⟩ | ⟨c27, h⟩
                · refine ct rfl c27 ?_
                  refine sr ?_
                  refine ts (ac rfl rfl) ?_
                  refine rn ?_
                  refine CWp.ret ?_
                  obtain rfl := some_inj h
                  exact ⟨trivial, rt1 (ex := false) (by exact (.t rfl .n)) (by exact (gd (by rfl))) (by rfl) (by rfl)⟩
                · refine cf rfl (vf c27) ?_
                  refine CWp.skip ?_
                  refine sr ?_
                  refine ts (ac rfl rfl) ?_
                  refine rn ?_
                  obtain ⟨z33, hz33, h⟩ := bnd h
                  refine lbr (E := fun s28 => [(1, .d (.sl (p1.map api_Subscript.d))), (3, .bptr ⟨out.length, 3, 0⟩ 0), (5, .bptr ⟨out.length, 5, 0⟩ 0), (7, .bptr ⟨out.length, 7, 0⟩ 0), (12, .d (.int .i64 x15.2)), (15, .bptr ⟨out.length, 15, 0⟩ 0), (17, .d (.int .i64 s28))]) (M := fun s28 => ⟨[((3, 0), .box [.d (.sl (p0.Bounds.map api_Bound.d)), .d (.sl (p0.Elements.map dI))]), ((5, 0), .box [.d (.sl (p2.Bounds.map api_Bound.d)), .d (.sl (p2.Elements.map dI))]), ((7, 0), .box [.d (.sl (x10.1.Bounds.map api_Bound.d)), .d (.sl (x10.1.Elements.map dI))]), ((15, 0), .box [.d (.sl (x24.1.Bounds.map api_Bound.d)), .d (.sl (x24.1.Elements.map dI))])], out, []⟩) (E' := fun y => [(1, .d (.sl (p1.map api_Subscript.d))), (3, .bptr ⟨out.length, 3, 0⟩ 0), (7, .bptr ⟨out.length, 7, 0⟩ 0), (12, .d (.int .i64 x15.2))]) (M' := fun y => ⟨[((3, 0), .box [.d (.sl (p0.Bounds.map api_Bound.d)), .d (.sl (p0.Elements.map dI))]), ((7, 0), .box [.d (.sl (x10.1.Bounds.map api_Bound.d)), .d (.sl (x10.1.Elements.map dI))])], out, []⟩) (RT := fun r e s => Lx.Returns PP Try.f7.results.toList e s ⟨.d (.bool r), []⟩) hz33 (by (try simp only [List.length_set, copied_len]); exact trk (by kernel_rfl) (by kernel_rfl) (by kernel_rfl)) ?_ ?_
                  · intro s28 ww h
                    unfold law15_ShapesStores.s2 at h
                    refine CWp.seq ?_
                    refine sr ?_
                    refine ts (mv rfl) ?_
                    refine ts (fa fT59_1 rfl rfl) ?_
                    refine ts (ld sT26 rfl (ow rfl) rfl) ?_
                    refine ts (lnD lT26 rfl rfl) ?_
                    refine ts (lss rfl rfl) ?_
                    refine rn ?_
                    rcases ite h with ⟨c29, h⟩ | ⟨c29, h⟩
                    · refine ct rfl (bt c29) ?_
                      refine CWp.skip ?_
                      refine CWp.seq ?_
                      refine CWp.block ?_
                      refine sd mixed (b := [0, 1, 0, 7, 15, 0, 0, 96, 255]) (by kernel_rfl) ?_
                      refine ds (fa fT59_1 rfl rfl) rfl ?_
                      refine dr (ld sT26 rfl (ow rfl) rfl) rfl ?_
                      refine ds (mv rfl) rfl ?_
                      obtain ⟨x30, hx30, h⟩ := bnd h
                      refine ds (ixD lT26 szI rfl rfl hx30) rfl ?_
                      refine dr (ldI sT3 rfl rfl) rfl ?_
                      refine dr (ldW (e := api_Array.d p2) aT59 rfl (ow rfl) rfl rfl) rfl ?_
                      refine ds (mv rfl) rfl ?_
                      obtain ⟨x31, hx31, h⟩ := bnd h
                      refine dr (cl0 kf rfl (.c le1 (.c le1 .n)) (ref15_At_ok hx31) rfl) rfl ?_
                      refine ds (neq rfl rfl) rfl ?_
                      refine dn (by kernel_rfl) ?_
                      rcases ite h with ⟨c32, h⟩ | ⟨c32, h⟩
                      · refine ct rfl (nt c32) ?_
                        refine sr ?_
                        refine ts (ac rfl rfl) ?_
                        refine rn ?_
                        refine CWp.ret ?_
                        obtain rfl := some_inj h
                        exact ⟨rfl, rt1 (ex := false) (by exact (.t rfl .n)) (by exact (gd (by rfl))) (by rfl) (by rfl)⟩
                      · refine cf rfl (nf c32) ?_
                        refine CWp.skip ?_
                        refine lr ?_
                        refine ts (mv rfl) ?_
                        refine ts (add rfl rfl) ?_
                        refine ts (as_ rfl) ?_
                        refine rn ?_
                        obtain rfl := some_inj h
                        exact ⟨rfl, (by (try simp only [List.length_set, copied_len]); exact trk (by kernel_rfl) (by kernel_rfl) (by kernel_rfl))⟩
                    · refine cf rfl (bf c29) ?_
                      refine CWp.exit ?_
                      obtain rfl := some_inj h
                      exact ⟨rfl, (by (try simp only [List.length_set, copied_len]); exact trk (by kernel_rfl) (by kernel_rfl) (by kernel_rfl))⟩
                  · cases z33 with
                    | inl v34 =>
                      intro e s ht
                      exact ⟨(), h, ht.trans (by (try simp only [List.length_set, copied_len]); exact trk (by kernel_rfl) (by kernel_rfl) (by kernel_rfl))⟩
                    | inr r35 =>
                      intro e s hr
                      obtain rfl := some_inj h
                      exact ⟨trivial, hr⟩
              · refine cf rfl (ef c21) ?_
                refine CWp.skip ?_
                exact ⟨(), h, (by (try simp only [List.length_set, copied_len]); exact trk (by kernel_rfl) (by kernel_rfl) (by kernel_rfl))⟩
end Go.Proofs.Ytoelcmbacfhdnaa
