/- The walks: the program does what the functions in plain form say. Part 2. -/
import Derived.Test.YtoelcmbacfhdnaaShapesShiftsWk1
set_option linter.all false
namespace Go.Proofs.Ytoelcmbacfhdnaa
open Go.Lx Go.Sh
set_option linter.unusedVariables false
set_option maxRecDepth 100000
theorem law15_ShapesShifts_ok {p0 : api_Array} {p1 : Int} {p2 : api_EndShift} {out : Out} {r : Bool} (h : law15_ShapesShifts p0 p1 p2 = some r) : FunOk PP 5 [.d (api_Array.d p0), .d (.int .i64 p1), .d (api_EndShift.d p2)] out ⟨.d (.bool r), []⟩ := by
  unfold law15_ShapesShifts at h
  refine fi Try.func5 rfl (by kernel_rfl) (by kernel_rfl) (by kernel_rfl) ?_
  refine sr ?_
  refine ta (bx (n := 0) rfl rfl rfl) ?_
  refine ta (bx (n := 0) rfl rfl rfl) ?_
  refine ts (ac rfl rfl) ?_
  refine rn ?_
  refine CWp.seq ?_
  refine sr ?_
  obtain ⟨x1, hx1, h⟩ := bnd h
  refine ts (cl0 kf rfl .n (law15_awake_ok hx1) rfl) ?_
  refine ts (not_ rfl) ?_
  refine rn ?_
  rcases ite h with ⟨c2, h⟩ | ⟨c2, h⟩
  · refine ct rfl (not_t (vf c2)) ?_
    refine sr ?_
    refine ts (ac rfl rfl) ?_
    refine rn ?_
    refine CWp.ret ?_
    obtain rfl := some_inj h
    exact ⟨trivial, rt1 (ex := false) (by exact (.t rfl .n)) (by exact (gd (by rfl))) (by rfl) (by rfl)⟩
  · refine cf rfl (not_f (Classical.not_not.1 c2)) ?_
    refine CWp.skip ?_
    refine CWp.seq ?_
    refine sr ?_
    refine ts (ldW (e := api_Array.d p0) aT59 rfl (ow rfl) rfl rfl) ?_
    refine ts (cl0 kf rfl (.c le1 .n) (law15_few_ok rfl) rfl) ?_
    refine ts (not_ rfl) ?_
    refine rn ?_
    rcases ite h with ⟨c3, h⟩ | ⟨c3, h⟩
    · refine ct rfl (not_t (vf c3)) ?_
      refine sr ?_
      refine ts (ac rfl rfl) ?_
      refine rn ?_
      refine CWp.ret ?_
      obtain rfl := some_inj h
      exact ⟨trivial, rt1 (ex := false) (by exact (.t rfl .n)) (by exact (gd (by rfl))) (by rfl) (by rfl)⟩
    · refine cf rfl (not_f (Classical.not_not.1 c3)) ?_
      refine CWp.skip ?_
      refine sd mixed (b := [0, 1, 0, 0, 8, 31, 63, 127, 127, 0, 767, 2047]) (by kernel_rfl) ?_
      refine dr (ldW (e := api_Array.d p0) aT59 rfl (ow rfl) rfl rfl) rfl ?_
      obtain ⟨x4, hx4, h⟩ := bnd h
      refine dr (cz0 (v' := .d (api_Array.d x4)) kf rfl (.c le1 .n) (ref15_Copy_ok hx4) rfl rfl) rfl ?_
      refine ds (mv rfl) rfl ?_
      refine ds (fa fT61_0 rfl rfl) rfl ?_
      refine dr (ld sT3 rfl (ow rfl) rfl) rfl ?_
      obtain ⟨x5, hx5, h⟩ := bnd h
      refine dr (cl0 kf rfl (.c le1 (.c le1 (.c le1 .n))) (shapes_Shifted_ok hx5) rfl) rfl ?_
      refine ds (mv rfl) rfl ?_
      refine ds (ex_ rfl rfl) rfl ?_
      refine ds (ex_ rfl rfl) rfl ?_
      refine da (al (n := 0) zT59 rfl) rfl ?_
      refine et0 rfl (stW aT59 rfl rfl rfl rfl rfl rfl .h) (by kernel_rfl) rfl ?_
      refine ds (as_ rfl) rfl ?_
      refine dn (by kernel_rfl) ?_
      refine sd mixed (b := [0, 1, 0, 0, 15, 31, 63, 63, 0, 383, 1023]) (by kernel_rfl) ?_
      refine dr (ldW (e := api_Array.d p0) aT59 rfl (ow rfl) rfl rfl) rfl ?_
      obtain ⟨x6, hx6, h⟩ := bnd h
      refine dr (cz0 (v' := .d (api_Array.d x6)) kf rfl (.c le1 .n) (ref15_Copy_ok hx6) rfl rfl) rfl ?_
      refine ds (mv rfl) rfl ?_
      refine dr (ldW (e := api_EndShift.d p2) aT61 rfl (ow rfl) rfl rfl) rfl ?_
      obtain ⟨x7, hx7, h⟩ := bnd h
      refine dr (cl0 kf rfl (.c le1 (.c le1 (.c le1 .n))) (shapes_EndShifted_ok hx7) rfl) rfl ?_
      refine ds (mv rfl) rfl ?_
      refine ds (ex_ rfl rfl) rfl ?_
      refine ds (ex_ rfl rfl) rfl ?_
      refine da (al (n := 0) zT59 rfl) rfl ?_
      refine et0 rfl (stW aT59 rfl rfl rfl rfl rfl rfl .h) (by kernel_rfl) rfl ?_
      refine ds (as_ rfl) rfl ?_
      refine dn (by kernel_rfl) ?_
      refine sr ?_
      refine ts (ldW (e := api_Array.d p0) aT59 rfl (ow rfl) rfl rfl) ?_
      refine ts (mv rfl) ?_
      refine ts (fa fT61_0 rfl rfl) ?_
      refine ts (ld sT3 rfl (ow rfl) rfl) ?_
      obtain ⟨x8, hx8, h⟩ := bnd h
      refine ts (cl0 kf rfl (.c le1 (.c le1 (.c le1 .n))) (ref15_Shifted_ok hx8) rfl) ?_
      refine ts (mv rfl) ?_
      refine ts (ex_ rfl rfl) ?_
      refine ts (ex_ rfl rfl) ?_
      refine ta (al (n := 0) zT59 rfl) ?_
      refine tt0 (stW aT59 rfl rfl rfl rfl rfl rfl .h) ?_
      refine ts (as_ rfl) ?_
      refine rn ?_
      refine CWp.seq ?_
      refine sr ?_
      refine ts (ldW (e := api_Array.d x5.1) aT59 rfl (ow rfl) rfl rfl) ?_
      refine ts (mv rfl) ?_
      refine ts (ldW (e := api_Array.d x8.1) aT59 rfl (ow rfl) rfl rfl) ?_
      refine ts (mv rfl) ?_
      obtain ⟨x9, hx9, h⟩ := bnd h
      refine ts (cl0 kf rfl (.c le1 (.c le1 (.c le1 (.c le1 .n)))) (law15_is_ok hx9) rfl) ?_
      refine ts (not_ rfl) ?_
      refine rn ?_
      rcases ite h with ⟨c10, h⟩ | ⟨c10, h⟩
      · refine ct rfl (not_t (vf c10)) ?_
        refine sr ?_
        refine ts (ac rfl rfl) ?_
        refine rn ?_
        refine CWp.ret ?_
        obtain rfl := some_inj h
        exact ⟨trivial, rt1 (ex := false) (by exact (.t rfl .n)) (by exact (gd (by rfl))) (by rfl) (by rfl)⟩
      · refine cf rfl (not_f (Classical.not_not.1 c10)) ?_
        refine CWp.skip ?_
        refine sr ?_
        refine ts (ldW (e := api_Array.d p0) aT59 rfl (ow rfl) rfl rfl) ?_
        refine ts (mv rfl) ?_
        refine ts (ldW (e := api_EndShift.d p2) aT61 rfl (ow rfl) rfl rfl) ?_
        obtain ⟨x11, hx11, h⟩ := bnd h
        refine ts (cl0 kf rfl (.c le1 (.c le1 (.c le1 .n))) (ref15_EndShifted_ok hx11) rfl) ?_
        refine ts (mv rfl) ?_
        refine ts (ex_ rfl rfl) ?_
        refine ts (ex_ rfl rfl) ?_
        refine tt0 (stW aT59 rfl rfl rfl rfl rfl rfl .h) ?_
        refine ts (as_ rfl) ?_
        refine rn ?_
        refine sr ?_
        refine ts (ldW (e := api_Array.d x7.1) aT59 rfl (ow rfl) rfl rfl) ?_
        refine ts (mv rfl) ?_
        refine ts (ldW (e := api_Array.d x11.1) aT59 rfl (ow rfl) rfl rfl) ?_
        refine ts (mv rfl) ?_
        obtain ⟨x12, hx12, h⟩ := bnd h
        refine ts (cl0 kf rfl (.c le1 (.c le1 (.c le1 (.c le1 .n)))) (law15_is_ok hx12) rfl) ?_
        refine ts (as_ rfl) ?_
        refine rn ?_
        refine CWp.ret ?_
        obtain rfl := some_inj h
        exact ⟨trivial, rt1 (ex := false) (by exact (.t rfl .n)) (by exact (gd (by rfl))) (by rfl) (by rfl)⟩
end Go.Proofs.Ytoelcmbacfhdnaa
