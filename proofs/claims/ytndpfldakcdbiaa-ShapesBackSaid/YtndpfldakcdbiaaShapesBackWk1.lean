/- The walks: the program does what the functions in plain form say. Part 1. -/
import Derived.Test.YtndpfldakcdbiaaShapesBackSh
import Derived.Test.YtndpfldakcdbiaaProg
import Derived.Test.YtndpfldakcdbiaaIt
set_option linter.all false
namespace Go.Sh
open Go.Lx
def api_Bound.d (x : api_Bound) : D := .agg [.int .i64 x.Low, .int .i64 x.High]
theorem api_Bound.sz : Sz api_Bound.d 2 := ⟨fun _ => rfl⟩
def api_Array.d (x : api_Array) : D := .agg [.sl (x.Bounds.map api_Bound.d), .sl (x.Elements.map dI)]
theorem api_Array.sz : Sz api_Array.d 2 := ⟨fun _ => rfl⟩
def shapes_rule.d (x : shapes_rule) : D := .agg [.bool x.holds, .int .i64 x.code]
theorem shapes_rule.sz : Sz shapes_rule.d 2 := ⟨fun _ => rfl⟩
def api_Subscript.d (x : api_Subscript) : D := .agg [.int .i64 x.Kind, .int .i64 x.Low, .int .i64 x.High, .int .i64 x.Step, .sl (x.List.map dI)]
theorem api_Subscript.sz : Sz api_Subscript.d 5 := ⟨fun _ => rfl⟩
def api_Section.d (x : api_Section) : D := .agg [.sl (x.Extents.map dI), .sl (x.Offsets.map dI), .bool x.ManyOne]
theorem api_Section.sz : Sz api_Section.d 3 := ⟨fun _ => rfl⟩
def api_Reshape.d (x : api_Reshape) : D := .agg [.sl (x.Shape.map dI), .sl (x.Order.map dI), .sl (x.Pad.map dI)]
theorem api_Reshape.sz : Sz api_Reshape.d 3 := ⟨fun _ => rfl⟩
end Go.Sh
namespace Go.Proofs.Ytndpfldakcdbiaa
open Go.Lx Go.Sh
set_option linter.unusedVariables false
set_option maxRecDepth 100000
set_option maxHeartbeats 2000000
noncomputable abbrev PP : Program := Try.prog
theorem mixed : PP.follows .mixedOrders = true := by kernel_rfl
theorem aT25 : Aggr PP 25 2 := ⟨by kernel_rfl, by kernel_rfl⟩
theorem aT27 : Aggr PP 27 3 := ⟨by kernel_rfl, by kernel_rfl⟩
theorem aT52 : Aggr PP 52 5 := ⟨by kernel_rfl, by kernel_rfl⟩
theorem aT57 : Aggr PP 57 3 := ⟨by kernel_rfl, by kernel_rfl⟩
theorem aT81 : Aggr PP 81 2 := ⟨by kernel_rfl, by kernel_rfl⟩
theorem aT84 : Aggr PP 84 2 := ⟨by kernel_rfl, by kernel_rfl⟩
theorem fT25_0 : Fld PP 25 0 22 0 1 := ⟨by kernel_rfl⟩
theorem fT25_1 : Fld PP 25 1 23 1 1 := ⟨by kernel_rfl⟩
theorem fT27_0 : Fld PP 27 0 23 0 1 := ⟨by kernel_rfl⟩
theorem fT27_1 : Fld PP 27 1 23 1 1 := ⟨by kernel_rfl⟩
theorem fT27_2 : Fld PP 27 2 23 2 1 := ⟨by kernel_rfl⟩
theorem fT52_0 : Fld PP 52 0 3 0 1 := ⟨by kernel_rfl⟩
theorem fT52_1 : Fld PP 52 1 3 1 1 := ⟨by kernel_rfl⟩
theorem fT52_2 : Fld PP 52 2 3 2 1 := ⟨by kernel_rfl⟩
theorem fT52_3 : Fld PP 52 3 3 3 1 := ⟨by kernel_rfl⟩
theorem fT52_4 : Fld PP 52 4 23 4 1 := ⟨by kernel_rfl⟩
theorem fT57_0 : Fld PP 57 0 23 0 1 := ⟨by kernel_rfl⟩
theorem fT57_1 : Fld PP 57 1 23 1 1 := ⟨by kernel_rfl⟩
theorem fT57_2 : Fld PP 57 2 4 2 1 := ⟨by kernel_rfl⟩
theorem fT81_0 : Fld PP 81 0 3 0 1 := ⟨by kernel_rfl⟩
theorem fT81_1 : Fld PP 81 1 3 1 1 := ⟨by kernel_rfl⟩
theorem fT84_0 : Fld PP 84 0 4 0 1 := ⟨by kernel_rfl⟩
theorem fT84_1 : Fld PP 84 1 30 1 1 := ⟨by kernel_rfl⟩
theorem ffT81 : flatFs PP 81 = some ((flatFs PP 81).getD []) := by kernel_rfl
theorem lT22 : Sli PP 22 81 2 16 (.agg [.int .i64 0, .int .i64 0]) := ⟨by kernel_rfl, by kernel_rfl, by kernel_rfl, by decide, by decide, by kernel_rfl, by kernel_rfl⟩
theorem lT23 : Sli PP 23 3 1 8 (.int .i64 0) := ⟨by kernel_rfl, by kernel_rfl, by kernel_rfl, by decide, by decide, by kernel_rfl, by kernel_rfl⟩
theorem lT55 : Sli PP 55 52 5 56 (.agg [.int .i64 0, .int .i64 0, .int .i64 0, .int .i64 0, .nilsl]) := ⟨by kernel_rfl, by kernel_rfl, by kernel_rfl, by decide, by decide, by kernel_rfl, by kernel_rfl⟩
theorem lT77 : Sli PP 77 79 1 24 (.nilsl) := ⟨by kernel_rfl, by kernel_rfl, by kernel_rfl, by decide, by decide, by kernel_rfl, by kernel_rfl⟩
theorem lT79 : Sli PP 79 3 1 8 (.int .i64 0) := ⟨by kernel_rfl, by kernel_rfl, by kernel_rfl, by decide, by decide, by kernel_rfl, by kernel_rfl⟩
theorem lT86 : Sli PP 86 23 1 24 (.nilsl) := ⟨by kernel_rfl, by kernel_rfl, by kernel_rfl, by decide, by decide, by kernel_rfl, by kernel_rfl⟩
theorem lT91 : Sli PP 91 30 1 8 (.int .i64 0) := ⟨by kernel_rfl, by kernel_rfl, by kernel_rfl, by decide, by decide, by kernel_rfl, by kernel_rfl⟩
theorem lT92 : Sli PP 92 25 2 48 (.agg [.nilsl, .nilsl]) := ⟨by kernel_rfl, by kernel_rfl, by kernel_rfl, by decide, by decide, by kernel_rfl, by kernel_rfl⟩
theorem lT102 : Sli PP 102 84 2 16 (.agg [.bool false, .int .i64 0]) := ⟨by kernel_rfl, by kernel_rfl, by kernel_rfl, by decide, by decide, by kernel_rfl, by kernel_rfl⟩
theorem mT107 : MapT PP 107 3 4 dI D.bool false := ⟨by kernel_rfl, by kernel_rfl, fun a b => by by_cases h : a = b <;> simp [dI, D.beq, h], fun a => by (simp only [keyOk]; kernel_rfl)⟩
theorem sT3 : Scal PP 3 := ⟨by kernel_rfl, by kernel_rfl⟩
theorem sT4 : Scal PP 4 := ⟨by kernel_rfl, by kernel_rfl⟩
theorem sT22 : Scal PP 22 := ⟨by kernel_rfl, by kernel_rfl⟩
theorem sT23 : Scal PP 23 := ⟨by kernel_rfl, by kernel_rfl⟩
theorem sT30 : Scal PP 30 := ⟨by kernel_rfl, by kernel_rfl⟩
theorem sT79 : Scal PP 79 := ⟨by kernel_rfl, by kernel_rfl⟩
theorem uT22 : PP.underlying 22 = some (.slice 81) := by kernel_rfl
theorem uT23 : PP.underlying 23 = some (.slice 3) := by kernel_rfl
theorem uT77 : PP.underlying 77 = some (.slice 79) := by kernel_rfl
theorem uT79 : PP.underlying 79 = some (.slice 3) := by kernel_rfl
theorem uT86 : PP.underlying 86 = some (.slice 23) := by kernel_rfl
theorem zT25 : zeroA PP 25 = some [.d (.nilsl), .d (.nilsl)] := by kernel_rfl
theorem zT52 : zeroA PP 52 = some [.d (.int .i64 0), .d (.int .i64 0), .d (.int .i64 0), .d (.int .i64 0), .d (.nilsl)] := by kernel_rfl
theorem zT57 : zeroA PP 57 = some [.d (.nilsl), .d (.nilsl), .d (.bool false)] := by kernel_rfl
theorem zT81 : zeroA PP 81 = some [.d (.int .i64 0), .d (.int .i64 0)] := by kernel_rfl
theorem zT84 : zeroA PP 84 = some [.d (.bool false), .d (.int .i64 0)] := by kernel_rfl
theorem law15_Example_ok {out : Out} {r : api_Array} (h : law15_Example = r) : FunOk PP 21 [] out ⟨.d (api_Array.d r), []⟩ := by
  unfold law15_Example at h
  refine fi Try.func21 rfl (by kernel_rfl) (by kernel_rfl) (by kernel_rfl) ?_
  refine sr ?_
  refine ta (al (n := 0) zT25 rfl) ?_
  refine rn ?_
  refine sr ?_
  refine ts (bld (v := .d (api_Bound.d (api_Bound.mk 1 2))) rfl (by kernel_rfl)) ?_
  refine ts (bld (v := .d (api_Bound.d (api_Bound.mk 0 2))) rfl (by kernel_rfl)) ?_
  refine ts (bsT (l := (([(api_Bound.mk 1 2), (api_Bound.mk 0 2)] : List api_Bound).map api_Bound.d)) lT22 rfl rfl rfl (by kernel_rfl)) ?_
  refine ts (bsT (l := (([1, 2, 3, 4, 5, 6] : List Int).map dI)) lT23 rfl rfl rfl (by kernel_rfl)) ?_
  refine ts ((bld (v := .agg [.tight (([(api_Bound.mk 1 2), (api_Bound.mk 0 2)] : List api_Bound).map api_Bound.d), .tight (([1, 2, 3, 4, 5, 6] : List Int).map dI)]) rfl (by kernel_rfl)).wkf (x' := .d (api_Array.d (api_Array.mk [(api_Bound.mk 1 2), (api_Bound.mk 0 2)] [1, 2, 3, 4, 5, 6]))) rfl) ?_
  refine tt0 (stW aT25 rfl rfl rfl rfl rfl rfl .h) ?_
  refine rn ?_
  refine CWp.ret ?_
  obtain rfl := h
  exact ⟨trivial, rt1 (ex := false) (by exact (rcW aT25 rfl (ow rfl) rfl rfl .n)) (by exact (gd (by rfl))) (by rfl) (by rfl)⟩
theorem shapes_inside_ok {p0 : Int} {p1 : Int} {p2 : Int} {out : Out} {r : Bool} (h : shapes_inside p0 p1 p2 = r) : FunOk PP 50 [.d (.int .i64 p0), .d (.int .i64 p1), .d (.int .i64 p2)] out ⟨.d (.bool r), []⟩ := by
  unfold shapes_inside at h
  refine fi Try.func50 rfl (by kernel_rfl) (by kernel_rfl) (by kernel_rfl) ?_
  refine sr ?_
  refine ts (ac rfl rfl) ?_
  refine rn ?_
  refine sr ?_
  refine ts (mv rfl) ?_
  refine ts (mv rfl) ?_
  refine ts (geq rfl rfl) ?_
  refine ts (mv rfl) ?_
  refine sg 4 [(14, .d (.bool ((decide (p0 ≥ p1)) && (decide (p0 ≤ p2)))))] ?_ ?_
  · rcases bool_or (decide (p0 ≥ p1)) with g1 | g2
    · refine us (gy rfl rfl g1) (mv rfl) ?_
      refine us (gy rfl rfl g1) (mv rfl) ?_
      refine us (gy rfl rfl g1) (leq rfl rfl) ?_
      refine ts (pt rfl g1 rfl) ?_
      exact rn (trD 4 rfl (.c (bq (and_t g1)) .n) (by kernel_rfl))
    · refine un (gn rfl rfl g2) ?_
      refine un (gn rfl rfl g2) ?_
      refine un (gn rfl rfl g2) ?_
      refine ts (pf rfl g2 rfl) ?_
      exact rn (trD 4 rfl (.c (bq (and_f g2)) .n) (by kernel_rfl))
  refine ts (as_ rfl) ?_
  refine rn ?_
  refine CWp.ret ?_
  obtain rfl := h
  exact ⟨trivial, rt1 (ex := false) (by exact (.t rfl .n)) (by exact (gd (by rfl))) (by rfl) (by rfl)⟩
theorem shapes_isNumber_ok {p0 : Int} {out : Out} {r : Bool} (h : shapes_isNumber p0 = r) : FunOk PP 72 [.d (.int .i64 p0)] out ⟨.d (.bool r), []⟩ := by
  unfold shapes_isNumber at h
  refine fi Try.func72 rfl (by kernel_rfl) (by kernel_rfl) (by kernel_rfl) ?_
  refine sr ?_
  refine ts (ac rfl rfl) ?_
  refine rn ?_
  refine sr ?_
  refine ts (mv rfl) ?_
  refine ts (cln (f := fun _ => false) kf rfl (.c rfl le1 (.c rfl le1 (.c rfl le1 .n))) (curOf_nil _) (shapes_inside_ok (rfl : shapes_inside p0 (-2147483647) 2147483647 = _)) rfl) ?_
  refine ts (as_ rfl) ?_
  refine rn ?_
  refine CWp.ret ?_
  obtain rfl := h
  exact ⟨trivial, rt1 (ex := false) (by exact (.t rfl .n)) (by exact (gd (by rfl))) (by rfl) (by rfl)⟩
theorem shapes_boundsErr_c1_ok {p0 : api_Bound} {out : Out} {r : Bool} (h : shapes_boundsErr_c1 p0 = r) : FunOk PP 71 [.d (api_Bound.d p0)] out ⟨.d (.bool r), []⟩ := by
  unfold shapes_boundsErr_c1 at h
  refine fi Try.func71 rfl (by kernel_rfl) (by kernel_rfl) (by kernel_rfl) ?_
  refine sr ?_
  refine ts (bxI rfl) ?_
  refine ts (ac rfl rfl) ?_
  refine rn ?_
  refine sr ?_
  refine ts (faI fT81_0 rfl rfl) ?_
  refine ts (ldI sT3 rfl rfl) ?_
  refine ts (cln (f := fun _ => false) kf rfl (.c rfl le1 .n) (curOf_nil _) (shapes_isNumber_ok (rfl : shapes_isNumber p0.Low = _)) rfl) ?_
  refine ts (not_ rfl) ?_
  refine ts (mv rfl) ?_
  refine sg 5 [(12, .d (.bool ((!(shapes_isNumber p0.Low)) || (!(shapes_isNumber p0.High)))))] ?_ ?_
  · rcases bool_or (!(shapes_isNumber p0.Low)) with g1 | g2
    · refine un (gn rfl rfl g1) ?_
      refine un (gn rfl rfl g1) ?_
      refine un (gn rfl rfl g1) ?_
      refine un (gn rfl rfl g1) ?_
      refine ts (pt rfl g1 rfl) ?_
      exact rn (trD 5 rfl (.c (bq (or_t g1)) .n) (by kernel_rfl))
    · refine us (gy rfl rfl g2) (faI fT81_1 rfl rfl) ?_
      refine us (gy rfl rfl g2) (ldI sT3 rfl rfl) ?_
      refine us (gy rfl rfl g2) (cln (f := fun _ => false) kf rfl (.c rfl le1 .n) (curOf_nil _) (shapes_isNumber_ok (rfl : shapes_isNumber p0.High = _)) rfl) ?_
      refine us (gy rfl rfl g2) (not_ rfl) ?_
      refine ts (pf rfl g2 rfl) ?_
      exact rn (trD 5 rfl (.c (bq (or_f g2)) .n) (by kernel_rfl))
  refine ts (as_ rfl) ?_
  refine rn ?_
  refine CWp.ret ?_
  obtain rfl := h
  exact ⟨trivial, rt1 (ex := false) (by exact (.t rfl .n)) (by exact (gd (by rfl))) (by rfl) (by rfl)⟩
theorem slices_IndexFunc_api_Bound__shapes_boundsErr_c1_ok {p0 : (List api_Bound)} {out : Out} {r : Int} (h : slices_IndexFunc_api_Bound__shapes_boundsErr_c1 p0 = some r) : FunOk PP 84 [.d (.sl (p0.map api_Bound.d)), .d (.fn 71)] out ⟨.d (.int .i64 r), []⟩ := by
  unfold slices_IndexFunc_api_Bound__shapes_boundsErr_c1 at h
  refine fi Try.func84 rfl (by kernel_rfl) (by kernel_rfl) (by kernel_rfl) ?_
  refine sr ?_
  refine ts (ac rfl rfl) ?_
  refine rn ?_
  refine CWp.seq ?_
  refine sr ?_
  refine ts (mv rfl) ?_
  refine ts (lnD lT22 rfl rfl) ?_
  refine ts (mv rfl) ?_
  refine rn ?_
  obtain ⟨z5, hz5, h⟩ := bnd h
  refine lbr (E := fun s1 => [(0, .d (.sl (p0.map api_Bound.d))), (1, .d (.fn 71)), (7, .d (.int .i64 (p0.length : Int))), (8, .d (.int .i64 s1))]) (M := fun s1 => ⟨[], out, []⟩) (E' := fun y => []) (M' := fun y => ⟨[], out, []⟩) (RT := fun r e s => Lx.Returns PP Try.f84.results.toList e s ⟨.d (.int .i64 r), []⟩) hz5 (by (try simp only [List.length_set, copied_len]); exact trk (by kernel_rfl) (by kernel_rfl) (by kernel_rfl)) ?_ ?_
  · intro s1 ww h
    unfold slices_IndexFunc_api_Bound__shapes_boundsErr_c1.s1 at h
    refine sr ?_
    refine ts (lss rfl rfl) ?_
    refine rn ?_
    refine CWp.seq ?_
    rcases ite h with ⟨c2, h⟩ | ⟨c2, h⟩
    · refine ct rfl (bt c2) ?_
      refine CWp.skip ?_
      refine CWp.seq ?_
      refine CWp.block ?_
      refine sr ?_
      refine ts (mv rfl) ?_
      refine ts (as_ rfl) ?_
      refine rn ?_
      refine sr ?_
      refine ts (mv rfl) ?_
      refine ts (mv rfl) ?_
      refine ts (mv rfl) ?_
      obtain ⟨x3, hx3, h⟩ := bnd h
      refine ts (ixD lT22 api_Bound.sz rfl rfl hx3) ?_
      refine ts (ldIW aT81 rfl rfl rfl) ?_
      refine ts (cln (f := fun _ => false) (kt rfl) rfl (.c rfl le1 .n) (curOf_nil _) (shapes_boundsErr_c1_ok (rfl : shapes_boundsErr_c1 x3 = _)) rfl) ?_
      refine rn ?_
      rcases ite h with ⟨c4, h⟩ | ⟨c4, h⟩
      · refine ct rfl c4 ?_
        refine sr ?_
        refine ts (mv rfl) ?_
        refine ts (as_ rfl) ?_
        refine rn ?_
        refine CWp.ret ?_
        obtain rfl := some_inj h
        exact ⟨rfl, rt1 (ex := false) (by exact (.t rfl .n)) (by exact (gd (by rfl))) (by rfl) (by rfl)⟩
      · refine cf rfl (vf c4) ?_
        refine CWp.skip ?_
        refine lr ?_
        refine ts (add rfl rfl) ?_
        refine ts (mv rfl) ?_
        refine rn ?_
        obtain rfl := some_inj h
        exact ⟨rfl, (by (try simp only [List.length_set, copied_len]); exact trk (by kernel_rfl) (by kernel_rfl) (by kernel_rfl))⟩
    · refine cf rfl (bf c2) ?_
      refine CWp.exit ?_
      obtain rfl := some_inj h
      exact ⟨rfl, (by (try simp only [List.length_set, copied_len]); exact trk (by kernel_rfl) (by kernel_rfl) (by kernel_rfl))⟩
  · cases z5 with
    | inl v6 =>
      intro e s ht
      refine CWp.trim ht ?_
      refine sr ?_
      refine ts (ac rfl rfl) ?_
      refine rn ?_
      refine CWp.ret ?_
      obtain rfl := some_inj h
      exact ⟨trivial, rt1 (ex := false) (by exact (.t rfl .n)) (by exact (gd (by rfl))) (by rfl) (by rfl)⟩
    | inr r7 =>
      intro e s hr
      obtain rfl := some_inj h
      exact ⟨trivial, hr⟩
theorem slices_ContainsFunc_api_Bound__shapes_boundsErr_c1_ok {p0 : (List api_Bound)} {out : Out} {r : Bool} (h : slices_ContainsFunc_api_Bound__shapes_boundsErr_c1 p0 = some r) : FunOk PP 70 [.d (.sl (p0.map api_Bound.d)), .d (.fn 71)] out ⟨.d (.bool r), []⟩ := by
  unfold slices_ContainsFunc_api_Bound__shapes_boundsErr_c1 at h
  refine fi Try.func70 rfl (by kernel_rfl) (by kernel_rfl) (by kernel_rfl) ?_
  refine sr ?_
  refine ts (ac rfl rfl) ?_
  refine rn ?_
  refine sr ?_
  refine ts (mv rfl) ?_
  refine ts (mv rfl) ?_
  obtain ⟨x1, hx1, h⟩ := bnd h
  refine ts (cln (f := fun _ => false) kf rfl (.c rfl le1 (.c rfl le1 .n)) (curOf_nil _) (slices_IndexFunc_api_Bound__shapes_boundsErr_c1_ok hx1) rfl) ?_
  refine ts (geq rfl rfl) ?_
  refine ts (as_ rfl) ?_
  refine rn ?_
  refine CWp.ret ?_
  obtain rfl := some_inj h
  exact ⟨trivial, rt1 (ex := false) (by exact (.t rfl .n)) (by exact (gd (by rfl))) (by rfl) (by rfl)⟩
theorem shapes_extent_ok {p0 : api_Bound} {out : Out} {r : Int} (h : shapes_extent p0 = r) : FunOk PP 67 [.d (api_Bound.d p0)] out ⟨.d (.int .i64 r), []⟩ := by
  unfold shapes_extent at h
  refine fi Try.func67 rfl (by kernel_rfl) (by kernel_rfl) (by kernel_rfl) ?_
  refine sr ?_
  refine ts (bxI rfl) ?_
  refine ts (ac rfl rfl) ?_
  refine rn ?_
  refine sr ?_
  refine ts (faI fT81_1 rfl rfl) ?_
  refine ts (ldI sT3 rfl rfl) ?_
  refine ts (faI fT81_0 rfl rfl) ?_
  refine ts (ldI sT3 rfl rfl) ?_
  refine ts (sub rfl rfl) ?_
  refine ts (add rfl rfl) ?_
  refine ts (mx_ rfl) ?_
  refine ts (as_ rfl) ?_
  refine rn ?_
  refine CWp.ret ?_
  obtain rfl := h
  exact ⟨trivial, rt1 (ex := false) (by exact (.t rfl .n)) (by exact (gd (by rfl))) (by rfl) (by rfl)⟩
theorem shapes_boundsErr_c2_ok {p0 : api_Bound} {out : Out} {r : Bool} (h : shapes_boundsErr_c2 p0 = r) : FunOk PP 73 [.d (api_Bound.d p0)] out ⟨.d (.bool r), []⟩ := by
  unfold shapes_boundsErr_c2 at h
  refine fi Try.func73 rfl (by kernel_rfl) (by kernel_rfl) (by kernel_rfl) ?_
  refine sr ?_
  refine ts (bxI rfl) ?_
  refine ts (ac rfl rfl) ?_
  refine rn ?_
  refine sr ?_
  refine ts (ldIW aT81 rfl rfl rfl) ?_
  refine ts (cln (f := fun _ => false) kf rfl (.c rfl le1 .n) (curOf_nil _) (shapes_extent_ok (rfl : shapes_extent p0 = _)) rfl) ?_
  refine ts (gtr rfl rfl) ?_
  refine ts (as_ rfl) ?_
  refine rn ?_
  refine CWp.ret ?_
  obtain rfl := h
  exact ⟨trivial, rt1 (ex := false) (by exact (.t rfl .n)) (by exact (gd (by rfl))) (by rfl) (by rfl)⟩
theorem slices_IndexFunc_api_Bound__shapes_boundsErr_c2_ok {p0 : (List api_Bound)} {out : Out} {r : Int} (h : slices_IndexFunc_api_Bound__shapes_boundsErr_c2 p0 = some r) : FunOk PP 84 [.d (.sl (p0.map api_Bound.d)), .d (.fn 73)] out ⟨.d (.int .i64 r), []⟩ := by
  unfold slices_IndexFunc_api_Bound__shapes_boundsErr_c2 at h
  refine fi Try.func84 rfl (by kernel_rfl) (by kernel_rfl) (by kernel_rfl) ?_
  refine sr ?_
  refine ts (ac rfl rfl) ?_
  refine rn ?_
  refine CWp.seq ?_
  refine sr ?_
  refine ts (mv rfl) ?_
  refine ts (lnD lT22 rfl rfl) ?_
  refine ts (mv rfl) ?_
  refine rn ?_
  obtain ⟨z5, hz5, h⟩ := bnd h
  refine lbr (E := fun s1 => [(0, .d (.sl (p0.map api_Bound.d))), (1, .d (.fn 73)), (7, .d (.int .i64 (p0.length : Int))), (8, .d (.int .i64 s1))]) (M := fun s1 => ⟨[], out, []⟩) (E' := fun y => []) (M' := fun y => ⟨[], out, []⟩) (RT := fun r e s => Lx.Returns PP Try.f84.results.toList e s ⟨.d (.int .i64 r), []⟩) hz5 (by (try simp only [List.length_set, copied_len]); exact trk (by kernel_rfl) (by kernel_rfl) (by kernel_rfl)) ?_ ?_
  · intro s1 ww h
    unfold slices_IndexFunc_api_Bound__shapes_boundsErr_c2.s1 at h
    refine sr ?_
    refine ts (lss rfl rfl) ?_
    refine rn ?_
    refine CWp.seq ?_
    rcases ite h with ⟨c2, h⟩ | ⟨c2, h⟩
    · refine ct rfl (bt c2) ?_
      refine CWp.skip ?_
      refine CWp.seq ?_
      refine CWp.block ?_
      refine sr ?_
      refine ts (mv rfl) ?_
      refine ts (as_ rfl) ?_
      refine rn ?_
      refine sr ?_
      refine ts (mv rfl) ?_
      refine ts (mv rfl) ?_
      refine ts (mv rfl) ?_
      obtain ⟨x3, hx3, h⟩ := bnd h
      refine ts (ixD lT22 api_Bound.sz rfl rfl hx3) ?_
      refine ts (ldIW aT81 rfl rfl rfl) ?_
      refine ts (cln (f := fun _ => false) (kt rfl) rfl (.c rfl le1 .n) (curOf_nil _) (shapes_boundsErr_c2_ok (rfl : shapes_boundsErr_c2 x3 = _)) rfl) ?_
      refine rn ?_
      rcases ite h with ⟨c4, h⟩ | ⟨c4, h⟩
      · refine ct rfl c4 ?_
        refine sr ?_
        refine ts (mv rfl) ?_
        refine ts (as_ rfl) ?_
        refine rn ?_
        refine CWp.ret ?_
        obtain rfl := some_inj h
        exact ⟨rfl, rt1 (ex := false) (by exact (.t rfl .n)) (by exact (gd (by rfl))) (by rfl) (by rfl)⟩
      · refine cf rfl (vf c4) ?_
        refine CWp.skip ?_
        refine lr ?_
        refine ts (add rfl rfl) ?_
        refine ts (mv rfl) ?_
        refine rn ?_
        obtain rfl := some_inj h
        exact ⟨rfl, (by (try simp only [List.length_set, copied_len]); exact trk (by kernel_rfl) (by kernel_rfl) (by kernel_rfl))⟩
    · refine cf rfl (bf c2) ?_
      refine CWp.exit ?_
      obtain rfl := some_inj h
      exact ⟨rfl, (by (try simp only [List.length_set, copied_len]); exact trk (by kernel_rfl) (by kernel_rfl) (by kernel_rfl))⟩
  · cases z5 with
    | inl v6 =>
      intro e s ht
      refine CWp.trim ht ?_
      refine sr ?_
      refine ts (ac rfl rfl) ?_
      refine rn ?_
      refine CWp.ret ?_
      obtain rfl := some_inj h
      exact ⟨trivial, rt1 (ex := false) (by exact (.t rfl .n)) (by exact (gd (by rfl))) (by rfl) (by rfl)⟩
    | inr r7 =>
      intro e s hr
      obtain rfl := some_inj h
      exact ⟨trivial, hr⟩
theorem slices_ContainsFunc_api_Bound__shapes_boundsErr_c2_ok {p0 : (List api_Bound)} {out : Out} {r : Bool} (h : slices_ContainsFunc_api_Bound__shapes_boundsErr_c2 p0 = some r) : FunOk PP 70 [.d (.sl (p0.map api_Bound.d)), .d (.fn 73)] out ⟨.d (.bool r), []⟩ := by
  unfold slices_ContainsFunc_api_Bound__shapes_boundsErr_c2 at h
  refine fi Try.func70 rfl (by kernel_rfl) (by kernel_rfl) (by kernel_rfl) ?_
  refine sr ?_
  refine ts (ac rfl rfl) ?_
  refine rn ?_
  refine sr ?_
  refine ts (mv rfl) ?_
  refine ts (mv rfl) ?_
  obtain ⟨x1, hx1, h⟩ := bnd h
  refine ts (cln (f := fun _ => false) kf rfl (.c rfl le1 (.c rfl le1 .n)) (curOf_nil _) (slices_IndexFunc_api_Bound__shapes_boundsErr_c2_ok hx1) rfl) ?_
  refine ts (geq rfl rfl) ?_
  refine ts (as_ rfl) ?_
  refine rn ?_
  refine CWp.ret ?_
  obtain rfl := some_inj h
  exact ⟨trivial, rt1 (ex := false) (by exact (.t rfl .n)) (by exact (gd (by rfl))) (by rfl) (by rfl)⟩
theorem shapes_extents_ok {p0 : (List api_Bound)} {out : Out} {r : (List Int)} (h : shapes_extents p0 = some r) : FunOk PP 46 [.d (.sl (p0.map api_Bound.d))] out ⟨.d (.sl (r.map dI)), []⟩ := by
  unfold shapes_extents at h
  refine fi Try.func46 rfl (by kernel_rfl) (by kernel_rfl) (by kernel_rfl) ?_
  refine sr ?_
  refine ts (ak.wk (x' := .sl (([] : List Int).map dI)) rfl) ?_
  refine rn ?_
  refine sr ?_
  refine ta (an (n := 0) lT23 rfl) ?_
  refine rn ?_
  refine CWp.seq ?_
  refine sr ?_
  refine ts (mv rfl) ?_
  refine ts (lnD lT22 rfl rfl) ?_
  refine ts (mv rfl) ?_
  refine rn ?_
  obtain ⟨z5, hz5, h⟩ := bnd h
  refine lb (E := fun s1 => [(3, .ref ⟨out.length, 3, 0⟩ 0 s1.2.length s1.2.length), (6, .d (.sl (p0.map api_Bound.d))), (7, .d (.int .i64 (p0.length : Int))), (8, .d (.int .i64 s1.1))]) (M := fun s1 => ⟨[((3, 0), .arr 1 false (s1.2.map dI))], out, []⟩) (E' := fun y => [(3, .ref ⟨out.length, 3, 0⟩ 0 y.length y.length)]) (M' := fun y => ⟨[((3, 0), .arr 1 false (y.map dI))], out, []⟩) hz5 (by (try simp only [List.length_set, copied_len]); exact trk (by kernel_rfl) (by kernel_rfl) (by kernel_rfl)) ?_ ?_
  · intro s1 ww h
    unfold shapes_extents.s1 at h
    refine sr ?_
    refine ts (lss rfl rfl) ?_
    refine rn ?_
    refine CWp.seq ?_
    rcases ite h with ⟨c2, h⟩ | ⟨c2, h⟩
    · refine ct rfl (bt c2) ?_
      refine CWp.skip ?_
      refine CWp.seq ?_
      refine CWp.block ?_
      refine sr ?_
      obtain ⟨x3, hx3, h⟩ := bnd h
      refine ts (ixD lT22 api_Bound.sz rfl rfl hx3) ?_
      refine ts (ldIW aT81 rfl rfl rfl) ?_
      refine ta (al (n := 0) zT81 rfl) ?_
      refine tt0 (stW aT81 rfl rfl rfl rfl rfl rfl .h) ?_
      refine rn ?_
      refine CWp.trim (Le.fzBox (t := 5) (e := api_Bound.d x3) (env' := [(3, .ref ⟨out.length, 3, 0⟩ 0 s1.2.length s1.2.length), (6, .d (.sl (p0.map api_Bound.d))), (7, .d (.int .i64 (p0.length : Int))), (8, .d (.int .i64 s1.1)), (10, .pimm (api_Bound.d x3) 0), (11, .d (api_Bound.d x3))]) (loc' := [((3, 0), .arr 1 false (s1.2.map dI))]) rfl rfl rfl rfl (by (try simp only [List.length_set, copied_len]); exact trkT (by kernel_rfl) (by kernel_rfl) (by kernel_rfl))) ?_
      refine lr ?_
      refine ts (mv rfl) ?_
      refine ts (ldIW aT81 rfl rfl rfl) ?_
      refine ts (cln (f := fun _ => false) kf rfl (.c rfl le1 .n) (curOf_nil _) (shapes_extent_ok (rfl : shapes_extent x3 = _)) rfl) ?_
      refine ts (bsT (l := (([(shapes_extent x3)] : List Int).map dI)) lT23 rfl rfl rfl (by kernel_rfl)) ?_
      obtain ⟨x4, hx4, h⟩ := bnd h
      refine tp (apG (ys := ([(shapes_extent x3)] : List Int)) (xs := s1.2) (f := dI) lT23 uT23 szI rfl rfl rfl elT (ow rfl) hx4 (so .h)) ?_
      refine ts (as_ rfl) ?_
      refine rn ?_
      refine lr ?_
      refine ts (add rfl rfl) ?_
      refine ts (mv rfl) ?_
      refine rn ?_
      obtain rfl := some_inj h
      exact ⟨rfl, (by (try simp only [List.length_set, copied_len]); exact trk (by kernel_rfl) (by kernel_rfl) (by kernel_rfl))⟩
    · refine cf rfl (bf c2) ?_
      refine CWp.exit ?_
      obtain rfl := some_inj h
      exact ⟨rfl, (by (try simp only [List.length_set, copied_len]); exact trk (by kernel_rfl) (by kernel_rfl) (by kernel_rfl))⟩
  · intro e s ht
    refine CWp.trim ht ?_
    refine sr ?_
    refine ts (mv rfl) ?_
    refine ts (as_ rfl) ?_
    refine rn ?_
    refine CWp.ret ?_
    obtain rfl := some_inj h
    exact ⟨trivial, rt1 (ex := false) (by exact (.t rfl .n)) (by exact (gf rfl rfl)) (by rfl) (by rfl)⟩
theorem slices_Index_int_ok {p0 : (List Int)} {p1 : Int} {out : Out} {r : Int} (h : slices_Index_int p0 p1 = some r) : FunOk PP 79 [.d (.sl (p0.map dI)), .d (.int .i64 p1)] out ⟨.d (.int .i64 r), []⟩ := by
  unfold slices_Index_int at h
  refine fi Try.func79 rfl (by kernel_rfl) (by kernel_rfl) (by kernel_rfl) ?_
  refine sr ?_
  refine ts (ac rfl rfl) ?_
  refine rn ?_
  refine CWp.seq ?_
  refine sr ?_
  refine ts (mv rfl) ?_
  refine ts (lnD lT23 rfl rfl) ?_
  refine ts (mv rfl) ?_
  refine rn ?_
  obtain ⟨z5, hz5, h⟩ := bnd h
  refine lbr (E := fun s1 => [(0, .d (.sl (p0.map dI))), (1, .d (.int .i64 p1)), (7, .d (.int .i64 (p0.length : Int))), (8, .d (.int .i64 s1))]) (M := fun s1 => ⟨[], out, []⟩) (E' := fun y => []) (M' := fun y => ⟨[], out, []⟩) (RT := fun r e s => Lx.Returns PP Try.f79.results.toList e s ⟨.d (.int .i64 r), []⟩) hz5 (by (try simp only [List.length_set, copied_len]); exact trk (by kernel_rfl) (by kernel_rfl) (by kernel_rfl)) ?_ ?_
  · intro s1 ww h
    unfold slices_Index_int.s1 at h
    refine sr ?_
    refine ts (lss rfl rfl) ?_
    refine rn ?_
    refine CWp.seq ?_
    rcases ite h with ⟨c2, h⟩ | ⟨c2, h⟩
    · refine ct rfl (bt c2) ?_
      refine CWp.skip ?_
      refine CWp.seq ?_
      refine CWp.block ?_
      refine sr ?_
      refine ts (mv rfl) ?_
      refine ts (as_ rfl) ?_
      refine rn ?_
      refine sr ?_
      refine ts (mv rfl) ?_
      refine ts (mv rfl) ?_
      refine ts (mv rfl) ?_
      obtain ⟨x3, hx3, h⟩ := bnd h
      refine ts (ixD lT23 szI rfl rfl hx3) ?_
      refine ts (ldI sT3 rfl rfl) ?_
      refine ts (eql rfl rfl) ?_
      refine rn ?_
      rcases ite h with ⟨c4, h⟩ | ⟨c4, h⟩
      · refine ct rfl (et c4) ?_
        refine sr ?_
        refine ts (mv rfl) ?_
        refine ts (as_ rfl) ?_
        refine rn ?_
        refine CWp.ret ?_
        obtain rfl := some_inj h
        exact ⟨rfl, rt1 (ex := false) (by exact (.t rfl .n)) (by exact (gd (by rfl))) (by rfl) (by rfl)⟩
      · refine cf rfl (ef c4) ?_
        refine CWp.skip ?_
        refine lr ?_
        refine ts (add rfl rfl) ?_
        refine ts (mv rfl) ?_
        refine rn ?_
        obtain rfl := some_inj h
        exact ⟨rfl, (by (try simp only [List.length_set, copied_len]); exact trk (by kernel_rfl) (by kernel_rfl) (by kernel_rfl))⟩
    · refine cf rfl (bf c2) ?_
      refine CWp.exit ?_
      obtain rfl := some_inj h
      exact ⟨rfl, (by (try simp only [List.length_set, copied_len]); exact trk (by kernel_rfl) (by kernel_rfl) (by kernel_rfl))⟩
  · cases z5 with
    | inl v6 =>
      intro e s ht
      refine CWp.trim ht ?_
      refine sr ?_
      refine ts (ac rfl rfl) ?_
      refine rn ?_
      refine CWp.ret ?_
      obtain rfl := some_inj h
      exact ⟨trivial, rt1 (ex := false) (by exact (.t rfl .n)) (by exact (gd (by rfl))) (by rfl) (by rfl)⟩
    | inr r7 =>
      intro e s hr
      obtain rfl := some_inj h
      exact ⟨trivial, hr⟩
theorem slices_Contains_int_ok {p0 : (List Int)} {p1 : Int} {out : Out} {r : Bool} (h : slices_Contains_int p0 p1 = some r) : FunOk PP 61 [.d (.sl (p0.map dI)), .d (.int .i64 p1)] out ⟨.d (.bool r), []⟩ := by
  unfold slices_Contains_int at h
  refine fi Try.func61 rfl (by kernel_rfl) (by kernel_rfl) (by kernel_rfl) ?_
  refine sr ?_
  refine ts (ac rfl rfl) ?_
  refine rn ?_
  refine sr ?_
  refine ts (mv rfl) ?_
  refine ts (mv rfl) ?_
  obtain ⟨x1, hx1, h⟩ := bnd h
  refine ts (cln (f := fun _ => false) kf rfl (.c rfl le1 (.c rfl le1 .n)) (curOf_nil _) (slices_Index_int_ok hx1) rfl) ?_
  refine ts (geq rfl rfl) ?_
  refine ts (as_ rfl) ?_
  refine rn ?_
  refine CWp.ret ?_
  obtain rfl := some_inj h
  exact ⟨trivial, rt1 (ex := false) (by exact (.t rfl .n)) (by exact (gd (by rfl))) (by rfl) (by rfl)⟩
theorem shapes_product_ok {p0 : (List Int)} {out : Out} {r : Int} (h : shapes_product p0 = some r) : FunOk PP 30 [.d (.sl (p0.map dI))] out ⟨.d (.int .i64 r), []⟩ := by
  unfold shapes_product at h
  refine fi Try.func30 rfl (by kernel_rfl) (by kernel_rfl) (by kernel_rfl) ?_
  refine sr ?_
  refine ts (ac rfl rfl) ?_
  refine rn ?_
  refine sr ?_
  refine ts (ac rfl rfl) ?_
  refine rn ?_
  refine CWp.seq ?_
  refine sr ?_
  refine ts (mv rfl) ?_
  refine ts (lnD lT23 rfl rfl) ?_
  refine ts (mv rfl) ?_
  refine rn ?_
  obtain ⟨z4, hz4, h⟩ := bnd h
  refine lb (E := fun s1 => [(0, .d (.sl (p0.map dI))), (3, .d (.int .i64 s1.1)), (6, .d (.sl (p0.map dI))), (7, .d (.int .i64 (p0.length : Int))), (8, .d (.int .i64 s1.2))]) (M := fun s1 => ⟨[], out, []⟩) (E' := fun y => [(0, .d (.sl (p0.map dI))), (3, .d (.int .i64 y))]) (M' := fun y => ⟨[], out, []⟩) hz4 (by (try simp only [List.length_set, copied_len]); exact trk (by kernel_rfl) (by kernel_rfl) (by kernel_rfl)) ?_ ?_
  · intro s1 ww h
    unfold shapes_product.s1 at h
    refine sr ?_
    refine ts (lss rfl rfl) ?_
    refine rn ?_
    refine CWp.seq ?_
    rcases ite h with ⟨c2, h⟩ | ⟨c2, h⟩
    · refine ct rfl (bt c2) ?_
      refine CWp.skip ?_
      refine CWp.seq ?_
      refine CWp.block ?_
      refine sr ?_
      obtain ⟨x3, hx3, h⟩ := bnd h
      refine ts (ixD lT23 szI rfl rfl hx3) ?_
      refine ts (ldI sT3 rfl rfl) ?_
      refine ts (as_ rfl) ?_
      refine rn ?_
      refine lr ?_
      refine ts (mv rfl) ?_
      refine ts (mv rfl) ?_
      refine ts (mn_ rfl) ?_
      refine ts (mul rfl rfl) ?_
      refine ts (mn_ rfl) ?_
      refine ts (as_ rfl) ?_
      refine rn ?_
      refine lr ?_
      refine ts (add rfl rfl) ?_
      refine ts (mv rfl) ?_
      refine rn ?_
      obtain rfl := some_inj h
      exact ⟨rfl, (by (try simp only [List.length_set, copied_len]); exact trk (by kernel_rfl) (by kernel_rfl) (by kernel_rfl))⟩
    · refine cf rfl (bf c2) ?_
      refine CWp.exit ?_
      obtain rfl := some_inj h
      exact ⟨rfl, (by (try simp only [List.length_set, copied_len]); exact trk (by kernel_rfl) (by kernel_rfl) (by kernel_rfl))⟩
  · intro e s ht
    refine CWp.trim ht ?_
    refine CWp.seq ?_
    refine sr ?_
    refine ts (mv rfl) ?_
    obtain ⟨x5, hx5, h⟩ := bnd h
    refine ts (cln (f := fun _ => false) kf rfl (.c rfl le1 (.c rfl le1 .n)) (curOf_nil _) (slices_Contains_int_ok hx5) rfl) ?_
    refine rn ?_
    rcases ite h with ⟨c6, h⟩ | ⟨c6, h⟩
    · refine ct rfl c6 ?_
      refine sr ?_
      refine ts (ac rfl rfl) ?_
      refine rn ?_
      refine CWp.ret ?_
      obtain rfl := some_inj h
      exact ⟨trivial, rt1 (ex := false) (by exact (.t rfl .n)) (by exact (gd (by rfl))) (by rfl) (by rfl)⟩
    · refine cf rfl (vf c6) ?_
      refine CWp.skip ?_
      refine sr ?_
      refine ts (mv rfl) ?_
      refine ts (as_ rfl) ?_
      refine rn ?_
      refine CWp.ret ?_
      obtain rfl := some_inj h
      exact ⟨trivial, rt1 (ex := false) (by exact (.t rfl .n)) (by exact (gd (by rfl))) (by rfl) (by rfl)⟩
theorem shapes_size_ok {p0 : (List api_Bound)} {out : Out} {r : Int} (h : shapes_size p0 = some r) : FunOk PP 74 [.d (.sl (p0.map api_Bound.d))] out ⟨.d (.int .i64 r), []⟩ := by
  unfold shapes_size at h
  refine fi Try.func74 rfl (by kernel_rfl) (by kernel_rfl) (by kernel_rfl) ?_
  refine sr ?_
  refine ts (ac rfl rfl) ?_
  refine rn ?_
  refine sr ?_
  refine ts (mv rfl) ?_
  obtain ⟨x1, hx1, h⟩ := bnd h
  refine ts (cln (f := fun _ => false) kf rfl (.c rfl le1 .n) (curOf_nil _) (shapes_extents_ok hx1) rfl) ?_
  obtain ⟨x2, hx2, h⟩ := bnd h
  refine ts (cln (f := fun _ => false) kf rfl (.c rfl le1 .n) (curOf_nil _) (shapes_product_ok hx2) rfl) ?_
  refine ts (as_ rfl) ?_
  refine rn ?_
  refine CWp.ret ?_
  obtain rfl := some_inj h
  exact ⟨trivial, rt1 (ex := false) (by exact (.t rfl .n)) (by exact (gd (by rfl))) (by rfl) (by rfl)⟩
theorem shapes_broken_ok {p0 : (List shapes_rule)} {out : Out} {r : Int} (h : shapes_broken p0 = some r) : FunOk PP 47 [.d (.sl (p0.map shapes_rule.d))] out ⟨.d (.int .i64 r), []⟩ := by
  unfold shapes_broken at h
  refine fi Try.func47 rfl (by kernel_rfl) (by kernel_rfl) (by kernel_rfl) ?_
  refine sr ?_
  refine ts (ac rfl rfl) ?_
  refine rn ?_
  refine CWp.seq ?_
  refine sr ?_
  refine ts (mv rfl) ?_
  refine ts (lnD lT102 rfl rfl) ?_
  refine ts (mv rfl) ?_
  refine rn ?_
  obtain ⟨z5, hz5, h⟩ := bnd h
  refine lbr (E := fun s1 => [(5, .d (.sl (p0.map shapes_rule.d))), (6, .d (.int .i64 (p0.length : Int))), (7, .d (.int .i64 s1))]) (M := fun s1 => ⟨[], out, []⟩) (E' := fun y => []) (M' := fun y => ⟨[], out, []⟩) (RT := fun r e s => Lx.Returns PP Try.f47.results.toList e s ⟨.d (.int .i64 r), []⟩) hz5 (by (try simp only [List.length_set, copied_len]); exact trk (by kernel_rfl) (by kernel_rfl) (by kernel_rfl)) ?_ ?_
  · intro s1 ww h
    unfold shapes_broken.s1 at h
    refine sr ?_
    refine ts (lss rfl rfl) ?_
    refine rn ?_
    refine CWp.seq ?_
    rcases ite h with ⟨c2, h⟩ | ⟨c2, h⟩
    · refine ct rfl (bt c2) ?_
      refine CWp.skip ?_
      refine CWp.seq ?_
      refine CWp.block ?_
      refine sr ?_
      obtain ⟨x3, hx3, h⟩ := bnd h
      refine ts (ixD lT102 shapes_rule.sz rfl rfl hx3) ?_
      refine ts (ldIW aT84 rfl rfl rfl) ?_
      refine ta (al (n := 0) zT84 rfl) ?_
      refine tt0 (stW aT84 rfl rfl rfl rfl rfl rfl .h) ?_
      refine rn ?_
      refine CWp.trim (Le.fzBox (t := 4) (e := shapes_rule.d x3) (env' := [(5, .d (.sl (p0.map shapes_rule.d))), (6, .d (.int .i64 (p0.length : Int))), (7, .d (.int .i64 s1)), (9, .pimm (shapes_rule.d x3) 0), (10, .d (shapes_rule.d x3))]) (loc' := []) rfl rfl rfl rfl (by (try simp only [List.length_set, copied_len]); exact trkT (by kernel_rfl) (by kernel_rfl) (by kernel_rfl))) ?_
      refine sr ?_
      refine ts (faI fT84_0 rfl rfl) ?_
      refine ts (ldI sT4 rfl rfl) ?_
      refine ts (not_ rfl) ?_
      refine rn ?_
      rcases ite h with ⟨c4, h⟩ | ⟨c4, h⟩
      · refine ct rfl (not_t (vf c4)) ?_
        refine sr ?_
        refine ts (faI fT84_1 rfl rfl) ?_
        refine ts (ldI sT30 rfl rfl) ?_
        refine ts (as_ rfl) ?_
        refine rn ?_
        refine CWp.ret ?_
        obtain rfl := some_inj h
        exact ⟨rfl, rt1 (ex := false) (by exact (.t rfl .n)) (by exact (gd (by rfl))) (by rfl) (by rfl)⟩
      · refine cf rfl (not_f (Classical.not_not.1 c4)) ?_
        refine CWp.skip ?_
        refine lr ?_
        refine ts (add rfl rfl) ?_
        refine ts (mv rfl) ?_
        refine rn ?_
        obtain rfl := some_inj h
        exact ⟨rfl, (by (try simp only [List.length_set, copied_len]); exact trk (by kernel_rfl) (by kernel_rfl) (by kernel_rfl))⟩
    · refine cf rfl (bf c2) ?_
      refine CWp.exit ?_
      obtain rfl := some_inj h
      exact ⟨rfl, (by (try simp only [List.length_set, copied_len]); exact trk (by kernel_rfl) (by kernel_rfl) (by kernel_rfl))⟩
  · cases z5 with
    | inl v6 =>
      intro e s ht
      refine CWp.trim ht ?_
      refine sr ?_
      refine ts (ac rfl rfl) ?_
      refine rn ?_
      refine CWp.ret ?_
      obtain rfl := some_inj h
      exact ⟨trivial, rt1 (ex := false) (by exact (.t rfl .n)) (by exact (gd (by rfl))) (by rfl) (by rfl)⟩
    | inr r7 =>
      intro e s hr
      obtain rfl := some_inj h
      exact ⟨trivial, hr⟩
theorem shapes_boundsErr_ok {p0 : (List api_Bound)} {out : Out} {r : Int} (h : shapes_boundsErr p0 = some r) : FunOk PP 54 [.d (.sl (p0.map api_Bound.d))] out ⟨.d (.int .i64 r), []⟩ := by
  unfold shapes_boundsErr at h
  refine fi Try.func54 rfl (by kernel_rfl) (by kernel_rfl) (by kernel_rfl) ?_
  refine sr ?_
  refine ts (ac rfl rfl) ?_
  refine rn ?_
  refine CWp.seq ?_
  refine sr ?_
  refine ts (mv rfl) ?_
  refine ts (lnD lT22 rfl rfl) ?_
  refine ts (gtr rfl rfl) ?_
  refine rn ?_
  rcases ite h with ⟨c1, h⟩ | ⟨c1, h⟩
  · refine ct rfl (bt c1) ?_
    refine sr ?_
    refine ts (ac rfl rfl) ?_
    refine rn ?_
    refine CWp.ret ?_
    obtain rfl := some_inj h
    exact ⟨trivial, rt1 (ex := false) (by exact (.t rfl .n)) (by exact (gd (by rfl))) (by rfl) (by rfl)⟩
  · refine cf rfl (bf c1) ?_
    refine CWp.skip ?_
    refine sr ?_
    refine ts (mv rfl) ?_
    obtain ⟨x2, hx2, h⟩ := bnd h
    refine ts (cln (f := fun _ => false) kf rfl (.c rfl le1 (.c rfl le1 .n)) (curOf_nil _) (slices_ContainsFunc_api_Bound__shapes_boundsErr_c1_ok hx2) rfl) ?_
    refine ts (as_ rfl) ?_
    refine rn ?_
    refine CWp.seq ?_
    refine sr ?_
    refine ts (mv rfl) ?_
    refine rn ?_
    rcases ite h with ⟨c3, h⟩ | ⟨c3, h⟩
    · refine ct rfl c3 ?_
      refine sr ?_
      refine ts (ac rfl rfl) ?_
      refine rn ?_
      refine CWp.ret ?_
      obtain rfl := some_inj h
      exact ⟨trivial, rt1 (ex := false) (by exact (.t rfl .n)) (by exact (gd (by rfl))) (by rfl) (by rfl)⟩
    · refine cf rfl (vf c3) ?_
      refine CWp.skip ?_
      refine sr ?_
      refine ts (mv rfl) ?_
      obtain ⟨x4, hx4, h⟩ := bnd h
      refine ts (cln (f := fun _ => false) kf rfl (.c rfl le1 (.c rfl le1 .n)) (curOf_nil _) (slices_ContainsFunc_api_Bound__shapes_boundsErr_c2_ok hx4) rfl) ?_
      refine ts (as_ rfl) ?_
      refine rn ?_
      refine sr ?_
      refine ts (mv rfl) ?_
      refine ts (not_ rfl) ?_
      refine ts (mv rfl) ?_
      rcases ite h with ⟨c5, h⟩ | ⟨c5, h⟩
      · refine us (gy rfl rfl (not_t (vf c5))) (mv rfl) ?_
        obtain ⟨x6, hx6, h⟩ := bnd h
        refine us (gy rfl rfl (not_t (vf c5))) (cln (f := fun _ => false) kf rfl (.c rfl le1 .n) (curOf_nil _) (shapes_size_ok hx6) rfl) ?_
        refine us (gy rfl rfl (not_t (vf c5))) (leq rfl rfl) ?_
        refine ts (pt rfl (not_t (vf c5)) rfl) ?_
        refine ts (bld (v := .d (shapes_rule.d (shapes_rule.mk (decide (x6 ≤ 512)) 8))) rfl (by kernel_rfl)) ?_
        refine ts (bsT (l := (([(shapes_rule.mk (decide (x6 ≤ 512)) 8)] : List shapes_rule).map shapes_rule.d)) lT102 rfl rfl rfl (by kernel_rfl)) ?_
        obtain ⟨x7, hx7, h⟩ := bnd h
        refine ts (cln (f := fun _ => false) kf rfl (.c rfl le2 .n) (curOf_nil _) (shapes_broken_ok hx7) rfl) ?_
        refine ts (as_ rfl) ?_
        refine rn ?_
        refine CWp.ret ?_
        obtain rfl := some_inj h
        exact ⟨trivial, rt1 (ex := false) (by exact (.t rfl .n)) (by exact (gd (by rfl))) (by rfl) (by rfl)⟩
      · refine un (gn rfl rfl (not_f (Classical.not_not.1 c5))) ?_
        refine un (gn rfl rfl (not_f (Classical.not_not.1 c5))) ?_
        refine un (gn rfl rfl (not_f (Classical.not_not.1 c5))) ?_
        refine ts (pf rfl (not_f (Classical.not_not.1 c5)) rfl) ?_
        refine ts (bld (v := .d (shapes_rule.d (shapes_rule.mk false 8))) rfl (by kernel_rfl)) ?_
        refine ts (bsT (l := (([(shapes_rule.mk false 8)] : List shapes_rule).map shapes_rule.d)) lT102 rfl rfl rfl (by kernel_rfl)) ?_
        obtain ⟨x8, hx8, h⟩ := bnd h
        refine ts (cln (f := fun _ => false) kf rfl (.c rfl le2 .n) (curOf_nil _) (shapes_broken_ok hx8) rfl) ?_
        refine ts (as_ rfl) ?_
        refine rn ?_
        refine CWp.ret ?_
        obtain rfl := some_inj h
        exact ⟨trivial, rt1 (ex := false) (by exact (.t rfl .n)) (by exact (gd (by rfl))) (by rfl) (by rfl)⟩
theorem cmp_Or_api_Errno_ok {p0 : (List Int)} {out : Out} {r : Int} (h : cmp_Or_api_Errno p0 = some r) : FunOk PP 27 [.d (.sl (p0.map dI))] out ⟨.d (.int .i64 r), []⟩ := by
  unfold cmp_Or_api_Errno at h
  refine fi Try.func27 rfl (by kernel_rfl) (by kernel_rfl) (by kernel_rfl) ?_
  refine sr ?_
  refine ts (ac rfl rfl) ?_
  refine rn ?_
  refine sr ?_
  refine ts (ac rfl rfl) ?_
  refine rn ?_
  refine CWp.seq ?_
  refine sr ?_
  refine ts (mv rfl) ?_
  refine ts (lnD lT91 rfl rfl) ?_
  refine ts (mv rfl) ?_
  refine rn ?_
  obtain ⟨z5, hz5, h⟩ := bnd h
  refine lbr (E := fun s1 => [(3, .d (.int .i64 0)), (6, .d (.sl (p0.map dI))), (7, .d (.int .i64 (p0.length : Int))), (8, .d (.int .i64 s1))]) (M := fun s1 => ⟨[], out, []⟩) (E' := fun y => [(3, .d (.int .i64 0))]) (M' := fun y => ⟨[], out, []⟩) (RT := fun r e s => Lx.Returns PP Try.f27.results.toList e s ⟨.d (.int .i64 r), []⟩) hz5 (by (try simp only [List.length_set, copied_len]); exact trk (by kernel_rfl) (by kernel_rfl) (by kernel_rfl)) ?_ ?_
  · intro s1 ww h
    unfold cmp_Or_api_Errno.s1 at h
    refine sr ?_
    refine ts (lss rfl rfl) ?_
    refine rn ?_
    refine CWp.seq ?_
    rcases ite h with ⟨c2, h⟩ | ⟨c2, h⟩
    · refine ct rfl (bt c2) ?_
      refine CWp.skip ?_
      refine CWp.seq ?_
      refine CWp.block ?_
      refine sr ?_
      obtain ⟨x3, hx3, h⟩ := bnd h
      refine ts (ixD lT91 szI rfl rfl hx3) ?_
      refine ts (ldI sT30 rfl rfl) ?_
      refine ts (as_ rfl) ?_
      refine rn ?_
      refine sr ?_
      refine ts (mv rfl) ?_
      refine ts (mv rfl) ?_
      refine ts (neq rfl rfl) ?_
      refine rn ?_
      rcases ite h with ⟨c4, h⟩ | ⟨c4, h⟩
      · refine ct rfl (nt c4) ?_
        refine sr ?_
        refine ts (mv rfl) ?_
        refine ts (as_ rfl) ?_
        refine rn ?_
        refine CWp.ret ?_
        obtain rfl := some_inj h
        exact ⟨rfl, rt1 (ex := false) (by exact (.t rfl .n)) (by exact (gd (by rfl))) (by rfl) (by rfl)⟩
      · refine cf rfl (nf c4) ?_
        refine CWp.skip ?_
        refine lr ?_
        refine ts (add rfl rfl) ?_
        refine ts (mv rfl) ?_
        refine rn ?_
        obtain rfl := some_inj h
        exact ⟨rfl, (by (try simp only [List.length_set, copied_len]); exact trk (by kernel_rfl) (by kernel_rfl) (by kernel_rfl))⟩
    · refine cf rfl (bf c2) ?_
      refine CWp.exit ?_
      obtain rfl := some_inj h
      exact ⟨rfl, (by (try simp only [List.length_set, copied_len]); exact trk (by kernel_rfl) (by kernel_rfl) (by kernel_rfl))⟩
  · cases z5 with
    | inl v6 =>
      intro e s ht
      refine CWp.trim ht ?_
      refine sr ?_
      refine ts (mv rfl) ?_
      refine ts (as_ rfl) ?_
      refine rn ?_
      refine CWp.ret ?_
      obtain rfl := some_inj h
      exact ⟨trivial, rt1 (ex := false) (by exact (.t rfl .n)) (by exact (gd (by rfl))) (by rfl) (by rfl)⟩
    | inr r7 =>
      intro e s hr
      obtain rfl := some_inj h
      exact ⟨trivial, hr⟩
theorem shapes_strides_ok {p0 : (List Int)} {out : Out} {r : (List Int)} (h : shapes_strides p0 = some r) : FunOk PP 32 [.d (.sl (p0.map dI))] out ⟨.d (.sl (r.map dI)), []⟩ := by
  unfold shapes_strides at h
  refine fi Try.func32 rfl (by kernel_rfl) (by kernel_rfl) (by kernel_rfl) ?_
  refine sr ?_
  refine ts (ak.wk (x' := .sl (([] : List Int).map dI)) rfl) ?_
  refine rn ?_
  refine sr ?_
  refine ta (an (n := 0) lT23 rfl) ?_
  refine rn ?_
  refine sr ?_
  refine ts (ac rfl rfl) ?_
  refine rn ?_
  refine CWp.seq ?_
  refine sr ?_
  refine ts (mv rfl) ?_
  refine ts (lnD lT23 rfl rfl) ?_
  refine ts (mv rfl) ?_
  refine rn ?_
  obtain ⟨z5, hz5, h⟩ := bnd h
  refine lb (E := fun s1 => [(3, .ref ⟨out.length, 3, 0⟩ 0 s1.2.2.length s1.2.2.length), (4, .d (.int .i64 s1.1)), (7, .d (.sl (p0.map dI))), (8, .d (.int .i64 (p0.length : Int))), (9, .d (.int .i64 s1.2.1))]) (M := fun s1 => ⟨[((3, 0), .arr 1 false (s1.2.2.map dI))], out, []⟩) (E' := fun y => [(3, .ref ⟨out.length, 3, 0⟩ 0 y.length y.length)]) (M' := fun y => ⟨[((3, 0), .arr 1 false (y.map dI))], out, []⟩) hz5 (by (try simp only [List.length_set, copied_len]); exact trk (by kernel_rfl) (by kernel_rfl) (by kernel_rfl)) ?_ ?_
  · intro s1 ww h
    unfold shapes_strides.s1 at h
    refine sr ?_
    refine ts (lss rfl rfl) ?_
    refine rn ?_
    refine CWp.seq ?_
    rcases ite h with ⟨c2, h⟩ | ⟨c2, h⟩
    · refine ct rfl (bt c2) ?_
      refine CWp.skip ?_
      refine CWp.seq ?_
      refine CWp.block ?_
      refine sr ?_
      obtain ⟨x3, hx3, h⟩ := bnd h
      refine ts (ixD lT23 szI rfl rfl hx3) ?_
      refine ts (ldI sT3 rfl rfl) ?_
      refine ts (as_ rfl) ?_
      refine rn ?_
      refine sr ?_
      refine ts (mv rfl) ?_
      refine ts (mv rfl) ?_
      refine ts (bsT (l := (([s1.1] : List Int).map dI)) lT23 rfl rfl rfl (by kernel_rfl)) ?_
      obtain ⟨x4, hx4, h⟩ := bnd h
      refine tp (apG (ys := ([s1.1] : List Int)) (xs := s1.2.2) (f := dI) lT23 uT23 szI rfl rfl rfl elT (ow rfl) hx4 (so .h)) ?_
      refine ts (as_ rfl) ?_
      refine rn ?_
      refine lr ?_
      refine ts (mv rfl) ?_
      refine ts (mv rfl) ?_
      refine ts (mul rfl rfl) ?_
      refine ts (as_ rfl) ?_
      refine rn ?_
      refine lr ?_
      refine ts (add rfl rfl) ?_
      refine ts (mv rfl) ?_
      refine rn ?_
      obtain rfl := some_inj h
      exact ⟨rfl, (by (try simp only [List.length_set, copied_len]); exact trk (by kernel_rfl) (by kernel_rfl) (by kernel_rfl))⟩
    · refine cf rfl (bf c2) ?_
      refine CWp.exit ?_
      obtain rfl := some_inj h
      exact ⟨rfl, (by (try simp only [List.length_set, copied_len]); exact trk (by kernel_rfl) (by kernel_rfl) (by kernel_rfl))⟩
  · intro e s ht
    refine CWp.trim ht ?_
    refine sr ?_
    refine ts (mv rfl) ?_
    refine ts (as_ rfl) ?_
    refine rn ?_
    refine CWp.ret ?_
    obtain rfl := some_inj h
    exact ⟨trivial, rt1 (ex := false) (by exact (.t rfl .n)) (by exact (gf rfl rfl)) (by rfl) (by rfl)⟩
theorem shapes_OffsetOf_ok {p0 : (List api_Bound)} {p1 : (List Int)} {out : Out} {r : Int × Int} (h : shapes_OffsetOf p0 p1 = some r) : FunOk PP 20 [.d (.sl (p0.map api_Bound.d)), .d (.sl (p1.map dI))] out ⟨.tup [.d (.int .i64 r.1), .d (.int .i64 r.2)], []⟩ := by
  unfold shapes_OffsetOf at h
  refine fi Try.func20 rfl (by kernel_rfl) (by kernel_rfl) (by kernel_rfl) ?_
  refine sr ?_
  refine ts (ac rfl rfl) ?_
  refine ts (ac rfl rfl) ?_
  refine rn ?_
  refine CWp.seq ?_
  refine sr ?_
  refine ts (mv rfl) ?_
  obtain ⟨x1, hx1, h⟩ := bnd h
  refine ts (cln (f := fun _ => false) kf rfl (.c rfl le1 .n) (curOf_nil _) (shapes_boundsErr_ok hx1) rfl) ?_
  refine ts (mv rfl) ?_
  refine ts (lnD lT23 rfl rfl) ?_
  refine ts (mv rfl) ?_
  refine ts (lnD lT22 rfl rfl) ?_
  refine ts (eql rfl rfl) ?_
  refine ts (bld (v := .d (shapes_rule.d (shapes_rule.mk ((p1.length : Int) == (p0.length : Int)) 32))) rfl (by kernel_rfl)) ?_
  refine ts (bsT (l := (([(shapes_rule.mk ((p1.length : Int) == (p0.length : Int)) 32)] : List shapes_rule).map shapes_rule.d)) lT102 rfl rfl rfl (by kernel_rfl)) ?_
  obtain ⟨x2, hx2, h⟩ := bnd h
  refine ts (cln (f := fun _ => false) kf rfl (.c rfl le2 .n) (curOf_nil _) (shapes_broken_ok hx2) rfl) ?_
  refine ts (bsT (l := (([x1, x2] : List Int).map dI)) lT91 rfl rfl rfl (by kernel_rfl)) ?_
  obtain ⟨x3, hx3, h⟩ := bnd h
  refine ts (cln (f := fun _ => false) kf rfl (.c rfl le2 .n) (curOf_nil _) (cmp_Or_api_Errno_ok hx3) rfl) ?_
  refine ts (as_ rfl) ?_
  refine rn ?_
  refine sr ?_
  refine ts (mv rfl) ?_
  refine ts (neq rfl rfl) ?_
  refine rn ?_
  rcases ite h with ⟨c4, h⟩ | ⟨c4, h⟩
  · refine ct rfl (nt c4) ?_
    refine sr ?_
    refine ts (mv rfl) ?_
    refine ts (ac rfl rfl) ?_
    refine ts (as_ rfl) ?_
    refine rn ?_
    refine CWp.ret ?_
    obtain rfl := some_inj h
    exact ⟨trivial, rt2 (ex := false) (by exact (.t rfl (.t rfl .n))) (by exact (sc (gd (by rfl)) (sc (gd (by rfl)) sn))) (by rfl) (by rfl)⟩
  · refine cf rfl (nf c4) ?_
    refine CWp.skip ?_
    refine sr ?_
    refine ts (mv rfl) ?_
    obtain ⟨x5, hx5, h⟩ := bnd h
    refine ts (cln (f := fun _ => false) kf rfl (.c rfl le1 .n) (curOf_nil _) (shapes_extents_ok hx5) rfl) ?_
    obtain ⟨x6, hx6, h⟩ := bnd h
    refine ts (cln (f := fun _ => false) kf rfl (.c rfl le1 .n) (curOf_nil _) (shapes_strides_ok hx6) rfl) ?_
    refine ts (as_ rfl) ?_
    refine rn ?_
    refine sr ?_
    refine ts (ac rfl rfl) ?_
    refine rn ?_
    refine CWp.seq ?_
    refine sr ?_
    refine ts (mv rfl) ?_
    refine ts (lnD lT23 rfl rfl) ?_
    refine ts (mv rfl) ?_
    refine rn ?_
    obtain ⟨z15, hz15, h⟩ := bnd h
    refine lbr (E := fun s7 => [(0, .d (.sl (p0.map api_Bound.d))), (7, .d (.sl (x6.map dI))), (8, .d (.int .i64 s7.1)), (29, .d (.sl (p1.map dI))), (30, .d (.int .i64 (p1.length : Int))), (31, .d (.int .i64 s7.2))]) (M := fun s7 => ⟨[], out, []⟩) (E' := fun y => [(8, .d (.int .i64 y))]) (M' := fun y => ⟨[], out, []⟩) (RT := fun r e s => Lx.Returns PP Try.f20.results.toList e s ⟨.tup [.d (.int .i64 r.1), .d (.int .i64 r.2)], []⟩) hz15 (by (try simp only [List.length_set, copied_len]); exact trk (by kernel_rfl) (by kernel_rfl) (by kernel_rfl)) ?_ ?_
    · intro s7 ww h
      unfold shapes_OffsetOf.s1 at h
      refine sr ?_
      refine ts (lss rfl rfl) ?_
      refine rn ?_
      refine CWp.seq ?_
      rcases ite h with ⟨c8, h⟩ | ⟨c8, h⟩
      · refine ct rfl (bt c8) ?_
        refine CWp.skip ?_
        refine CWp.seq ?_
        refine CWp.block ?_
        refine sr ?_
        refine ts (mv rfl) ?_
        obtain ⟨x9, hx9, h⟩ := bnd h
        refine ts (ixD lT23 szI rfl rfl hx9) ?_
        refine ts (ldI sT3 rfl rfl) ?_
        refine ts (as_ rfl) ?_
        refine ts (as_ rfl) ?_
        refine rn ?_
        refine CWp.seq ?_
        refine sd mixed (b := [0, 0, 0, 6, 14, 30, 0, 0, 192, 448, 960, 2047, 4095]) (by kernel_rfl) ?_
        refine ds (mv rfl) rfl ?_
        refine ds (mv rfl) rfl ?_
        refine ds (mv rfl) rfl ?_
        obtain ⟨x10, hx10, h⟩ := bnd h
        refine ds (ixD lT22 api_Bound.sz rfl rfl hx10) rfl ?_
        refine ds (faI fT81_0 rfl rfl) rfl ?_
        refine ds (ldI sT3 rfl rfl) rfl ?_
        refine ds (mv rfl) rfl ?_
        refine ds (mv rfl) rfl ?_
        obtain ⟨x11, hx11, h⟩ := bnd h
        refine ds (ixD lT22 api_Bound.sz rfl rfl hx11) rfl ?_
        refine ds (faI fT81_1 rfl rfl) rfl ?_
        refine ds (ldI sT3 rfl rfl) rfl ?_
        refine dr (cln (f := fun _ => false) kf rfl (.c rfl le1 (.c rfl le1 (.c rfl le1 .n))) (curOf_nil _) (shapes_inside_ok (rfl : shapes_inside x9 x10.Low x11.High = _)) rfl) rfl ?_
        refine ds (not_ rfl) rfl ?_
        refine dn (by kernel_rfl) ?_
        rcases ite h with ⟨c12, h⟩ | ⟨c12, h⟩
        · refine ct rfl (not_t (vf c12)) ?_
          refine sr ?_
          refine ts (ac rfl rfl) ?_
          refine ts (ac rfl rfl) ?_
          refine rn ?_
          refine CWp.ret ?_
          obtain rfl := some_inj h
          exact ⟨rfl, rt2 (ex := false) (by exact (.t rfl (.t rfl .n))) (by exact (sc (gd (by rfl)) (sc (gd (by rfl)) sn))) (by rfl) (by rfl)⟩
        · refine cf rfl (not_f (Classical.not_not.1 c12)) ?_
          refine CWp.skip ?_
          refine ld_ mixed (b := [0, 0, 0, 6, 14, 0, 0, 0, 192, 448, 960, 2016, 4094, 8191, 16383]) (by kernel_rfl) ?_
          refine ds (mv rfl) rfl ?_
          refine ds (mv rfl) rfl ?_
          refine ds (mv rfl) rfl ?_
          obtain ⟨x13, hx13, h⟩ := bnd h
          refine ds (ixD lT23 szI rfl rfl hx13) rfl ?_
          refine ds (ldI sT3 rfl rfl) rfl ?_
          refine ds (mv rfl) rfl ?_
          refine ds (mv rfl) rfl ?_
          refine ds (mv rfl) rfl ?_
          obtain ⟨x14, hx14, h⟩ := bnd h
          refine ds (ixD lT22 api_Bound.sz rfl rfl hx14) rfl ?_
          refine ds (faI fT81_0 rfl rfl) rfl ?_
          refine ds (ldI sT3 rfl rfl) rfl ?_
          refine ds (sub rfl rfl) rfl ?_
          refine ds (mul rfl rfl) rfl ?_
          refine ds (add rfl rfl) rfl ?_
          refine ds (as_ rfl) rfl ?_
          refine dn (by kernel_rfl) ?_
          refine lr ?_
          refine ts (add rfl rfl) ?_
          refine ts (mv rfl) ?_
          refine rn ?_
          obtain rfl := some_inj h
          exact ⟨rfl, (by (try simp only [List.length_set, copied_len]); exact trk (by kernel_rfl) (by kernel_rfl) (by kernel_rfl))⟩
      · refine cf rfl (bf c8) ?_
        refine CWp.exit ?_
        obtain rfl := some_inj h
        exact ⟨rfl, (by (try simp only [List.length_set, copied_len]); exact trk (by kernel_rfl) (by kernel_rfl) (by kernel_rfl))⟩
    · cases z15 with
      | inl v16 =>
        intro e s ht
        refine CWp.trim ht ?_
        refine sr ?_
        refine ts (mv rfl) ?_
        refine ts (as_ rfl) ?_
        refine ts (ac rfl rfl) ?_
        refine rn ?_
        refine CWp.ret ?_
        obtain rfl := some_inj h
        exact ⟨trivial, rt2 (ex := false) (by exact (.t rfl (.t rfl .n))) (by exact (sc (gd (by rfl)) (sc (gd (by rfl)) sn))) (by rfl) (by rfl)⟩
      | inr r17 =>
        intro e s hr
        obtain rfl := some_inj h
        exact ⟨trivial, hr⟩
theorem law15_Range_ok {p0 : Int} {p1 : Int} {p2 : Int} {out : Out} {r : api_Subscript} (h : law15_Range p0 p1 p2 = r) : FunOk PP 23 [.d (.int .i64 p0), .d (.int .i64 p1), .d (.int .i64 p2)] out ⟨.d (api_Subscript.d r), []⟩ := by
  unfold law15_Range at h
  refine fi Try.func23 rfl (by kernel_rfl) (by kernel_rfl) (by kernel_rfl) ?_
  refine sr ?_
  refine ta (al (n := 0) zT52 rfl) ?_
  refine rn ?_
  refine sr ?_
  refine ts (mv rfl) ?_
  refine ts (mv rfl) ?_
  refine ts (mv rfl) ?_
  refine ts ((bld (v := .d (.agg [.int .i64 1, .int .i64 p0, .int .i64 p1, .int .i64 p2, .nilsl])) rfl (by kernel_rfl)).wk (x' := api_Subscript.d (api_Subscript.mk 1 p0 p1 p2 [])) rfl) ?_
  refine tt0 (stW aT52 rfl rfl rfl rfl rfl rfl .h) ?_
  refine rn ?_
  refine CWp.ret ?_
  obtain rfl := h
  exact ⟨trivial, rt1 (ex := false) (by exact (rcW aT52 rfl (ow rfl) rfl rfl .n)) (by exact (gd (by rfl))) (by rfl) (by rfl)⟩
theorem law15_Index_ok {p0 : Int} {out : Out} {r : api_Subscript} (h : law15_Index p0 = r) : FunOk PP 24 [.d (.int .i64 p0)] out ⟨.d (api_Subscript.d r), []⟩ := by
  unfold law15_Index at h
  refine fi Try.func24 rfl (by kernel_rfl) (by kernel_rfl) (by kernel_rfl) ?_
  refine sr ?_
  refine ta (al (n := 0) zT52 rfl) ?_
  refine rn ?_
  refine sr ?_
  refine ts (mv rfl) ?_
  refine ts ((bld (v := .d (.agg [.int .i64 0, .int .i64 p0, .int .i64 0, .int .i64 0, .nilsl])) rfl (by kernel_rfl)).wk (x' := api_Subscript.d (api_Subscript.mk 0 p0 0 0 [])) rfl) ?_
  refine tt0 (stW aT52 rfl rfl rfl rfl rfl rfl .h) ?_
  refine rn ?_
  refine CWp.ret ?_
  obtain rfl := h
  exact ⟨trivial, rt1 (ex := false) (by exact (rcW aT52 rfl (ow rfl) rfl rfl .n)) (by exact (gd (by rfl))) (by rfl) (by rfl)⟩
theorem shapes_isInteger_ok {p0 : Int} {out : Out} {r : Bool} (h : shapes_isInteger p0 = r) : FunOk PP 60 [.d (.int .i64 p0)] out ⟨.d (.bool r), []⟩ := by
  unfold shapes_isInteger at h
  refine fi Try.func60 rfl (by kernel_rfl) (by kernel_rfl) (by kernel_rfl) ?_
  refine sr ?_
  refine ts (ac rfl rfl) ?_
  refine rn ?_
  refine sr ?_
  refine ts (mv rfl) ?_
  refine ts (cln (f := fun _ => false) kf rfl (.c rfl le1 (.c rfl le1 (.c rfl le1 .n))) (curOf_nil _) (shapes_inside_ok (rfl : shapes_inside p0 (-2147483648) 2147483647 = _)) rfl) ?_
  refine ts (as_ rfl) ?_
  refine rn ?_
  refine CWp.ret ?_
  obtain rfl := h
  exact ⟨trivial, rt1 (ex := false) (by exact (.t rfl .n)) (by exact (gd (by rfl))) (by rfl) (by rfl)⟩
theorem shapes_CheckArray_c1_ok {p0 : Int} {p1 : Int} {out : Out} {r : Int} (h : shapes_CheckArray_c1 p0 p1 = some r) : FunOk PP 77 [.d (.int .i64 p0), .d (.int .i64 p1)] out ⟨.d (.int .i64 r), []⟩ := by
  unfold shapes_CheckArray_c1 at h
  refine fi Try.func77 rfl (by kernel_rfl) (by kernel_rfl) (by kernel_rfl) ?_
  refine sr ?_
  refine ts (ac rfl rfl) ?_
  refine rn ?_
  refine sr ?_
  refine ts (mv rfl) ?_
  refine ts (cln (f := fun _ => false) kf rfl (.c rfl le1 .n) (curOf_nil _) (shapes_isInteger_ok (rfl : shapes_isInteger p1 = _)) rfl) ?_
  refine ts (bld (v := .d (shapes_rule.d (shapes_rule.mk (shapes_isInteger p1) 2))) rfl (by kernel_rfl)) ?_
  refine ts (bsT (l := (([(shapes_rule.mk (shapes_isInteger p1) 2)] : List shapes_rule).map shapes_rule.d)) lT102 rfl rfl rfl (by kernel_rfl)) ?_
  obtain ⟨x1, hx1, h⟩ := bnd h
  refine ts (cln (f := fun _ => false) kf rfl (.c rfl le2 .n) (curOf_nil _) (shapes_broken_ok hx1) rfl) ?_
  refine ts (as_ rfl) ?_
  refine rn ?_
  refine CWp.ret ?_
  obtain rfl := some_inj h
  exact ⟨trivial, rt1 (ex := false) (by exact (.t rfl .n)) (by exact (gd (by rfl))) (by rfl) (by rfl)⟩
theorem shapes_firstBad_int__shapes_CheckArray_c1_ok {p0 : (List Int)} {out : Out} {r : Int × Int} (h : shapes_firstBad_int__shapes_CheckArray_c1 p0 = some r) : FunOk PP 76 [.d (.sl (p0.map dI)), .d (.fn 77)] out ⟨.tup [.d (.int .i64 r.1), .d (.int .i64 r.2)], []⟩ := by
  unfold shapes_firstBad_int__shapes_CheckArray_c1 at h
  refine fi Try.func76 rfl (by kernel_rfl) (by kernel_rfl) (by kernel_rfl) ?_
  refine sr ?_
  refine ts (ac rfl rfl) ?_
  refine ts (ac rfl rfl) ?_
  refine rn ?_
  refine CWp.seq ?_
  refine sr ?_
  refine ts (mv rfl) ?_
  refine ts (lnD lT23 rfl rfl) ?_
  refine ts (mv rfl) ?_
  refine rn ?_
  obtain ⟨z6, hz6, h⟩ := bnd h
  refine lbr (E := fun s1 => [(1, .d (.fn 77)), (9, .d (.sl (p0.map dI))), (10, .d (.int .i64 (p0.length : Int))), (11, .d (.int .i64 s1))]) (M := fun s1 => ⟨[], out, []⟩) (E' := fun y => []) (M' := fun y => ⟨[], out, []⟩) (RT := fun r e s => Lx.Returns PP Try.f76.results.toList e s ⟨.tup [.d (.int .i64 r.1), .d (.int .i64 r.2)], []⟩) hz6 (by (try simp only [List.length_set, copied_len]); exact trk (by kernel_rfl) (by kernel_rfl) (by kernel_rfl)) ?_ ?_
  · intro s1 ww h
    unfold shapes_firstBad_int__shapes_CheckArray_c1.s1 at h
    refine sr ?_
    refine ts (lss rfl rfl) ?_
    refine rn ?_
    refine CWp.seq ?_
    rcases ite h with ⟨c2, h⟩ | ⟨c2, h⟩
    · refine ct rfl (bt c2) ?_
      refine CWp.skip ?_
      refine CWp.seq ?_
      refine CWp.block ?_
      refine sr ?_
      refine ts (mv rfl) ?_
      obtain ⟨x3, hx3, h⟩ := bnd h
      refine ts (ixD lT23 szI rfl rfl hx3) ?_
      refine ts (ldI sT3 rfl rfl) ?_
      refine ts (as_ rfl) ?_
      refine ts (as_ rfl) ?_
      refine rn ?_
      refine sr ?_
      refine ts (mv rfl) ?_
      refine ts (mv rfl) ?_
      refine ts (mv rfl) ?_
      obtain ⟨x4, hx4, h⟩ := bnd h
      refine ts (cln (f := fun _ => false) (kt rfl) rfl (.c rfl le1 (.c rfl le1 .n)) (curOf_nil _) (shapes_CheckArray_c1_ok hx4) rfl) ?_
      refine ts (as_ rfl) ?_
      refine rn ?_
      refine sr ?_
      refine ts (mv rfl) ?_
      refine ts (neq rfl rfl) ?_
      refine rn ?_
      rcases ite h with ⟨c5, h⟩ | ⟨c5, h⟩
      · refine ct rfl (nt c5) ?_
        refine sr ?_
        refine ts (mv rfl) ?_
        refine ts (mv rfl) ?_
        refine ts (as_ rfl) ?_
        refine ts (as_ rfl) ?_
        refine rn ?_
        refine CWp.ret ?_
        obtain rfl := some_inj h
        exact ⟨rfl, rt2 (ex := false) (by exact (.t rfl (.t rfl .n))) (by exact (sc (gd (by rfl)) (sc (gd (by rfl)) sn))) (by rfl) (by rfl)⟩
      · refine cf rfl (nf c5) ?_
        refine CWp.skip ?_
        refine lr ?_
        refine ts (add rfl rfl) ?_
        refine ts (mv rfl) ?_
        refine rn ?_
        obtain rfl := some_inj h
        exact ⟨rfl, (by (try simp only [List.length_set, copied_len]); exact trk (by kernel_rfl) (by kernel_rfl) (by kernel_rfl))⟩
    · refine cf rfl (bf c2) ?_
      refine CWp.exit ?_
      obtain rfl := some_inj h
      exact ⟨rfl, (by (try simp only [List.length_set, copied_len]); exact trk (by kernel_rfl) (by kernel_rfl) (by kernel_rfl))⟩
  · cases z6 with
    | inl v7 =>
      intro e s ht
      refine CWp.trim ht ?_
      refine sr ?_
      refine ts (ac rfl rfl) ?_
      refine ts (ac rfl rfl) ?_
      refine rn ?_
      refine CWp.ret ?_
      obtain rfl := some_inj h
      exact ⟨trivial, rt2 (ex := false) (by exact (.t rfl (.t rfl .n))) (by exact (sc (gd (by rfl)) (sc (gd (by rfl)) sn))) (by rfl) (by rfl)⟩
    | inr r8 =>
      intro e s hr
      obtain rfl := some_inj h
      exact ⟨trivial, hr⟩
theorem shapes_CheckArray_ok {p0 : api_Array} {out : Out} {r : Int × Int} (h : shapes_CheckArray p0 = some r) : FunOk PP 56 [.d (api_Array.d p0)] out ⟨.tup [.d (.int .i64 r.1), .d (.int .i64 r.2)], []⟩ := by
  unfold shapes_CheckArray at h
  refine fi Try.func56 rfl (by kernel_rfl) (by kernel_rfl) (by kernel_rfl) ?_
  refine sr ?_
  refine ts (bxI rfl) ?_
  refine ts (ac rfl rfl) ?_
  refine ts (ac rfl rfl) ?_
  refine rn ?_
  refine CWp.seq ?_
  refine sr ?_
  refine ts (faI fT25_0 rfl rfl) ?_
  refine ts (ldI sT22 rfl rfl) ?_
  obtain ⟨x1, hx1, h⟩ := bnd h
  refine ts (cln (f := fun _ => false) kf rfl (.c rfl le1 .n) (curOf_nil _) (shapes_boundsErr_ok hx1) rfl) ?_
  refine ts (as_ rfl) ?_
  refine rn ?_
  refine sr ?_
  refine ts (mv rfl) ?_
  refine ts (neq rfl rfl) ?_
  refine rn ?_
  rcases ite h with ⟨c2, h⟩ | ⟨c2, h⟩
  · refine ct rfl (nt c2) ?_
    refine sr ?_
    refine ts (mv rfl) ?_
    refine ts (ac rfl rfl) ?_
    refine ts (as_ rfl) ?_
    refine rn ?_
    refine CWp.ret ?_
    obtain rfl := some_inj h
    exact ⟨trivial, rt2 (ex := false) (by exact (.t rfl (.t rfl .n))) (by exact (sc (gd (by rfl)) (sc (gd (by rfl)) sn))) (by rfl) (by rfl)⟩
  · refine cf rfl (nf c2) ?_
    refine CWp.skip ?_
    refine CWp.seq ?_
    refine sd mixed (b := [0, 1, 3, 0, 8, 24, 63]) (by kernel_rfl) ?_
    refine ds (faI fT25_1 rfl rfl) rfl ?_
    refine ds (ldI sT23 rfl rfl) rfl ?_
    refine ds (lnD lT23 rfl rfl) rfl ?_
    refine ds (faI fT25_0 rfl rfl) rfl ?_
    refine ds (ldI sT22 rfl rfl) rfl ?_
    obtain ⟨x3, hx3, h⟩ := bnd h
    refine dr (cln (f := fun _ => false) kf rfl (.c rfl le1 .n) (curOf_nil _) (shapes_size_ok hx3) rfl) rfl ?_
    refine ds (neq rfl rfl) rfl ?_
    refine dn (by kernel_rfl) ?_
    rcases ite h with ⟨c4, h⟩ | ⟨c4, h⟩
    · refine ct rfl (nt c4) ?_
      refine sr ?_
      refine ts (ac rfl rfl) ?_
      refine ts (ac rfl rfl) ?_
      refine rn ?_
      refine CWp.ret ?_
      obtain rfl := some_inj h
      exact ⟨trivial, rt2 (ex := false) (by exact (.t rfl (.t rfl .n))) (by exact (sc (gd (by rfl)) (sc (gd (by rfl)) sn))) (by rfl) (by rfl)⟩
    · refine cf rfl (nf c4) ?_
      refine CWp.skip ?_
      refine sr ?_
      refine ts (faI fT25_1 rfl rfl) ?_
      refine ts (ldI sT23 rfl rfl) ?_
      obtain ⟨x5, hx5, h⟩ := bnd h
      refine ts (cln (f := fun _ => false) kf rfl (.c rfl le1 (.c rfl le1 .n)) (curOf_nil _) (shapes_firstBad_int__shapes_CheckArray_c1_ok hx5) rfl) ?_
      refine ts (ex_ rfl rfl) ?_
      refine ts (ex_ rfl rfl) ?_
      refine ts (as_ rfl) ?_
      refine ts (as_ rfl) ?_
      refine rn ?_
      refine CWp.ret ?_
      obtain rfl := some_inj h
      exact ⟨trivial, rt2 (ex := false) (by exact (.t rfl (.t rfl .n))) (by exact (sc (gd (by rfl)) (sc (gd (by rfl)) sn))) (by rfl) (by rfl)⟩
theorem shapes_arraysErr_ok {p0 : (List api_Array)} {out : Out} {r : Int} (h : shapes_arraysErr p0 = some r) : FunOk PP 28 [.d (.sl (p0.map api_Array.d))] out ⟨.d (.int .i64 r), []⟩ := by
  unfold shapes_arraysErr at h
  refine fi Try.func28 rfl (by kernel_rfl) (by kernel_rfl) (by kernel_rfl) ?_
  refine sr ?_
  refine ts (ac rfl rfl) ?_
  refine rn ?_
  refine CWp.seq ?_
  refine sr ?_
  refine ts (mv rfl) ?_
  refine ts (lnD lT92 rfl rfl) ?_
  refine ts (mv rfl) ?_
  refine rn ?_
  obtain ⟨z6, hz6, h⟩ := bnd h
  refine lbr (E := fun s1 => [(7, .d (.sl (p0.map api_Array.d))), (8, .d (.int .i64 (p0.length : Int))), (9, .d (.int .i64 s1))]) (M := fun s1 => ⟨[], out, []⟩) (E' := fun y => []) (M' := fun y => ⟨[], out, []⟩) (RT := fun r e s => Lx.Returns PP Try.f28.results.toList e s ⟨.d (.int .i64 r), []⟩) hz6 (by (try simp only [List.length_set, copied_len]); exact trk (by kernel_rfl) (by kernel_rfl) (by kernel_rfl)) ?_ ?_
  · intro s1 ww h
    unfold shapes_arraysErr.s1 at h
    refine sr ?_
    refine ts (lss rfl rfl) ?_
    refine rn ?_
    refine CWp.seq ?_
    rcases ite h with ⟨c2, h⟩ | ⟨c2, h⟩
    · refine ct rfl (bt c2) ?_
      refine CWp.skip ?_
      refine CWp.seq ?_
      refine CWp.block ?_
      refine sr ?_
      obtain ⟨x3, hx3, h⟩ := bnd h
      refine ts (ixD lT92 api_Array.sz rfl rfl hx3) ?_
      refine ts (ldIW aT25 rfl rfl rfl) ?_
      refine ta (al (n := 0) zT25 rfl) ?_
      refine tt0 (stW aT25 rfl rfl rfl rfl rfl rfl .h) ?_
      refine rn ?_
      refine CWp.trim (Le.fzBox (t := 4) (e := api_Array.d x3) (env' := [(7, .d (.sl (p0.map api_Array.d))), (8, .d (.int .i64 (p0.length : Int))), (9, .d (.int .i64 s1)), (11, .pimm (api_Array.d x3) 0), (12, .d (api_Array.d x3))]) (loc' := []) rfl rfl rfl rfl (by (try simp only [List.length_set, copied_len]); exact trkT (by kernel_rfl) (by kernel_rfl) (by kernel_rfl))) ?_
      refine sr ?_
      refine ts (ldIW aT25 rfl rfl rfl) ?_
      obtain ⟨x4, hx4, h⟩ := bnd h
      refine ts (cln (f := fun _ => false) kf rfl (.c rfl le1 .n) (curOf_nil _) (shapes_CheckArray_ok hx4) rfl) ?_
      refine ts (mv rfl) ?_
      refine ts (ex_ rfl rfl) ?_
      refine ts (ex_ rfl rfl) ?_
      refine ts (as_ rfl) ?_
      refine ts (as_ rfl) ?_
      refine rn ?_
      refine sr ?_
      refine ts (mv rfl) ?_
      refine ts (neq rfl rfl) ?_
      refine rn ?_
      rcases ite h with ⟨c5, h⟩ | ⟨c5, h⟩
      · refine ct rfl (nt c5) ?_
        refine sr ?_
        refine ts (mv rfl) ?_
        refine ts (as_ rfl) ?_
        refine rn ?_
        refine CWp.ret ?_
        obtain rfl := some_inj h
        exact ⟨rfl, rt1 (ex := false) (by exact (.t rfl .n)) (by exact (gd (by rfl))) (by rfl) (by rfl)⟩
      · refine cf rfl (nf c5) ?_
        refine CWp.skip ?_
        refine lr ?_
        refine ts (add rfl rfl) ?_
        refine ts (mv rfl) ?_
        refine rn ?_
        obtain rfl := some_inj h
        exact ⟨rfl, (by (try simp only [List.length_set, copied_len]); exact trk (by kernel_rfl) (by kernel_rfl) (by kernel_rfl))⟩
    · refine cf rfl (bf c2) ?_
      refine CWp.exit ?_
      obtain rfl := some_inj h
      exact ⟨rfl, (by (try simp only [List.length_set, copied_len]); exact trk (by kernel_rfl) (by kernel_rfl) (by kernel_rfl))⟩
  · cases z6 with
    | inl v7 =>
      intro e s ht
      refine CWp.trim ht ?_
      refine sr ?_
      refine ts (ac rfl rfl) ?_
      refine rn ?_
      refine CWp.ret ?_
      obtain rfl := some_inj h
      exact ⟨trivial, rt1 (ex := false) (by exact (.t rfl .n)) (by exact (gd (by rfl))) (by rfl) (by rfl)⟩
    | inr r8 =>
      intro e s hr
      obtain rfl := some_inj h
      exact ⟨trivial, hr⟩
theorem shapes_subscriptErr_ok {p0 : api_Subscript} {out : Out} {r : Int} (h : shapes_subscriptErr p0 = some r) : FunOk PP 85 [.d (api_Subscript.d p0)] out ⟨.d (.int .i64 r), []⟩ := by
  unfold shapes_subscriptErr at h
  refine fi Try.func85 rfl (by kernel_rfl) (by kernel_rfl) (by kernel_rfl) ?_
  refine sr ?_
  refine ts (bxI rfl) ?_
  refine ts (ac rfl rfl) ?_
  refine rn ?_
  refine CWp.seq ?_
  refine sr ?_
  refine ts (faI fT52_0 rfl rfl) ?_
  refine ts (ldI sT3 rfl rfl) ?_
  refine ts (cln (f := fun _ => false) kf rfl (.c rfl le1 (.c rfl le1 (.c rfl le1 .n))) (curOf_nil _) (shapes_inside_ok (rfl : shapes_inside p0.Kind 0 2 = _)) rfl) ?_
  refine ts (not_ rfl) ?_
  refine rn ?_
  rcases ite h with ⟨c1, h⟩ | ⟨c1, h⟩
  · refine ct rfl (not_t (vf c1)) ?_
    refine sr ?_
    refine ts (ac rfl rfl) ?_
    refine rn ?_
    refine CWp.ret ?_
    obtain rfl := some_inj h
    exact ⟨trivial, rt1 (ex := false) (by exact (.t rfl .n)) (by exact (gd (by rfl))) (by rfl) (by rfl)⟩
  · refine cf rfl (not_f (Classical.not_not.1 c1)) ?_
    refine CWp.skip ?_
    refine sr ?_
    refine ts (faI fT52_0 rfl rfl) ?_
    refine ts (ldI sT3 rfl rfl) ?_
    refine ts (eql rfl rfl) ?_
    refine ts (as_ rfl) ?_
    refine rn ?_
    refine sr ?_
    refine ts (faI fT52_0 rfl rfl) ?_
    refine ts (ldI sT3 rfl rfl) ?_
    refine ts (neq rfl rfl) ?_
    refine ts (mv rfl) ?_
    refine sg 4 [(19, .d (.bool ((p0.Kind != 2) || (p0.Low == 0))))] ?_ ?_
    · rcases bool_or (p0.Kind != 2) with g2 | g3
      · refine un (gn rfl rfl g2) ?_
        refine un (gn rfl rfl g2) ?_
        refine un (gn rfl rfl g2) ?_
        refine ts (pt rfl g2 rfl) ?_
        exact rn (trD 4 rfl (.c (bq (or_t g2)) .n) (by kernel_rfl))
      · refine us (gy rfl rfl g3) (faI fT52_1 rfl rfl) ?_
        refine us (gy rfl rfl g3) (ldI sT3 rfl rfl) ?_
        refine us (gy rfl rfl g3) (eql rfl rfl) ?_
        refine ts (pf rfl g3 rfl) ?_
        exact rn (trD 4 rfl (.c (bq (or_f g3)) .n) (by kernel_rfl))
    refine ts (mv rfl) ?_
    refine sg 12 [(32, .d (.bool (((p0.Kind != 2) || (p0.Low == 0)) && ((p0.Kind == 1) || ((p0.High == 0) && (p0.Step == 0))))))] ?_ ?_
    · rcases bool_or ((p0.Kind != 2) || (p0.Low == 0)) with g4 | g9
      · refine us (gy rfl rfl g4) (mv rfl) ?_
        refine us (gy rfl rfl g4) (mv rfl) ?_
        refine sg 9 [(31, .d (.bool ((p0.Kind == 1) || ((p0.High == 0) && (p0.Step == 0)))))] ?_ ?_
        · rcases bool_or (p0.Kind == 1) with g5 | g6
          · refine un (gn rfl rfl g5) ?_
            refine un (gn rfl rfl g5) ?_
            refine un (gn rfl rfl g5) ?_
            refine un (gn rfl rfl g5) ?_
            refine un (gu rfl rfl) ?_
            refine un (gu rfl rfl) ?_
            refine un (gu rfl rfl) ?_
            refine un (gn rfl rfl g5) ?_
            refine us (gy rfl rfl g4) (pt rfl g5 rfl) ?_
            exact rn (trD 9 rfl (.c (bq (or_t g5)) .n) (by kernel_rfl))
          · refine us (gy rfl rfl g6) (faI fT52_2 rfl rfl) ?_
            refine us (gy rfl rfl g6) (ldI sT3 rfl rfl) ?_
            refine us (gy rfl rfl g6) (eql rfl rfl) ?_
            refine us (gy rfl rfl g6) (mv rfl) ?_
            refine sg 4 [(30, .d (.bool ((p0.High == 0) && (p0.Step == 0))))] ?_ ?_
            · rcases bool_or (p0.High == 0) with g7 | g8
              · refine us (gy rfl rfl g7) (faI fT52_3 rfl rfl) ?_
                refine us (gy rfl rfl g7) (ldI sT3 rfl rfl) ?_
                refine us (gy rfl rfl g7) (eql rfl rfl) ?_
                refine us (gy rfl rfl g6) (pt rfl g7 rfl) ?_
                exact rn (trD 4 rfl (.c (bq (and_t g7)) .n) (by kernel_rfl))
              · refine un (gn rfl rfl g8) ?_
                refine un (gn rfl rfl g8) ?_
                refine un (gn rfl rfl g8) ?_
                refine us (gy rfl rfl g6) (pf rfl g8 rfl) ?_
                exact rn (trD 4 rfl (.c (bq (and_f g8)) .n) (by kernel_rfl))
            refine us (gy rfl rfl g4) (pf rfl g6 rfl) ?_
            exact rn (trD 6 rfl (.c (bq (or_f g6)) .n) (by kernel_rfl))
        refine ts (pt rfl g4 rfl) ?_
        exact rn (trD 4 rfl (.c (bq (and_t g4)) .n) (by kernel_rfl))
      · refine un (gn rfl rfl g9) ?_
        refine un (gn rfl rfl g9) ?_
        refine un (gu rfl rfl) ?_
        refine un (gu rfl rfl) ?_
        refine un (gu rfl rfl) ?_
        refine un (gu rfl rfl) ?_
        refine un (gu rfl rfl) ?_
        refine un (gu rfl rfl) ?_
        refine un (gu rfl rfl) ?_
        refine un (gu rfl rfl) ?_
        refine un (gn rfl rfl g9) ?_
        refine ts (pf rfl g9 rfl) ?_
        exact rn (trD 12 rfl (.c (bq (and_f g9)) .n) (by kernel_rfl))
    refine ts (mv rfl) ?_
    refine sg 10 [(43, .d (.bool ((((p0.Kind != 2) || (p0.Low == 0)) && ((p0.Kind == 1) || ((p0.High == 0) && (p0.Step == 0)))) && ((p0.Kind == 2) || ((p0.List.length : Int) == 0)))))] ?_ ?_
    · rcases bool_or (((p0.Kind != 2) || (p0.Low == 0)) && ((p0.Kind == 1) || ((p0.High == 0) && (p0.Step == 0)))) with g10 | g13
      · refine us (gy rfl rfl g10) (faI fT52_0 rfl rfl) ?_
        refine us (gy rfl rfl g10) (ldI sT3 rfl rfl) ?_
        refine us (gy rfl rfl g10) (eql rfl rfl) ?_
        refine us (gy rfl rfl g10) (mv rfl) ?_
        refine sg 5 [(42, .d (.bool ((p0.Kind == 2) || ((p0.List.length : Int) == 0))))] ?_ ?_
        · rcases bool_or (p0.Kind == 2) with g11 | g12
          · refine un (gn rfl rfl g11) ?_
            refine un (gn rfl rfl g11) ?_
            refine un (gn rfl rfl g11) ?_
            refine un (gn rfl rfl g11) ?_
            refine us (gy rfl rfl g10) (pt rfl g11 rfl) ?_
            exact rn (trD 5 rfl (.c (bq (or_t g11)) .n) (by kernel_rfl))
          · refine us (gy rfl rfl g12) (faI fT52_4 rfl rfl) ?_
            refine us (gy rfl rfl g12) (ldI sT23 rfl rfl) ?_
            refine us (gy rfl rfl g12) (lnD lT23 rfl rfl) ?_
            refine us (gy rfl rfl g12) (eql rfl rfl) ?_
            refine us (gy rfl rfl g10) (pf rfl g12 rfl) ?_
            exact rn (trD 5 rfl (.c (bq (or_f g12)) .n) (by kernel_rfl))
        refine ts (pt rfl g10 rfl) ?_
        exact rn (trD 6 rfl (.c (bq (and_t g10)) .n) (by kernel_rfl))
      · refine un (gn rfl rfl g13) ?_
        refine un (gn rfl rfl g13) ?_
        refine un (gn rfl rfl g13) ?_
        refine un (gn rfl rfl g13) ?_
        refine un (gu rfl rfl) ?_
        refine un (gu rfl rfl) ?_
        refine un (gu rfl rfl) ?_
        refine un (gu rfl rfl) ?_
        refine un (gn rfl rfl g13) ?_
        refine ts (pf rfl g13 rfl) ?_
        exact rn (trD 10 rfl (.c (bq (and_f g13)) .n) (by kernel_rfl))
    refine ts (as_ rfl) ?_
    refine rn ?_
    refine sd mixed (b := [0, 1, 0, 4, 12, 28, 60, 124, 252, 508, 0, 1024, 3100, 7196, 15388, 31772, 64540, 130076, 261148, 523292, 1047580, 2096156, 4193308, 8387612, 16777215, 33554431, 67108863]) (by kernel_rfl) ?_
    refine ds (mv rfl) rfl ?_
    refine ds (bld (v := .d (shapes_rule.d (shapes_rule.mk ((((p0.Kind != 2) || (p0.Low == 0)) && ((p0.Kind == 1) || ((p0.High == 0) && (p0.Step == 0)))) && ((p0.Kind == 2) || ((p0.List.length : Int) == 0))) 3))) rfl (by kernel_rfl)) rfl ?_
    refine ds (mv rfl) rfl ?_
    refine ds (not_ rfl) rfl ?_
    refine ds (mv rfl) rfl ?_
    rcases ite h with ⟨c14, h⟩ | ⟨c14, h⟩
    · refine vn (gn rfl rfl (not_t (ef c14))) ?_
      refine vn (gn rfl rfl (not_t (ef c14))) ?_
      refine vn (gn rfl rfl (not_t (ef c14))) ?_
      refine ds (pt rfl (not_t (ef c14)) rfl) rfl ?_
      refine ds (bld (v := .d (shapes_rule.d (shapes_rule.mk true 11))) rfl (by kernel_rfl)) rfl ?_
      refine ds (faI fT52_1 rfl rfl) rfl ?_
      refine ds (ldI sT3 rfl rfl) rfl ?_
      refine dr (cln (f := fun _ => false) kf rfl (.c rfl le1 .n) (curOf_nil _) (shapes_isNumber_ok (rfl : shapes_isNumber p0.Low = _)) rfl) rfl ?_
      refine ds (mv rfl) rfl ?_
      rcases ite h with ⟨c15, h⟩ | ⟨c15, h⟩
      · refine vs (gy rfl rfl c15) (faI fT52_2 rfl rfl) rfl ?_
        refine vs (gy rfl rfl c15) (ldI sT3 rfl rfl) rfl ?_
        refine vs (gy rfl rfl c15) (cln (f := fun _ => false) kf rfl (.c rfl le1 .n) (curOf_nil _) (shapes_isNumber_ok (rfl : shapes_isNumber p0.High = _)) rfl) rfl ?_
        refine ds (pt rfl c15 rfl) rfl ?_
        refine ds (mv rfl) rfl ?_
        rcases ite h with ⟨c16, h⟩ | ⟨c16, h⟩
        · refine vs (gy rfl rfl c16) (faI fT52_3 rfl rfl) rfl ?_
          refine vs (gy rfl rfl c16) (ldI sT3 rfl rfl) rfl ?_
          refine vs (gy rfl rfl c16) (cln (f := fun _ => false) kf rfl (.c rfl le1 .n) (curOf_nil _) (shapes_isNumber_ok (rfl : shapes_isNumber p0.Step = _)) rfl) rfl ?_
          refine ds (pt rfl c16 rfl) rfl ?_
          refine ds (bld (v := .d (shapes_rule.d (shapes_rule.mk (shapes_isNumber p0.Step) 2))) rfl (by kernel_rfl)) rfl ?_
          refine ds (bsT (l := (([(shapes_rule.mk ((((p0.Kind != 2) || (p0.Low == 0)) && ((p0.Kind == 1) || ((p0.High == 0) && (p0.Step == 0)))) && ((p0.Kind == 2) || ((p0.List.length : Int) == 0))) 3), (shapes_rule.mk true 11), (shapes_rule.mk (shapes_isNumber p0.Step) 2)] : List shapes_rule).map shapes_rule.d)) lT102 rfl rfl rfl (by kernel_rfl)) rfl ?_
          obtain ⟨x17, hx17, h⟩ := bnd h
          refine dr (cln (f := fun _ => false) kf rfl (.c rfl le2 .n) (curOf_nil _) (shapes_broken_ok hx17) rfl) rfl ?_
          refine ds (as_ rfl) rfl ?_
          refine dn (by kernel_rfl) ?_
          refine CWp.ret ?_
          obtain rfl := some_inj h
          exact ⟨trivial, rt1 (ex := false) (by exact (.t rfl .n)) (by exact (gd (by rfl))) (by rfl) (by rfl)⟩
        · refine vn (gn rfl rfl (vf c16)) ?_
          refine vn (gn rfl rfl (vf c16)) ?_
          refine vn (gn rfl rfl (vf c16)) ?_
          refine ds (pf rfl (vf c16) rfl) rfl ?_
          refine ds (bld (v := .d (shapes_rule.d (shapes_rule.mk false 2))) rfl (by kernel_rfl)) rfl ?_
          refine ds (bsT (l := (([(shapes_rule.mk ((((p0.Kind != 2) || (p0.Low == 0)) && ((p0.Kind == 1) || ((p0.High == 0) && (p0.Step == 0)))) && ((p0.Kind == 2) || ((p0.List.length : Int) == 0))) 3), (shapes_rule.mk true 11), (shapes_rule.mk false 2)] : List shapes_rule).map shapes_rule.d)) lT102 rfl rfl rfl (by kernel_rfl)) rfl ?_
          obtain ⟨x18, hx18, h⟩ := bnd h
          refine dr (cln (f := fun _ => false) kf rfl (.c rfl le2 .n) (curOf_nil _) (shapes_broken_ok hx18) rfl) rfl ?_
          refine ds (as_ rfl) rfl ?_
          refine dn (by kernel_rfl) ?_
          refine CWp.ret ?_
          obtain rfl := some_inj h
          exact ⟨trivial, rt1 (ex := false) (by exact (.t rfl .n)) (by exact (gd (by rfl))) (by rfl) (by rfl)⟩
      · refine vn (gn rfl rfl (vf c15)) ?_
        refine vn (gn rfl rfl (vf c15)) ?_
        refine vn (gn rfl rfl (vf c15)) ?_
        refine ds (pf rfl (vf c15) rfl) rfl ?_
        refine ds (mv rfl) rfl ?_
        refine vn (gn rfl rfl rfl) ?_
        refine vn (gn rfl rfl rfl) ?_
        refine vn (gn rfl rfl rfl) ?_
        refine ds (pf rfl rfl rfl) rfl ?_
        refine ds (bld (v := .d (shapes_rule.d (shapes_rule.mk false 2))) rfl (by kernel_rfl)) rfl ?_
        refine ds (bsT (l := (([(shapes_rule.mk ((((p0.Kind != 2) || (p0.Low == 0)) && ((p0.Kind == 1) || ((p0.High == 0) && (p0.Step == 0)))) && ((p0.Kind == 2) || ((p0.List.length : Int) == 0))) 3), (shapes_rule.mk true 11), (shapes_rule.mk false 2)] : List shapes_rule).map shapes_rule.d)) lT102 rfl rfl rfl (by kernel_rfl)) rfl ?_
        obtain ⟨x19, hx19, h⟩ := bnd h
        refine dr (cln (f := fun _ => false) kf rfl (.c rfl le2 .n) (curOf_nil _) (shapes_broken_ok hx19) rfl) rfl ?_
        refine ds (as_ rfl) rfl ?_
        refine dn (by kernel_rfl) ?_
        refine CWp.ret ?_
        obtain rfl := some_inj h
        exact ⟨trivial, rt1 (ex := false) (by exact (.t rfl .n)) (by exact (gd (by rfl))) (by rfl) (by rfl)⟩
    · refine vs (gy rfl rfl (not_f (et (Classical.not_not.1 c14)))) (faI fT52_3 rfl rfl) rfl ?_
      refine vs (gy rfl rfl (not_f (et (Classical.not_not.1 c14)))) (ldI sT3 rfl rfl) rfl ?_
      refine vs (gy rfl rfl (not_f (et (Classical.not_not.1 c14)))) (neq rfl rfl) rfl ?_
      refine ds (pf rfl (not_f (et (Classical.not_not.1 c14))) rfl) rfl ?_
      refine ds (bld (v := .d (shapes_rule.d (shapes_rule.mk (p0.Step != 0) 11))) rfl (by kernel_rfl)) rfl ?_
      refine ds (faI fT52_1 rfl rfl) rfl ?_
      refine ds (ldI sT3 rfl rfl) rfl ?_
      refine dr (cln (f := fun _ => false) kf rfl (.c rfl le1 .n) (curOf_nil _) (shapes_isNumber_ok (rfl : shapes_isNumber p0.Low = _)) rfl) rfl ?_
      refine ds (mv rfl) rfl ?_
      rcases ite h with ⟨c20, h⟩ | ⟨c20, h⟩
      · refine vs (gy rfl rfl c20) (faI fT52_2 rfl rfl) rfl ?_
        refine vs (gy rfl rfl c20) (ldI sT3 rfl rfl) rfl ?_
        refine vs (gy rfl rfl c20) (cln (f := fun _ => false) kf rfl (.c rfl le1 .n) (curOf_nil _) (shapes_isNumber_ok (rfl : shapes_isNumber p0.High = _)) rfl) rfl ?_
        refine ds (pt rfl c20 rfl) rfl ?_
        refine ds (mv rfl) rfl ?_
        rcases ite h with ⟨c21, h⟩ | ⟨c21, h⟩
        · refine vs (gy rfl rfl c21) (faI fT52_3 rfl rfl) rfl ?_
          refine vs (gy rfl rfl c21) (ldI sT3 rfl rfl) rfl ?_
          refine vs (gy rfl rfl c21) (cln (f := fun _ => false) kf rfl (.c rfl le1 .n) (curOf_nil _) (shapes_isNumber_ok (rfl : shapes_isNumber p0.Step = _)) rfl) rfl ?_
          refine ds (pt rfl c21 rfl) rfl ?_
          refine ds (bld (v := .d (shapes_rule.d (shapes_rule.mk (shapes_isNumber p0.Step) 2))) rfl (by kernel_rfl)) rfl ?_
          refine ds (bsT (l := (([(shapes_rule.mk ((((p0.Kind != 2) || (p0.Low == 0)) && ((p0.Kind == 1) || ((p0.High == 0) && (p0.Step == 0)))) && ((p0.Kind == 2) || ((p0.List.length : Int) == 0))) 3), (shapes_rule.mk (p0.Step != 0) 11), (shapes_rule.mk (shapes_isNumber p0.Step) 2)] : List shapes_rule).map shapes_rule.d)) lT102 rfl rfl rfl (by kernel_rfl)) rfl ?_
          obtain ⟨x22, hx22, h⟩ := bnd h
          refine dr (cln (f := fun _ => false) kf rfl (.c rfl le2 .n) (curOf_nil _) (shapes_broken_ok hx22) rfl) rfl ?_
          refine ds (as_ rfl) rfl ?_
          refine dn (by kernel_rfl) ?_
          refine CWp.ret ?_
          obtain rfl := some_inj h
          exact ⟨trivial, rt1 (ex := false) (by exact (.t rfl .n)) (by exact (gd (by rfl))) (by rfl) (by rfl)⟩
        · refine vn (gn rfl rfl (vf c21)) ?_
          refine vn (gn rfl rfl (vf c21)) ?_
          refine vn (gn rfl rfl (vf c21)) ?_
          refine ds (pf rfl (vf c21) rfl) rfl ?_
          refine ds (bld (v := .d (shapes_rule.d (shapes_rule.mk false 2))) rfl (by kernel_rfl)) rfl ?_
          refine ds (bsT (l := (([(shapes_rule.mk ((((p0.Kind != 2) || (p0.Low == 0)) && ((p0.Kind == 1) || ((p0.High == 0) && (p0.Step == 0)))) && ((p0.Kind == 2) || ((p0.List.length : Int) == 0))) 3), (shapes_rule.mk (p0.Step != 0) 11), (shapes_rule.mk false 2)] : List shapes_rule).map shapes_rule.d)) lT102 rfl rfl rfl (by kernel_rfl)) rfl ?_
          obtain ⟨x23, hx23, h⟩ := bnd h
          refine dr (cln (f := fun _ => false) kf rfl (.c rfl le2 .n) (curOf_nil _) (shapes_broken_ok hx23) rfl) rfl ?_
          refine ds (as_ rfl) rfl ?_
          refine dn (by kernel_rfl) ?_
          refine CWp.ret ?_
          obtain rfl := some_inj h
          exact ⟨trivial, rt1 (ex := false) (by exact (.t rfl .n)) (by exact (gd (by rfl))) (by rfl) (by rfl)⟩
      · refine vn (gn rfl rfl (vf c20)) ?_
        refine vn (gn rfl rfl (vf c20)) ?_
        refine vn (gn rfl rfl (vf c20)) ?_
        refine ds (pf rfl (vf c20) rfl) rfl ?_
        refine ds (mv rfl) rfl ?_
        refine vn (gn rfl rfl rfl) ?_
        refine vn (gn rfl rfl rfl) ?_
        refine vn (gn rfl rfl rfl) ?_
        refine ds (pf rfl rfl rfl) rfl ?_
        refine ds (bld (v := .d (shapes_rule.d (shapes_rule.mk false 2))) rfl (by kernel_rfl)) rfl ?_
        refine ds (bsT (l := (([(shapes_rule.mk ((((p0.Kind != 2) || (p0.Low == 0)) && ((p0.Kind == 1) || ((p0.High == 0) && (p0.Step == 0)))) && ((p0.Kind == 2) || ((p0.List.length : Int) == 0))) 3), (shapes_rule.mk (p0.Step != 0) 11), (shapes_rule.mk false 2)] : List shapes_rule).map shapes_rule.d)) lT102 rfl rfl rfl (by kernel_rfl)) rfl ?_
        obtain ⟨x24, hx24, h⟩ := bnd h
        refine dr (cln (f := fun _ => false) kf rfl (.c rfl le2 .n) (curOf_nil _) (shapes_broken_ok hx24) rfl) rfl ?_
        refine ds (as_ rfl) rfl ?_
        refine dn (by kernel_rfl) ?_
        refine CWp.ret ?_
        obtain rfl := some_inj h
        exact ⟨trivial, rt1 (ex := false) (by exact (.t rfl .n)) (by exact (gd (by rfl))) (by rfl) (by rfl)⟩
theorem shapes_count_ok {p0 : api_Subscript} {out : Out} {r : Int} (h : shapes_count p0 = some r) : FunOk PP 86 [.d (api_Subscript.d p0)] out ⟨.d (.int .i64 r), []⟩ := by
  unfold shapes_count at h
  refine fi Try.func86 rfl (by kernel_rfl) (by kernel_rfl) (by kernel_rfl) ?_
  refine sr ?_
  refine ts (bxI rfl) ?_
  refine ts (ac rfl rfl) ?_
  refine rn ?_
  refine CWp.seq ?_
  refine sr ?_
  refine ts (faI fT52_3 rfl rfl) ?_
  refine ts (ldI sT3 rfl rfl) ?_
  refine ts (gtr rfl rfl) ?_
  refine rn ?_
  rcases ite h with ⟨c1, h⟩ | ⟨c1, h⟩
  · refine ct rfl (bt c1) ?_
    refine sr ?_
    refine ts (faI fT52_2 rfl rfl) ?_
    refine ts (ldI sT3 rfl rfl) ?_
    refine ts (faI fT52_1 rfl rfl) ?_
    refine ts (ldI sT3 rfl rfl) ?_
    refine ts (sub rfl rfl) ?_
    refine ts (faI fT52_3 rfl rfl) ?_
    refine ts (ldI sT3 rfl rfl) ?_
    refine ts (add rfl rfl) ?_
    refine ts (faI fT52_3 rfl rfl) ?_
    refine ts (ldI sT3 rfl rfl) ?_
    obtain ⟨x2, hx2, h⟩ := bnd h
    refine ts (quo_ rfl rfl hx2) ?_
    refine ts (mx_ rfl) ?_
    refine ts (as_ rfl) ?_
    refine rn ?_
    refine CWp.ret ?_
    obtain rfl := some_inj h
    exact ⟨trivial, rt1 (ex := false) (by exact (.t rfl .n)) (by exact (gd (by rfl))) (by rfl) (by rfl)⟩
  · refine cf rfl (bf c1) ?_
    refine CWp.skip ?_
    refine sr ?_
    refine ts (faI fT52_1 rfl rfl) ?_
    refine ts (ldI sT3 rfl rfl) ?_
    refine ts (faI fT52_2 rfl rfl) ?_
    refine ts (ldI sT3 rfl rfl) ?_
    refine ts (sub rfl rfl) ?_
    refine ts (faI fT52_3 rfl rfl) ?_
    refine ts (ldI sT3 rfl rfl) ?_
    refine ts (sub rfl rfl) ?_
    refine ts (faI fT52_3 rfl rfl) ?_
    refine ts (ldI sT3 rfl rfl) ?_
    refine ts (neg rfl) ?_
    obtain ⟨x3, hx3, h⟩ := bnd h
    refine ts (quo_ rfl rfl hx3) ?_
    refine ts (mx_ rfl) ?_
    refine ts (as_ rfl) ?_
    refine rn ?_
    refine CWp.ret ?_
    obtain rfl := some_inj h
    exact ⟨trivial, rt1 (ex := false) (by exact (.t rfl .n)) (by exact (gd (by rfl))) (by rfl) (by rfl)⟩
theorem slices_Clone_int_ok {p0 : (List Int)} {out : Out} {r : (List Int)} (h : slices_Clone_int p0 = some r) : FunOk PP 52 [.d (.sl (p0.map dI))] out ⟨.own 1 (r.map dI), []⟩ := by
  unfold slices_Clone_int at h
  refine fi Try.func52 rfl (by kernel_rfl) (by kernel_rfl) (by kernel_rfl) ?_
  refine sr ?_
  refine ta (an (n := 0) lT23 rfl) ?_
  refine rn ?_
  refine CWp.seq ?_
  refine sr ?_
  refine ts (mv rfl) ?_
  refine nq uT23 rfl ?_ ?_
  · refine rn ?_
    refine cf rfl rfl ?_
    refine CWp.skip ?_
    refine sr ?_
    refine ta (bsM (n := 0) (xs := ([] : List Int)) (f := dI) lT23 rfl rfl rfl (by kernel_rfl) rfl rfl) ?_
    refine ts (mv rfl) ?_
    obtain ⟨x1, hx1, h⟩ := bnd h
    refine tp (apG (ys := p0) (xs := ([] : List Int)) (f := dI) lT23 uT23 szI rfl (by first | rfl | simp only [List.length_set, copied_len]) rfl elD (ow rfl) hx1 (so .h)) ?_
    refine ts (as_ rfl) ?_
    refine rn ?_
    refine CWp.ret ?_
    obtain rfl := some_inj h
    exact ⟨trivial, rt1 (ex := true) (by exact (.t rfl .n)) (by exact (go rfl rfl)) (by rfl) (by rfl)⟩
  · intro hq
    have hq := List.map_eq_nil_iff.1 hq
    subst hq
    refine rn ?_
    refine ct rfl rfl ?_
    refine sr ?_
    refine ta (an (n := 1) lT23 rfl) ?_
    refine rn ?_
    refine CWp.ret ?_
    have h2 : some ([] : (List Int)) = some r := by simpa [app] using h
    obtain rfl := some_inj h2
    exact ⟨trivial, rt1 (ex := true) (by exact (.t rfl .n)) (by exact (go (by first | rfl | simp only [List.length_set, copied_len]) rfl)) (by rfl) (by rfl)⟩
theorem shapes_indexes_c1_ok {p0 : Int} {p1 : api_Bound} {out : Out} {r : Bool} (h : shapes_indexes_c1 p0 p1 = r) : FunOk PP 87 [.d (.int .i64 p0), .pimm (api_Bound.d p1) 0] out ⟨.d (.bool r), []⟩ := by
  unfold shapes_indexes_c1 at h
  refine fi Try.func87 rfl (by kernel_rfl) (by kernel_rfl) (by kernel_rfl) ?_
  refine sr ?_
  refine ts (ac rfl rfl) ?_
  refine rn ?_
  refine sr ?_
  refine ts (mv rfl) ?_
  refine ts (faI fT81_0 rfl rfl) ?_
  refine ts (ldI sT3 rfl rfl) ?_
  refine ts (faI fT81_1 rfl rfl) ?_
  refine ts (ldI sT3 rfl rfl) ?_
  refine ts (cln (f := fun _ => false) kf rfl (.c rfl le1 (.c rfl le1 (.c rfl le1 .n))) (curOf_nil _) (shapes_inside_ok (rfl : shapes_inside p0 p1.Low p1.High = _)) rfl) ?_
  refine ts (not_ rfl) ?_
  refine ts (as_ rfl) ?_
  refine rn ?_
  refine CWp.ret ?_
  obtain rfl := h
  exact ⟨trivial, rt1 (ex := false) (by exact (.t rfl .n)) (by exact (gd (by rfl))) (by rfl) (by rfl)⟩
theorem slices_IndexFunc_int__shapes_indexes_c1_ok {p0 : (List Int)} {p1_0 : api_Bound} {out : Out} {r : Int} (h : slices_IndexFunc_int__shapes_indexes_c1 p0 p1_0 = some r) : FunOk PP 78 [.d (.sl (p0.map dI)), .clo 87 [.pimm (api_Bound.d p1_0) 0]] out ⟨.d (.int .i64 r), []⟩ := by
  unfold slices_IndexFunc_int__shapes_indexes_c1 at h
  refine fi Try.func78 rfl (by kernel_rfl) (by kernel_rfl) (by kernel_rfl) ?_
  refine sr ?_
  refine ts (ac rfl rfl) ?_
  refine rn ?_
  refine CWp.seq ?_
  refine sr ?_
  refine ts (mv rfl) ?_
  refine ts (lnD lT23 rfl rfl) ?_
  refine ts (mv rfl) ?_
  refine rn ?_
  obtain ⟨z5, hz5, h⟩ := bnd h
  refine lbr (E := fun s1 => [(0, .d (.sl (p0.map dI))), (1, .clo 87 [.pimm (api_Bound.d p1_0) 0]), (7, .d (.int .i64 (p0.length : Int))), (8, .d (.int .i64 s1))]) (M := fun s1 => ⟨[], out, []⟩) (E' := fun y => []) (M' := fun y => ⟨[], out, []⟩) (RT := fun r e s => Lx.Returns PP Try.f78.results.toList e s ⟨.d (.int .i64 r), []⟩) hz5 (by (try simp only [List.length_set, copied_len]); exact trk (by kernel_rfl) (by kernel_rfl) (by kernel_rfl)) ?_ ?_
  · intro s1 ww h
    unfold slices_IndexFunc_int__shapes_indexes_c1.s1 at h
    refine sr ?_
    refine ts (lss rfl rfl) ?_
    refine rn ?_
    refine CWp.seq ?_
    rcases ite h with ⟨c2, h⟩ | ⟨c2, h⟩
    · refine ct rfl (bt c2) ?_
      refine CWp.skip ?_
      refine CWp.seq ?_
      refine CWp.block ?_
      refine sr ?_
      refine ts (mv rfl) ?_
      refine ts (as_ rfl) ?_
      refine rn ?_
      refine sr ?_
      refine ts (mv rfl) ?_
      refine ts (mv rfl) ?_
      refine ts (mv rfl) ?_
      obtain ⟨x3, hx3, h⟩ := bnd h
      refine ts (ixD lT23 szI rfl rfl hx3) ?_
      refine ts (ldI sT3 rfl rfl) ?_
      refine ts (cln (f := fun _ => false) (kc rfl) rfl (.c rfl le1 .n) (curOf_nil _) (shapes_indexes_c1_ok (rfl : shapes_indexes_c1 x3 p1_0 = _)) rfl) ?_
      refine rn ?_
      rcases ite h with ⟨c4, h⟩ | ⟨c4, h⟩
      · refine ct rfl c4 ?_
        refine sr ?_
        refine ts (mv rfl) ?_
        refine ts (as_ rfl) ?_
        refine rn ?_
        refine CWp.ret ?_
        obtain rfl := some_inj h
        exact ⟨rfl, rt1 (ex := false) (by exact (.t rfl .n)) (by exact (gd (by rfl))) (by rfl) (by rfl)⟩
      · refine cf rfl (vf c4) ?_
        refine CWp.skip ?_
        refine lr ?_
        refine ts (add rfl rfl) ?_
        refine ts (mv rfl) ?_
        refine rn ?_
        obtain rfl := some_inj h
        exact ⟨rfl, (by (try simp only [List.length_set, copied_len]); exact trk (by kernel_rfl) (by kernel_rfl) (by kernel_rfl))⟩
    · refine cf rfl (bf c2) ?_
      refine CWp.exit ?_
      obtain rfl := some_inj h
      exact ⟨rfl, (by (try simp only [List.length_set, copied_len]); exact trk (by kernel_rfl) (by kernel_rfl) (by kernel_rfl))⟩
  · cases z5 with
    | inl v6 =>
      intro e s ht
      refine CWp.trim ht ?_
      refine sr ?_
      refine ts (ac rfl rfl) ?_
      refine rn ?_
      refine CWp.ret ?_
      obtain rfl := some_inj h
      exact ⟨trivial, rt1 (ex := false) (by exact (.t rfl .n)) (by exact (gd (by rfl))) (by rfl) (by rfl)⟩
    | inr r7 =>
      intro e s hr
      obtain rfl := some_inj h
      exact ⟨trivial, hr⟩
theorem slices_ContainsFunc_int__shapes_indexes_c1_ok {p0 : (List Int)} {p1_0 : api_Bound} {out : Out} {r : Bool} (h : slices_ContainsFunc_int__shapes_indexes_c1 p0 p1_0 = some r) : FunOk PP 57 [.d (.sl (p0.map dI)), .clo 87 [.pimm (api_Bound.d p1_0) 0]] out ⟨.d (.bool r), []⟩ := by
  unfold slices_ContainsFunc_int__shapes_indexes_c1 at h
  refine fi Try.func57 rfl (by kernel_rfl) (by kernel_rfl) (by kernel_rfl) ?_
  refine sr ?_
  refine ts (ac rfl rfl) ?_
  refine rn ?_
  refine sr ?_
  refine ts (mv rfl) ?_
  refine ts (mv rfl) ?_
  obtain ⟨x1, hx1, h⟩ := bnd h
  refine ts (cln (f := fun _ => false) kf rfl (.c rfl le1 (.c rfl le6 .n)) (curOf_nil _) (slices_IndexFunc_int__shapes_indexes_c1_ok hx1) rfl) ?_
  refine ts (geq rfl rfl) ?_
  refine ts (as_ rfl) ?_
  refine rn ?_
  refine CWp.ret ?_
  obtain rfl := some_inj h
  exact ⟨trivial, rt1 (ex := false) (by exact (.t rfl .n)) (by exact (gd (by rfl))) (by rfl) (by rfl)⟩
theorem shapes_indexes_ok {p0 : api_Bound} {p1 : api_Subscript} {out : Out} {r : (List Int) × Int} (h : shapes_indexes p0 p1 = some r) : FunOk PP 75 [.d (api_Bound.d p0), .d (api_Subscript.d p1)] out ⟨.tup [.d (.sl (r.1.map dI)), .d (.int .i64 r.2)], []⟩ := by
  unfold shapes_indexes at h
  refine fi Try.func75 rfl (by kernel_rfl) (by kernel_rfl) (by kernel_rfl) ?_
  refine sr ?_
  refine ts (bxI rfl) ?_
  refine ts (bxI rfl) ?_
  refine ts (ak.wk (x' := .sl (([] : List Int).map dI)) rfl) ?_
  refine ts (ac rfl rfl) ?_
  refine rn ?_
  refine CWp.seq ?_
  refine sr ?_
  refine ts (ldIW aT52 rfl rfl rfl) ?_
  obtain ⟨x1, hx1, h⟩ := bnd h
  refine ts (cln (f := fun _ => false) kf rfl (.c rfl le1 .n) (curOf_nil _) (shapes_subscriptErr_ok hx1) rfl) ?_
  refine ts (as_ rfl) ?_
  refine rn ?_
  refine sr ?_
  refine ts (mv rfl) ?_
  refine ts (neq rfl rfl) ?_
  refine rn ?_
  rcases ite h with ⟨c2, h⟩ | ⟨c2, h⟩
  · refine ct rfl (nt c2) ?_
    refine sr ?_
    refine ts (mv rfl) ?_
    refine ts (ak.wk (x' := .sl (([] : List Int).map dI)) rfl) ?_
    refine ts (as_ rfl) ?_
    refine rn ?_
    refine CWp.ret ?_
    obtain rfl := some_inj h
    exact ⟨trivial, rt2 (ex := false) (by exact (.t rfl (.t rfl .n))) (by exact (sc (gd (by rfl)) (sc (gd (by rfl)) sn))) (by rfl) (by rfl)⟩
  · refine cf rfl (nf c2) ?_
    refine CWp.skip ?_
    refine sr ?_
    refine ta (an (n := 0) lT23 rfl) ?_
    refine rn ?_
    refine jn (E := fun a3 => [(2, .pimm (api_Bound.d p0) 0), (7, .d (.sl (a3.map dI)))]) (M := fun a3 => ⟨[], out, []⟩) (F := fun a3 => shapes_indexes.j1 p0 a3) (r := r) ?_ ?_
    · intro a3 h
      unfold shapes_indexes.j1 at h
      refine CWp.seq ?_
      refine sr ?_
      refine ts (mv rfl) ?_
      refine ts (mf_ (v := .clo 87 [.pimm (api_Bound.d p0) 0]) rfl rfl) ?_
      obtain ⟨x4, hx4, h⟩ := bnd h
      refine ts (cln (f := fun _ => false) kf rfl (.c rfl le1 (.c rfl le6 .n)) (curOf_nil _) (slices_ContainsFunc_int__shapes_indexes_c1_ok hx4) rfl) ?_
      refine rn ?_
      rcases ite h with ⟨c5, h⟩ | ⟨c5, h⟩
      · refine ct rfl c5 ?_
        refine sr ?_
        refine ts (ak.wk (x' := .sl (([] : List Int).map dI)) rfl) ?_
        refine ts (ac rfl rfl) ?_
        refine rn ?_
        refine CWp.ret ?_
        obtain rfl := some_inj h
        exact ⟨trivial, rt2 (ex := false) (by exact (.t rfl (.t rfl .n))) (by exact (sc (gd (by rfl)) (sc (gd (by rfl)) sn))) (by rfl) (by rfl)⟩
      · refine cf rfl (vf c5) ?_
        refine CWp.skip ?_
        refine sr ?_
        refine ts (mv rfl) ?_
        refine ts (as_ rfl) ?_
        refine ts (ac rfl rfl) ?_
        refine rn ?_
        refine CWp.ret ?_
        obtain rfl := some_inj h
        exact ⟨trivial, rt2 (ex := false) (by exact (.t rfl (.t rfl .n))) (by exact (sc (gd (by rfl)) (sc (gd (by rfl)) sn))) (by rfl) (by rfl)⟩
    · refine sr ?_
      refine ts (faI fT52_0 rfl rfl) ?_
      refine ts (ldI sT3 rfl rfl) ?_
      refine rn ?_
      refine CWp.block ?_
      refine sr ?_
      refine ts (eql rfl rfl) ?_
      refine ts (as_ rfl) ?_
      refine rn ?_
      rcases ite h with ⟨c3, h⟩ | ⟨c3, h⟩
      · refine ct rfl (et c3) ?_
        refine lr ?_
        refine ts (faI fT52_1 rfl rfl) ?_
        refine ts (ldI sT3 rfl rfl) ?_
        refine ta (bsM (n := 0) (xs := ([p1.Low] : List Int)) (f := dI) lT23 rfl rfl rfl (by kernel_rfl) rfl rfl) ?_
        refine ts (as_ rfl) ?_
        refine rn ?_
        exact ⟨[p1.Low], h, ((Le.fz (t := 7) rfl (by first | rfl | simp only [List.length_set, copied_len]) rfl .h).trans (by (try simp only [List.length_set, copied_len]); exact trk (by kernel_rfl) (by kernel_rfl) (by kernel_rfl)))⟩
      · refine cf rfl (ef c3) ?_
        refine sr ?_
        refine ts (eql rfl rfl) ?_
        refine ts (as_ rfl) ?_
        refine rn ?_
        rcases ite h with ⟨c4, h⟩ | ⟨c4, h⟩
        · refine ct rfl (et c4) ?_
          refine sr ?_
          refine ts (ldIW aT52 rfl rfl rfl) ?_
          obtain ⟨x5, hx5, h⟩ := bnd h
          refine ts (cln (f := fun _ => false) kf rfl (.c rfl le1 .n) (curOf_nil _) (shapes_count_ok hx5) rfl) ?_
          refine ts (as_ rfl) ?_
          refine rn ?_
          refine CWp.seq ?_
          refine sr ?_
          refine ts (mv rfl) ?_
          refine ts (gtr rfl rfl) ?_
          refine rn ?_
          rcases ite h with ⟨c6, h⟩ | ⟨c6, h⟩
          · refine ct rfl (bt c6) ?_
            refine sr ?_
            refine ts (ak.wk (x' := .sl (([] : List Int).map dI)) rfl) ?_
            refine ts (ac rfl rfl) ?_
            refine rn ?_
            refine CWp.ret ?_
            obtain rfl := some_inj h
            exact ⟨trivial, rt2 (ex := false) (by exact (.t rfl (.t rfl .n))) (by exact (sc (gd (by rfl)) (sc (gd (by rfl)) sn))) (by rfl) (by rfl)⟩
          · refine cf rfl (bf c6) ?_
            refine CWp.skip ?_
            refine sr ?_
            refine ts (mv rfl) ?_
            refine ts (mv rfl) ?_
            refine rn ?_
            obtain ⟨z10, hz10, h⟩ := bnd h
            refine lb (E := fun s7 => [(2, .pimm (api_Bound.d p0) 0), (3, .pimm (api_Subscript.d p1) 0), (7, .ref ⟨out.length, 7, 0⟩ 0 s7.2.length s7.2.length), (35, .d (.int .i64 x5)), (36, .d (.int .i64 s7.1))]) (M := fun s7 => ⟨[((7, 0), .arr 1 false (s7.2.map dI))], out, []⟩) (E' := fun y => [(2, .pimm (api_Bound.d p0) 0), (7, .ref ⟨out.length, 7, 0⟩ 0 y.length y.length)]) (M' := fun y => ⟨[((7, 0), .arr 1 false (y.map dI))], out, []⟩) hz10 (by (try simp only [List.length_set, copied_len]); exact trk (by kernel_rfl) (by kernel_rfl) (by kernel_rfl)) ?_ ?_
            · intro s7 ww h
              unfold shapes_indexes.s2 at h
              refine sr ?_
              refine ts (lss rfl rfl) ?_
              refine rn ?_
              refine CWp.seq ?_
              rcases ite h with ⟨c8, h⟩ | ⟨c8, h⟩
              · refine ct rfl (bt c8) ?_
                refine CWp.skip ?_
                refine CWp.seq ?_
                refine CWp.block ?_
                refine sr ?_
                refine ts (mv rfl) ?_
                refine ts (as_ rfl) ?_
                refine rn ?_
                refine lr ?_
                refine ts (mv rfl) ?_
                refine ts (faI fT52_1 rfl rfl) ?_
                refine ts (ldI sT3 rfl rfl) ?_
                refine ts (mv rfl) ?_
                refine ts (faI fT52_3 rfl rfl) ?_
                refine ts (ldI sT3 rfl rfl) ?_
                refine ts (mul rfl rfl) ?_
                refine ts (add rfl rfl) ?_
                refine ts (bsT (l := (([(w (p1.Low + (w (s7.1 * p1.Step))))] : List Int).map dI)) lT23 rfl rfl rfl (by kernel_rfl)) ?_
                obtain ⟨x9, hx9, h⟩ := bnd h
                refine tp (apG (ys := ([(w (p1.Low + (w (s7.1 * p1.Step))))] : List Int)) (xs := s7.2) (f := dI) lT23 uT23 szI rfl rfl rfl elT (ow rfl) hx9 (so .h)) ?_
                refine ts (as_ rfl) ?_
                refine rn ?_
                refine lr ?_
                refine ts (add rfl rfl) ?_
                refine ts (mv rfl) ?_
                refine rn ?_
                obtain rfl := some_inj h
                exact ⟨rfl, (by (try simp only [List.length_set, copied_len]); exact trk (by kernel_rfl) (by kernel_rfl) (by kernel_rfl))⟩
              · refine cf rfl (bf c8) ?_
                refine CWp.exit ?_
                obtain rfl := some_inj h
                exact ⟨rfl, (by (try simp only [List.length_set, copied_len]); exact trk (by kernel_rfl) (by kernel_rfl) (by kernel_rfl))⟩
            · intro e s ht
              exact ⟨z10, h, ht.trans ((Le.fz (t := 7) rfl rfl rfl .h).trans (by (try simp only [List.length_set, copied_len]); exact trk (by kernel_rfl) (by kernel_rfl) (by kernel_rfl)))⟩
        · refine cf rfl (ef c4) ?_
          refine CWp.seq ?_
          refine sr ?_
          refine ts (faI fT52_4 rfl rfl) ?_
          refine ts (ldI sT23 rfl rfl) ?_
          refine ts (lnD lT23 rfl rfl) ?_
          refine ts (gtr rfl rfl) ?_
          refine rn ?_
          rcases ite h with ⟨c12, h⟩ | ⟨c12, h⟩
          · refine ct rfl (bt c12) ?_
            refine sr ?_
            refine ts (ak.wk (x' := .sl (([] : List Int).map dI)) rfl) ?_
            refine ts (ac rfl rfl) ?_
            refine rn ?_
            refine CWp.ret ?_
            obtain rfl := some_inj h
            exact ⟨trivial, rt2 (ex := false) (by exact (.t rfl (.t rfl .n))) (by exact (sc (gd (by rfl)) (sc (gd (by rfl)) sn))) (by rfl) (by rfl)⟩
          · refine cf rfl (bf c12) ?_
            refine CWp.skip ?_
            refine lr ?_
            refine ts (faI fT52_4 rfl rfl) ?_
            refine ts (ldI sT23 rfl rfl) ?_
            obtain ⟨x13, hx13, h⟩ := bnd h
            refine ta (chn (f := fun _ => false) (n := 0) (v' := .ref ⟨out.length, 23, 0⟩ 0 x13.length x13.length) (bs := [((23, 0), .arr 1 false (x13.map dI))]) kf rfl (.c rfl le1 .n) (curOf_nil _) (slices_Clone_int_ok hx13) rfl rfl (by simp [homeVal, homeVals])) ?_
            refine ts (as_ rfl) ?_
            refine rn ?_
            exact ⟨x13, h, ((Le.fz (t := 7) rfl rfl rfl .h).trans (by (try simp only [List.length_set, copied_len]); exact trk (by kernel_rfl) (by kernel_rfl) (by kernel_rfl)))⟩
theorem shapes_digits_ok {p0 : (List Int)} {p1 : Int} {out : Out} {r : (List Int)} (h : shapes_digits p0 p1 = some r) : FunOk PP 34 [.d (.sl (p0.map dI)), .d (.int .i64 p1)] out ⟨.d (.sl (r.map dI)), []⟩ := by
  unfold shapes_digits at h
  refine fi Try.func34 rfl (by kernel_rfl) (by kernel_rfl) (by kernel_rfl) ?_
  refine sr ?_
  refine ts (ak.wk (x' := .sl (([] : List Int).map dI)) rfl) ?_
  refine rn ?_
  refine sr ?_
  refine ta (an (n := 0) lT23 rfl) ?_
  refine rn ?_
  refine CWp.seq ?_
  refine sr ?_
  refine ts (mv rfl) ?_
  refine ts (lnD lT23 rfl rfl) ?_
  refine ts (mv rfl) ?_
  refine rn ?_
  obtain ⟨z7, hz7, h⟩ := bnd h
  refine lb (E := fun s1 => [(1, .d (.int .i64 s1.1)), (5, .ref ⟨out.length, 5, 0⟩ 0 s1.2.2.length s1.2.2.length), (8, .d (.sl (p0.map dI))), (9, .d (.int .i64 (p0.length : Int))), (10, .d (.int .i64 s1.2.1))]) (M := fun s1 => ⟨[((5, 0), .arr 1 false (s1.2.2.map dI))], out, []⟩) (E' := fun y => [(5, .ref ⟨out.length, 5, 0⟩ 0 y.length y.length)]) (M' := fun y => ⟨[((5, 0), .arr 1 false (y.map dI))], out, []⟩) hz7 (by (try simp only [List.length_set, copied_len]); exact trk (by kernel_rfl) (by kernel_rfl) (by kernel_rfl)) ?_ ?_
  · intro s1 ww h
    unfold shapes_digits.s1 at h
    refine sr ?_
    refine ts (lss rfl rfl) ?_
    refine rn ?_
    refine CWp.seq ?_
    rcases ite h with ⟨c2, h⟩ | ⟨c2, h⟩
    · refine ct rfl (bt c2) ?_
      refine CWp.skip ?_
      refine CWp.seq ?_
      refine CWp.block ?_
      refine sr ?_
      obtain ⟨x3, hx3, h⟩ := bnd h
      refine ts (ixD lT23 szI rfl rfl hx3) ?_
      refine ts (ldI sT3 rfl rfl) ?_
      refine ts (as_ rfl) ?_
      refine rn ?_
      refine sr ?_
      refine ts (mv rfl) ?_
      refine ts (mv rfl) ?_
      refine ts (mv rfl) ?_
      obtain ⟨x4, hx4, h⟩ := bnd h
      refine ts (rem_ rfl rfl hx4) ?_
      refine ts (bsT (l := (([x4] : List Int).map dI)) lT23 rfl rfl rfl (by kernel_rfl)) ?_
      obtain ⟨x5, hx5, h⟩ := bnd h
      refine tp (apG (ys := ([x4] : List Int)) (xs := s1.2.2) (f := dI) lT23 uT23 szI rfl rfl rfl elT (ow rfl) hx5 (so .h)) ?_
      refine ts (as_ rfl) ?_
      refine rn ?_
      refine lr ?_
      refine ts (mv rfl) ?_
      refine ts (mv rfl) ?_
      obtain ⟨x6, hx6, h⟩ := bnd h
      refine ts (quo_ rfl rfl hx6) ?_
      refine ts (as_ rfl) ?_
      refine rn ?_
      refine lr ?_
      refine ts (add rfl rfl) ?_
      refine ts (mv rfl) ?_
      refine rn ?_
      obtain rfl := some_inj h
      exact ⟨rfl, (by (try simp only [List.length_set, copied_len]); exact trk (by kernel_rfl) (by kernel_rfl) (by kernel_rfl))⟩
    · refine cf rfl (bf c2) ?_
      refine CWp.exit ?_
      obtain rfl := some_inj h
      exact ⟨rfl, (by (try simp only [List.length_set, copied_len]); exact trk (by kernel_rfl) (by kernel_rfl) (by kernel_rfl))⟩
  · intro e s ht
    refine CWp.trim ht ?_
    refine sr ?_
    refine ts (mv rfl) ?_
    refine ts (as_ rfl) ?_
    refine rn ?_
    refine CWp.ret ?_
    obtain rfl := some_inj h
    exact ⟨trivial, rt1 (ex := false) (by exact (.t rfl .n)) (by exact (gf rfl rfl)) (by rfl) (by rfl)⟩
theorem shapes_section_ok {p0 : (List api_Bound)} {p1 : (List api_Subscript)} {out : Out} {r : api_Section × Int} (h : shapes_section p0 p1 = some r) : FunOk PP 55 [.d (.sl (p0.map api_Bound.d)), .d (.sl (p1.map api_Subscript.d))] out ⟨.tup [.d (api_Section.d r.1), .d (.int .i64 r.2)], []⟩ := by
  unfold shapes_section at h
  refine fi Try.func55 rfl (by kernel_rfl) (by kernel_rfl) (by kernel_rfl) ?_
  refine sr ?_
  refine ta (al (n := 0) zT57 rfl) ?_
  refine ts (ac rfl rfl) ?_
  refine rn ?_
  refine CWp.seq ?_
  refine sr ?_
  refine ts (mv rfl) ?_
  refine ts (lnD lT55 rfl rfl) ?_
  refine ts (mv rfl) ?_
  refine ts (lnD lT22 rfl rfl) ?_
  refine ts (neq rfl rfl) ?_
  refine rn ?_
  rcases ite h with ⟨c1, h⟩ | ⟨c1, h⟩
  · refine ct rfl (nt c1) ?_
    refine sr ?_
    refine ts ((bld (v := .d (.agg [.nilsl, .nilsl, .bool false])) rfl (by kernel_rfl)).wk (x' := api_Section.d (api_Section.mk [] [] false)) rfl) ?_
    refine tt0 (stW aT57 rfl rfl rfl rfl rfl rfl .h) ?_
    refine ts (ac rfl rfl) ?_
    refine rn ?_
    refine CWp.ret ?_
    obtain rfl := some_inj h
    exact ⟨trivial, rt2 (ex := false) (by exact (rcW aT57 rfl (ow rfl) rfl rfl (.t rfl .n))) (by exact (sc (gd (by rfl)) (sc (gd (by rfl)) sn))) (by rfl) (by rfl)⟩
  · refine cf rfl (nf c1) ?_
    refine CWp.skip ?_
    refine sr ?_
    refine ta (al (n := 0) zT57 rfl) ?_
    refine gz (Le.nilBox (t := 6) (n := 0) (t' := 1120) (n' := 0) (off := 0) (sz := 1) rfl rfl rfl rfl) ?_
    refine gz (Le.nilBox (t := 6) (n := 0) (t' := 1121) (n' := 0) (off := 1) (sz := 1) rfl rfl rfl rfl) ?_
    refine rn ?_
    refine sr ?_
    refine ta (an (n := 0) lT86 rfl) ?_
    refine rn ?_
    refine sr ?_
    refine ta (an (n := 0) lT23 rfl) ?_
    refine rn ?_
    refine CWp.seq ?_
    refine sr ?_
    refine ts (mv rfl) ?_
    refine ts (lnD lT55 rfl rfl) ?_
    refine ts (mv rfl) ?_
    refine rn ?_
    obtain ⟨z12, hz12, h⟩ := bnd h
    refine lbr (E := fun s2 => [(0, .d (.sl (p0.map api_Bound.d))), (4, .bptr ⟨out.length, 4, 0⟩ 0), (6, .bptr ⟨out.length, 6, 0⟩ 0), (7, .ref ⟨out.length, 7, 0⟩ 0 s2.2.2.1.length s2.2.2.1.length), (8, .ref ⟨out.length, 8, 0⟩ 0 s2.2.2.2.length s2.2.2.2.length), (26, .d (.sl (p1.map api_Subscript.d))), (27, .d (.int .i64 (p1.length : Int))), (28, .d (.int .i64 s2.1))]) (M := fun s2 => ⟨[((4, 0), .box [.d .nilsl, .d .nilsl, .d (.bool false)]), ((6, 0), .box [.ref ⟨out.length, 1120, 0⟩ 0 s2.2.1.length s2.2.1.length, .ref ⟨out.length, 1121, 0⟩ 0 ([] : List Int).length ([] : List Int).length, .d (.bool false)]), ((1120, 0), .arr 1 false (s2.2.1.map dI)), ((1121, 0), .arr 1 false (([] : List Int).map dI)), ((7, 0), .arr 1 false (s2.2.2.1.map (dL dI))), ((8, 0), .arr 1 false (s2.2.2.2.map dI))], out, []⟩) (E' := fun y => [(0, .d (.sl (p0.map api_Bound.d))), (4, .bptr ⟨out.length, 4, 0⟩ 0), (6, .bptr ⟨out.length, 6, 0⟩ 0), (7, .ref ⟨out.length, 7, 0⟩ 0 y.2.1.length y.2.1.length), (8, .ref ⟨out.length, 8, 0⟩ 0 y.2.2.length y.2.2.length)]) (M' := fun y => ⟨[((4, 0), .box [.d .nilsl, .d .nilsl, .d (.bool false)]), ((6, 0), .box [.ref ⟨out.length, 1120, 0⟩ 0 y.1.length y.1.length, .ref ⟨out.length, 1121, 0⟩ 0 ([] : List Int).length ([] : List Int).length, .d (.bool false)]), ((1120, 0), .arr 1 false (y.1.map dI)), ((1121, 0), .arr 1 false (([] : List Int).map dI)), ((7, 0), .arr 1 false (y.2.1.map (dL dI))), ((8, 0), .arr 1 false (y.2.2.map dI))], out, []⟩) (RT := fun r e s => Lx.Returns PP Try.f55.results.toList e s ⟨.tup [.d (api_Section.d r.1), .d (.int .i64 r.2)], []⟩) hz12 (by (try simp only [List.length_set, copied_len]); exact trk (by kernel_rfl) (by kernel_rfl) (by kernel_rfl)) ?_ ?_
    · intro s2 ww h
      unfold shapes_section.s1 at h
      refine sr ?_
      refine ts (lss rfl rfl) ?_
      refine rn ?_
      refine CWp.seq ?_
      rcases ite h with ⟨c3, h⟩ | ⟨c3, h⟩
      · refine ct rfl (bt c3) ?_
        refine CWp.skip ?_
        refine CWp.seq ?_
        refine CWp.block ?_
        refine sr ?_
        refine ts (mv rfl) ?_
        obtain ⟨x4, hx4, h⟩ := bnd h
        refine ts (ixD lT55 api_Subscript.sz rfl rfl hx4) ?_
        refine ts (ldIW aT52 rfl rfl rfl) ?_
        refine ta (al (n := 0) zT52 rfl) ?_
        refine ts (as_ rfl) ?_
        refine tt0 (stW aT52 rfl rfl rfl rfl rfl rfl .h) ?_
        refine rn ?_
        refine sd mixed (b := [0, 0, 3, 7, 0, 31, 63, 127, 127, 255, 1023]) (by kernel_rfl) ?_
        refine ds (mv rfl) rfl ?_
        refine ds (mv rfl) rfl ?_
        obtain ⟨x5, hx5, h⟩ := bnd h
        refine ds (ixD lT22 api_Bound.sz rfl rfl hx5) rfl ?_
        refine ds (ldIW aT81 rfl rfl rfl) rfl ?_
        refine dr (ldW (e := api_Subscript.d x4) aT52 rfl (ow rfl) rfl rfl) rfl ?_
        obtain ⟨x6, hx6, h⟩ := bnd h
        refine dr (cln (f := fun _ => false) kf rfl (.c rfl le1 (.c rfl le1 .n)) (curOf_nil _) (shapes_indexes_ok hx6) rfl) rfl ?_
        refine ds (mv rfl) rfl ?_
        refine ds (ex_ rfl rfl) rfl ?_
        refine ds (ex_ rfl rfl) rfl ?_
        refine ds (as_ rfl) rfl ?_
        refine ds (as_ rfl) rfl ?_
        refine dn (by kernel_rfl) ?_
        refine CWp.seq ?_
        refine sr ?_
        refine ts (mv rfl) ?_
        refine ts (neq rfl rfl) ?_
        refine rn ?_
        rcases ite h with ⟨c7, h⟩ | ⟨c7, h⟩
        · refine ct rfl (nt c7) ?_
          refine sr ?_
          refine ts ((bld (v := .d (.agg [.nilsl, .nilsl, .bool false])) rfl (by kernel_rfl)).wk (x' := api_Section.d (api_Section.mk [] [] false)) rfl) ?_
          refine ts (mv rfl) ?_
          refine tt0 (stW aT57 rfl rfl rfl rfl rfl rfl (.s rfl .h)) ?_
          refine ts (as_ rfl) ?_
          refine rn ?_
          refine CWp.ret ?_
          obtain rfl := some_inj h
          exact ⟨rfl, rt2 (ex := false) (by exact (rcW aT57 rfl (ow rfl) rfl rfl (.t rfl .n))) (by exact (sc (gd (by rfl)) (sc (gd (by rfl)) sn))) (by rfl) (by rfl)⟩
        · refine cf rfl (nf c7) ?_
          refine CWp.skip ?_
          refine sr ?_
          refine ts (mv rfl) ?_
          refine ts (mv rfl) ?_
          refine ts (bsT (l := (([x6.1] : List (List Int)).map (dL dI))) lT86 rfl rfl rfl (by kernel_rfl)) ?_
          obtain ⟨x8, hx8, h⟩ := bnd h
          refine tp (apG (ys := ([x6.1] : List (List Int))) (xs := s2.2.2.1) (f := (dL dI)) lT86 uT86 szL rfl rfl rfl elT (ow rfl) hx8 (so (.s rfl (.s rfl (.s rfl (.s rfl (.s rfl .h))))))) ?_
          refine ts (mv rfl) ?_
          refine ts (mv rfl) ?_
          refine ts (lnD lT23 rfl rfl) ?_
          refine ts (bsT (l := (([(x6.1.length : Int)] : List Int).map dI)) lT23 rfl rfl rfl (by kernel_rfl)) ?_
          obtain ⟨x9, hx9, h⟩ := bnd h
          refine tp (apG (ys := ([(x6.1.length : Int)] : List Int)) (xs := s2.2.2.2) (f := dI) lT23 uT23 szI rfl rfl rfl elT (ow rfl) hx9 (so (.s rfl (.s rfl (.s rfl (.s rfl (.s rfl (.s rfl .h)))))))) ?_
          refine ts (as_ rfl) ?_
          refine ts (as_ rfl) ?_
          refine rn ?_
          refine sr ?_
          refine ts (fa fT52_0 rfl rfl) ?_
          refine ts (ld sT3 rfl (ow rfl) rfl) ?_
          refine ts (neq rfl rfl) ?_
          refine rn ?_
          rcases ite h with ⟨c10, h⟩ | ⟨c10, h⟩
          · refine ct rfl (nt c10) ?_
            refine lr ?_
            refine ts (fa fT57_0 rfl rfl) ?_
            refine ts (ld sT23 rfl (ow rfl) rfl) ?_
            refine ts (mv rfl) ?_
            refine ts (lnD lT23 rfl rfl) ?_
            refine ts (bsT (l := (([(x6.1.length : Int)] : List Int).map dI)) lT23 rfl rfl rfl (by kernel_rfl)) ?_
            obtain ⟨x11, hx11, h⟩ := bnd h
            refine tp (apG (ys := ([(x6.1.length : Int)] : List Int)) (xs := s2.2.1) (f := dI) lT23 uT23 szI rfl rfl rfl elT (ow rfl) hx11 (so (.s rfl (.s rfl (.s rfl .h))))) ?_
            refine ts (fa fT57_0 rfl rfl) ?_
            refine tt0 (st sT23 rfl rfl rfl rfl .h (.s rfl (.s rfl .h))) ?_
            refine rn ?_
            refine lr ?_
            refine ts (add rfl rfl) ?_
            refine ts (mv rfl) ?_
            refine rn ?_
            obtain rfl := some_inj h
            exact ⟨rfl, (by (try simp only [List.length_set, copied_len]); exact trk (by kernel_rfl) (by kernel_rfl) (by kernel_rfl))⟩
          · refine cf rfl (nf c10) ?_
            refine CWp.skip ?_
            refine lr ?_
            refine ts (add rfl rfl) ?_
            refine ts (mv rfl) ?_
            refine rn ?_
            obtain rfl := some_inj h
            exact ⟨rfl, (by (try simp only [List.length_set, copied_len]); exact trk (by kernel_rfl) (by kernel_rfl) (by kernel_rfl))⟩
      · refine cf rfl (bf c3) ?_
        refine CWp.exit ?_
        obtain rfl := some_inj h
        exact ⟨rfl, (by (try simp only [List.length_set, copied_len]); exact trk (by kernel_rfl) (by kernel_rfl) (by kernel_rfl))⟩
    · cases z12 with
      | inl v13 =>
        intro e s ht
        refine CWp.trim ht ?_
        refine sr ?_
        refine ts (mv rfl) ?_
        obtain ⟨x14, hx14, h⟩ := bnd h
        refine tt (cll (f := fun _ => false) kf rfl (.w rfl (leG4 rfl (ow rfl) (so (.s rfl (.s rfl (.s rfl (.s rfl (.s rfl .h))))))) .n) (curOf_nil _) (shapes_product_ok hx14) rfl) ?_
        refine ts (as_ rfl) ?_
        refine rn ?_
        refine CWp.seq ?_
        refine sr ?_
        refine ts (mv rfl) ?_
        refine ts (gtr rfl rfl) ?_
        refine rn ?_
        rcases ite h with ⟨c15, h⟩ | ⟨c15, h⟩
        · refine ct rfl (bt c15) ?_
          refine sr ?_
          refine ts ((bld (v := .d (.agg [.nilsl, .nilsl, .bool false])) rfl (by kernel_rfl)).wk (x' := api_Section.d (api_Section.mk [] [] false)) rfl) ?_
          refine tt0 (stW aT57 rfl rfl rfl rfl rfl rfl .h) ?_
          refine ts (ac rfl rfl) ?_
          refine rn ?_
          refine CWp.ret ?_
          obtain rfl := some_inj h
          exact ⟨trivial, rt2 (ex := false) (by exact (rcW aT57 rfl (ow rfl) rfl rfl (.t rfl .n))) (by exact (sc (gd (by rfl)) (sc (gd (by rfl)) sn))) (by rfl) (by rfl)⟩
        · refine cf rfl (bf c15) ?_
          refine CWp.skip ?_
          refine sr ?_
          refine ts (mv rfl) ?_
          obtain ⟨x16, hx16, h⟩ := bnd h
          refine ts (cln (f := fun _ => false) kf rfl (.c rfl le1 .n) (curOf_nil _) (shapes_extents_ok hx16) rfl) ?_
          obtain ⟨x17, hx17, h⟩ := bnd h
          refine ts (cln (f := fun _ => false) kf rfl (.c rfl le1 .n) (curOf_nil _) (shapes_strides_ok hx17) rfl) ?_
          refine ts (as_ rfl) ?_
          refine rn ?_
          refine sr ?_
          refine ta (mm_ (n := 0) mT107 rfl) ?_
          refine ts (as_ rfl) ?_
          refine rn ?_
          refine CWp.seq ?_
          refine sr ?_
          refine ts (mv rfl) ?_
          refine ts (mv rfl) ?_
          refine rn ?_
          obtain ⟨z33, hz33, h⟩ := bnd h
          refine lb (E := fun s18 => [(0, .d (.sl (p0.map api_Bound.d))), (4, .bptr ⟨out.length, 4, 0⟩ 0), (6, .bptr ⟨out.length, 6, 0⟩ 0), (7, .ref ⟨out.length, 7, 0⟩ 0 v13.2.1.length v13.2.1.length), (8, .ref ⟨out.length, 8, 0⟩ 0 v13.2.2.length v13.2.2.length), (14, .d (.sl (x17.map dI))), (15, .mref ⟨out.length, 74, 0⟩), (75, .d (.int .i64 x14)), (76, .d (.int .i64 s18.1))]) (M := fun s18 => ⟨[((4, 0), .box [.d .nilsl, .d .nilsl, .d (.bool false)]), ((6, 0), .box [.ref ⟨out.length, 1120, 0⟩ 0 v13.1.length v13.1.length, .ref ⟨out.length, 1121, 0⟩ 0 s18.2.2.1.length s18.2.2.1.length, .d (.bool s18.2.1)]), ((1120, 0), .arr 1 false (v13.1.map dI)), ((1121, 0), .arr 1 false (s18.2.2.1.map dI)), ((7, 0), .arr 1 false (v13.2.1.map (dL dI))), ((8, 0), .arr 1 true (v13.2.2.map dI)), ((74, 0), .map 3 false (s18.2.2.2.map (pE dI D.bool)))], out, []⟩) (E' := fun y => [(4, .bptr ⟨out.length, 4, 0⟩ 0), (6, .bptr ⟨out.length, 6, 0⟩ 0)]) (M' := fun y => ⟨[((4, 0), .box [.d .nilsl, .d .nilsl, .d (.bool false)]), ((6, 0), .box [.ref ⟨out.length, 1120, 0⟩ 0 v13.1.length v13.1.length, .ref ⟨out.length, 1121, 0⟩ 0 y.2.length y.2.length, .d (.bool y.1)]), ((1120, 0), .arr 1 false (v13.1.map dI)), ((1121, 0), .arr 1 false (y.2.map dI))], out, []⟩) hz33 (by (try simp only [List.length_set, copied_len]); exact trk (by kernel_rfl) (by kernel_rfl) (by kernel_rfl)) ?_ ?_
          · intro s18 ww h
            unfold shapes_section.s2 at h
            refine sr ?_
            refine ts (lss rfl rfl) ?_
            refine rn ?_
            refine CWp.seq ?_
            rcases ite h with ⟨c19, h⟩ | ⟨c19, h⟩
            · refine ct rfl (bt c19) ?_
              refine CWp.skip ?_
              refine CWp.seq ?_
              refine CWp.block ?_
              refine sr ?_
              refine ts (mv rfl) ?_
              refine ts (as_ rfl) ?_
              refine rn ?_
              refine sr ?_
              refine ts (ac rfl rfl) ?_
              refine rn ?_
              refine CWp.seq ?_
              refine sr ?_
              refine ts (mv rfl) ?_
              refine ts (mv rfl) ?_
              obtain ⟨x20, hx20, h⟩ := bnd h
              refine ts (cln (f := fun _ => false) kf rfl (.c rfl (le3 rfl (ow rfl)) (.c rfl le1 .n)) (curOf_nil _) (shapes_digits_ok hx20) rfl) ?_
              refine ts (lnD lT23 rfl rfl) ?_
              refine ts (mv rfl) ?_
              refine rn ?_
              obtain ⟨z28, hz28, h⟩ := bnd h
              refine lb (E := fun s21 => [(0, .d (.sl (p0.map api_Bound.d))), (4, .bptr ⟨out.length, 4, 0⟩ 0), (6, .bptr ⟨out.length, 6, 0⟩ 0), (7, .ref ⟨out.length, 7, 0⟩ 0 v13.2.1.length v13.2.1.length), (8, .ref ⟨out.length, 8, 0⟩ 0 v13.2.2.length v13.2.2.length), (14, .d (.sl (x17.map dI))), (15, .mref ⟨out.length, 74, 0⟩), (17, .d (.int .i64 s21.1)), (75, .d (.int .i64 x14)), (76, .d (.int .i64 s18.1)), (81, .d (.sl (x20.map dI))), (82, .d (.int .i64 (x20.length : Int))), (83, .d (.int .i64 s21.2))]) (M := fun s21 => ⟨[((4, 0), .box [.d .nilsl, .d .nilsl, .d (.bool false)]), ((6, 0), .box [.ref ⟨out.length, 1120, 0⟩ 0 v13.1.length v13.1.length, .ref ⟨out.length, 1121, 0⟩ 0 s18.2.2.1.length s18.2.2.1.length, .d (.bool s18.2.1)]), ((1120, 0), .arr 1 false (v13.1.map dI)), ((1121, 0), .arr 1 false (s18.2.2.1.map dI)), ((7, 0), .arr 1 false (v13.2.1.map (dL dI))), ((8, 0), .arr 1 true (v13.2.2.map dI)), ((74, 0), .map 3 false (s18.2.2.2.map (pE dI D.bool)))], out, []⟩) (E' := fun y => [(0, .d (.sl (p0.map api_Bound.d))), (4, .bptr ⟨out.length, 4, 0⟩ 0), (6, .bptr ⟨out.length, 6, 0⟩ 0), (7, .ref ⟨out.length, 7, 0⟩ 0 v13.2.1.length v13.2.1.length), (8, .ref ⟨out.length, 8, 0⟩ 0 v13.2.2.length v13.2.2.length), (14, .d (.sl (x17.map dI))), (15, .mref ⟨out.length, 74, 0⟩), (17, .d (.int .i64 y)), (75, .d (.int .i64 x14)), (76, .d (.int .i64 s18.1))]) (M' := fun y => ⟨[((4, 0), .box [.d .nilsl, .d .nilsl, .d (.bool false)]), ((6, 0), .box [.ref ⟨out.length, 1120, 0⟩ 0 v13.1.length v13.1.length, .ref ⟨out.length, 1121, 0⟩ 0 s18.2.2.1.length s18.2.2.1.length, .d (.bool s18.2.1)]), ((1120, 0), .arr 1 false (v13.1.map dI)), ((1121, 0), .arr 1 false (s18.2.2.1.map dI)), ((7, 0), .arr 1 false (v13.2.1.map (dL dI))), ((8, 0), .arr 1 true (v13.2.2.map dI)), ((74, 0), .map 3 false (s18.2.2.2.map (pE dI D.bool)))], out, []⟩) hz28 (by (try simp only [List.length_set, copied_len]); exact trk (by kernel_rfl) (by kernel_rfl) (by kernel_rfl)) ?_ ?_
              · intro s21 ww h
                unfold shapes_section.s3 at h
                refine sr ?_
                refine ts (lss rfl rfl) ?_
                refine rn ?_
                refine CWp.seq ?_
                rcases ite h with ⟨c22, h⟩ | ⟨c22, h⟩
                · refine ct rfl (bt c22) ?_
                  refine CWp.skip ?_
                  refine CWp.seq ?_
                  refine CWp.block ?_
                  refine sr ?_
                  refine ts (mv rfl) ?_
                  obtain ⟨x23, hx23, h⟩ := bnd h
                  refine ts (ixD lT23 szI rfl rfl hx23) ?_
                  refine ts (ldI sT3 rfl rfl) ?_
                  refine ts (as_ rfl) ?_
                  refine ts (as_ rfl) ?_
                  refine rn ?_
                  refine ld_ mixed (b := [0, 0, 0, 6, 14, 0, 0, 96, 224, 0, 992, 2016, 0, 0, 12288, 28672, 61440, 131040, 262142, 524287, 1048575]) (by kernel_rfl) ?_
                  refine ds (mv rfl) rfl ?_
                  refine ds (mv rfl) rfl ?_
                  refine ds (mv rfl) rfl ?_
                  obtain ⟨x24, hx24, h⟩ := bnd h
                  refine ds (ixD lT23 szI rfl rfl hx24) rfl ?_
                  refine ds (ldI sT3 rfl rfl) rfl ?_
                  refine ds (mv rfl) rfl ?_
                  refine ds (mv rfl) rfl ?_
                  obtain ⟨x25, hx25, h⟩ := bnd h
                  refine dr (ixR lT86 rfl rfl rfl (ow rfl) hx25) rfl ?_
                  refine dr (ldE sT23 rfl rfl (ow rfl) hx25 rfl) rfl ?_
                  refine ds (mv rfl) rfl ?_
                  obtain ⟨x26, hx26, h⟩ := bnd h
                  refine ds (ixD lT23 szI rfl rfl hx26) rfl ?_
                  refine ds (ldI sT3 rfl rfl) rfl ?_
                  refine ds (mv rfl) rfl ?_
                  refine ds (mv rfl) rfl ?_
                  obtain ⟨x27, hx27, h⟩ := bnd h
                  refine ds (ixD lT22 api_Bound.sz rfl rfl hx27) rfl ?_
                  refine ds (faI fT81_0 rfl rfl) rfl ?_
                  refine ds (ldI sT3 rfl rfl) rfl ?_
                  refine ds (sub rfl rfl) rfl ?_
                  refine ds (mul rfl rfl) rfl ?_
                  refine ds (add rfl rfl) rfl ?_
                  refine ds (as_ rfl) rfl ?_
                  refine dn (by kernel_rfl) ?_
                  refine lr ?_
                  refine ts (add rfl rfl) ?_
                  refine ts (mv rfl) ?_
                  refine rn ?_
                  obtain rfl := some_inj h
                  exact ⟨rfl, (by (try simp only [List.length_set, copied_len]); exact trk (by kernel_rfl) (by kernel_rfl) (by kernel_rfl))⟩
                · refine cf rfl (bf c22) ?_
                  refine CWp.exit ?_
                  obtain rfl := some_inj h
                  exact ⟨rfl, (by (try simp only [List.length_set, copied_len]); exact trk (by kernel_rfl) (by kernel_rfl) (by kernel_rfl))⟩
              · intro e s ht
                refine CWp.trim ht ?_
                refine sr ?_
                refine ts (fa fT57_2 rfl rfl) ?_
                refine ts (ld sT4 rfl (ow rfl) rfl) ?_
                refine ts (mv rfl) ?_
                refine sg 4 [(115, .d (.bool (s18.2.1 || ((mget s18.2.2.2 z28).getD false))))] ?_ ?_
                · rcases bool_or s18.2.1 with g29 | g30
                  · refine un (gn rfl rfl g29) ?_
                    refine un (gn rfl rfl g29) ?_
                    refine un (gn rfl rfl g29) ?_
                    refine ts (pt rfl g29 rfl) ?_
                    exact rn (trD 4 rfl (.c (bq (or_t g29)) .n) (by kernel_rfl))
                  · refine us (gy rfl rfl g30) (mv rfl) ?_
                    refine us (gy rfl rfl g30) (mv rfl) ?_
                    refine us (gy rfl rfl g30) (lk1 (z0 := false) mT107 rfl (ow rfl) rfl) ?_
                    refine ts (pf rfl g30 rfl) ?_
                    exact rn (trD 4 rfl (.c (bq (or_f g30)) .n) (by kernel_rfl))
                refine ts (fa fT57_2 rfl rfl) ?_
                refine tt0 (st sT4 rfl rfl rfl rfl (.s (.s .h)) (.s rfl .h)) ?_
                refine rn ?_
                refine sr ?_
                refine ts (mv rfl) ?_
                refine ts (mv rfl) ?_
                refine tt0 (muG (v := true) mT107 rfl rfl rfl (ow rfl) (so (.s rfl (.s rfl (.s rfl (.s rfl (.s rfl (.s rfl .h)))))))) ?_
                refine rn ?_
                refine lr ?_
                refine ts (fa fT57_1 rfl rfl) ?_
                refine ts (ld sT23 rfl (ow rfl) rfl) ?_
                refine ts (mv rfl) ?_
                refine ts (bsT (l := (([z28] : List Int).map dI)) lT23 rfl rfl rfl (by kernel_rfl)) ?_
                obtain ⟨x31, hx31, h⟩ := bnd h
                refine tp (apG (ys := ([z28] : List Int)) (xs := s18.2.2.1) (f := dI) lT23 uT23 szI rfl rfl rfl elT (ow rfl) hx31 (so (.s rfl (.s rfl (.s rfl .h))))) ?_
                refine ts (fa fT57_1 rfl rfl) ?_
                refine tt0 (st sT23 rfl rfl rfl rfl (.s .h) (.s rfl .h)) ?_
                refine rn ?_
                refine lr ?_
                refine ts (add rfl rfl) ?_
                refine ts (mv rfl) ?_
                refine rn ?_
                obtain rfl := some_inj h
                exact ⟨rfl, (by (try simp only [List.length_set, copied_len]); exact trk (by kernel_rfl) (by kernel_rfl) (by kernel_rfl))⟩
            · refine cf rfl (bf c19) ?_
              refine CWp.exit ?_
              obtain rfl := some_inj h
              exact ⟨rfl, (by (try simp only [List.length_set, copied_len]); exact trk (by kernel_rfl) (by kernel_rfl) (by kernel_rfl))⟩
          · intro e s ht
            refine CWp.trim ht ?_
            refine sr ?_
            refine ts (ldA (v := .agg [.ref ⟨out.length, 1120, 0⟩ 0 v13.1.length v13.1.length, .ref ⟨out.length, 1121, 0⟩ 0 z33.2.length z33.2.length, .d (.bool z33.1)]) aT57 rfl (ow rfl) (by kernel_rfl)) ?_
            refine tt0 (stW aT57 rfl rfl rfl rfl rfl rfl .h) ?_
            refine ts (ac rfl rfl) ?_
            refine rn ?_
            refine CWp.ret ?_
            obtain rfl := some_inj h
            exact ⟨trivial, rt2 (ex := false) (by exact (rcA (v := .agg [.ref ⟨out.length, 1120, 0⟩ 0 v13.1.length v13.1.length, .ref ⟨out.length, 1121, 0⟩ 0 z33.2.length z33.2.length, .d (.bool z33.1)]) aT57 rfl (ow rfl) (by kernel_rfl) (.t rfl .n))) (by exact (sc (ga (sc (gf rfl rfl) (sc (gf rfl rfl) (sc (gd (by rfl)) sn))) rfl) (sc (gd (by rfl)) sn))) (by rfl) (by rfl)⟩
      | inr r35 =>
        intro e s hr
        obtain rfl := some_inj h
        exact ⟨trivial, hr⟩
theorem shapes_from_ok {p0 : (List Int)} {out : Out} {r : (List api_Bound)} (h : shapes_from p0 = some r) : FunOk PP 33 [.d (.sl (p0.map dI))] out ⟨.d (.sl (r.map api_Bound.d)), []⟩ := by
  unfold shapes_from at h
  refine fi Try.func33 rfl (by kernel_rfl) (by kernel_rfl) (by kernel_rfl) ?_
  refine sr ?_
  refine ts (ak.wk (x' := .sl (([] : List api_Bound).map api_Bound.d)) rfl) ?_
  refine rn ?_
  refine sr ?_
  refine ta (an (n := 0) lT22 rfl) ?_
  refine rn ?_
  refine CWp.seq ?_
  refine sr ?_
  refine ts (mv rfl) ?_
  refine ts (lnD lT23 rfl rfl) ?_
  refine ts (mv rfl) ?_
  refine rn ?_
  obtain ⟨z5, hz5, h⟩ := bnd h
  refine lb (E := fun s1 => [(3, .ref ⟨out.length, 3, 0⟩ 0 s1.2.length s1.2.length), (6, .d (.sl (p0.map dI))), (7, .d (.int .i64 (p0.length : Int))), (8, .d (.int .i64 s1.1))]) (M := fun s1 => ⟨[((3, 0), .arr 2 false (s1.2.map api_Bound.d))], out, []⟩) (E' := fun y => [(3, .ref ⟨out.length, 3, 0⟩ 0 y.length y.length)]) (M' := fun y => ⟨[((3, 0), .arr 2 false (y.map api_Bound.d))], out, []⟩) hz5 (by (try simp only [List.length_set, copied_len]); exact trk (by kernel_rfl) (by kernel_rfl) (by kernel_rfl)) ?_ ?_
  · intro s1 ww h
    unfold shapes_from.s1 at h
    refine sr ?_
    refine ts (lss rfl rfl) ?_
    refine rn ?_
    refine CWp.seq ?_
    rcases ite h with ⟨c2, h⟩ | ⟨c2, h⟩
    · refine ct rfl (bt c2) ?_
      refine CWp.skip ?_
      refine CWp.seq ?_
      refine CWp.block ?_
      refine sr ?_
      obtain ⟨x3, hx3, h⟩ := bnd h
      refine ts (ixD lT23 szI rfl rfl hx3) ?_
      refine ts (ldI sT3 rfl rfl) ?_
      refine ts (as_ rfl) ?_
      refine rn ?_
      refine lr ?_
      refine ts (mv rfl) ?_
      refine ts (mv rfl) ?_
      refine ts (bld (v := .d (api_Bound.d (api_Bound.mk 1 x3))) rfl (by kernel_rfl)) ?_
      refine ts (bsT (l := (([(api_Bound.mk 1 x3)] : List api_Bound).map api_Bound.d)) lT22 rfl rfl rfl (by kernel_rfl)) ?_
      obtain ⟨x4, hx4, h⟩ := bnd h
      refine tp (apG (ys := ([(api_Bound.mk 1 x3)] : List api_Bound)) (xs := s1.2) (f := api_Bound.d) lT22 uT22 api_Bound.sz rfl rfl rfl elT (ow rfl) hx4 (so .h)) ?_
      refine ts (as_ rfl) ?_
      refine rn ?_
      refine lr ?_
      refine ts (add rfl rfl) ?_
      refine ts (mv rfl) ?_
      refine rn ?_
      obtain rfl := some_inj h
      exact ⟨rfl, (by (try simp only [List.length_set, copied_len]); exact trk (by kernel_rfl) (by kernel_rfl) (by kernel_rfl))⟩
    · refine cf rfl (bf c2) ?_
      refine CWp.exit ?_
      obtain rfl := some_inj h
      exact ⟨rfl, (by (try simp only [List.length_set, copied_len]); exact trk (by kernel_rfl) (by kernel_rfl) (by kernel_rfl))⟩
  · intro e s ht
    refine CWp.trim ht ?_
    refine sr ?_
    refine ts (mv rfl) ?_
    refine ts (as_ rfl) ?_
    refine rn ?_
    refine CWp.ret ?_
    obtain rfl := some_inj h
    exact ⟨trivial, rt1 (ex := false) (by exact (.t rfl .n)) (by exact (gf rfl rfl)) (by rfl) (by rfl)⟩
theorem shapes_picked_ok {p0 : api_Array} {p1 : (List Int)} {p2 : (List Int)} {out : Out} {r : api_Array} (h : shapes_picked p0 p1 p2 = some r) : FunOk PP 48 [.d (api_Array.d p0), .d (.sl (p1.map dI)), .d (.sl (p2.map dI))] out ⟨.d (api_Array.d r), []⟩ := by
  unfold shapes_picked at h
  refine fi Try.func48 rfl (by kernel_rfl) (by kernel_rfl) (by kernel_rfl) ?_
  refine sr ?_
  refine ts (bxI rfl) ?_
  refine ta (al (n := 0) zT25 rfl) ?_
  refine rn ?_
  refine sr ?_
  refine ts (mv rfl) ?_
  obtain ⟨x1, hx1, h⟩ := bnd h
  refine ts (cln (f := fun _ => false) kf rfl (.c rfl le1 .n) (curOf_nil _) (shapes_from_ok hx1) rfl) ?_
  refine ts (bld (v := .d (.agg [.sl (x1.map api_Bound.d), .nilsl])) rfl (by kernel_rfl)) ?_
  refine ta (al (n := 0) zT25 rfl) ?_
  refine gz (Le.nilBox (t := 7) (n := 0) (t' := 1141) (n' := 0) (off := 1) (sz := 1) rfl rfl rfl rfl) ?_
  refine tt0 (stW aT25 rfl rfl rfl rfl rfl rfl (.s rfl .h)) ?_
  refine gz (Le.nilBox (t := 7) (n := 0) (t' := 1141) (n' := 1) (off := 1) (sz := 1) rfl rfl rfl rfl) ?_
  refine rn ?_
  refine CWp.seq ?_
  refine sr ?_
  refine ts (mv rfl) ?_
  refine ts (lnD lT23 rfl rfl) ?_
  refine ts (mv rfl) ?_
  refine rn ?_
  obtain ⟨z7, hz7, h⟩ := bnd h
  refine lb (E := fun s2 => [(3, .pimm (api_Array.d p0) 0), (6, .bptr ⟨out.length, 6, 0⟩ 0), (7, .bptr ⟨out.length, 7, 0⟩ 0), (13, .d (.sl (p2.map dI))), (14, .d (.int .i64 (p2.length : Int))), (15, .d (.int .i64 s2.1))]) (M := fun s2 => ⟨[((6, 0), .box [.d .nilsl, .d .nilsl]), ((7, 0), .box [.d (.sl (x1.map api_Bound.d)), .ref ⟨out.length, 1141, 1⟩ 0 s2.2.length s2.2.length]), ((1141, 1), .arr 1 false (s2.2.map dI))], out, []⟩) (E' := fun y => [(6, .bptr ⟨out.length, 6, 0⟩ 0), (7, .bptr ⟨out.length, 7, 0⟩ 0)]) (M' := fun y => ⟨[((6, 0), .box [.d .nilsl, .d .nilsl]), ((7, 0), .box [.d (.sl (x1.map api_Bound.d)), .ref ⟨out.length, 1141, 1⟩ 0 y.length y.length]), ((1141, 1), .arr 1 false (y.map dI))], out, []⟩) hz7 (by (try simp only [List.length_set, copied_len]); exact trk (by kernel_rfl) (by kernel_rfl) (by kernel_rfl)) ?_ ?_
  · intro s2 ww h
    unfold shapes_picked.s1 at h
    refine sr ?_
    refine ts (lss rfl rfl) ?_
    refine rn ?_
    refine CWp.seq ?_
    rcases ite h with ⟨c3, h⟩ | ⟨c3, h⟩
    · refine ct rfl (bt c3) ?_
      refine CWp.skip ?_
      refine CWp.seq ?_
      refine CWp.block ?_
      refine sr ?_
      obtain ⟨x4, hx4, h⟩ := bnd h
      refine ts (ixD lT23 szI rfl rfl hx4) ?_
      refine ts (ldI sT3 rfl rfl) ?_
      refine ts (as_ rfl) ?_
      refine rn ?_
      refine ld_ mixed (b := [0, 1, 0, 4, 0, 28, 60, 124, 255, 511, 1023]) (by kernel_rfl) ?_
      refine ds (fa fT25_1 rfl rfl) rfl ?_
      refine dr (ld sT23 rfl (ow rfl) rfl) rfl ?_
      refine ds (faI fT25_1 rfl rfl) rfl ?_
      refine ds (ldI sT23 rfl rfl) rfl ?_
      refine ds (mv rfl) rfl ?_
      obtain ⟨x5, hx5, h⟩ := bnd h
      refine ds (ixD lT23 szI rfl rfl hx5) rfl ?_
      refine ds (ldI sT3 rfl rfl) rfl ?_
      refine ds (bsT (l := (([x5] : List Int).map dI)) lT23 rfl rfl rfl (by kernel_rfl)) rfl ?_
      obtain ⟨x6, hx6, h⟩ := bnd h
      refine dt (apGn (ys := ([x5] : List Int)) (xs := s2.2) (f := dI) lT23 uT23 szI rfl rfl rfl elT (ow rfl) hx6 (so (.s rfl (.s rfl .h))) rfl) rfl ?_
      refine ds (fa fT25_1 rfl rfl) rfl ?_
      refine dt0 (st sT23 rfl rfl rfl rfl (.s .h) (.s rfl .h)) rfl ?_
      refine dn (by kernel_rfl) ?_
      refine lr ?_
      refine ts (add rfl rfl) ?_
      refine ts (mv rfl) ?_
      refine rn ?_
      obtain rfl := some_inj h
      exact ⟨rfl, (by (try simp only [List.length_set, copied_len]); exact trk (by kernel_rfl) (by kernel_rfl) (by kernel_rfl))⟩
    · refine cf rfl (bf c3) ?_
      refine CWp.exit ?_
      obtain rfl := some_inj h
      exact ⟨rfl, (by (try simp only [List.length_set, copied_len]); exact trk (by kernel_rfl) (by kernel_rfl) (by kernel_rfl))⟩
  · intro e s ht
    refine CWp.trim ht ?_
    refine sr ?_
    refine ts (ldA (v := .agg [.d (.sl (x1.map api_Bound.d)), .ref ⟨out.length, 1141, 1⟩ 0 z7.length z7.length]) aT25 rfl (ow rfl) (by kernel_rfl)) ?_
    refine tt0 (stW aT25 rfl rfl rfl rfl rfl rfl .h) ?_
    refine rn ?_
    refine CWp.ret ?_
    obtain rfl := some_inj h
    exact ⟨trivial, rt1 (ex := false) (by exact (rcA (v := .agg [.d (.sl (x1.map api_Bound.d)), .ref ⟨out.length, 1141, 1⟩ 0 z7.length z7.length]) aT25 rfl (ow rfl) (by kernel_rfl) .n)) (by exact (ga (sc (gd (by rfl)) (sc (gf rfl rfl) sn)) rfl)) (by rfl) (by rfl)⟩
theorem shapes_Taken_ok {p0 : api_Array} {p1 : (List api_Subscript)} {out : Out} {r : api_Array × Int} (h : shapes_Taken p0 p1 = some r) : FunOk PP 22 [.d (api_Array.d p0), .d (.sl (p1.map api_Subscript.d))] out ⟨.tup [.d (api_Array.d r.1), .d (.int .i64 r.2)], []⟩ := by
  unfold shapes_Taken at h
  refine fi Try.func22 rfl (by kernel_rfl) (by kernel_rfl) (by kernel_rfl) ?_
  refine sr ?_
  refine ts (bxI rfl) ?_
  refine ta (al (n := 0) zT25 rfl) ?_
  refine ts (ac rfl rfl) ?_
  refine rn ?_
  refine CWp.seq ?_
  refine sr ?_
  refine ts (ldIW aT25 rfl rfl rfl) ?_
  refine ts (bsT (l := (([p0] : List api_Array).map api_Array.d)) lT92 rfl rfl rfl (by kernel_rfl)) ?_
  obtain ⟨x1, hx1, h⟩ := bnd h
  refine ts (cln (f := fun _ => false) kf rfl (.c rfl le2 .n) (curOf_nil _) (shapes_arraysErr_ok hx1) rfl) ?_
  refine ts (as_ rfl) ?_
  refine rn ?_
  refine sr ?_
  refine ts (mv rfl) ?_
  refine ts (neq rfl rfl) ?_
  refine rn ?_
  rcases ite h with ⟨c2, h⟩ | ⟨c2, h⟩
  · refine ct rfl (nt c2) ?_
    refine sr ?_
    refine ts ((bld (v := .d (.agg [.nilsl, .nilsl])) rfl (by kernel_rfl)).wk (x' := api_Array.d (api_Array.mk [] [])) rfl) ?_
    refine ts (mv rfl) ?_
    refine tt0 (stW aT25 rfl rfl rfl rfl rfl rfl .h) ?_
    refine ts (as_ rfl) ?_
    refine rn ?_
    refine CWp.ret ?_
    obtain rfl := some_inj h
    exact ⟨trivial, rt2 (ex := false) (by exact (rcW aT25 rfl (ow rfl) rfl rfl (.t rfl .n))) (by exact (sc (gd (by rfl)) (sc (gd (by rfl)) sn))) (by rfl) (by rfl)⟩
  · refine cf rfl (nf c2) ?_
    refine CWp.skip ?_
    refine sr ?_
    refine ts (faI fT25_0 rfl rfl) ?_
    refine ts (ldI sT22 rfl rfl) ?_
    refine ts (mv rfl) ?_
    obtain ⟨x3, hx3, h⟩ := bnd h
    refine ts (cln (f := fun _ => false) kf rfl (.c rfl le1 (.c rfl le1 .n)) (curOf_nil _) (shapes_section_ok hx3) rfl) ?_
    refine ts (mv rfl) ?_
    refine ts (ex_ rfl rfl) ?_
    refine ts (ex_ rfl rfl) ?_
    refine ta (al (n := 0) zT57 rfl) ?_
    refine tt0 (stW aT57 rfl rfl rfl rfl rfl rfl .h) ?_
    refine ts (as_ rfl) ?_
    refine rn ?_
    refine CWp.trim (Le.fzBox (t := 7) (e := api_Section.d x3.1) (env' := [(0, .d (api_Array.d p0)), (1, .d (.sl (p1.map api_Subscript.d))), (2, .pimm (api_Array.d p0) 0), (4, .bptr ⟨out.length, 4, 0⟩ 0), (5, .d (.int .i64 0)), (9, .d (api_Array.d p0)), (10, .tight (([p0] : List api_Array).map api_Array.d)), (11, .d (.int .i64 x1)), (6, .d (.int .i64 x1)), (12, .d (.int .i64 x1)), (13, .d (.bool (x1 != 0))), (17, .pimm (api_Array.d p0) 0), (18, .d (.sl (p0.Bounds.map api_Bound.d))), (19, .d (.sl (p1.map api_Subscript.d))), (21, .d (api_Section.d x3.1)), (22, .d (.int .i64 x3.2)), (8, .d (.int .i64 x3.2))]) (loc' := [((4, 0), .box [.d .nilsl, .d .nilsl])]) rfl rfl rfl rfl (by (try simp only [List.length_set, copied_len]); exact trkT (by kernel_rfl) (by kernel_rfl) (by kernel_rfl))) ?_
    refine CWp.seq ?_
    refine sr ?_
    refine ts (mv rfl) ?_
    refine ts (neq rfl rfl) ?_
    refine rn ?_
    rcases ite h with ⟨c4, h⟩ | ⟨c4, h⟩
    · refine ct rfl (nt c4) ?_
      refine sr ?_
      refine ts ((bld (v := .d (.agg [.nilsl, .nilsl])) rfl (by kernel_rfl)).wk (x' := api_Array.d (api_Array.mk [] [])) rfl) ?_
      refine ts (mv rfl) ?_
      refine tt0 (stW aT25 rfl rfl rfl rfl rfl rfl .h) ?_
      refine ts (as_ rfl) ?_
      refine rn ?_
      refine CWp.ret ?_
      obtain rfl := some_inj h
      exact ⟨trivial, rt2 (ex := false) (by exact (rcW aT25 rfl (ow rfl) rfl rfl (.t rfl .n))) (by exact (sc (gd (by rfl)) (sc (gd (by rfl)) sn))) (by rfl) (by rfl)⟩
    · refine cf rfl (nf c4) ?_
      refine CWp.skip ?_
      refine sr ?_
      refine ts (ldIW aT25 rfl rfl rfl) ?_
      refine ts (faI fT57_0 rfl rfl) ?_
      refine ts (ldI sT23 rfl rfl) ?_
      refine ts (faI fT57_1 rfl rfl) ?_
      refine ts (ldI sT23 rfl rfl) ?_
      obtain ⟨x5, hx5, h⟩ := bnd h
      refine ts (cln (f := fun _ => false) kf rfl (.c rfl le1 (.c rfl le1 (.c rfl le1 .n))) (curOf_nil _) (shapes_picked_ok hx5) rfl) ?_
      refine tt0 (stW aT25 rfl rfl rfl rfl rfl rfl .h) ?_
      refine ts (ac rfl rfl) ?_
      refine rn ?_
      refine CWp.ret ?_
      obtain rfl := some_inj h
      exact ⟨trivial, rt2 (ex := false) (by exact (rcW aT25 rfl (ow rfl) rfl rfl (.t rfl .n))) (by exact (sc (gd (by rfl)) (sc (gd (by rfl)) sn))) (by rfl) (by rfl)⟩
theorem law15_Vector_ok {p0 : (List Int)} {out : Out} {r : api_Subscript} (h : law15_Vector p0 = r) : FunOk PP 26 [.d (.sl (p0.map dI))] out ⟨.d (api_Subscript.d r), []⟩ := by
  unfold law15_Vector at h
  refine fi Try.func26 rfl (by kernel_rfl) (by kernel_rfl) (by kernel_rfl) ?_
  refine sr ?_
  refine ta (al (n := 0) zT52 rfl) ?_
  refine rn ?_
  refine sr ?_
  refine ts (mv rfl) ?_
  refine ts (bld (v := .d (api_Subscript.d (api_Subscript.mk 2 0 0 0 p0))) rfl (by kernel_rfl)) ?_
  refine tt0 (stW aT52 rfl rfl rfl rfl rfl rfl .h) ?_
  refine rn ?_
  refine CWp.ret ?_
  obtain rfl := h
  exact ⟨trivial, rt1 (ex := false) (by exact (rcW aT52 rfl (ow rfl) rfl rfl .n)) (by exact (gd (by rfl))) (by rfl) (by rfl)⟩
theorem shapes_SectionOf_ok {p0 : (List api_Bound)} {p1 : (List api_Subscript)} {out : Out} {r : api_Section × Int} (h : shapes_SectionOf p0 p1 = some r) : FunOk PP 25 [.d (.sl (p0.map api_Bound.d)), .d (.sl (p1.map api_Subscript.d))] out ⟨.tup [.d (api_Section.d r.1), .d (.int .i64 r.2)], []⟩ := by
  unfold shapes_SectionOf at h
  refine fi Try.func25 rfl (by kernel_rfl) (by kernel_rfl) (by kernel_rfl) ?_
  refine sr ?_
  refine ta (al (n := 0) zT57 rfl) ?_
  refine ts (ac rfl rfl) ?_
  refine rn ?_
  refine CWp.seq ?_
  refine sr ?_
  refine ts (mv rfl) ?_
  obtain ⟨x1, hx1, h⟩ := bnd h
  refine ts (cln (f := fun _ => false) kf rfl (.c rfl le1 .n) (curOf_nil _) (shapes_boundsErr_ok hx1) rfl) ?_
  refine ts (as_ rfl) ?_
  refine rn ?_
  refine sr ?_
  refine ts (mv rfl) ?_
  refine ts (neq rfl rfl) ?_
  refine rn ?_
  rcases ite h with ⟨c2, h⟩ | ⟨c2, h⟩
  · refine ct rfl (nt c2) ?_
    refine sr ?_
    refine ts ((bld (v := .d (.agg [.nilsl, .nilsl, .bool false])) rfl (by kernel_rfl)).wk (x' := api_Section.d (api_Section.mk [] [] false)) rfl) ?_
    refine ts (mv rfl) ?_
    refine tt0 (stW aT57 rfl rfl rfl rfl rfl rfl .h) ?_
    refine ts (as_ rfl) ?_
    refine rn ?_
    refine CWp.ret ?_
    obtain rfl := some_inj h
    exact ⟨trivial, rt2 (ex := false) (by exact (rcW aT57 rfl (ow rfl) rfl rfl (.t rfl .n))) (by exact (sc (gd (by rfl)) (sc (gd (by rfl)) sn))) (by rfl) (by rfl)⟩
  · refine cf rfl (nf c2) ?_
    refine CWp.skip ?_
    refine sr ?_
    refine ts (mv rfl) ?_
    refine ts (mv rfl) ?_
    obtain ⟨x3, hx3, h⟩ := bnd h
    refine ts (cln (f := fun _ => false) kf rfl (.c rfl le1 (.c rfl le1 .n)) (curOf_nil _) (shapes_section_ok hx3) rfl) ?_
    refine ts (ex_ rfl rfl) ?_
    refine ts (ex_ rfl rfl) ?_
    refine tt0 (stW aT57 rfl rfl rfl rfl rfl rfl .h) ?_
    refine ts (as_ rfl) ?_
    refine rn ?_
    refine CWp.ret ?_
    obtain rfl := some_inj h
    exact ⟨trivial, rt2 (ex := false) (by exact (rcW aT57 rfl (ow rfl) rfl rfl (.t rfl .n))) (by exact (sc (gd (by rfl)) (sc (gd (by rfl)) sn))) (by rfl) (by rfl)⟩
theorem shapes_Transpose_ok {p0 : api_Array} {out : Out} {r : api_Array × Int} (h : shapes_Transpose p0 = some r) : FunOk PP 16 [.d (api_Array.d p0)] out ⟨.tup [.d (api_Array.d r.1), .d (.int .i64 r.2)], []⟩ := by
  unfold shapes_Transpose at h
  refine fi Try.func16 rfl (by kernel_rfl) (by kernel_rfl) (by kernel_rfl) ?_
  refine sr ?_
  refine ts (bxI rfl) ?_
  refine ta (al (n := 0) zT25 rfl) ?_
  refine ts (ac rfl rfl) ?_
  refine rn ?_
  refine CWp.seq ?_
  refine sd mixed (b := [0, 1, 3, 0, 8, 24, 56, 120, 248, 511, 1023, 2047, 4095]) (by kernel_rfl) ?_
  refine ds (ldIW aT25 rfl rfl rfl) rfl ?_
  refine ds (bsT (l := (([p0] : List api_Array).map api_Array.d)) lT92 rfl rfl rfl (by kernel_rfl)) rfl ?_
  obtain ⟨x1, hx1, h⟩ := bnd h
  refine dr (cln (f := fun _ => false) kf rfl (.c rfl le2 .n) (curOf_nil _) (shapes_arraysErr_ok hx1) rfl) rfl ?_
  refine ds (faI fT25_0 rfl rfl) rfl ?_
  refine ds (ldI sT22 rfl rfl) rfl ?_
  refine ds (lnD lT22 rfl rfl) rfl ?_
  refine ds (eql rfl rfl) rfl ?_
  refine ds (bld (v := .d (shapes_rule.d (shapes_rule.mk ((p0.Bounds.length : Int) == 2) 32))) rfl (by kernel_rfl)) rfl ?_
  refine ds (bsT (l := (([(shapes_rule.mk ((p0.Bounds.length : Int) == 2) 32)] : List shapes_rule).map shapes_rule.d)) lT102 rfl rfl rfl (by kernel_rfl)) rfl ?_
  obtain ⟨x2, hx2, h⟩ := bnd h
  refine dr (cln (f := fun _ => false) kf rfl (.c rfl le2 .n) (curOf_nil _) (shapes_broken_ok hx2) rfl) rfl ?_
  refine ds (bsT (l := (([x1, x2] : List Int).map dI)) lT91 rfl rfl rfl (by kernel_rfl)) rfl ?_
  obtain ⟨x3, hx3, h⟩ := bnd h
  refine dr (cln (f := fun _ => false) kf rfl (.c rfl le2 .n) (curOf_nil _) (cmp_Or_api_Errno_ok hx3) rfl) rfl ?_
  refine ds (as_ rfl) rfl ?_
  refine dn (by kernel_rfl) ?_
  refine sr ?_
  refine ts (mv rfl) ?_
  refine ts (neq rfl rfl) ?_
  refine rn ?_
  rcases ite h with ⟨c4, h⟩ | ⟨c4, h⟩
  · refine ct rfl (nt c4) ?_
    refine sr ?_
    refine ts ((bld (v := .d (.agg [.nilsl, .nilsl])) rfl (by kernel_rfl)).wk (x' := api_Array.d (api_Array.mk [] [])) rfl) ?_
    refine ts (mv rfl) ?_
    refine tt0 (stW aT25 rfl rfl rfl rfl rfl rfl .h) ?_
    refine ts (as_ rfl) ?_
    refine rn ?_
    refine CWp.ret ?_
    obtain rfl := some_inj h
    exact ⟨trivial, rt2 (ex := false) (by exact (rcW aT25 rfl (ow rfl) rfl rfl (.t rfl .n))) (by exact (sc (gd (by rfl)) (sc (gd (by rfl)) sn))) (by rfl) (by rfl)⟩
  · refine cf rfl (nf c4) ?_
    refine CWp.skip ?_
    refine sr ?_
    refine ts (faI fT25_0 rfl rfl) ?_
    refine ts (ldI sT22 rfl rfl) ?_
    obtain ⟨x5, hx5, h⟩ := bnd h
    refine ts (cln (f := fun _ => false) kf rfl (.c rfl le1 .n) (curOf_nil _) (shapes_extents_ok hx5) rfl) ?_
    refine ts (as_ rfl) ?_
    refine rn ?_
    refine sr ?_
    refine ta (an (n := 0) lT23 rfl) ?_
    refine rn ?_
    refine CWp.seq ?_
    refine sr ?_
    refine ts (mv rfl) ?_
    obtain ⟨x6, hx6, h⟩ := bnd h
    refine ts (ixD lT23 szI rfl rfl hx6) ?_
    refine ts (ldI sT3 rfl rfl) ?_
    refine ts (mv rfl) ?_
    refine rn ?_
    obtain ⟨z16, hz16, h⟩ := bnd h
    refine lb (E := fun s7 => [(1, .pimm (api_Array.d p0) 0), (2, .bptr ⟨out.length, 2, 0⟩ 0), (5, .d (.sl (x5.map dI))), (6, .ref ⟨out.length, 6, 0⟩ 0 s7.2.length s7.2.length), (30, .d (.int .i64 x6)), (31, .d (.int .i64 s7.1))]) (M := fun s7 => ⟨[((2, 0), .box [.d .nilsl, .d .nilsl]), ((6, 0), .arr 1 false (s7.2.map dI))], out, []⟩) (E' := fun y => [(1, .pimm (api_Array.d p0) 0), (2, .bptr ⟨out.length, 2, 0⟩ 0), (5, .d (.sl (x5.map dI))), (6, .ref ⟨out.length, 6, 0⟩ 0 y.length y.length)]) (M' := fun y => ⟨[((2, 0), .box [.d .nilsl, .d .nilsl]), ((6, 0), .arr 1 false (y.map dI))], out, []⟩) hz16 (by (try simp only [List.length_set, copied_len]); exact trk (by kernel_rfl) (by kernel_rfl) (by kernel_rfl)) ?_ ?_
    · intro s7 ww h
      unfold shapes_Transpose.s1 at h
      refine sr ?_
      refine ts (lss rfl rfl) ?_
      refine rn ?_
      refine CWp.seq ?_
      rcases ite h with ⟨c8, h⟩ | ⟨c8, h⟩
      · refine ct rfl (bt c8) ?_
        refine CWp.skip ?_
        refine CWp.seq ?_
        refine CWp.block ?_
        refine sr ?_
        refine ts (mv rfl) ?_
        refine ts (as_ rfl) ?_
        refine rn ?_
        refine sr ?_
        refine ts (mv rfl) ?_
        obtain ⟨x9, hx9, h⟩ := bnd h
        refine ts (ixD lT23 szI rfl rfl hx9) ?_
        refine ts (ldI sT3 rfl rfl) ?_
        refine ts (mv rfl) ?_
        refine rn ?_
        obtain ⟨z14, hz14, h⟩ := bnd h
        refine lb (E := fun s10 => [(1, .pimm (api_Array.d p0) 0), (2, .bptr ⟨out.length, 2, 0⟩ 0), (5, .d (.sl (x5.map dI))), (6, .ref ⟨out.length, 6, 0⟩ 0 s10.2.length s10.2.length), (7, .d (.int .i64 s7.1)), (30, .d (.int .i64 x6)), (31, .d (.int .i64 s7.1)), (36, .d (.int .i64 x9)), (37, .d (.int .i64 s10.1))]) (M := fun s10 => ⟨[((2, 0), .box [.d .nilsl, .d .nilsl]), ((6, 0), .arr 1 false (s10.2.map dI))], out, []⟩) (E' := fun y => [(1, .pimm (api_Array.d p0) 0), (2, .bptr ⟨out.length, 2, 0⟩ 0), (5, .d (.sl (x5.map dI))), (6, .ref ⟨out.length, 6, 0⟩ 0 y.length y.length), (30, .d (.int .i64 x6)), (31, .d (.int .i64 s7.1))]) (M' := fun y => ⟨[((2, 0), .box [.d .nilsl, .d .nilsl]), ((6, 0), .arr 1 false (y.map dI))], out, []⟩) hz14 (by (try simp only [List.length_set, copied_len]); exact trk (by kernel_rfl) (by kernel_rfl) (by kernel_rfl)) ?_ ?_
        · intro s10 ww h
          unfold shapes_Transpose.s2 at h
          refine sr ?_
          refine ts (lss rfl rfl) ?_
          refine rn ?_
          refine CWp.seq ?_
          rcases ite h with ⟨c11, h⟩ | ⟨c11, h⟩
          · refine ct rfl (bt c11) ?_
            refine CWp.skip ?_
            refine CWp.seq ?_
            refine CWp.block ?_
            refine sr ?_
            refine ts (mv rfl) ?_
            refine ts (as_ rfl) ?_
            refine rn ?_
            refine lr ?_
            refine ts (mv rfl) ?_
            refine ts (mv rfl) ?_
            refine ts (mv rfl) ?_
            refine ts (mv rfl) ?_
            obtain ⟨x12, hx12, h⟩ := bnd h
            refine ts (ixD lT23 szI rfl rfl hx12) ?_
            refine ts (ldI sT3 rfl rfl) ?_
            refine ts (mul rfl rfl) ?_
            refine ts (add rfl rfl) ?_
            refine ts (bsT (l := (([(w (s7.1 + (w (s10.1 * x12))))] : List Int).map dI)) lT23 rfl rfl rfl (by kernel_rfl)) ?_
            obtain ⟨x13, hx13, h⟩ := bnd h
            refine tp (apG (ys := ([(w (s7.1 + (w (s10.1 * x12))))] : List Int)) (xs := s10.2) (f := dI) lT23 uT23 szI rfl rfl rfl elT (ow rfl) hx13 (so (.s rfl .h))) ?_
            refine ts (as_ rfl) ?_
            refine rn ?_
            refine lr ?_
            refine ts (add rfl rfl) ?_
            refine ts (mv rfl) ?_
            refine rn ?_
            obtain rfl := some_inj h
            exact ⟨rfl, (by (try simp only [List.length_set, copied_len]); exact trk (by kernel_rfl) (by kernel_rfl) (by kernel_rfl))⟩
          · refine cf rfl (bf c11) ?_
            refine CWp.exit ?_
            obtain rfl := some_inj h
            exact ⟨rfl, (by (try simp only [List.length_set, copied_len]); exact trk (by kernel_rfl) (by kernel_rfl) (by kernel_rfl))⟩
        · intro e s ht
          refine CWp.trim ht ?_
          refine lr ?_
          refine ts (add rfl rfl) ?_
          refine ts (mv rfl) ?_
          refine rn ?_
          obtain rfl := some_inj h
          exact ⟨rfl, (by (try simp only [List.length_set, copied_len]); exact trk (by kernel_rfl) (by kernel_rfl) (by kernel_rfl))⟩
      · refine cf rfl (bf c8) ?_
        refine CWp.exit ?_
        obtain rfl := some_inj h
        exact ⟨rfl, (by (try simp only [List.length_set, copied_len]); exact trk (by kernel_rfl) (by kernel_rfl) (by kernel_rfl))⟩
    · intro e s ht
      refine CWp.trim ht ?_
      refine sd mixed (b := [0, 0, 2, 6, 0, 16, 48, 126, 0, 511, 1023, 2047]) (by kernel_rfl) ?_
      refine ds (ldIW aT25 rfl rfl rfl) rfl ?_
      refine ds (mv rfl) rfl ?_
      obtain ⟨x17, hx17, h⟩ := bnd h
      refine ds (ixD lT23 szI rfl rfl hx17) rfl ?_
      refine ds (ldI sT3 rfl rfl) rfl ?_
      refine ds (mv rfl) rfl ?_
      obtain ⟨x18, hx18, h⟩ := bnd h
      refine ds (ixD lT23 szI rfl rfl hx18) rfl ?_
      refine ds (ldI sT3 rfl rfl) rfl ?_
      refine ds (bsT (l := (([x17, x18] : List Int).map dI)) lT23 rfl rfl rfl (by kernel_rfl)) rfl ?_
      refine ds (mv rfl) rfl ?_
      obtain ⟨x19, hx19, h⟩ := bnd h
      refine dt (cll (f := fun _ => false) kf rfl (.c rfl le1 (.c rfl le2 (.w rfl (leG4 rfl (ow rfl) (so (.s rfl .h))) .n))) (curOf_nil _) (shapes_picked_ok hx19) rfl) rfl ?_
      refine dt0 (stW aT25 rfl rfl rfl rfl rfl rfl .h) rfl ?_
      refine ds (ac rfl rfl) rfl ?_
      refine dn (by kernel_rfl) ?_
      refine CWp.ret ?_
      obtain rfl := some_inj h
      exact ⟨trivial, rt2 (ex := false) (by exact (rcW aT25 rfl (ow rfl) rfl rfl (.t rfl .n))) (by exact (sc (gd (by rfl)) (sc (gd (by rfl)) sn))) (by rfl) (by rfl)⟩
theorem shapes_dimErr_ok {p0 : api_Array} {p1 : Int} {out : Out} {r : Int} (h : shapes_dimErr p0 p1 = some r) : FunOk PP 43 [.d (api_Array.d p0), .d (.int .i64 p1)] out ⟨.d (.int .i64 r), []⟩ := by
  unfold shapes_dimErr at h
  refine fi Try.func43 rfl (by kernel_rfl) (by kernel_rfl) (by kernel_rfl) ?_
  refine sr ?_
  refine ts (bxI rfl) ?_
  refine ts (ac rfl rfl) ?_
  refine rn ?_
  refine sd mixed (b := [0, 1, 3, 0, 0, 16, 48, 127, 255, 511, 1023, 2047, 4095, 8191]) (by kernel_rfl) ?_
  refine ds (ldIW aT25 rfl rfl rfl) rfl ?_
  refine ds (bsT (l := (([p0] : List api_Array).map api_Array.d)) lT92 rfl rfl rfl (by kernel_rfl)) rfl ?_
  obtain ⟨x1, hx1, h⟩ := bnd h
  refine dr (cln (f := fun _ => false) kf rfl (.c rfl le2 .n) (curOf_nil _) (shapes_arraysErr_ok hx1) rfl) rfl ?_
  refine ds (mv rfl) rfl ?_
  refine ds (faI fT25_0 rfl rfl) rfl ?_
  refine ds (ldI sT22 rfl rfl) rfl ?_
  refine ds (lnD lT22 rfl rfl) rfl ?_
  refine dr (cln (f := fun _ => false) kf rfl (.c rfl le1 (.c rfl le1 (.c rfl le1 .n))) (curOf_nil _) (shapes_inside_ok (rfl : shapes_inside p1 1 (p0.Bounds.length : Int) = _)) rfl) rfl ?_
  refine ds (bld (v := .d (shapes_rule.d (shapes_rule.mk (shapes_inside p1 1 (p0.Bounds.length : Int)) 32))) rfl (by kernel_rfl)) rfl ?_
  refine ds (bsT (l := (([(shapes_rule.mk (shapes_inside p1 1 (p0.Bounds.length : Int)) 32)] : List shapes_rule).map shapes_rule.d)) lT102 rfl rfl rfl (by kernel_rfl)) rfl ?_
  obtain ⟨x2, hx2, h⟩ := bnd h
  refine dr (cln (f := fun _ => false) kf rfl (.c rfl le2 .n) (curOf_nil _) (shapes_broken_ok hx2) rfl) rfl ?_
  refine ds (bsT (l := (([x1, x2] : List Int).map dI)) lT91 rfl rfl rfl (by kernel_rfl)) rfl ?_
  obtain ⟨x3, hx3, h⟩ := bnd h
  refine dr (cln (f := fun _ => false) kf rfl (.c rfl le2 .n) (curOf_nil _) (cmp_Or_api_Errno_ok hx3) rfl) rfl ?_
  refine ds (as_ rfl) rfl ?_
  refine dn (by kernel_rfl) ?_
  refine CWp.ret ?_
  obtain rfl := some_inj h
  exact ⟨trivial, rt1 (ex := false) (by exact (.t rfl .n)) (by exact (gd (by rfl))) (by rfl) (by rfl)⟩
theorem slices_Clone_api_Bound_ok {p0 : (List api_Bound)} {out : Out} {r : (List api_Bound)} (h : slices_Clone_api_Bound p0 = some r) : FunOk PP 66 [.d (.sl (p0.map api_Bound.d))] out ⟨.own 2 (r.map api_Bound.d), []⟩ := by
  unfold slices_Clone_api_Bound at h
  refine fi Try.func66 rfl (by kernel_rfl) (by kernel_rfl) (by kernel_rfl) ?_
  refine sr ?_
  refine ta (an (n := 0) lT22 rfl) ?_
  refine rn ?_
  refine CWp.seq ?_
  refine sr ?_
  refine ts (mv rfl) ?_
  refine nq uT22 rfl ?_ ?_
  · refine rn ?_
    refine cf rfl rfl ?_
    refine CWp.skip ?_
    refine sr ?_
    refine ta (bsM (n := 0) (xs := ([] : List api_Bound)) (f := api_Bound.d) lT22 rfl rfl rfl (by kernel_rfl) rfl rfl) ?_
    refine ts (mv rfl) ?_
    obtain ⟨x1, hx1, h⟩ := bnd h
    refine tp (apG (ys := p0) (xs := ([] : List api_Bound)) (f := api_Bound.d) lT22 uT22 api_Bound.sz rfl (by first | rfl | simp only [List.length_set, copied_len]) rfl elD (ow rfl) hx1 (so .h)) ?_
    refine ts (as_ rfl) ?_
    refine rn ?_
    refine CWp.ret ?_
    obtain rfl := some_inj h
    exact ⟨trivial, rt1 (ex := true) (by exact (.t rfl .n)) (by exact (go rfl rfl)) (by rfl) (by rfl)⟩
  · intro hq
    have hq := List.map_eq_nil_iff.1 hq
    subst hq
    refine rn ?_
    refine ct rfl rfl ?_
    refine sr ?_
    refine ta (an (n := 1) lT22 rfl) ?_
    refine rn ?_
    refine CWp.ret ?_
    have h2 : some ([] : (List api_Bound)) = some r := by simpa [app] using h
    obtain rfl := some_inj h2
    exact ⟨trivial, rt1 (ex := true) (by exact (.t rfl .n)) (by exact (go (by first | rfl | simp only [List.length_set, copied_len]) rfl)) (by rfl) (by rfl)⟩
theorem shapes_copied_ok {p0 : api_Array} {out : Out} {r : api_Array} (h : shapes_copied p0 = some r) : FunOk PP 44 [.d (api_Array.d p0)] out ⟨.agg [.own 2 (r.Bounds.map api_Bound.d), .own 1 (r.Elements.map dI)], []⟩ := by
  unfold shapes_copied at h
  refine fi Try.func44 rfl (by kernel_rfl) (by kernel_rfl) (by kernel_rfl) ?_
  refine sr ?_
  refine ts (bxI rfl) ?_
  refine ta (al (n := 0) zT25 rfl) ?_
  refine gz (Le.nilBox (t := 2) (n := 0) (t' := 1040) (n' := 0) (off := 0) (sz := 2) rfl rfl rfl rfl) ?_
  refine gz (Le.nilBox (t := 2) (n := 0) (t' := 1041) (n' := 0) (off := 1) (sz := 1) rfl rfl rfl rfl) ?_
  refine rn ?_
  refine sd mixed (b := [0, 1, 3, 0, 8, 31, 63, 127]) (by kernel_rfl) ?_
  refine ds (faI fT25_0 rfl rfl) rfl ?_
  refine ds (ldI sT22 rfl rfl) rfl ?_
  obtain ⟨x1, hx1, h⟩ := bnd h
  refine da (chn (f := fun _ => false) (n := 0) (v' := .ref ⟨out.length, 5, 0⟩ 0 x1.length x1.length) (bs := [((5, 0), .arr 2 false (x1.map api_Bound.d))]) kf rfl (.c rfl le1 .n) (curOf_nil _) (slices_Clone_api_Bound_ok hx1) rfl rfl (by simp [homeVal, homeVals])) rfl ?_
  refine es rfl (faI fT25_1 rfl rfl) rfl ?_
  refine es rfl (ldI sT23 rfl rfl) rfl ?_
  obtain ⟨x2, hx2, h⟩ := bnd h
  refine ea rfl (chn (f := fun _ => false) (n := 0) (v' := .ref ⟨out.length, 8, 0⟩ 0 x2.length x2.length) (bs := [((8, 0), .arr 1 false (x2.map dI))]) kf rfl (.c rfl le1 .n) (curOf_nil _) (slices_Clone_int_ok hx2) rfl rfl (by simp [homeVal, homeVals])) rfl ?_
  refine es rfl (bld (v := .agg [.ref ⟨out.length, 5, 0⟩ 0 x1.length x1.length, .ref ⟨out.length, 8, 0⟩ 0 x2.length x2.length]) rfl (by kernel_rfl)) rfl ?_
  refine et0 rfl (stW aT25 rfl rfl rfl rfl rfl rfl (.s rfl (.s rfl (.s rfl (.s rfl .h))))) (by kernel_rfl) rfl ?_
  refine dn (by kernel_rfl) ?_
  refine CWp.ret ?_
  obtain rfl := some_inj h
  exact ⟨trivial, rt1 (ex := true) (by exact (rcA (v := .agg [.ref ⟨out.length, 5, 0⟩ 0 x1.length x1.length, .ref ⟨out.length, 8, 0⟩ 0 x2.length x2.length]) aT25 rfl (ow rfl) (by kernel_rfl) .n)) (by exact (ga (sc (go rfl rfl) (sc (go rfl rfl) sn)) rfl)) (by rfl) (by rfl)⟩
theorem slices_Delete_int_ok {loc loc' : Lx.Loc} {out : Out} {tt n m : Nat} {xs r : List Int} {i j : Int} (h : del xs i j = some r) (hm : m = xs.length) (hb : findB loc tt n = some (.arr 1 false (xs.map dI))) (hl : SetL loc tt n (.arr 1 true ((delz xs i j 0).map dI)) loc') :
    FunOk PP 51 [.ref ⟨out.length, tt, n⟩ 0 m m, .d (.int .i64 i), .d (.int .i64 j)] (loc :: out) ⟨.d (.sl (r.map dI)), [some loc']⟩ := by
  obtain ⟨h1, h2, h3, rfl⟩ := del_ok h
  have hl' := hl.eq; subst hl'; subst hm
  have hX : (xs.map dI).length = xs.length := by simp
  refine fi Try.func51 rfl (by kernel_rfl) (by kernel_rfl) (by kernel_rfl) ?_
  refine sr ?_
  refine ts (ak) ?_
  refine rn ?_
  refine sr ?_
  refine ts (mv rfl) ?_
  refine ts (mv rfl) ?_
  refine ts (mv rfl) ?_
  refine ts (mv rfl) ?_
  refine ts (lnR lT23 rfl rfl) ?_
  refine ts (slU lT23 rfl hX.symm (up0.sees hb) rfl rfl rfl ⟨h1, h2, h3, by omega⟩) ?_
  refine rn ?_
  refine CWp.seq ?_
  refine sr ?_
  refine ts (mv rfl) ?_
  refine ts (mv rfl) ?_
  refine ts (eql rfl rfl) ?_
  refine rn ?_
  by_cases e : i = j
  · subst e
    rw [delz_self]
    refine ct rfl (et rfl) ?_
    refine sr ?_
    refine ts (mv rfl) ?_
    refine ts (as_ rfl) ?_
    refine rn ?_
    refine CWp.trim (Le.up (t0 := 6) up0 rfl hb hX.symm (Nat.le_refl _)) ?_
    refine CWp.ret ?_
    have hr : (xs.take i.toNat ++ xs.drop i.toNat).map dI = (xs.map dI).take xs.length := by rw [List.take_append_drop, List.take_of_length_le (by simp)]
    rw [hr]
    exact ⟨trivial, rt1 (ex := false) (by exact (.t rfl .n)) (by exact (gd (by rfl))) (by rfl) (by rfl)⟩
  · refine cf rfl (ef e) ?_
    have q1 : i.toNat ≤ j.toNat := by omega
    have q2 : j.toNat ≤ (xs.map dI).length := by omega
    refine CWp.skip ?_
    refine sr ?_
    refine ts (mv rfl) ?_
    refine ts (lnR lT23 rfl rfl) ?_
    refine ts (as_ rfl) ?_
    refine rn ?_
    refine sd mixed (b := [0, 0, 3, 0, 0, 24, 63, 127]) (by kernel_rfl) ?_
    refine ds (mv rfl) rfl ?_
    refine ds (mv rfl) rfl ?_
    refine dr (slV lT23 rfl hX.symm (up0.sees hb) rfl ⟨h1, by omega⟩) rfl ?_
    refine ds (mv rfl) rfl ?_
    refine ds (mv rfl) rfl ?_
    refine dr (slX lT23 rfl hX.symm (up0.sees hb) rfl ⟨by omega, by omega⟩) rfl ?_
    refine dt (apI up0 lT23 uT23 rfl rfl hb hX.symm (all_sz szI) ⟨by omega, by omega, by omega⟩) rfl ?_
    refine ds (as_ rfl) rfl ?_
    refine dn (by kernel_rfl) ?_
    rw [← hX]
    have hb1 := find_setB (b := .arr 1 false (splice (xs.map dI) i.toNat (((xs.map dI).drop j.toNat).take ((xs.map dI).length - j.toNat)))) hb
    have hL := del_len q1 q2
    refine sr ?_
    refine ts (mv rfl) ?_
    refine ts (mv rfl) ?_
    refine ts (lnR lT23 rfl rfl) ?_
    refine ts (mv rfl) ?_
    refine ts (slW lT23 rfl hL.symm (by omega) (up1.sees hb1) rfl rfl ⟨by omega, by omega, by omega⟩) ?_
    refine tt0 (clI up1 lT23 rfl rfl hb1 hL.symm (by omega)) ?_
    refine rn ?_
    refine sr ?_
    refine ts (mv rfl) ?_
    refine ts (as_ rfl) ?_
    refine rn ?_
    rw [set_setB]
    have e1 : ((i.toNat + ((xs.map dI).length - j.toNat) : Nat) : Int).toNat = i.toNat + ((xs.map dI).length - j.toNat) := by omega
    have e2 : ((xs.map dI).length : Int).toNat - (i.toNat + ((xs.map dI).length - j.toNat)) = j.toNat - i.toNat := by omega
    rw [e1, e2, del_end q1 q2]
    have hb2 := find_setB (b := .arr 1 false ((xs.map dI).take i.toNat ++ (xs.map dI).drop j.toNat ++ List.replicate (j.toNat - i.toNat) (.int .i64 0 : D))) hb
    refine CWp.trim (Le.up (t0 := 6) up1 rfl hb2 (by simp; omega) (by omega)) ?_
    refine CWp.ret ?_
    have hr : (xs.take i.toNat ++ xs.drop j.toNat).map dI = ((xs.map dI).take i.toNat ++ (xs.map dI).drop j.toNat ++ List.replicate (j.toNat - i.toNat) (.int .i64 0 : D)).take (i.toNat + ((xs.map dI).length - j.toNat)) := by
      rw [del_map, List.take_left' (by simp; omega)]
    rw [hr, set_setB, delz_map]
    exact ⟨trivial, rt1 (ex := false) (by exact (.t rfl .n)) (by exact (gd (by rfl))) (by rfl) (by rfl)⟩
theorem shapes_lines_ok {p0 : (List Int)} {p1 : Int} {out : Out} {r : (List (List Int))} (h : shapes_lines p0 p1 = some r) : FunOk PP 45 [.d (.sl (p0.map dI)), .d (.int .i64 p1)] out ⟨.d (.sl (r.map (dL dI))), []⟩ := by
  unfold shapes_lines at h
  refine fi Try.func45 rfl (by kernel_rfl) (by kernel_rfl) (by kernel_rfl) ?_
  refine sr ?_
  refine ts (ak.wk (x' := .sl (([] : List (List Int)).map (dL dI))) rfl) ?_
  refine rn ?_
  refine sr ?_
  refine ts (mv rfl) ?_
  obtain ⟨x1, hx1, h⟩ := bnd h
  refine ta (chn (f := fun _ => false) (n := 0) (v' := .ref ⟨out.length, 17, 0⟩ 0 x1.length x1.length) (bs := [((17, 0), .arr 1 false (x1.map dI))]) kf rfl (.c rfl le1 .n) (curOf_nil _) (slices_Clone_int_ok hx1) rfl rfl (by simp [homeVal, homeVals])) ?_
  refine ts (mv rfl) ?_
  refine ts (mv rfl) ?_
  refine ts (add rfl rfl) ?_
  obtain ⟨x2, hx2, h⟩ := bnd h
  refine tt (cb_ (v := .d (.sl (x2.map dI))) (xs := [.int .i64 p1, .int .i64 (w (p1 + 1))]) kf rfl (slices_Delete_int_ok hx2 rfl rfl .h) rfl) ?_
  refine ts (as_ rfl) ?_
  refine rn ?_
  refine sr ?_
  refine ts (mv rfl) ?_
  obtain ⟨x3, hx3, h⟩ := bnd h
  refine ts (cln (f := fun _ => false) kf rfl (.c rfl le1 .n) (curOf_nil _) (shapes_strides_ok hx3) rfl) ?_
  refine ts (as_ rfl) ?_
  refine rn ?_
  refine sr ?_
  refine ts (mv rfl) ?_
  refine ts (mv rfl) ?_
  obtain ⟨x4, hx4, h⟩ := bnd h
  refine ts (ixD lT23 szI rfl rfl hx4) ?_
  refine ts (ldI sT3 rfl rfl) ?_
  refine ts (as_ rfl) ?_
  refine rn ?_
  refine sr ?_
  refine ts (mv rfl) ?_
  obtain ⟨x5, hx5, h⟩ := bnd h
  refine ta (chn (f := fun _ => false) (n := 0) (v' := .ref ⟨out.length, 29, 0⟩ 0 x5.length x5.length) (bs := [((29, 0), .arr 1 false (x5.map dI))]) kf rfl (.c rfl le1 .n) (curOf_nil _) (slices_Clone_int_ok hx5) rfl rfl (by simp [homeVal, homeVals])) ?_
  refine ts (mv rfl) ?_
  refine ts (mv rfl) ?_
  refine ts (add rfl rfl) ?_
  obtain ⟨x6, hx6, h⟩ := bnd h
  refine tt (cb_ (v := .d (.sl (x6.map dI))) (xs := [.int .i64 p1, .int .i64 (w (p1 + 1))]) kf rfl (slices_Delete_int_ok hx6 rfl rfl .h) rfl) ?_
  refine ts (as_ rfl) ?_
  refine rn ?_
  refine sr ?_
  refine ta (an (n := 0) lT77 rfl) ?_
  refine rn ?_
  refine CWp.seq ?_
  refine sr ?_
  refine ts (mv rfl) ?_
  obtain ⟨x7, hx7, h⟩ := bnd h
  refine ts (cln (f := fun _ => false) kf rfl (.c rfl le1 .n) (curOf_nil _) (shapes_product_ok hx7) rfl) ?_
  refine ts (mv rfl) ?_
  refine rn ?_
  obtain ⟨z24, hz24, h⟩ := bnd h
  refine lb (E := fun s8 => [(0, .d (.sl (p0.map dI))), (1, .d (.int .i64 p1)), (5, .d (.sl (x2.map dI))), (7, .d (.int .i64 x4)), (8, .d (.sl (x6.map dI))), (9, .ref ⟨out.length, 9, 0⟩ 0 s8.2.length s8.2.length), (35, .d (.int .i64 x7)), (36, .d (.int .i64 s8.1))]) (M := fun s8 => ⟨[((9, 0), .arr 1 false (s8.2.map (dL dI)))], out, []⟩) (E' := fun y => [(9, .ref ⟨out.length, 9, 0⟩ 0 y.length y.length)]) (M' := fun y => ⟨[((9, 0), .arr 1 false (y.map (dL dI)))], out, []⟩) hz24 (by (try simp only [List.length_set, copied_len]); exact trk (by kernel_rfl) (by kernel_rfl) (by kernel_rfl)) ?_ ?_
  · intro s8 ww h
    unfold shapes_lines.s1 at h
    refine sr ?_
    refine ts (lss rfl rfl) ?_
    refine rn ?_
    refine CWp.seq ?_
    rcases ite h with ⟨c9, h⟩ | ⟨c9, h⟩
    · refine ct rfl (bt c9) ?_
      refine CWp.skip ?_
      refine CWp.seq ?_
      refine CWp.block ?_
      refine sr ?_
      refine ts (mv rfl) ?_
      refine ts (as_ rfl) ?_
      refine rn ?_
      refine sr ?_
      refine ts (ac rfl rfl) ?_
      refine rn ?_
      refine CWp.seq ?_
      refine sr ?_
      refine ts (mv rfl) ?_
      refine ts (mv rfl) ?_
      obtain ⟨x10, hx10, h⟩ := bnd h
      refine ts (cln (f := fun _ => false) kf rfl (.c rfl le1 (.c rfl le1 .n)) (curOf_nil _) (shapes_digits_ok hx10) rfl) ?_
      refine ts (lnD lT23 rfl rfl) ?_
      refine ts (mv rfl) ?_
      refine rn ?_
      obtain ⟨z15, hz15, h⟩ := bnd h
      refine lb (E := fun s11 => [(0, .d (.sl (p0.map dI))), (1, .d (.int .i64 p1)), (5, .d (.sl (x2.map dI))), (7, .d (.int .i64 x4)), (8, .d (.sl (x6.map dI))), (9, .ref ⟨out.length, 9, 0⟩ 0 s8.2.length s8.2.length), (11, .d (.int .i64 s11.1)), (35, .d (.int .i64 x7)), (36, .d (.int .i64 s8.1)), (41, .d (.sl (x10.map dI))), (42, .d (.int .i64 (x10.length : Int))), (43, .d (.int .i64 s11.2))]) (M := fun s11 => ⟨[((9, 0), .arr 1 false (s8.2.map (dL dI)))], out, []⟩) (E' := fun y => [(0, .d (.sl (p0.map dI))), (1, .d (.int .i64 p1)), (5, .d (.sl (x2.map dI))), (7, .d (.int .i64 x4)), (8, .d (.sl (x6.map dI))), (9, .ref ⟨out.length, 9, 0⟩ 0 s8.2.length s8.2.length), (11, .d (.int .i64 y)), (35, .d (.int .i64 x7)), (36, .d (.int .i64 s8.1))]) (M' := fun y => ⟨[((9, 0), .arr 1 false (s8.2.map (dL dI)))], out, []⟩) hz15 (by (try simp only [List.length_set, copied_len]); exact trk (by kernel_rfl) (by kernel_rfl) (by kernel_rfl)) ?_ ?_
      · intro s11 ww h
        unfold shapes_lines.s2 at h
        refine sr ?_
        refine ts (lss rfl rfl) ?_
        refine rn ?_
        refine CWp.seq ?_
        rcases ite h with ⟨c12, h⟩ | ⟨c12, h⟩
        · refine ct rfl (bt c12) ?_
          refine CWp.skip ?_
          refine CWp.seq ?_
          refine CWp.block ?_
          refine sr ?_
          refine ts (mv rfl) ?_
          obtain ⟨x13, hx13, h⟩ := bnd h
          refine ts (ixD lT23 szI rfl rfl hx13) ?_
          refine ts (ldI sT3 rfl rfl) ?_
          refine ts (as_ rfl) ?_
          refine ts (as_ rfl) ?_
          refine rn ?_
          refine lr ?_
          refine ts (mv rfl) ?_
          refine ts (mv rfl) ?_
          refine ts (mv rfl) ?_
          obtain ⟨x14, hx14, h⟩ := bnd h
          refine ts (ixD lT23 szI rfl rfl hx14) ?_
          refine ts (ldI sT3 rfl rfl) ?_
          refine ts (mv rfl) ?_
          refine ts (mul rfl rfl) ?_
          refine ts (add rfl rfl) ?_
          refine ts (as_ rfl) ?_
          refine rn ?_
          refine lr ?_
          refine ts (add rfl rfl) ?_
          refine ts (mv rfl) ?_
          refine rn ?_
          obtain rfl := some_inj h
          exact ⟨rfl, (by (try simp only [List.length_set, copied_len]); exact trk (by kernel_rfl) (by kernel_rfl) (by kernel_rfl))⟩
        · refine cf rfl (bf c12) ?_
          refine CWp.exit ?_
          obtain rfl := some_inj h
          exact ⟨rfl, (by (try simp only [List.length_set, copied_len]); exact trk (by kernel_rfl) (by kernel_rfl) (by kernel_rfl))⟩
      · intro e s ht
        refine CWp.trim ht ?_
        refine sr ?_
        refine ta (an (n := 0) lT79 rfl) ?_
        refine rn ?_
        refine CWp.seq ?_
        refine sr ?_
        refine ts (mv rfl) ?_
        refine ts (mv rfl) ?_
        obtain ⟨x16, hx16, h⟩ := bnd h
        refine ts (ixD lT23 szI rfl rfl hx16) ?_
        refine ts (ldI sT3 rfl rfl) ?_
        refine ts (mv rfl) ?_
        refine rn ?_
        obtain ⟨z20, hz20, h⟩ := bnd h
        refine lb (E := fun s17 => [(0, .d (.sl (p0.map dI))), (1, .d (.int .i64 p1)), (5, .d (.sl (x2.map dI))), (7, .d (.int .i64 x4)), (8, .d (.sl (x6.map dI))), (9, .ref ⟨out.length, 9, 0⟩ 0 s8.2.length s8.2.length), (11, .d (.int .i64 z15)), (14, .ref ⟨out.length, 14, 0⟩ 0 s17.2.length s17.2.length), (35, .d (.int .i64 x7)), (36, .d (.int .i64 s8.1)), (60, .d (.int .i64 x16)), (61, .d (.int .i64 s17.1))]) (M := fun s17 => ⟨[((9, 0), .arr 1 false (s8.2.map (dL dI))), ((14, 0), .arr 1 false (s17.2.map dI))], out, []⟩) (E' := fun y => [(0, .d (.sl (p0.map dI))), (1, .d (.int .i64 p1)), (5, .d (.sl (x2.map dI))), (7, .d (.int .i64 x4)), (8, .d (.sl (x6.map dI))), (9, .ref ⟨out.length, 9, 0⟩ 0 s8.2.length s8.2.length), (14, .ref ⟨out.length, 14, 0⟩ 0 y.length y.length), (35, .d (.int .i64 x7)), (36, .d (.int .i64 s8.1))]) (M' := fun y => ⟨[((9, 0), .arr 1 false (s8.2.map (dL dI))), ((14, 0), .arr 1 false (y.map dI))], out, []⟩) hz20 (by (try simp only [List.length_set, copied_len]); exact trk (by kernel_rfl) (by kernel_rfl) (by kernel_rfl)) ?_ ?_
        · intro s17 ww h
          unfold shapes_lines.s3 at h
          refine sr ?_
          refine ts (lss rfl rfl) ?_
          refine rn ?_
          refine CWp.seq ?_
          rcases ite h with ⟨c18, h⟩ | ⟨c18, h⟩
          · refine ct rfl (bt c18) ?_
            refine CWp.skip ?_
            refine CWp.seq ?_
            refine CWp.block ?_
            refine sr ?_
            refine ts (mv rfl) ?_
            refine ts (as_ rfl) ?_
            refine rn ?_
            refine lr ?_
            refine ts (mv rfl) ?_
            refine ts (mv rfl) ?_
            refine ts (mv rfl) ?_
            refine ts (mv rfl) ?_
            refine ts (mul rfl rfl) ?_
            refine ts (add rfl rfl) ?_
            refine ts (bsT (l := (([(w (z15 + (w (s17.1 * x4))))] : List Int).map dI)) lT79 rfl rfl rfl (by kernel_rfl)) ?_
            obtain ⟨x19, hx19, h⟩ := bnd h
            refine tp (apG (ys := ([(w (z15 + (w (s17.1 * x4))))] : List Int)) (xs := s17.2) (f := dI) lT79 uT79 szI rfl rfl rfl elT (ow rfl) hx19 (so (.s rfl .h))) ?_
            refine ts (as_ rfl) ?_
            refine rn ?_
            refine lr ?_
            refine ts (add rfl rfl) ?_
            refine ts (mv rfl) ?_
            refine rn ?_
            obtain rfl := some_inj h
            exact ⟨rfl, (by (try simp only [List.length_set, copied_len]); exact trk (by kernel_rfl) (by kernel_rfl) (by kernel_rfl))⟩
          · refine cf rfl (bf c18) ?_
            refine CWp.exit ?_
            obtain rfl := some_inj h
            exact ⟨rfl, (by (try simp only [List.length_set, copied_len]); exact trk (by kernel_rfl) (by kernel_rfl) (by kernel_rfl))⟩
        · intro e s ht
          refine CWp.trim ht ?_
          refine lr ?_
          refine ts (mv rfl) ?_
          refine ts (mv rfl) ?_
          refine gz (Le.fz (t := 74) rfl rfl rfl (.s rfl .h)) ?_
          refine ts (bsT (l := (([z20] : List (List Int)).map (dL dI))) lT77 rfl rfl rfl (by kernel_rfl)) ?_
          obtain ⟨x21, hx21, h⟩ := bnd h
          refine tp (apG (ys := ([z20] : List (List Int))) (xs := s8.2) (f := (dL dI)) lT77 uT77 szL rfl rfl rfl elT (ow rfl) hx21 (so .h)) ?_
          refine ts (as_ rfl) ?_
          refine rn ?_
          refine lr ?_
          refine ts (add rfl rfl) ?_
          refine ts (mv rfl) ?_
          refine rn ?_
          obtain rfl := some_inj h
          exact ⟨rfl, (by (try simp only [List.length_set, copied_len]); exact trk (by kernel_rfl) (by kernel_rfl) (by kernel_rfl))⟩
    · refine cf rfl (bf c9) ?_
      refine CWp.exit ?_
      obtain rfl := some_inj h
      exact ⟨rfl, (by (try simp only [List.length_set, copied_len]); exact trk (by kernel_rfl) (by kernel_rfl) (by kernel_rfl))⟩
  · intro e s ht
    refine CWp.trim ht ?_
    refine sr ?_
    refine ts (mv rfl) ?_
    refine ts (as_ rfl) ?_
    refine rn ?_
    refine CWp.ret ?_
    obtain rfl := some_inj h
    exact ⟨trivial, rt1 (ex := false) (by exact (.t rfl .n)) (by exact (gf rfl rfl)) (by rfl) (by rfl)⟩
theorem shapes_Shifted_ok {p0 : api_Array} {p1 : Int} {p2 : Int} {out : Out} {r : api_Array × Int} (h : shapes_Shifted p0 p1 p2 = some r) : FunOk PP 14 [.d (api_Array.d p0), .d (.int .i64 p1), .d (.int .i64 p2)] out ⟨.tup [.d (api_Array.d r.1), .d (.int .i64 r.2)], []⟩ := by
  unfold shapes_Shifted at h
  refine fi Try.func14 rfl (by kernel_rfl) (by kernel_rfl) (by kernel_rfl) ?_
  refine sr ?_
  refine ts (bxI rfl) ?_
  refine ta (al (n := 0) zT25 rfl) ?_
  refine ts (ac rfl rfl) ?_
  refine rn ?_
  refine CWp.seq ?_
  refine sr ?_
  refine ts (ldIW aT25 rfl rfl rfl) ?_
  refine ts (mv rfl) ?_
  obtain ⟨x1, hx1, h⟩ := bnd h
  refine ts (cln (f := fun _ => false) kf rfl (.c rfl le1 (.c rfl le1 .n)) (curOf_nil _) (shapes_dimErr_ok hx1) rfl) ?_
  refine ts (as_ rfl) ?_
  refine rn ?_
  refine sr ?_
  refine ts (mv rfl) ?_
  refine ts (neq rfl rfl) ?_
  refine rn ?_
  rcases ite h with ⟨c2, h⟩ | ⟨c2, h⟩
  · refine ct rfl (nt c2) ?_
    refine sr ?_
    refine ts ((bld (v := .d (.agg [.nilsl, .nilsl])) rfl (by kernel_rfl)).wk (x' := api_Array.d (api_Array.mk [] [])) rfl) ?_
    refine ts (mv rfl) ?_
    refine tt0 (stW aT25 rfl rfl rfl rfl rfl rfl .h) ?_
    refine ts (as_ rfl) ?_
    refine rn ?_
    refine CWp.ret ?_
    obtain rfl := some_inj h
    exact ⟨trivial, rt2 (ex := false) (by exact (rcW aT25 rfl (ow rfl) rfl rfl (.t rfl .n))) (by exact (sc (gd (by rfl)) (sc (gd (by rfl)) sn))) (by rfl) (by rfl)⟩
  · refine cf rfl (nf c2) ?_
    refine CWp.skip ?_
    refine sr ?_
    refine ts (ldIW aT25 rfl rfl rfl) ?_
    obtain ⟨x3, hx3, h⟩ := bnd h
    refine tas (chn (f := fun _ => false) (n := 0) (v' := .agg [.ref ⟨out.length, 22, 0⟩ 0 x3.Bounds.length x3.Bounds.length, .ref ⟨out.length, 22, 1⟩ 0 x3.Elements.length x3.Elements.length]) (bs := [((22, 0), .arr 2 false (x3.Bounds.map api_Bound.d)), ((22, 1), .arr 1 false (x3.Elements.map dI))]) kf rfl (.c rfl le1 .n) (curOf_nil _) (shapes_copied_ok hx3) rfl rfl (by simp [homeVal, homeVals])) ?_
    refine ta (al (n := 0) zT25 rfl) ?_
    refine gz (Le.nilBox (t := 9) (n := 0) (t' := 1181) (n' := 0) (off := 1) (sz := 1) rfl rfl rfl rfl) ?_
    refine tt0 (stW aT25 rfl rfl rfl rfl rfl rfl (.s rfl .h)) ?_
    refine rn ?_
    refine CWp.seq ?_
    refine sr ?_
    refine ts (faI fT25_0 rfl rfl) ?_
    refine ts (ldI sT22 rfl rfl) ?_
    obtain ⟨x4, hx4, h⟩ := bnd h
    refine ts (cln (f := fun _ => false) kf rfl (.c rfl le1 .n) (curOf_nil _) (shapes_extents_ok hx4) rfl) ?_
    refine ts (mv rfl) ?_
    refine ts (sub rfl rfl) ?_
    obtain ⟨x5, hx5, h⟩ := bnd h
    refine ts (cln (f := fun _ => false) kf rfl (.c rfl le1 (.c rfl le1 .n)) (curOf_nil _) (shapes_lines_ok hx5) rfl) ?_
    refine ts (lnD lT77 rfl rfl) ?_
    refine ts (mv rfl) ?_
    refine rn ?_
    obtain ⟨z20, hz20, h⟩ := bnd h
    refine lb (E := fun s6 => [(2, .d (.int .i64 p2)), (3, .pimm (api_Array.d p0) 0), (6, .bptr ⟨out.length, 6, 0⟩ 0), (9, .bptr ⟨out.length, 9, 0⟩ 0), (28, .d (.sl (x5.map (dL dI)))), (29, .d (.int .i64 (x5.length : Int))), (30, .d (.int .i64 s6.1))]) (M := fun s6 => ⟨[((6, 0), .box [.d .nilsl, .d .nilsl]), ((9, 0), .box [.ref ⟨out.length, 22, 0⟩ 0 x3.Bounds.length x3.Bounds.length, .ref ⟨out.length, 22, 1⟩ 0 s6.2.length s6.2.length]), ((22, 0), .arr 2 false (x3.Bounds.map api_Bound.d)), ((22, 1), .arr 1 false (s6.2.map dI))], out, []⟩) (E' := fun y => [(6, .bptr ⟨out.length, 6, 0⟩ 0), (9, .bptr ⟨out.length, 9, 0⟩ 0)]) (M' := fun y => ⟨[((6, 0), .box [.d .nilsl, .d .nilsl]), ((9, 0), .box [.ref ⟨out.length, 22, 0⟩ 0 x3.Bounds.length x3.Bounds.length, .ref ⟨out.length, 22, 1⟩ 0 y.length y.length]), ((22, 0), .arr 2 false (x3.Bounds.map api_Bound.d)), ((22, 1), .arr 1 false (y.map dI))], out, []⟩) hz20 (by (try simp only [List.length_set, copied_len]); exact trk (by kernel_rfl) (by kernel_rfl) (by kernel_rfl)) ?_ ?_
    · intro s6 ww h
      unfold shapes_Shifted.s1 at h
      refine sr ?_
      refine ts (lss rfl rfl) ?_
      refine rn ?_
      refine CWp.seq ?_
      rcases ite h with ⟨c7, h⟩ | ⟨c7, h⟩
      · refine ct rfl (bt c7) ?_
        refine CWp.skip ?_
        refine CWp.seq ?_
        refine CWp.block ?_
        refine sr ?_
        obtain ⟨x8, hx8, h⟩ := bnd h
        refine ts (ixD lT77 szL rfl rfl hx8) ?_
        refine ts (ldI sT79 rfl rfl) ?_
        refine ts (as_ rfl) ?_
        refine rn ?_
        refine sr ?_
        refine ts (mv rfl) ?_
        refine ts (lnD lT79 rfl rfl) ?_
        refine ts (as_ rfl) ?_
        refine rn ?_
        refine sr ?_
        refine ts (mv rfl) ?_
        refine ts (lnD lT79 rfl rfl) ?_
        refine ts (mv rfl) ?_
        refine rn ?_
        obtain ⟨z18, hz18, h⟩ := bnd h
        refine lb (E := fun s9 => [(2, .d (.int .i64 p2)), (3, .pimm (api_Array.d p0) 0), (6, .bptr ⟨out.length, 6, 0⟩ 0), (9, .bptr ⟨out.length, 9, 0⟩ 0), (11, .d (.sl (x8.map dI))), (12, .d (.int .i64 (x8.length : Int))), (28, .d (.sl (x5.map (dL dI)))), (29, .d (.int .i64 (x5.length : Int))), (30, .d (.int .i64 s6.1)), (37, .d (.int .i64 (x8.length : Int))), (38, .d (.int .i64 s9.1))]) (M := fun s9 => ⟨[((6, 0), .box [.d .nilsl, .d .nilsl]), ((9, 0), .box [.ref ⟨out.length, 22, 0⟩ 0 x3.Bounds.length x3.Bounds.length, .ref ⟨out.length, 22, 1⟩ 0 s9.2.length s9.2.length]), ((22, 0), .arr 2 false (x3.Bounds.map api_Bound.d)), ((22, 1), .arr 1 false (s9.2.map dI))], out, []⟩) (E' := fun y => [(2, .d (.int .i64 p2)), (3, .pimm (api_Array.d p0) 0), (6, .bptr ⟨out.length, 6, 0⟩ 0), (9, .bptr ⟨out.length, 9, 0⟩ 0), (28, .d (.sl (x5.map (dL dI)))), (29, .d (.int .i64 (x5.length : Int))), (30, .d (.int .i64 s6.1))]) (M' := fun y => ⟨[((6, 0), .box [.d .nilsl, .d .nilsl]), ((9, 0), .box [.ref ⟨out.length, 22, 0⟩ 0 x3.Bounds.length x3.Bounds.length, .ref ⟨out.length, 22, 1⟩ 0 y.length y.length]), ((22, 0), .arr 2 false (x3.Bounds.map api_Bound.d)), ((22, 1), .arr 1 false (y.map dI))], out, []⟩) hz18 (by (try simp only [List.length_set, copied_len]); exact trk (by kernel_rfl) (by kernel_rfl) (by kernel_rfl)) ?_ ?_
        · intro s9 ww h
          unfold shapes_Shifted.s2 at h
          refine sr ?_
          refine ts (lss rfl rfl) ?_
          refine rn ?_
          refine CWp.seq ?_
          rcases ite h with ⟨c10, h⟩ | ⟨c10, h⟩
          · refine ct rfl (bt c10) ?_
            refine CWp.skip ?_
            refine CWp.seq ?_
            refine CWp.block ?_
            refine sr ?_
            refine ts (mv rfl) ?_
            refine ts (as_ rfl) ?_
            refine rn ?_
            refine ld_ mixed (b := [0, 1, 0, 0, 12, 28, 0, 64, 0, 0, 0, 0, 3072, 0, 15360, 0, 64512, 130560, 0, 523776, 1048320, 2096896, 4194240, 8388544, 16777215, 33554431]) (by kernel_rfl) ?_
            refine ds (fa fT25_1 rfl rfl) rfl ?_
            refine dr (ld sT23 rfl (ow rfl) rfl) rfl ?_
            refine ds (mv rfl) rfl ?_
            refine ds (mv rfl) rfl ?_
            obtain ⟨x11, hx11, h⟩ := bnd h
            refine ds (ixD lT79 szI rfl rfl hx11) rfl ?_
            refine ds (ldI sT3 rfl rfl) rfl ?_
            refine ds (faI fT25_1 rfl rfl) rfl ?_
            refine ds (ldI sT23 rfl rfl) rfl ?_
            refine ds (mv rfl) rfl ?_
            refine ds (mv rfl) rfl ?_
            refine ds (mv rfl) rfl ?_
            refine ds (mv rfl) rfl ?_
            obtain ⟨x12, hx12, h⟩ := bnd h
            refine ds (rem_ rfl rfl hx12) rfl ?_
            refine ds (mv rfl) rfl ?_
            refine ds (add rfl rfl) rfl ?_
            refine ds (mv rfl) rfl ?_
            obtain ⟨x13, hx13, h⟩ := bnd h
            refine ds (rem_ rfl rfl hx13) rfl ?_
            refine ds (add rfl rfl) rfl ?_
            refine ds (mv rfl) rfl ?_
            obtain ⟨x14, hx14, h⟩ := bnd h
            refine ds (rem_ rfl rfl hx14) rfl ?_
            obtain ⟨x15, hx15, h⟩ := bnd h
            refine ds (ixD lT79 szI rfl rfl hx15) rfl ?_
            refine ds (ldI sT3 rfl rfl) rfl ?_
            obtain ⟨x16, hx16, h⟩ := bnd h
            refine ds (ixD lT23 szI rfl rfl hx16) rfl ?_
            refine ds (ldI sT3 rfl rfl) rfl ?_
            obtain ⟨x17, hx17, h⟩ := bnd h
            refine dr (ixR lT23 rfl rfl rfl (ow rfl) hx17) rfl ?_
            refine dt0 (stE (b := x16) sT3 rfl rfl rfl rfl rfl hx17 rfl rfl (.s rfl (.s rfl (.s rfl .h)))) rfl ?_
            refine dn (by kernel_rfl) ?_
            refine lr ?_
            refine ts (add rfl rfl) ?_
            refine ts (mv rfl) ?_
            refine rn ?_
            obtain rfl := some_inj h
            exact ⟨rfl, (by (try simp only [List.length_set, copied_len]); exact trk (by kernel_rfl) (by kernel_rfl) (by kernel_rfl))⟩
          · refine cf rfl (bf c10) ?_
            refine CWp.exit ?_
            obtain rfl := some_inj h
            exact ⟨rfl, (by (try simp only [List.length_set, copied_len]); exact trk (by kernel_rfl) (by kernel_rfl) (by kernel_rfl))⟩
        · intro e s ht
          refine CWp.trim ht ?_
          refine lr ?_
          refine ts (add rfl rfl) ?_
          refine ts (mv rfl) ?_
          refine rn ?_
          obtain rfl := some_inj h
          exact ⟨rfl, (by (try simp only [List.length_set, copied_len]); exact trk (by kernel_rfl) (by kernel_rfl) (by kernel_rfl))⟩
      · refine cf rfl (bf c7) ?_
        refine CWp.exit ?_
        obtain rfl := some_inj h
        exact ⟨rfl, (by (try simp only [List.length_set, copied_len]); exact trk (by kernel_rfl) (by kernel_rfl) (by kernel_rfl))⟩
    · intro e s ht
      refine CWp.trim ht ?_
      refine sr ?_
      refine ts (ldA (v := .agg [.ref ⟨out.length, 22, 0⟩ 0 x3.Bounds.length x3.Bounds.length, .ref ⟨out.length, 22, 1⟩ 0 z20.length z20.length]) aT25 rfl (ow rfl) (by kernel_rfl)) ?_
      refine tt0 (stW aT25 rfl rfl rfl rfl rfl rfl .h) ?_
      refine ts (ac rfl rfl) ?_
      refine rn ?_
      refine CWp.ret ?_
      obtain rfl := some_inj h
      exact ⟨trivial, rt2 (ex := false) (by exact (rcA (v := .agg [.ref ⟨out.length, 22, 0⟩ 0 x3.Bounds.length x3.Bounds.length, .ref ⟨out.length, 22, 1⟩ 0 z20.length z20.length]) aT25 rfl (ow rfl) (by kernel_rfl) (.t rfl .n))) (by exact (sc (ga (sc (gf rfl rfl) (sc (gf rfl rfl) sn)) rfl) (sc (gd (by rfl)) sn))) (by rfl) (by rfl)⟩
theorem base_Before.N_ok : ∀ (n : Nat) {p0 : (List Int)} {p1 : (List Int)} {out : Out} {r : Bool}, base_Before.N n p0 p1 = some r → FunOk PP 49 [.d (.sl (p0.map dI)), .d (.sl (p1.map dI))] out ⟨.d (.bool r), []⟩ := by
  intro n
  induction n with
  | zero => intro p0 p1 out r h; cases h
  | succ n ih51 =>
    intro p0 p1 out r h
    unfold base_Before.N base_Before.F at h
    refine fi Try.func49 rfl (by kernel_rfl) (by kernel_rfl) (by kernel_rfl) ?_
    refine sr ?_
    refine ts (ac rfl rfl) ?_
    refine rn ?_
    refine CWp.seq ?_
    refine sr ?_
    refine ts (mv rfl) ?_
    refine ts (lnD lT23 rfl rfl) ?_
    refine ts (eql rfl rfl) ?_
    refine ts (mv rfl) ?_
    refine sg 4 [(12, .d (.bool (((p0.length : Int) == 0) || ((p1.length : Int) == 0))))] ?_ ?_
    · rcases bool_or ((p0.length : Int) == 0) with g1 | g2
      · refine un (gn rfl rfl g1) ?_
        refine un (gn rfl rfl g1) ?_
        refine un (gn rfl rfl g1) ?_
        refine ts (pt rfl g1 rfl) ?_
        exact rn (trD 4 rfl (.c (bq (or_t g1)) .n) (by kernel_rfl))
      · refine us (gy rfl rfl g2) (mv rfl) ?_
        refine us (gy rfl rfl g2) (lnD lT23 rfl rfl) ?_
        refine us (gy rfl rfl g2) (eql rfl rfl) ?_
        refine ts (pf rfl g2 rfl) ?_
        exact rn (trD 4 rfl (.c (bq (or_f g2)) .n) (by kernel_rfl))
    refine rn ?_
    rcases ite h with ⟨c3, h⟩ | ⟨c3, h⟩
    · refine ct rfl c3 ?_
      refine sr ?_
      refine ts (mv rfl) ?_
      refine ts (lnD lT23 rfl rfl) ?_
      refine ts (mv rfl) ?_
      refine ts (lnD lT23 rfl rfl) ?_
      refine ts (lss rfl rfl) ?_
      refine ts (as_ rfl) ?_
      refine rn ?_
      refine CWp.ret ?_
      obtain rfl := some_inj h
      exact ⟨trivial, rt1 (ex := false) (by exact (.t rfl .n)) (by exact (gd (by rfl))) (by rfl) (by rfl)⟩
    · refine cf rfl (vf c3) ?_
      refine CWp.skip ?_
      refine sd mixed (b := [0, 1, 3, 0, 8, 24, 63, 127, 255, 511, 1023, 255, 2303, 6399, 16383, 32767, 65535, 131071, 65535, 327679, 1048575, 2097151, 4194303, 8388607]) (by kernel_rfl) ?_
      refine ds (mv rfl) rfl ?_
      obtain ⟨x4, hx4, h⟩ := bnd h
      refine ds (ixD lT23 szI rfl rfl hx4) rfl ?_
      refine ds (ldI sT3 rfl rfl) rfl ?_
      refine ds (mv rfl) rfl ?_
      obtain ⟨x5, hx5, h⟩ := bnd h
      refine ds (ixD lT23 szI rfl rfl hx5) rfl ?_
      refine ds (ldI sT3 rfl rfl) rfl ?_
      refine ds (lss rfl rfl) rfl ?_
      refine ds (mv rfl) rfl ?_
      rcases ite h with ⟨c6, h⟩ | ⟨c6, h⟩
      · refine vn (gn rfl rfl (bt c6)) ?_
        refine vn (gn rfl rfl (bt c6)) ?_
        refine vn (gn rfl rfl (bt c6)) ?_
        refine vn (gn rfl rfl (bt c6)) ?_
        refine vn (gn rfl rfl (bt c6)) ?_
        refine vn (gn rfl rfl (bt c6)) ?_
        refine vn (gn rfl rfl (bt c6)) ?_
        refine vn (gn rfl rfl (bt c6)) ?_
        refine vn (gu rfl rfl) ?_
        refine vn (gu rfl rfl) ?_
        refine vn (gu rfl rfl) ?_
        refine vn (gu rfl rfl) ?_
        refine vn (gu rfl rfl) ?_
        refine vn (gn rfl rfl (bt c6)) ?_
        refine ds (pt rfl (bt c6) rfl) rfl ?_
        refine ds (as_ rfl) rfl ?_
        refine dn (by kernel_rfl) ?_
        refine CWp.ret ?_
        obtain rfl := some_inj h
        exact ⟨trivial, rt1 (ex := false) (by exact (.t rfl .n)) (by exact (gd (by rfl))) (by rfl) (by rfl)⟩
      · refine vs (gy rfl rfl (bf c6)) (mv rfl) rfl ?_
        obtain ⟨x7, hx7, h⟩ := bnd h
        refine vs (gy rfl rfl (bf c6)) (ixD lT23 szI rfl rfl hx7) rfl ?_
        refine vs (gy rfl rfl (bf c6)) (ldI sT3 rfl rfl) rfl ?_
        refine vs (gy rfl rfl (bf c6)) (mv rfl) rfl ?_
        obtain ⟨x8, hx8, h⟩ := bnd h
        refine vs (gy rfl rfl (bf c6)) (ixD lT23 szI rfl rfl hx8) rfl ?_
        refine vs (gy rfl rfl (bf c6)) (ldI sT3 rfl rfl) rfl ?_
        refine vs (gy rfl rfl (bf c6)) (eql rfl rfl) rfl ?_
        refine vs (gy rfl rfl (bf c6)) (mv rfl) rfl ?_
        rcases ite h with ⟨c9, h⟩ | ⟨c9, h⟩
        · refine vs (gy rfl rfl (et c9)) (mv rfl) rfl ?_
          obtain ⟨x10, hx10, h⟩ := bnd h
          refine vs (gy rfl rfl (et c9)) (slD lT23 szI rfl (.is rfl) .no hx10) rfl ?_
          refine vs (gy rfl rfl (et c9)) (mv rfl) rfl ?_
          obtain ⟨x11, hx11, h⟩ := bnd h
          refine vs (gy rfl rfl (et c9)) (slD lT23 szI rfl (.is rfl) .no hx11) rfl ?_
          obtain ⟨x12, hx12, h⟩ := bnd h
          refine vs (gy rfl rfl (et c9)) (cln (f := fun _ => false) kf rfl (.c rfl le1 (.c rfl le1 .n)) (curOf_nil _) (ih51 hx12) rfl) rfl ?_
          refine vs (gy rfl rfl (bf c6)) (pt rfl (et c9) rfl) rfl ?_
          refine ds (pf rfl (bf c6) rfl) rfl ?_
          refine ds (as_ rfl) rfl ?_
          refine dn (by kernel_rfl) ?_
          refine CWp.ret ?_
          obtain rfl := some_inj h
          exact ⟨trivial, rt1 (ex := false) (by exact (.t rfl .n)) (by exact (gd (by rfl))) (by rfl) (by rfl)⟩
        · refine vn (gn rfl rfl (ef c9)) ?_
          refine vn (gn rfl rfl (ef c9)) ?_
          refine vn (gn rfl rfl (ef c9)) ?_
          refine vn (gn rfl rfl (ef c9)) ?_
          refine vn (gn rfl rfl (ef c9)) ?_
          refine vs (gy rfl rfl (bf c6)) (pf rfl (ef c9) rfl) rfl ?_
          refine ds (pf rfl (bf c6) rfl) rfl ?_
          refine ds (as_ rfl) rfl ?_
          refine dn (by kernel_rfl) ?_
          refine CWp.ret ?_
          obtain rfl := some_inj h
          exact ⟨trivial, rt1 (ex := false) (by exact (.t rfl .n)) (by exact (gd (by rfl))) (by rfl) (by rfl)⟩
theorem base_Before_ok {p0 : (List Int)} {p1 : (List Int)} {out : Out} {r : Bool} (h : base_Before p0 p1 = some r) : FunOk PP 49 [.d (.sl (p0.map dI)), .d (.sl (p1.map dI))] out ⟨.d (.bool r), []⟩ := by
  obtain ⟨n, hn⟩ := lim_some h
  exact base_Before.N_ok n hn
theorem base_Ints_ok {p0 : (List Int)} {p1 : (List Int)} {out : Out} {r : Bool} (h : base_Ints p0 p1 = some r) : FunOk PP 17 [.d (.sl (p0.map dI)), .d (.sl (p1.map dI))] out ⟨.d (.bool r), []⟩ := by
  unfold base_Ints at h
  refine fi Try.func17 rfl (by kernel_rfl) (by kernel_rfl) (by kernel_rfl) ?_
  refine sr ?_
  refine ts (ac rfl rfl) ?_
  refine rn ?_
  refine sr ?_
  refine ts (mv rfl) ?_
  refine ts (lnD lT23 rfl rfl) ?_
  refine ts (mv rfl) ?_
  refine ts (lnD lT23 rfl rfl) ?_
  refine ts (eql rfl rfl) ?_
  refine ts (mv rfl) ?_
  rcases ite h with ⟨c1, h⟩ | ⟨c1, h⟩
  · refine us (gy rfl rfl (et c1)) (mv rfl) ?_
    refine us (gy rfl rfl (et c1)) (mv rfl) ?_
    obtain ⟨x2, hx2, h⟩ := bnd h
    refine us (gy rfl rfl (et c1)) (cln (f := fun _ => false) kf rfl (.c rfl le1 (.c rfl le1 .n)) (curOf_nil _) (base_Before_ok hx2) rfl) ?_
    refine us (gy rfl rfl (et c1)) (not_ rfl) ?_
    refine ts (pt rfl (et c1) rfl) ?_
    refine ts (mv rfl) ?_
    rcases ite h with ⟨c3, h⟩ | ⟨c3, h⟩
    · refine us (gy rfl rfl (not_t (vf c3))) (mv rfl) ?_
      refine us (gy rfl rfl (not_t (vf c3))) (mv rfl) ?_
      obtain ⟨x4, hx4, h⟩ := bnd h
      refine us (gy rfl rfl (not_t (vf c3))) (cln (f := fun _ => false) kf rfl (.c rfl le1 (.c rfl le1 .n)) (curOf_nil _) (base_Before_ok hx4) rfl) ?_
      refine us (gy rfl rfl (not_t (vf c3))) (not_ rfl) ?_
      refine ts (pt rfl (not_t (vf c3)) rfl) ?_
      refine ts (as_ rfl) ?_
      refine rn ?_
      refine CWp.ret ?_
      obtain rfl := some_inj h
      exact ⟨trivial, rt1 (ex := false) (by exact (.t rfl .n)) (by exact (gd (by rfl))) (by rfl) (by rfl)⟩
    · refine un (gn rfl rfl (not_f (Classical.not_not.1 c3))) ?_
      refine un (gn rfl rfl (not_f (Classical.not_not.1 c3))) ?_
      refine un (gn rfl rfl (not_f (Classical.not_not.1 c3))) ?_
      refine un (gn rfl rfl (not_f (Classical.not_not.1 c3))) ?_
      refine ts (pf rfl (not_f (Classical.not_not.1 c3)) rfl) ?_
      refine ts (as_ rfl) ?_
      refine rn ?_
      refine CWp.ret ?_
      obtain rfl := some_inj h
      exact ⟨trivial, rt1 (ex := false) (by exact (.t rfl .n)) (by exact (gd (by rfl))) (by rfl) (by rfl)⟩
  · refine un (gn rfl rfl (ef c1)) ?_
    refine un (gn rfl rfl (ef c1)) ?_
    refine un (gn rfl rfl (ef c1)) ?_
    refine un (gn rfl rfl (ef c1)) ?_
    refine ts (pf rfl (ef c1) rfl) ?_
    refine ts (mv rfl) ?_
    refine un (gn rfl rfl rfl) ?_
    refine un (gn rfl rfl rfl) ?_
    refine un (gn rfl rfl rfl) ?_
    refine un (gn rfl rfl rfl) ?_
    refine ts (pf rfl rfl rfl) ?_
    refine ts (as_ rfl) ?_
    refine rn ?_
    refine CWp.ret ?_
    obtain rfl := some_inj h
    exact ⟨trivial, rt1 (ex := false) (by exact (.t rfl .n)) (by exact (gd (by rfl))) (by rfl) (by rfl)⟩
theorem law15_awake_ok {out : Out} {r : Bool} (h : law15_awake = some r) : FunOk PP 5 [] out ⟨.d (.bool r), []⟩ := by
  unfold law15_awake at h
  refine fi Try.func5 rfl (by kernel_rfl) (by kernel_rfl) (by kernel_rfl) ?_
  refine sr ?_
  refine ts (ac rfl rfl) ?_
  refine rn ?_
  refine sr ?_
  refine ts (cln (f := fun _ => false) kf rfl .n (curOf_nil _) (law15_Example_ok (rfl : law15_Example = _)) rfl) ?_
  refine ts (fdD (v := .sl (law15_Example.Bounds.map api_Bound.d)) fT25_0 rfl (by kernel_rfl)) ?_
  refine ts (bsT (l := (([2, 1] : List Int).map dI)) lT23 rfl rfl rfl (by kernel_rfl)) ?_
  obtain ⟨x1, hx1, h⟩ := bnd h
  refine ts (cln (f := fun _ => false) kf rfl (.c rfl le1 (.c rfl le2 .n)) (curOf_nil _) (shapes_OffsetOf_ok hx1) rfl) ?_
  refine ts (mv rfl) ?_
  refine ts (ex_ rfl rfl) ?_
  refine ts (ex_ rfl rfl) ?_
  refine ts (as_ rfl) ?_
  refine ts (as_ rfl) ?_
  refine rn ?_
  refine sr ?_
  refine ts (cln (f := fun _ => false) kf rfl .n (curOf_nil _) (law15_Example_ok (rfl : law15_Example = _)) rfl) ?_
  refine ts (cln (f := fun _ => false) kf rfl (.c rfl le1 (.c rfl le1 (.c rfl le1 .n))) (curOf_nil _) (law15_Range_ok (rfl : law15_Range 2 1 (-1) = _)) rfl) ?_
  refine ts (cln (f := fun _ => false) kf rfl (.c rfl le1 .n) (curOf_nil _) (law15_Index_ok (rfl : law15_Index 1 = _)) rfl) ?_
  refine ts (bsT (l := (([(law15_Range 2 1 (-1)), (law15_Index 1)] : List api_Subscript).map api_Subscript.d)) lT55 rfl rfl rfl (by kernel_rfl)) ?_
  obtain ⟨x2, hx2, h⟩ := bnd h
  refine ts (cln (f := fun _ => false) kf rfl (.c rfl le1 (.c rfl le2 .n)) (curOf_nil _) (shapes_Taken_ok hx2) rfl) ?_
  refine ts (mv rfl) ?_
  refine ts (ex_ rfl rfl) ?_
  refine ts (ex_ rfl rfl) ?_
  refine ta (al (n := 0) zT25 rfl) ?_
  refine tt0 (stW aT25 rfl rfl rfl rfl rfl rfl .h) ?_
  refine ts (as_ rfl) ?_
  refine rn ?_
  refine CWp.trim (Le.fzBox (t := 3) (e := api_Array.d x2.1) (env' := [(0, .d (.bool false)), (12, .d (api_Array.d law15_Example)), (13, .d (.sl (law15_Example.Bounds.map api_Bound.d))), (14, .tight (([2, 1] : List Int).map dI)), (16, .d (.int .i64 x1.1)), (17, .d (.int .i64 x1.2)), (1, .d (.int .i64 x1.1)), (2, .d (.int .i64 x1.2)), (19, .d (api_Array.d law15_Example)), (20, .d (api_Subscript.d (law15_Range 2 1 (-1)))), (21, .d (api_Subscript.d (law15_Index 1))), (22, .tight (([(law15_Range 2 1 (-1)), (law15_Index 1)] : List api_Subscript).map api_Subscript.d)), (24, .d (api_Array.d x2.1)), (25, .d (.int .i64 x2.2)), (4, .d (.int .i64 x2.2))]) (loc' := []) rfl rfl rfl rfl (by (try simp only [List.length_set, copied_len]); exact trkT (by kernel_rfl) (by kernel_rfl) (by kernel_rfl))) ?_
  refine sr ?_
  refine ts (cln (f := fun _ => false) kf rfl .n (curOf_nil _) (law15_Example_ok (rfl : law15_Example = _)) rfl) ?_
  refine ts (fdD (v := .sl (law15_Example.Bounds.map api_Bound.d)) fT25_0 rfl (by kernel_rfl)) ?_
  refine ts (cln (f := fun _ => false) kf rfl (.c rfl le1 .n) (curOf_nil _) (law15_Index_ok (rfl : law15_Index 1 = _)) rfl) ?_
  refine ts (bsT (l := (([2, 0, 2] : List Int).map dI)) lT23 rfl rfl rfl (by kernel_rfl)) ?_
  refine ts (cln (f := fun _ => false) kf rfl (.c rfl le2 .n) (curOf_nil _) (law15_Vector_ok (rfl : law15_Vector [2, 0, 2] = _)) rfl) ?_
  refine ts (bsT (l := (([(law15_Index 1), (law15_Vector [2, 0, 2])] : List api_Subscript).map api_Subscript.d)) lT55 rfl rfl rfl (by kernel_rfl)) ?_
  obtain ⟨x3, hx3, h⟩ := bnd h
  refine ts (cln (f := fun _ => false) kf rfl (.c rfl le1 (.c rfl le2 .n)) (curOf_nil _) (shapes_SectionOf_ok hx3) rfl) ?_
  refine ts (mv rfl) ?_
  refine ts (ex_ rfl rfl) ?_
  refine ts (ex_ rfl rfl) ?_
  refine ta (al (n := 0) zT57 rfl) ?_
  refine tt0 (stW aT57 rfl rfl rfl rfl rfl rfl .h) ?_
  refine ts (as_ rfl) ?_
  refine rn ?_
  refine CWp.trim (Le.fzBox (t := 5) (e := api_Section.d x3.1) (env' := [(0, .d (.bool false)), (12, .d (api_Array.d law15_Example)), (13, .d (.sl (law15_Example.Bounds.map api_Bound.d))), (14, .tight (([2, 1] : List Int).map dI)), (16, .d (.int .i64 x1.1)), (17, .d (.int .i64 x1.2)), (1, .d (.int .i64 x1.1)), (2, .d (.int .i64 x1.2)), (19, .d (api_Array.d law15_Example)), (20, .d (api_Subscript.d (law15_Range 2 1 (-1)))), (21, .d (api_Subscript.d (law15_Index 1))), (22, .tight (([(law15_Range 2 1 (-1)), (law15_Index 1)] : List api_Subscript).map api_Subscript.d)), (24, .d (api_Array.d x2.1)), (25, .d (.int .i64 x2.2)), (4, .d (.int .i64 x2.2)), (3, .pimm (api_Array.d x2.1) 0), (27, .d (api_Array.d law15_Example)), (28, .d (.sl (law15_Example.Bounds.map api_Bound.d))), (29, .d (api_Subscript.d (law15_Index 1))), (30, .tight (([2, 0, 2] : List Int).map dI)), (31, .d (api_Subscript.d (law15_Vector [2, 0, 2]))), (32, .tight (([(law15_Index 1), (law15_Vector [2, 0, 2])] : List api_Subscript).map api_Subscript.d)), (34, .d (api_Section.d x3.1)), (35, .d (.int .i64 x3.2)), (6, .d (.int .i64 x3.2))]) (loc' := []) rfl rfl rfl rfl (by (try simp only [List.length_set, copied_len]); exact trkT (by kernel_rfl) (by kernel_rfl) (by kernel_rfl))) ?_
  refine sr ?_
  refine ts (cln (f := fun _ => false) kf rfl .n (curOf_nil _) (law15_Example_ok (rfl : law15_Example = _)) rfl) ?_
  obtain ⟨x4, hx4, h⟩ := bnd h
  refine ts (cln (f := fun _ => false) kf rfl (.c rfl le1 .n) (curOf_nil _) (shapes_Transpose_ok hx4) rfl) ?_
  refine ts (mv rfl) ?_
  refine ts (ex_ rfl rfl) ?_
  refine ts (ex_ rfl rfl) ?_
  refine ta (al (n := 0) zT25 rfl) ?_
  refine tt0 (stW aT25 rfl rfl rfl rfl rfl rfl .h) ?_
  refine ts (as_ rfl) ?_
  refine rn ?_
  refine CWp.trim (Le.fzBox (t := 7) (e := api_Array.d x4.1) (env' := [(0, .d (.bool false)), (12, .d (api_Array.d law15_Example)), (13, .d (.sl (law15_Example.Bounds.map api_Bound.d))), (14, .tight (([2, 1] : List Int).map dI)), (16, .d (.int .i64 x1.1)), (17, .d (.int .i64 x1.2)), (1, .d (.int .i64 x1.1)), (2, .d (.int .i64 x1.2)), (19, .d (api_Array.d law15_Example)), (20, .d (api_Subscript.d (law15_Range 2 1 (-1)))), (21, .d (api_Subscript.d (law15_Index 1))), (22, .tight (([(law15_Range 2 1 (-1)), (law15_Index 1)] : List api_Subscript).map api_Subscript.d)), (24, .d (api_Array.d x2.1)), (25, .d (.int .i64 x2.2)), (4, .d (.int .i64 x2.2)), (3, .pimm (api_Array.d x2.1) 0), (27, .d (api_Array.d law15_Example)), (28, .d (.sl (law15_Example.Bounds.map api_Bound.d))), (29, .d (api_Subscript.d (law15_Index 1))), (30, .tight (([2, 0, 2] : List Int).map dI)), (31, .d (api_Subscript.d (law15_Vector [2, 0, 2]))), (32, .tight (([(law15_Index 1), (law15_Vector [2, 0, 2])] : List api_Subscript).map api_Subscript.d)), (34, .d (api_Section.d x3.1)), (35, .d (.int .i64 x3.2)), (6, .d (.int .i64 x3.2)), (5, .pimm (api_Section.d x3.1) 0), (37, .d (api_Array.d law15_Example)), (39, .d (api_Array.d x4.1)), (40, .d (.int .i64 x4.2)), (8, .d (.int .i64 x4.2))]) (loc' := []) rfl rfl rfl rfl (by (try simp only [List.length_set, copied_len]); exact trkT (by kernel_rfl) (by kernel_rfl) (by kernel_rfl))) ?_
  refine sr ?_
  refine ts (cln (f := fun _ => false) kf rfl .n (curOf_nil _) (law15_Example_ok (rfl : law15_Example = _)) rfl) ?_
  obtain ⟨x5, hx5, h⟩ := bnd h
  refine ts (cln (f := fun _ => false) kf rfl (.c rfl le1 (.c rfl le1 (.c rfl le1 .n))) (curOf_nil _) (shapes_Shifted_ok hx5) rfl) ?_
  refine ts (mv rfl) ?_
  refine ts (ex_ rfl rfl) ?_
  refine ts (ex_ rfl rfl) ?_
  refine ta (al (n := 0) zT25 rfl) ?_
  refine tt0 (stW aT25 rfl rfl rfl rfl rfl rfl .h) ?_
  refine ts (as_ rfl) ?_
  refine rn ?_
  refine CWp.trim (Le.fzBox (t := 9) (e := api_Array.d x5.1) (env' := [(0, .d (.bool false)), (12, .d (api_Array.d law15_Example)), (13, .d (.sl (law15_Example.Bounds.map api_Bound.d))), (14, .tight (([2, 1] : List Int).map dI)), (16, .d (.int .i64 x1.1)), (17, .d (.int .i64 x1.2)), (1, .d (.int .i64 x1.1)), (2, .d (.int .i64 x1.2)), (19, .d (api_Array.d law15_Example)), (20, .d (api_Subscript.d (law15_Range 2 1 (-1)))), (21, .d (api_Subscript.d (law15_Index 1))), (22, .tight (([(law15_Range 2 1 (-1)), (law15_Index 1)] : List api_Subscript).map api_Subscript.d)), (24, .d (api_Array.d x2.1)), (25, .d (.int .i64 x2.2)), (4, .d (.int .i64 x2.2)), (3, .pimm (api_Array.d x2.1) 0), (27, .d (api_Array.d law15_Example)), (28, .d (.sl (law15_Example.Bounds.map api_Bound.d))), (29, .d (api_Subscript.d (law15_Index 1))), (30, .tight (([2, 0, 2] : List Int).map dI)), (31, .d (api_Subscript.d (law15_Vector [2, 0, 2]))), (32, .tight (([(law15_Index 1), (law15_Vector [2, 0, 2])] : List api_Subscript).map api_Subscript.d)), (34, .d (api_Section.d x3.1)), (35, .d (.int .i64 x3.2)), (6, .d (.int .i64 x3.2)), (5, .pimm (api_Section.d x3.1) 0), (37, .d (api_Array.d law15_Example)), (39, .d (api_Array.d x4.1)), (40, .d (.int .i64 x4.2)), (8, .d (.int .i64 x4.2)), (7, .pimm (api_Array.d x4.1) 0), (42, .d (api_Array.d law15_Example)), (44, .d (api_Array.d x5.1)), (45, .d (.int .i64 x5.2)), (10, .d (.int .i64 x5.2))]) (loc' := []) rfl rfl rfl rfl (by (try simp only [List.length_set, copied_len]); exact trkT (by kernel_rfl) (by kernel_rfl) (by kernel_rfl))) ?_
  refine sr ?_
  refine ts (mv rfl) ?_
  refine ts (eql rfl rfl) ?_
  refine ts (mv rfl) ?_
  refine sg 3 [(51, .d (.bool ((x1.2 == 0) && (x1.1 == 3))))] ?_ ?_
  · rcases bool_or (x1.2 == 0) with g6 | g7
    · refine us (gy rfl rfl g6) (mv rfl) ?_
      refine us (gy rfl rfl g6) (eql rfl rfl) ?_
      refine ts (pt rfl g6 rfl) ?_
      exact rn (trD 3 rfl (.c (bq (and_t g6)) .n) (by kernel_rfl))
    · refine un (gn rfl rfl g7) ?_
      refine un (gn rfl rfl g7) ?_
      refine ts (pf rfl g7 rfl) ?_
      exact rn (trD 3 rfl (.c (bq (and_f g7)) .n) (by kernel_rfl))
  refine ts (mv rfl) ?_
  refine sg 3 [(55, .d (.bool (((x1.2 == 0) && (x1.1 == 3)) && (x2.2 == 0))))] ?_ ?_
  · rcases bool_or ((x1.2 == 0) && (x1.1 == 3)) with g8 | g9
    · refine us (gy rfl rfl g8) (mv rfl) ?_
      refine us (gy rfl rfl g8) (eql rfl rfl) ?_
      refine ts (pt rfl g8 rfl) ?_
      exact rn (trD 3 rfl (.c (bq (and_t g8)) .n) (by kernel_rfl))
    · refine un (gn rfl rfl g9) ?_
      refine un (gn rfl rfl g9) ?_
      refine ts (pf rfl g9 rfl) ?_
      exact rn (trD 3 rfl (.c (bq (and_f g9)) .n) (by kernel_rfl))
  refine ts (mv rfl) ?_
  rcases ite h with ⟨c10, h⟩ | ⟨c10, h⟩
  · refine us (gy rfl rfl c10) (faI fT25_1 rfl rfl) ?_
    refine us (gy rfl rfl c10) (ldI sT23 rfl rfl) ?_
    refine us (gy rfl rfl c10) (bsT (l := (([4, 3] : List Int).map dI)) lT23 rfl rfl rfl (by kernel_rfl)) ?_
    obtain ⟨x11, hx11, h⟩ := bnd h
    refine us (gy rfl rfl c10) (cln (f := fun _ => false) kf rfl (.c rfl le1 (.c rfl le2 .n)) (curOf_nil _) (base_Ints_ok hx11) rfl) ?_
    refine ts (pt rfl c10 rfl) ?_
    refine ts (mv rfl) ?_
    refine sg 3 [(65, .d (.bool (x11 && (x3.2 == 0))))] ?_ ?_
    · rcases bool_or x11 with g12 | g13
      · refine us (gy rfl rfl g12) (mv rfl) ?_
        refine us (gy rfl rfl g12) (eql rfl rfl) ?_
        refine ts (pt rfl g12 rfl) ?_
        exact rn (trD 3 rfl (.c (bq (and_t g12)) .n) (by kernel_rfl))
      · refine un (gn rfl rfl g13) ?_
        refine un (gn rfl rfl g13) ?_
        refine ts (pf rfl g13 rfl) ?_
        exact rn (trD 3 rfl (.c (bq (and_f g13)) .n) (by kernel_rfl))
    refine ts (mv rfl) ?_
    refine sg 3 [(69, .d (.bool ((x11 && (x3.2 == 0)) && x3.1.ManyOne)))] ?_ ?_
    · rcases bool_or (x11 && (x3.2 == 0)) with g14 | g15
      · refine us (gy rfl rfl g14) (faI fT57_2 rfl rfl) ?_
        refine us (gy rfl rfl g14) (ldI sT4 rfl rfl) ?_
        refine ts (pt rfl g14 rfl) ?_
        exact rn (trD 3 rfl (.c (bq (and_t g14)) .n) (by kernel_rfl))
      · refine un (gn rfl rfl g15) ?_
        refine un (gn rfl rfl g15) ?_
        refine ts (pf rfl g15 rfl) ?_
        exact rn (trD 3 rfl (.c (bq (and_f g15)) .n) (by kernel_rfl))
    refine ts (mv rfl) ?_
    refine sg 3 [(73, .d (.bool (((x11 && (x3.2 == 0)) && x3.1.ManyOne) && (x4.2 == 0))))] ?_ ?_
    · rcases bool_or ((x11 && (x3.2 == 0)) && x3.1.ManyOne) with g16 | g17
      · refine us (gy rfl rfl g16) (mv rfl) ?_
        refine us (gy rfl rfl g16) (eql rfl rfl) ?_
        refine ts (pt rfl g16 rfl) ?_
        exact rn (trD 3 rfl (.c (bq (and_t g16)) .n) (by kernel_rfl))
      · refine un (gn rfl rfl g17) ?_
        refine un (gn rfl rfl g17) ?_
        refine ts (pf rfl g17 rfl) ?_
        exact rn (trD 3 rfl (.c (bq (and_f g17)) .n) (by kernel_rfl))
    refine ts (mv rfl) ?_
    rcases ite h with ⟨c18, h⟩ | ⟨c18, h⟩
    · refine us (gy rfl rfl c18) (faI fT25_1 rfl rfl) ?_
      refine us (gy rfl rfl c18) (ldI sT23 rfl rfl) ?_
      refine us (gy rfl rfl c18) (bsT (l := (([1, 3, 5, 2, 4, 6] : List Int).map dI)) lT23 rfl rfl rfl (by kernel_rfl)) ?_
      obtain ⟨x19, hx19, h⟩ := bnd h
      refine us (gy rfl rfl c18) (cln (f := fun _ => false) kf rfl (.c rfl le1 (.c rfl le2 .n)) (curOf_nil _) (base_Ints_ok hx19) rfl) ?_
      refine ts (pt rfl c18 rfl) ?_
      refine ts (mv rfl) ?_
      refine sg 3 [(83, .d (.bool (x19 && (x5.2 == 0))))] ?_ ?_
      · rcases bool_or x19 with g20 | g21
        · refine us (gy rfl rfl g20) (mv rfl) ?_
          refine us (gy rfl rfl g20) (eql rfl rfl) ?_
          refine ts (pt rfl g20 rfl) ?_
          exact rn (trD 3 rfl (.c (bq (and_t g20)) .n) (by kernel_rfl))
        · refine un (gn rfl rfl g21) ?_
          refine un (gn rfl rfl g21) ?_
          refine ts (pf rfl g21 rfl) ?_
          exact rn (trD 3 rfl (.c (bq (and_f g21)) .n) (by kernel_rfl))
      refine ts (mv rfl) ?_
      rcases ite h with ⟨c22, h⟩ | ⟨c22, h⟩
      · refine us (gy rfl rfl c22) (faI fT25_1 rfl rfl) ?_
        refine us (gy rfl rfl c22) (ldI sT23 rfl rfl) ?_
        refine us (gy rfl rfl c22) (bsT (l := (([3, 4, 5, 6, 1, 2] : List Int).map dI)) lT23 rfl rfl rfl (by kernel_rfl)) ?_
        obtain ⟨x23, hx23, h⟩ := bnd h
        refine us (gy rfl rfl c22) (cln (f := fun _ => false) kf rfl (.c rfl le1 (.c rfl le2 .n)) (curOf_nil _) (base_Ints_ok hx23) rfl) ?_
        refine ts (pt rfl c22 rfl) ?_
        refine ts (as_ rfl) ?_
        refine rn ?_
        refine CWp.ret ?_
        obtain rfl := some_inj h
        exact ⟨trivial, rt1 (ex := false) (by exact (.t rfl .n)) (by exact (gd (by rfl))) (by rfl) (by rfl)⟩
      · refine un (gn rfl rfl (vf c22)) ?_
        refine un (gn rfl rfl (vf c22)) ?_
        refine un (gn rfl rfl (vf c22)) ?_
        refine un (gn rfl rfl (vf c22)) ?_
        refine ts (pf rfl (vf c22) rfl) ?_
        refine ts (as_ rfl) ?_
        refine rn ?_
        refine CWp.ret ?_
        obtain rfl := some_inj h
        exact ⟨trivial, rt1 (ex := false) (by exact (.t rfl .n)) (by exact (gd (by rfl))) (by rfl) (by rfl)⟩
    · refine un (gn rfl rfl (vf c18)) ?_
      refine un (gn rfl rfl (vf c18)) ?_
      refine un (gn rfl rfl (vf c18)) ?_
      refine un (gn rfl rfl (vf c18)) ?_
      refine ts (pf rfl (vf c18) rfl) ?_
      refine ts (mv rfl) ?_
      refine un (gn rfl rfl rfl) ?_
      refine un (gn rfl rfl rfl) ?_
      refine ts (pf rfl rfl rfl) ?_
      refine ts (mv rfl) ?_
      refine un (gn rfl rfl rfl) ?_
      refine un (gn rfl rfl rfl) ?_
      refine un (gn rfl rfl rfl) ?_
      refine un (gn rfl rfl rfl) ?_
      refine ts (pf rfl rfl rfl) ?_
      refine ts (as_ rfl) ?_
      refine rn ?_
      refine CWp.ret ?_
      obtain rfl := some_inj h
      exact ⟨trivial, rt1 (ex := false) (by exact (.t rfl .n)) (by exact (gd (by rfl))) (by rfl) (by rfl)⟩
  · refine un (gn rfl rfl (vf c10)) ?_
    refine un (gn rfl rfl (vf c10)) ?_
    refine un (gn rfl rfl (vf c10)) ?_
    refine un (gn rfl rfl (vf c10)) ?_
    refine ts (pf rfl (vf c10) rfl) ?_
    refine ts (mv rfl) ?_
    refine un (gn rfl rfl rfl) ?_
    refine un (gn rfl rfl rfl) ?_
    refine ts (pf rfl rfl rfl) ?_
    refine ts (mv rfl) ?_
    refine un (gn rfl rfl rfl) ?_
    refine un (gn rfl rfl rfl) ?_
    refine ts (pf rfl rfl rfl) ?_
    refine ts (mv rfl) ?_
    refine un (gn rfl rfl rfl) ?_
    refine un (gn rfl rfl rfl) ?_
    refine ts (pf rfl rfl rfl) ?_
    refine ts (mv rfl) ?_
    refine un (gn rfl rfl rfl) ?_
    refine un (gn rfl rfl rfl) ?_
    refine un (gn rfl rfl rfl) ?_
    refine un (gn rfl rfl rfl) ?_
    refine ts (pf rfl rfl rfl) ?_
    refine ts (mv rfl) ?_
    refine un (gn rfl rfl rfl) ?_
    refine un (gn rfl rfl rfl) ?_
    refine ts (pf rfl rfl rfl) ?_
    refine ts (mv rfl) ?_
    refine un (gn rfl rfl rfl) ?_
    refine un (gn rfl rfl rfl) ?_
    refine un (gn rfl rfl rfl) ?_
    refine un (gn rfl rfl rfl) ?_
    refine ts (pf rfl rfl rfl) ?_
    refine ts (as_ rfl) ?_
    refine rn ?_
    refine CWp.ret ?_
    obtain rfl := some_inj h
    exact ⟨trivial, rt1 (ex := false) (by exact (.t rfl .n)) (by exact (gd (by rfl))) (by rfl) (by rfl)⟩
theorem law15_few_ok {p0 : api_Array} {out : Out} {r : Bool} (h : law15_few p0 = r) : FunOk PP 6 [.d (api_Array.d p0)] out ⟨.d (.bool r), []⟩ := by
  unfold law15_few at h
  refine fi Try.func6 rfl (by kernel_rfl) (by kernel_rfl) (by kernel_rfl) ?_
  refine sr ?_
  refine ts (bxI rfl) ?_
  refine ts (ac rfl rfl) ?_
  refine rn ?_
  refine sr ?_
  refine ts (faI fT25_0 rfl rfl) ?_
  refine ts (ldI sT22 rfl rfl) ?_
  refine ts (lnD lT22 rfl rfl) ?_
  refine ts (leq rfl rfl) ?_
  refine ts (mv rfl) ?_
  refine sg 5 [(12, .d (.bool ((decide ((p0.Bounds.length : Int) ≤ 9)) && (decide ((p0.Elements.length : Int) ≤ 80)))))] ?_ ?_
  · rcases bool_or (decide ((p0.Bounds.length : Int) ≤ 9)) with g1 | g2
    · refine us (gy rfl rfl g1) (faI fT25_1 rfl rfl) ?_
      refine us (gy rfl rfl g1) (ldI sT23 rfl rfl) ?_
      refine us (gy rfl rfl g1) (lnD lT23 rfl rfl) ?_
      refine us (gy rfl rfl g1) (leq rfl rfl) ?_
      refine ts (pt rfl g1 rfl) ?_
      exact rn (trD 5 rfl (.c (bq (and_t g1)) .n) (by kernel_rfl))
    · refine un (gn rfl rfl g2) ?_
      refine un (gn rfl rfl g2) ?_
      refine un (gn rfl rfl g2) ?_
      refine un (gn rfl rfl g2) ?_
      refine ts (pf rfl g2 rfl) ?_
      exact rn (trD 5 rfl (.c (bq (and_f g2)) .n) (by kernel_rfl))
  refine ts (as_ rfl) ?_
  refine rn ?_
  refine CWp.ret ?_
  obtain rfl := h
  exact ⟨trivial, rt1 (ex := false) (by exact (.t rfl .n)) (by exact (gd (by rfl))) (by rfl) (by rfl)⟩
theorem base_Within_ok {p0 : Int} {p1 : Int} {p2 : Int} {out : Out} {r : Bool} (h : base_Within p0 p1 p2 = r) : FunOk PP 13 [.d (.int .i64 p0), .d (.int .i64 p1), .d (.int .i64 p2)] out ⟨.d (.bool r), []⟩ := by
  unfold base_Within at h
  refine fi Try.func13 rfl (by kernel_rfl) (by kernel_rfl) (by kernel_rfl) ?_
  refine sr ?_
  refine ts (ac rfl rfl) ?_
  refine rn ?_
  refine sr ?_
  refine ts (mv rfl) ?_
  refine ts (mv rfl) ?_
  refine ts (lss rfl rfl) ?_
  refine ts (mv rfl) ?_
  refine sg 4 [(14, .d (.bool ((decide (p0 < p1)) || (decide (p0 > p2)))))] ?_ ?_
  · rcases bool_or (decide (p0 < p1)) with g1 | g2
    · refine un (gn rfl rfl g1) ?_
      refine un (gn rfl rfl g1) ?_
      refine un (gn rfl rfl g1) ?_
      refine ts (pt rfl g1 rfl) ?_
      exact rn (trD 4 rfl (.c (bq (or_t g1)) .n) (by kernel_rfl))
    · refine us (gy rfl rfl g2) (mv rfl) ?_
      refine us (gy rfl rfl g2) (mv rfl) ?_
      refine us (gy rfl rfl g2) (gtr rfl rfl) ?_
      refine ts (pf rfl g2 rfl) ?_
      exact rn (trD 4 rfl (.c (bq (or_f g2)) .n) (by kernel_rfl))
  refine ts (not_ rfl) ?_
  refine ts (as_ rfl) ?_
  refine rn ?_
  refine CWp.ret ?_
  obtain rfl := h
  exact ⟨trivial, rt1 (ex := false) (by exact (.t rfl .n)) (by exact (gd (by rfl))) (by rfl) (by rfl)⟩
theorem ref15_isBound_ok {p0 : Int} {out : Out} {r : Bool} (h : ref15_isBound p0 = r) : FunOk PP 83 [.d (.int .i64 p0)] out ⟨.d (.bool r), []⟩ := by
  unfold ref15_isBound at h
  refine fi Try.func83 rfl (by kernel_rfl) (by kernel_rfl) (by kernel_rfl) ?_
  refine sr ?_
  refine ts (ac rfl rfl) ?_
  refine rn ?_
  refine sr ?_
  refine ts (mv rfl) ?_
  refine ts (cln (f := fun _ => false) kf rfl (.c rfl le1 (.c rfl le1 (.c rfl le1 .n))) (curOf_nil _) (base_Within_ok (rfl : base_Within p0 (-2147483647) 2147483647 = _)) rfl) ?_
  refine ts (as_ rfl) ?_
  refine rn ?_
  refine CWp.ret ?_
  obtain rfl := h
  exact ⟨trivial, rt1 (ex := false) (by exact (.t rfl .n)) (by exact (gd (by rfl))) (by rfl) (by rfl)⟩
theorem ref15_Extents_ok {p0 : (List api_Bound)} {out : Out} {r : (List Int)} (h : ref15_Extents p0 = some r) : FunOk PP 18 [.d (.sl (p0.map api_Bound.d))] out ⟨.d (.sl (r.map dI)), []⟩ := by
  unfold ref15_Extents at h
  refine fi Try.func18 rfl (by kernel_rfl) (by kernel_rfl) (by kernel_rfl) ?_
  refine sr ?_
  refine ts (ak.wk (x' := .sl (([] : List Int).map dI)) rfl) ?_
  refine rn ?_
  refine sr ?_
  refine ta (an (n := 0) lT23 rfl) ?_
  refine rn ?_
  refine CWp.seq ?_
  refine sr ?_
  refine ts (ac rfl rfl) ?_
  refine rn ?_
  obtain ⟨z6, hz6, h⟩ := bnd h
  refine lb (E := fun s1 => [(0, .d (.sl (p0.map api_Bound.d))), (3, .ref ⟨out.length, 3, 0⟩ 0 s1.2.length s1.2.length), (4, .d (.int .i64 s1.1))]) (M := fun s1 => ⟨[((3, 0), .arr 1 false (s1.2.map dI))], out, []⟩) (E' := fun y => [(3, .ref ⟨out.length, 3, 0⟩ 0 y.length y.length)]) (M' := fun y => ⟨[((3, 0), .arr 1 false (y.map dI))], out, []⟩) hz6 (by (try simp only [List.length_set, copied_len]); exact trk (by kernel_rfl) (by kernel_rfl) (by kernel_rfl)) ?_ ?_
  · intro s1 ww h
    unfold ref15_Extents.s1 at h
    refine CWp.seq ?_
    refine sr ?_
    refine ts (mv rfl) ?_
    refine ts (mv rfl) ?_
    refine ts (lnD lT22 rfl rfl) ?_
    refine ts (lss rfl rfl) ?_
    refine rn ?_
    rcases ite h with ⟨c2, h⟩ | ⟨c2, h⟩
    · refine ct rfl (bt c2) ?_
      refine CWp.skip ?_
      refine CWp.seq ?_
      refine CWp.block ?_
      refine ld_ mixed (b := [0, 0, 0, 6, 14, 30, 0, 0, 192, 448, 960, 2046, 4094, 8190, 16382, 32767, 65535]) (by kernel_rfl) ?_
      refine ds (mv rfl) rfl ?_
      refine ds (mv rfl) rfl ?_
      refine ds (mv rfl) rfl ?_
      obtain ⟨x3, hx3, h⟩ := bnd h
      refine ds (ixD lT22 api_Bound.sz rfl rfl hx3) rfl ?_
      refine ds (faI fT81_1 rfl rfl) rfl ?_
      refine ds (ldI sT3 rfl rfl) rfl ?_
      refine ds (mv rfl) rfl ?_
      refine ds (mv rfl) rfl ?_
      obtain ⟨x4, hx4, h⟩ := bnd h
      refine ds (ixD lT22 api_Bound.sz rfl rfl hx4) rfl ?_
      refine ds (faI fT81_0 rfl rfl) rfl ?_
      refine ds (ldI sT3 rfl rfl) rfl ?_
      refine ds (sub rfl rfl) rfl ?_
      refine ds (add rfl rfl) rfl ?_
      refine ds (mx_ rfl) rfl ?_
      refine ds (bsT (l := (([(mx 0 (w ((w (x3.High - x4.Low)) + 1)))] : List Int).map dI)) lT23 rfl rfl rfl (by kernel_rfl)) rfl ?_
      obtain ⟨x5, hx5, h⟩ := bnd h
      refine dt (apGn (ys := ([(mx 0 (w ((w (x3.High - x4.Low)) + 1)))] : List Int)) (xs := s1.2) (f := dI) lT23 uT23 szI rfl rfl rfl elT (ow rfl) hx5 (so .h) rfl) rfl ?_
      refine ds (as_ rfl) rfl ?_
      refine dn (by kernel_rfl) ?_
      refine lr ?_
      refine ts (mv rfl) ?_
      refine ts (add rfl rfl) ?_
      refine ts (as_ rfl) ?_
      refine rn ?_
      obtain rfl := some_inj h
      exact ⟨rfl, (by (try simp only [List.length_set, copied_len]); exact trk (by kernel_rfl) (by kernel_rfl) (by kernel_rfl))⟩
    · refine cf rfl (bf c2) ?_
      refine CWp.exit ?_
      obtain rfl := some_inj h
      exact ⟨rfl, (by (try simp only [List.length_set, copied_len]); exact trk (by kernel_rfl) (by kernel_rfl) (by kernel_rfl))⟩
  · intro e s ht
    refine CWp.trim ht ?_
    refine sr ?_
    refine ts (mv rfl) ?_
    refine ts (as_ rfl) ?_
    refine rn ?_
    refine CWp.ret ?_
    obtain rfl := some_inj h
    exact ⟨trivial, rt1 (ex := false) (by exact (.t rfl .n)) (by exact (gf rfl rfl)) (by rfl) (by rfl)⟩
theorem ref15_Product_ok {p0 : (List Int)} {out : Out} {r : Int} (h : ref15_Product p0 = some r) : FunOk PP 36 [.d (.sl (p0.map dI))] out ⟨.d (.int .i64 r), []⟩ := by
  unfold ref15_Product at h
  refine fi Try.func36 rfl (by kernel_rfl) (by kernel_rfl) (by kernel_rfl) ?_
  refine sr ?_
  refine ts (ac rfl rfl) ?_
  refine rn ?_
  refine sr ?_
  refine ts (ac rfl rfl) ?_
  refine rn ?_
  refine CWp.seq ?_
  refine sr ?_
  refine ts (ac rfl rfl) ?_
  refine rn ?_
  obtain ⟨z6, hz6, h⟩ := bnd h
  refine lbr (E := fun s1 => [(0, .d (.sl (p0.map dI))), (3, .d (.int .i64 s1.1)), (4, .d (.int .i64 s1.2))]) (M := fun s1 => ⟨[], out, []⟩) (E' := fun y => [(3, .d (.int .i64 y))]) (M' := fun y => ⟨[], out, []⟩) (RT := fun r e s => Lx.Returns PP Try.f36.results.toList e s ⟨.d (.int .i64 r), []⟩) hz6 (by (try simp only [List.length_set, copied_len]); exact trk (by kernel_rfl) (by kernel_rfl) (by kernel_rfl)) ?_ ?_
  · intro s1 ww h
    unfold ref15_Product.s1 at h
    refine CWp.seq ?_
    refine sr ?_
    refine ts (mv rfl) ?_
    refine ts (mv rfl) ?_
    refine ts (lnD lT23 rfl rfl) ?_
    refine ts (lss rfl rfl) ?_
    refine rn ?_
    rcases ite h with ⟨c2, h⟩ | ⟨c2, h⟩
    · refine ct rfl (bt c2) ?_
      refine CWp.skip ?_
      refine CWp.seq ?_
      refine CWp.block ?_
      refine CWp.seq ?_
      refine sr ?_
      refine ts (mv rfl) ?_
      refine ts (mv rfl) ?_
      obtain ⟨x3, hx3, h⟩ := bnd h
      refine ts (ixD lT23 szI rfl rfl hx3) ?_
      refine ts (ldI sT3 rfl rfl) ?_
      refine ts (eql rfl rfl) ?_
      refine rn ?_
      rcases ite h with ⟨c4, h⟩ | ⟨c4, h⟩
      · refine ct rfl (et c4) ?_
        refine sr ?_
        refine ts (ac rfl rfl) ?_
        refine rn ?_
        refine CWp.ret ?_
        obtain rfl := some_inj h
        exact ⟨rfl, rt1 (ex := false) (by exact (.t rfl .n)) (by exact (gd (by rfl))) (by rfl) (by rfl)⟩
      · refine cf rfl (ef c4) ?_
        refine CWp.skip ?_
        refine lr ?_
        refine ts (mv rfl) ?_
        refine ts (mv rfl) ?_
        refine ts (mv rfl) ?_
        obtain ⟨x5, hx5, h⟩ := bnd h
        refine ts (ixD lT23 szI rfl rfl hx5) ?_
        refine ts (ldI sT3 rfl rfl) ?_
        refine ts (mn_ rfl) ?_
        refine ts (mul rfl rfl) ?_
        refine ts (mn_ rfl) ?_
        refine ts (as_ rfl) ?_
        refine rn ?_
        refine lr ?_
        refine ts (mv rfl) ?_
        refine ts (add rfl rfl) ?_
        refine ts (as_ rfl) ?_
        refine rn ?_
        obtain rfl := some_inj h
        exact ⟨rfl, (by (try simp only [List.length_set, copied_len]); exact trk (by kernel_rfl) (by kernel_rfl) (by kernel_rfl))⟩
    · refine cf rfl (bf c2) ?_
      refine CWp.exit ?_
      obtain rfl := some_inj h
      exact ⟨rfl, (by (try simp only [List.length_set, copied_len]); exact trk (by kernel_rfl) (by kernel_rfl) (by kernel_rfl))⟩
  · cases z6 with
    | inl v7 =>
      intro e s ht
      refine CWp.trim ht ?_
      refine sr ?_
      refine ts (mv rfl) ?_
      refine ts (as_ rfl) ?_
      refine rn ?_
      refine CWp.ret ?_
      obtain rfl := some_inj h
      exact ⟨trivial, rt1 (ex := false) (by exact (.t rfl .n)) (by exact (gd (by rfl))) (by rfl) (by rfl)⟩
    | inr r8 =>
      intro e s hr
      obtain rfl := some_inj h
      exact ⟨trivial, hr⟩
theorem ref15_BoundsErr_ok {p0 : (List api_Bound)} {out : Out} {r : Int} (h : ref15_BoundsErr p0 = some r) : FunOk PP 65 [.d (.sl (p0.map api_Bound.d))] out ⟨.d (.int .i64 r), []⟩ := by
  unfold ref15_BoundsErr at h
  refine fi Try.func65 rfl (by kernel_rfl) (by kernel_rfl) (by kernel_rfl) ?_
  refine sr ?_
  refine ts (ac rfl rfl) ?_
  refine rn ?_
  refine CWp.seq ?_
  refine sr ?_
  refine ts (mv rfl) ?_
  refine ts (lnD lT22 rfl rfl) ?_
  refine ts (gtr rfl rfl) ?_
  refine rn ?_
  rcases ite h with ⟨c1, h⟩ | ⟨c1, h⟩
  · refine ct rfl (bt c1) ?_
    refine sr ?_
    refine ts (ac rfl rfl) ?_
    refine rn ?_
    refine CWp.ret ?_
    obtain rfl := some_inj h
    exact ⟨trivial, rt1 (ex := false) (by exact (.t rfl .n)) (by exact (gd (by rfl))) (by rfl) (by rfl)⟩
  · refine cf rfl (bf c1) ?_
    refine CWp.skip ?_
    refine CWp.seq ?_
    refine sr ?_
    refine ts (ac rfl rfl) ?_
    refine rn ?_
    obtain ⟨z8, hz8, h⟩ := bnd h
    refine lbr (E := fun s2 => [(0, .d (.sl (p0.map api_Bound.d))), (3, .d (.int .i64 s2))]) (M := fun s2 => ⟨[], out, []⟩) (E' := fun y => [(0, .d (.sl (p0.map api_Bound.d)))]) (M' := fun y => ⟨[], out, []⟩) (RT := fun r e s => Lx.Returns PP Try.f65.results.toList e s ⟨.d (.int .i64 r), []⟩) hz8 (by (try simp only [List.length_set, copied_len]); exact trk (by kernel_rfl) (by kernel_rfl) (by kernel_rfl)) ?_ ?_
    · intro s2 ww h
      unfold ref15_BoundsErr.s1 at h
      refine CWp.seq ?_
      refine sr ?_
      refine ts (mv rfl) ?_
      refine ts (mv rfl) ?_
      refine ts (lnD lT22 rfl rfl) ?_
      refine ts (lss rfl rfl) ?_
      refine rn ?_
      rcases ite h with ⟨c3, h⟩ | ⟨c3, h⟩
      · refine ct rfl (bt c3) ?_
        refine CWp.skip ?_
        refine CWp.seq ?_
        refine CWp.block ?_
        refine sr ?_
        refine ts (mv rfl) ?_
        refine ts (mv rfl) ?_
        obtain ⟨x4, hx4, h⟩ := bnd h
        refine ts (ixD lT22 api_Bound.sz rfl rfl hx4) ?_
        refine ts (faI fT81_0 rfl rfl) ?_
        refine ts (ldI sT3 rfl rfl) ?_
        refine ts (cln (f := fun _ => false) kf rfl (.c rfl le1 .n) (curOf_nil _) (ref15_isBound_ok (rfl : ref15_isBound x4.Low = _)) rfl) ?_
        refine ts (not_ rfl) ?_
        refine ts (mv rfl) ?_
        rcases ite h with ⟨c5, h⟩ | ⟨c5, h⟩
        · refine un (gn rfl rfl (not_t (vf c5))) ?_
          refine un (gn rfl rfl (not_t (vf c5))) ?_
          refine un (gn rfl rfl (not_t (vf c5))) ?_
          refine un (gn rfl rfl (not_t (vf c5))) ?_
          refine un (gn rfl rfl (not_t (vf c5))) ?_
          refine un (gn rfl rfl (not_t (vf c5))) ?_
          refine un (gn rfl rfl (not_t (vf c5))) ?_
          refine ts (pt rfl (not_t (vf c5)) rfl) ?_
          refine rn ?_
          refine ct rfl rfl ?_
          refine sr ?_
          refine ts (ac rfl rfl) ?_
          refine rn ?_
          refine CWp.ret ?_
          obtain rfl := some_inj h
          exact ⟨rfl, rt1 (ex := false) (by exact (.t rfl .n)) (by exact (gd (by rfl))) (by rfl) (by rfl)⟩
        · refine us (gy rfl rfl (not_f (Classical.not_not.1 c5))) (mv rfl) ?_
          refine us (gy rfl rfl (not_f (Classical.not_not.1 c5))) (mv rfl) ?_
          obtain ⟨x6, hx6, h⟩ := bnd h
          refine us (gy rfl rfl (not_f (Classical.not_not.1 c5))) (ixD lT22 api_Bound.sz rfl rfl hx6) ?_
          refine us (gy rfl rfl (not_f (Classical.not_not.1 c5))) (faI fT81_1 rfl rfl) ?_
          refine us (gy rfl rfl (not_f (Classical.not_not.1 c5))) (ldI sT3 rfl rfl) ?_
          refine us (gy rfl rfl (not_f (Classical.not_not.1 c5))) (cln (f := fun _ => false) kf rfl (.c rfl le1 .n) (curOf_nil _) (ref15_isBound_ok (rfl : ref15_isBound x6.High = _)) rfl) ?_
          refine us (gy rfl rfl (not_f (Classical.not_not.1 c5))) (not_ rfl) ?_
          refine ts (pf rfl (not_f (Classical.not_not.1 c5)) rfl) ?_
          refine rn ?_
          rcases ite h with ⟨c7, h⟩ | ⟨c7, h⟩
          · refine ct rfl (not_t (vf c7)) ?_
            refine sr ?_
            refine ts (ac rfl rfl) ?_
            refine rn ?_
            refine CWp.ret ?_
            obtain rfl := some_inj h
            exact ⟨rfl, rt1 (ex := false) (by exact (.t rfl .n)) (by exact (gd (by rfl))) (by rfl) (by rfl)⟩
          · refine cf rfl (not_f (Classical.not_not.1 c7)) ?_
            refine CWp.skip ?_
            refine lr ?_
            refine ts (mv rfl) ?_
            refine ts (add rfl rfl) ?_
            refine ts (as_ rfl) ?_
            refine rn ?_
            obtain rfl := some_inj h
            exact ⟨rfl, (by (try simp only [List.length_set, copied_len]); exact trk (by kernel_rfl) (by kernel_rfl) (by kernel_rfl))⟩
      · refine cf rfl (bf c3) ?_
        refine CWp.exit ?_
        obtain rfl := some_inj h
        exact ⟨rfl, (by (try simp only [List.length_set, copied_len]); exact trk (by kernel_rfl) (by kernel_rfl) (by kernel_rfl))⟩
    · cases z8 with
      | inl v9 =>
        intro e s ht
        refine CWp.trim ht ?_
        refine sr ?_
        refine ts (mv rfl) ?_
        obtain ⟨x10, hx10, h⟩ := bnd h
        refine ts (cln (f := fun _ => false) kf rfl (.c rfl le1 .n) (curOf_nil _) (ref15_Extents_ok hx10) rfl) ?_
        refine ts (as_ rfl) ?_
        refine rn ?_
        refine CWp.seq ?_
        refine sr ?_
        refine ts (ac rfl rfl) ?_
        refine rn ?_
        obtain ⟨z15, hz15, h⟩ := bnd h
        refine lbr (E := fun s11 => [(4, .d (.sl (x10.map dI))), (5, .d (.int .i64 s11))]) (M := fun s11 => ⟨[], out, []⟩) (E' := fun y => [(4, .d (.sl (x10.map dI)))]) (M' := fun y => ⟨[], out, []⟩) (RT := fun r e s => Lx.Returns PP Try.f65.results.toList e s ⟨.d (.int .i64 r), []⟩) hz15 (by (try simp only [List.length_set, copied_len]); exact trk (by kernel_rfl) (by kernel_rfl) (by kernel_rfl)) ?_ ?_
        · intro s11 ww h
          unfold ref15_BoundsErr.s2 at h
          refine CWp.seq ?_
          refine sr ?_
          refine ts (mv rfl) ?_
          refine ts (mv rfl) ?_
          refine ts (lnD lT23 rfl rfl) ?_
          refine ts (lss rfl rfl) ?_
          refine rn ?_
          rcases ite h with ⟨c12, h⟩ | ⟨c12, h⟩
          · refine ct rfl (bt c12) ?_
            refine CWp.skip ?_
            refine CWp.seq ?_
            refine CWp.block ?_
            refine sr ?_
            refine ts (mv rfl) ?_
            refine ts (mv rfl) ?_
            obtain ⟨x13, hx13, h⟩ := bnd h
            refine ts (ixD lT23 szI rfl rfl hx13) ?_
            refine ts (ldI sT3 rfl rfl) ?_
            refine ts (gtr rfl rfl) ?_
            refine rn ?_
            rcases ite h with ⟨c14, h⟩ | ⟨c14, h⟩
            · refine ct rfl (bt c14) ?_
              refine sr ?_
              refine ts (ac rfl rfl) ?_
              refine rn ?_
              refine CWp.ret ?_
              obtain rfl := some_inj h
              exact ⟨rfl, rt1 (ex := false) (by exact (.t rfl .n)) (by exact (gd (by rfl))) (by rfl) (by rfl)⟩
            · refine cf rfl (bf c14) ?_
              refine CWp.skip ?_
              refine lr ?_
              refine ts (mv rfl) ?_
              refine ts (add rfl rfl) ?_
              refine ts (as_ rfl) ?_
              refine rn ?_
              obtain rfl := some_inj h
              exact ⟨rfl, (by (try simp only [List.length_set, copied_len]); exact trk (by kernel_rfl) (by kernel_rfl) (by kernel_rfl))⟩
          · refine cf rfl (bf c12) ?_
            refine CWp.exit ?_
            obtain rfl := some_inj h
            exact ⟨rfl, (by (try simp only [List.length_set, copied_len]); exact trk (by kernel_rfl) (by kernel_rfl) (by kernel_rfl))⟩
        · cases z15 with
          | inl v16 =>
            intro e s ht
            refine CWp.trim ht ?_
            refine CWp.seq ?_
            refine sr ?_
            refine ts (mv rfl) ?_
            obtain ⟨x17, hx17, h⟩ := bnd h
            refine ts (cln (f := fun _ => false) kf rfl (.c rfl le1 .n) (curOf_nil _) (ref15_Product_ok hx17) rfl) ?_
            refine ts (gtr rfl rfl) ?_
            refine rn ?_
            rcases ite h with ⟨c18, h⟩ | ⟨c18, h⟩
            · refine ct rfl (bt c18) ?_
              refine sr ?_
              refine ts (ac rfl rfl) ?_
              refine rn ?_
              refine CWp.ret ?_
              obtain rfl := some_inj h
              exact ⟨trivial, rt1 (ex := false) (by exact (.t rfl .n)) (by exact (gd (by rfl))) (by rfl) (by rfl)⟩
            · refine cf rfl (bf c18) ?_
              refine CWp.skip ?_
              refine sr ?_
              refine ts (ac rfl rfl) ?_
              refine rn ?_
              refine CWp.ret ?_
              obtain rfl := some_inj h
              exact ⟨trivial, rt1 (ex := false) (by exact (.t rfl .n)) (by exact (gd (by rfl))) (by rfl) (by rfl)⟩
          | inr r19 =>
            intro e s hr
            obtain rfl := some_inj h
            exact ⟨trivial, hr⟩
      | inr r20 =>
        intro e s hr
        obtain rfl := some_inj h
        exact ⟨trivial, hr⟩
theorem ref15_IsInteger_ok {p0 : Int} {out : Out} {r : Bool} (h : ref15_IsInteger p0 = r) : FunOk PP 38 [.d (.int .i64 p0)] out ⟨.d (.bool r), []⟩ := by
  unfold ref15_IsInteger at h
  refine fi Try.func38 rfl (by kernel_rfl) (by kernel_rfl) (by kernel_rfl) ?_
  refine sr ?_
  refine ts (ac rfl rfl) ?_
  refine rn ?_
  refine sr ?_
  refine ts (mv rfl) ?_
  refine ts (cln (f := fun _ => false) kf rfl (.c rfl le1 (.c rfl le1 (.c rfl le1 .n))) (curOf_nil _) (base_Within_ok (rfl : base_Within p0 (-2147483648) 2147483647 = _)) rfl) ?_
  refine ts (as_ rfl) ?_
  refine rn ?_
  refine CWp.ret ?_
  obtain rfl := h
  exact ⟨trivial, rt1 (ex := false) (by exact (.t rfl .n)) (by exact (gd (by rfl))) (by rfl) (by rfl)⟩
theorem ref15_Check_ok {p0 : api_Array} {out : Out} {r : Int × Int} (h : ref15_Check p0 = some r) : FunOk PP 42 [.d (api_Array.d p0)] out ⟨.tup [.d (.int .i64 r.1), .d (.int .i64 r.2)], []⟩ := by
  unfold ref15_Check at h
  refine fi Try.func42 rfl (by kernel_rfl) (by kernel_rfl) (by kernel_rfl) ?_
  refine sr ?_
  refine ts (bxI rfl) ?_
  refine ts (ac rfl rfl) ?_
  refine ts (ac rfl rfl) ?_
  refine rn ?_
  refine CWp.seq ?_
  refine sr ?_
  refine ts (faI fT25_0 rfl rfl) ?_
  refine ts (ldI sT22 rfl rfl) ?_
  obtain ⟨x1, hx1, h⟩ := bnd h
  refine ts (cln (f := fun _ => false) kf rfl (.c rfl le1 .n) (curOf_nil _) (ref15_BoundsErr_ok hx1) rfl) ?_
  refine ts (as_ rfl) ?_
  refine rn ?_
  refine sr ?_
  refine ts (mv rfl) ?_
  refine ts (neq rfl rfl) ?_
  refine rn ?_
  rcases ite h with ⟨c2, h⟩ | ⟨c2, h⟩
  · refine ct rfl (nt c2) ?_
    refine sr ?_
    refine ts (mv rfl) ?_
    refine ts (ac rfl rfl) ?_
    refine ts (as_ rfl) ?_
    refine rn ?_
    refine CWp.ret ?_
    obtain rfl := some_inj h
    exact ⟨trivial, rt2 (ex := false) (by exact (.t rfl (.t rfl .n))) (by exact (sc (gd (by rfl)) (sc (gd (by rfl)) sn))) (by rfl) (by rfl)⟩
  · refine cf rfl (nf c2) ?_
    refine CWp.skip ?_
    refine CWp.seq ?_
    refine sd mixed (b := [0, 1, 3, 0, 8, 24, 56, 127]) (by kernel_rfl) ?_
    refine ds (faI fT25_1 rfl rfl) rfl ?_
    refine ds (ldI sT23 rfl rfl) rfl ?_
    refine ds (lnD lT23 rfl rfl) rfl ?_
    refine ds (faI fT25_0 rfl rfl) rfl ?_
    refine ds (ldI sT22 rfl rfl) rfl ?_
    obtain ⟨x3, hx3, h⟩ := bnd h
    refine dr (cln (f := fun _ => false) kf rfl (.c rfl le1 .n) (curOf_nil _) (ref15_Extents_ok hx3) rfl) rfl ?_
    obtain ⟨x4, hx4, h⟩ := bnd h
    refine dr (cln (f := fun _ => false) kf rfl (.c rfl le1 .n) (curOf_nil _) (ref15_Product_ok hx4) rfl) rfl ?_
    refine ds (neq rfl rfl) rfl ?_
    refine dn (by kernel_rfl) ?_
    rcases ite h with ⟨c5, h⟩ | ⟨c5, h⟩
    · refine ct rfl (nt c5) ?_
      refine sr ?_
      refine ts (ac rfl rfl) ?_
      refine ts (ac rfl rfl) ?_
      refine rn ?_
      refine CWp.ret ?_
      obtain rfl := some_inj h
      exact ⟨trivial, rt2 (ex := false) (by exact (.t rfl (.t rfl .n))) (by exact (sc (gd (by rfl)) (sc (gd (by rfl)) sn))) (by rfl) (by rfl)⟩
    · refine cf rfl (nf c5) ?_
      refine CWp.skip ?_
      refine CWp.seq ?_
      refine sr ?_
      refine ts (ac rfl rfl) ?_
      refine rn ?_
      obtain ⟨z10, hz10, h⟩ := bnd h
      refine lbr (E := fun s6 => [(1, .pimm (api_Array.d p0) 0), (5, .d (.int .i64 s6))]) (M := fun s6 => ⟨[], out, []⟩) (E' := fun y => []) (M' := fun y => ⟨[], out, []⟩) (RT := fun r e s => Lx.Returns PP Try.f42.results.toList e s ⟨.tup [.d (.int .i64 r.1), .d (.int .i64 r.2)], []⟩) hz10 (by (try simp only [List.length_set, copied_len]); exact trk (by kernel_rfl) (by kernel_rfl) (by kernel_rfl)) ?_ ?_
      · intro s6 ww h
        unfold ref15_Check.s1 at h
        refine CWp.seq ?_
        refine sr ?_
        refine ts (mv rfl) ?_
        refine ts (faI fT25_1 rfl rfl) ?_
        refine ts (ldI sT23 rfl rfl) ?_
        refine ts (lnD lT23 rfl rfl) ?_
        refine ts (lss rfl rfl) ?_
        refine rn ?_
        rcases ite h with ⟨c7, h⟩ | ⟨c7, h⟩
        · refine ct rfl (bt c7) ?_
          refine CWp.skip ?_
          refine CWp.seq ?_
          refine CWp.block ?_
          refine sr ?_
          refine ts (faI fT25_1 rfl rfl) ?_
          refine ts (ldI sT23 rfl rfl) ?_
          refine ts (mv rfl) ?_
          obtain ⟨x8, hx8, h⟩ := bnd h
          refine ts (ixD lT23 szI rfl rfl hx8) ?_
          refine ts (ldI sT3 rfl rfl) ?_
          refine ts (cln (f := fun _ => false) kf rfl (.c rfl le1 .n) (curOf_nil _) (ref15_IsInteger_ok (rfl : ref15_IsInteger x8 = _)) rfl) ?_
          refine ts (not_ rfl) ?_
          refine rn ?_
          rcases ite h with ⟨c9, h⟩ | ⟨c9, h⟩
          · refine ct rfl (not_t (vf c9)) ?_
            refine sr ?_
            refine ts (mv rfl) ?_
            refine ts (as_ rfl) ?_
            refine ts (ac rfl rfl) ?_
            refine rn ?_
            refine CWp.ret ?_
            obtain rfl := some_inj h
            exact ⟨rfl, rt2 (ex := false) (by exact (.t rfl (.t rfl .n))) (by exact (sc (gd (by rfl)) (sc (gd (by rfl)) sn))) (by rfl) (by rfl)⟩
          · refine cf rfl (not_f (Classical.not_not.1 c9)) ?_
            refine CWp.skip ?_
            refine lr ?_
            refine ts (mv rfl) ?_
            refine ts (add rfl rfl) ?_
            refine ts (as_ rfl) ?_
            refine rn ?_
            obtain rfl := some_inj h
            exact ⟨rfl, (by (try simp only [List.length_set, copied_len]); exact trk (by kernel_rfl) (by kernel_rfl) (by kernel_rfl))⟩
        · refine cf rfl (bf c7) ?_
          refine CWp.exit ?_
          obtain rfl := some_inj h
          exact ⟨rfl, (by (try simp only [List.length_set, copied_len]); exact trk (by kernel_rfl) (by kernel_rfl) (by kernel_rfl))⟩
      · cases z10 with
        | inl v11 =>
          intro e s ht
          refine CWp.trim ht ?_
          refine sr ?_
          refine ts (ac rfl rfl) ?_
          refine ts (ac rfl rfl) ?_
          refine rn ?_
          refine CWp.ret ?_
          obtain rfl := some_inj h
          exact ⟨trivial, rt2 (ex := false) (by exact (.t rfl (.t rfl .n))) (by exact (sc (gd (by rfl)) (sc (gd (by rfl)) sn))) (by rfl) (by rfl)⟩
        | inr r12 =>
          intro e s hr
          obtain rfl := some_inj h
          exact ⟨trivial, hr⟩
theorem ref15_Err_ok {p0 : api_Array} {out : Out} {r : Int} (h : ref15_Err p0 = some r) : FunOk PP 12 [.d (api_Array.d p0)] out ⟨.d (.int .i64 r), []⟩ := by
  unfold ref15_Err at h
  refine fi Try.func12 rfl (by kernel_rfl) (by kernel_rfl) (by kernel_rfl) ?_
  refine sr ?_
  refine ts (bxI rfl) ?_
  refine ts (ac rfl rfl) ?_
  refine rn ?_
  refine sr ?_
  refine ts (ldIW aT25 rfl rfl rfl) ?_
  obtain ⟨x1, hx1, h⟩ := bnd h
  refine ts (cln (f := fun _ => false) kf rfl (.c rfl le1 .n) (curOf_nil _) (ref15_Check_ok hx1) rfl) ?_
  refine ts (mv rfl) ?_
  refine ts (ex_ rfl rfl) ?_
  refine ts (ex_ rfl rfl) ?_
  refine ts (as_ rfl) ?_
  refine ts (as_ rfl) ?_
  refine rn ?_
  refine sr ?_
  refine ts (mv rfl) ?_
  refine ts (as_ rfl) ?_
  refine rn ?_
  refine CWp.ret ?_
  obtain rfl := some_inj h
  exact ⟨trivial, rt1 (ex := false) (by exact (.t rfl .n)) (by exact (gd (by rfl))) (by rfl) (by rfl)⟩
theorem ref15_CopyBounds_ok {p0 : (List api_Bound)} {out : Out} {r : (List api_Bound)} (h : ref15_CopyBounds p0 = some r) : FunOk PP 35 [.d (.sl (p0.map api_Bound.d))] out ⟨.d (.sl (r.map api_Bound.d)), []⟩ := by
  unfold ref15_CopyBounds at h
  refine fi Try.func35 rfl (by kernel_rfl) (by kernel_rfl) (by kernel_rfl) ?_
  refine sr ?_
  refine ts (ak.wk (x' := .sl (([] : List api_Bound).map api_Bound.d)) rfl) ?_
  refine rn ?_
  refine sr ?_
  refine ta (bsM (n := 0) (xs := ([] : List api_Bound)) (f := api_Bound.d) lT22 rfl rfl rfl (by kernel_rfl) rfl rfl) ?_
  refine ts (mv rfl) ?_
  obtain ⟨x1, hx1, h⟩ := bnd h
  refine tp (apG (ys := p0) (xs := ([] : List api_Bound)) (f := api_Bound.d) lT22 uT22 api_Bound.sz rfl (by first | rfl | simp only [List.length_set, copied_len]) rfl elD (ow rfl) hx1 (so .h)) ?_
  refine ts (as_ rfl) ?_
  refine rn ?_
  refine CWp.ret ?_
  obtain rfl := some_inj h
  exact ⟨trivial, rt1 (ex := false) (by exact (.t rfl .n)) (by exact (gf rfl rfl)) (by rfl) (by rfl)⟩
theorem base_CopyInts_ok {p0 : (List Int)} {out : Out} {r : (List Int)} (h : base_CopyInts p0 = some r) : FunOk PP 9 [.d (.sl (p0.map dI))] out ⟨.d (.sl (r.map dI)), []⟩ := by
  unfold base_CopyInts at h
  refine fi Try.func9 rfl (by kernel_rfl) (by kernel_rfl) (by kernel_rfl) ?_
  refine sr ?_
  refine ts (ak.wk (x' := .sl (([] : List Int).map dI)) rfl) ?_
  refine rn ?_
  refine sr ?_
  refine ts (mv rfl) ?_
  refine ts (lnD lT23 rfl rfl) ?_
  obtain ⟨x1, hx1, h⟩ := bnd h
  refine ta (ms_ (f := dI) (a := 0) (nn := 0) lT23 rfl rfl hx1 rfl) ?_
  refine ts (as_ rfl) ?_
  refine rn ?_
  refine sr ?_
  refine ts (mv rfl) ?_
  refine ts (mv rfl) ?_
  refine tt (cpG (ys := p0) (f := dI) lT23 szI rfl rfl rfl elD (ow rfl) (so .h)) ?_
  refine rn ?_
  refine sr ?_
  refine ts (mv rfl) ?_
  refine ts (as_ rfl) ?_
  refine rn ?_
  refine CWp.ret ?_
  obtain rfl := some_inj h
  exact ⟨trivial, rt1 (ex := false) (by exact (.t rfl .n)) (by exact (gf (by first | rfl | simp only [List.length_set, copied_len]) rfl)) (by rfl) (by rfl)⟩
theorem ref15_Copy_ok {p0 : api_Array} {out : Out} {r : api_Array} (h : ref15_Copy p0 = some r) : FunOk PP 8 [.d (api_Array.d p0)] out ⟨.d (api_Array.d r), []⟩ := by
  unfold ref15_Copy at h
  refine fi Try.func8 rfl (by kernel_rfl) (by kernel_rfl) (by kernel_rfl) ?_
  refine sr ?_
  refine ts (bxI rfl) ?_
  refine ta (al (n := 0) zT25 rfl) ?_
  refine rn ?_
  refine sd mixed (b := [0, 1, 3, 0, 8, 31, 63, 127]) (by kernel_rfl) ?_
  refine ds (faI fT25_0 rfl rfl) rfl ?_
  refine ds (ldI sT22 rfl rfl) rfl ?_
  obtain ⟨x1, hx1, h⟩ := bnd h
  refine dr (cln (f := fun _ => false) kf rfl (.c rfl le1 .n) (curOf_nil _) (ref15_CopyBounds_ok hx1) rfl) rfl ?_
  refine ds (faI fT25_1 rfl rfl) rfl ?_
  refine ds (ldI sT23 rfl rfl) rfl ?_
  obtain ⟨x2, hx2, h⟩ := bnd h
  refine dr (cln (f := fun _ => false) kf rfl (.c rfl le1 .n) (curOf_nil _) (base_CopyInts_ok hx2) rfl) rfl ?_
  refine ds (bld (v := .d (api_Array.d (api_Array.mk x1 x2))) rfl (by kernel_rfl)) rfl ?_
  refine dt0 (stW aT25 rfl rfl rfl rfl rfl rfl .h) rfl ?_
  refine dn (by kernel_rfl) ?_
  refine CWp.ret ?_
  obtain rfl := some_inj h
  exact ⟨trivial, rt1 (ex := false) (by exact (rcW aT25 rfl (ow rfl) rfl rfl .n)) (by exact (gd (by rfl))) (by rfl) (by rfl)⟩
theorem ref15_Same_ok {p0 : api_Array} {p1 : api_Array} {out : Out} {r : Bool} (h : ref15_Same p0 p1 = some r) : FunOk PP 15 [.d (api_Array.d p0), .d (api_Array.d p1)] out ⟨.d (.bool r), []⟩ := by
  unfold ref15_Same at h
  refine fi Try.func15 rfl (by kernel_rfl) (by kernel_rfl) (by kernel_rfl) ?_
  refine sr ?_
  refine ts (bxI rfl) ?_
  refine ts (bxI rfl) ?_
  refine ts (ac rfl rfl) ?_
  refine rn ?_
  refine CWp.seq ?_
  refine sr ?_
  refine ts (faI fT25_0 rfl rfl) ?_
  refine ts (ldI sT22 rfl rfl) ?_
  refine ts (lnD lT22 rfl rfl) ?_
  refine ts (faI fT25_0 rfl rfl) ?_
  refine ts (ldI sT22 rfl rfl) ?_
  refine ts (lnD lT22 rfl rfl) ?_
  refine ts (neq rfl rfl) ?_
  refine ts (mv rfl) ?_
  rcases ite h with ⟨c1, h⟩ | ⟨c1, h⟩
  · refine un (gn rfl rfl (nt c1)) ?_
    refine un (gn rfl rfl (nt c1)) ?_
    refine un (gn rfl rfl (nt c1)) ?_
    refine un (gn rfl rfl (nt c1)) ?_
    refine un (gn rfl rfl (nt c1)) ?_
    refine un (gn rfl rfl (nt c1)) ?_
    refine ts (pt rfl (nt c1) rfl) ?_
    refine rn ?_
    refine ct rfl rfl ?_
    refine sr ?_
    refine ts (ac rfl rfl) ?_
    refine rn ?_
    refine CWp.ret ?_
    obtain rfl := some_inj h
    exact ⟨trivial, rt1 (ex := false) (by exact (.t rfl .n)) (by exact (gd (by rfl))) (by rfl) (by rfl)⟩
  · refine us (gy rfl rfl (nf c1)) (faI fT25_1 rfl rfl) ?_
    refine us (gy rfl rfl (nf c1)) (ldI sT23 rfl rfl) ?_
    refine us (gy rfl rfl (nf c1)) (faI fT25_1 rfl rfl) ?_
    refine us (gy rfl rfl (nf c1)) (ldI sT23 rfl rfl) ?_
    obtain ⟨x2, hx2, h⟩ := bnd h
    refine us (gy rfl rfl (nf c1)) (cln (f := fun _ => false) kf rfl (.c rfl le1 (.c rfl le1 .n)) (curOf_nil _) (base_Ints_ok hx2) rfl) ?_
    refine us (gy rfl rfl (nf c1)) (not_ rfl) ?_
    refine ts (pf rfl (nf c1) rfl) ?_
    refine rn ?_
    rcases ite h with ⟨c3, h⟩ | ⟨c3, h⟩
    · refine ct rfl (not_t (vf c3)) ?_
      refine sr ?_
      refine ts (ac rfl rfl) ?_
      refine rn ?_
      refine CWp.ret ?_
      obtain rfl := some_inj h
      exact ⟨trivial, rt1 (ex := false) (by exact (.t rfl .n)) (by exact (gd (by rfl))) (by rfl) (by rfl)⟩
    · refine cf rfl (not_f (Classical.not_not.1 c3)) ?_
      refine CWp.skip ?_
      refine CWp.seq ?_
      refine sr ?_
      refine ts (ac rfl rfl) ?_
      refine rn ?_
      obtain ⟨z9, hz9, h⟩ := bnd h
      refine lbr (E := fun s4 => [(2, .pimm (api_Array.d p0) 0), (3, .pimm (api_Array.d p1) 0), (5, .d (.int .i64 s4))]) (M := fun s4 => ⟨[], out, []⟩) (E' := fun y => []) (M' := fun y => ⟨[], out, []⟩) (RT := fun r e s => Lx.Returns PP Try.f15.results.toList e s ⟨.d (.bool r), []⟩) hz9 (by (try simp only [List.length_set, copied_len]); exact trk (by kernel_rfl) (by kernel_rfl) (by kernel_rfl)) ?_ ?_
      · intro s4 ww h
        unfold ref15_Same.s1 at h
        refine CWp.seq ?_
        refine sr ?_
        refine ts (mv rfl) ?_
        refine ts (faI fT25_0 rfl rfl) ?_
        refine ts (ldI sT22 rfl rfl) ?_
        refine ts (lnD lT22 rfl rfl) ?_
        refine ts (lss rfl rfl) ?_
        refine rn ?_
        rcases ite h with ⟨c5, h⟩ | ⟨c5, h⟩
        · refine ct rfl (bt c5) ?_
          refine CWp.skip ?_
          refine CWp.seq ?_
          refine CWp.block ?_
          refine sd mixed (b := [0, 1, 0, 7, 15, 0, 32, 0, 224, 480, 1023]) (by kernel_rfl) ?_
          refine ds (faI fT25_0 rfl rfl) rfl ?_
          refine ds (ldI sT22 rfl rfl) rfl ?_
          refine ds (mv rfl) rfl ?_
          obtain ⟨x6, hx6, h⟩ := bnd h
          refine ds (ixD lT22 api_Bound.sz rfl rfl hx6) rfl ?_
          refine ds (ldIW aT81 rfl rfl rfl) rfl ?_
          refine ds (faI fT25_0 rfl rfl) rfl ?_
          refine ds (ldI sT22 rfl rfl) rfl ?_
          refine ds (mv rfl) rfl ?_
          obtain ⟨x7, hx7, h⟩ := bnd h
          refine ds (ixD lT22 api_Bound.sz rfl rfl hx7) rfl ?_
          refine ds (ldIW aT81 rfl rfl rfl) rfl ?_
          refine ds (sne_ (r := ((x6.Low == x7.Low) && ((x6.High == x7.High) && true))) rfl rfl ffT81 (by kernel_rfl)) rfl ?_
          refine dn (by kernel_rfl) ?_
          rcases ite h with ⟨c8, h⟩ | ⟨c8, h⟩
          · refine ct rfl (not_t (vf c8)) ?_
            refine sr ?_
            refine ts (ac rfl rfl) ?_
            refine rn ?_
            refine CWp.ret ?_
            obtain rfl := some_inj h
            exact ⟨rfl, rt1 (ex := false) (by exact (.t rfl .n)) (by exact (gd (by rfl))) (by rfl) (by rfl)⟩
          · refine cf rfl (not_f (Classical.not_not.1 c8)) ?_
            refine CWp.skip ?_
            refine lr ?_
            refine ts (mv rfl) ?_
            refine ts (add rfl rfl) ?_
            refine ts (as_ rfl) ?_
            refine rn ?_
            obtain rfl := some_inj h
            exact ⟨rfl, (by (try simp only [List.length_set, copied_len]); exact trk (by kernel_rfl) (by kernel_rfl) (by kernel_rfl))⟩
        · refine cf rfl (bf c5) ?_
          refine CWp.exit ?_
          obtain rfl := some_inj h
          exact ⟨rfl, (by (try simp only [List.length_set, copied_len]); exact trk (by kernel_rfl) (by kernel_rfl) (by kernel_rfl))⟩
      · cases z9 with
        | inl v10 =>
          intro e s ht
          refine CWp.trim ht ?_
          refine sr ?_
          refine ts (ac rfl rfl) ?_
          refine rn ?_
          refine CWp.ret ?_
          obtain rfl := some_inj h
          exact ⟨trivial, rt1 (ex := false) (by exact (.t rfl .n)) (by exact (gd (by rfl))) (by rfl) (by rfl)⟩
        | inr r11 =>
          intro e s hr
          obtain rfl := some_inj h
          exact ⟨trivial, hr⟩
theorem shapes_reshapeErr_c1_ok {p0 : Int} {out : Out} {r : Bool} (h : shapes_reshapeErr_c1 p0 = r) : FunOk PP 58 [.d (.int .i64 p0)] out ⟨.d (.bool r), []⟩ := by
  unfold shapes_reshapeErr_c1 at h
  refine fi Try.func58 rfl (by kernel_rfl) (by kernel_rfl) (by kernel_rfl) ?_
  refine sr ?_
  refine ts (ac rfl rfl) ?_
  refine rn ?_
  refine sr ?_
  refine ts (mv rfl) ?_
  refine ts (cln (f := fun _ => false) kf rfl (.c rfl le1 (.c rfl le1 (.c rfl le1 .n))) (curOf_nil _) (shapes_inside_ok (rfl : shapes_inside p0 0 512 = _)) rfl) ?_
  refine ts (not_ rfl) ?_
  refine ts (as_ rfl) ?_
  refine rn ?_
  refine CWp.ret ?_
  obtain rfl := h
  exact ⟨trivial, rt1 (ex := false) (by exact (.t rfl .n)) (by exact (gd (by rfl))) (by rfl) (by rfl)⟩
theorem slices_IndexFunc_int__shapes_reshapeErr_c1_ok {p0 : (List Int)} {out : Out} {r : Int} (h : slices_IndexFunc_int__shapes_reshapeErr_c1 p0 = some r) : FunOk PP 78 [.d (.sl (p0.map dI)), .d (.fn 58)] out ⟨.d (.int .i64 r), []⟩ := by
  unfold slices_IndexFunc_int__shapes_reshapeErr_c1 at h
  refine fi Try.func78 rfl (by kernel_rfl) (by kernel_rfl) (by kernel_rfl) ?_
  refine sr ?_
  refine ts (ac rfl rfl) ?_
  refine rn ?_
  refine CWp.seq ?_
  refine sr ?_
  refine ts (mv rfl) ?_
  refine ts (lnD lT23 rfl rfl) ?_
  refine ts (mv rfl) ?_
  refine rn ?_
  obtain ⟨z5, hz5, h⟩ := bnd h
  refine lbr (E := fun s1 => [(0, .d (.sl (p0.map dI))), (1, .d (.fn 58)), (7, .d (.int .i64 (p0.length : Int))), (8, .d (.int .i64 s1))]) (M := fun s1 => ⟨[], out, []⟩) (E' := fun y => []) (M' := fun y => ⟨[], out, []⟩) (RT := fun r e s => Lx.Returns PP Try.f78.results.toList e s ⟨.d (.int .i64 r), []⟩) hz5 (by (try simp only [List.length_set, copied_len]); exact trk (by kernel_rfl) (by kernel_rfl) (by kernel_rfl)) ?_ ?_
  · intro s1 ww h
    unfold slices_IndexFunc_int__shapes_reshapeErr_c1.s1 at h
    refine sr ?_
    refine ts (lss rfl rfl) ?_
    refine rn ?_
    refine CWp.seq ?_
    rcases ite h with ⟨c2, h⟩ | ⟨c2, h⟩
    · refine ct rfl (bt c2) ?_
      refine CWp.skip ?_
      refine CWp.seq ?_
      refine CWp.block ?_
      refine sr ?_
      refine ts (mv rfl) ?_
      refine ts (as_ rfl) ?_
      refine rn ?_
      refine sr ?_
      refine ts (mv rfl) ?_
      refine ts (mv rfl) ?_
      refine ts (mv rfl) ?_
      obtain ⟨x3, hx3, h⟩ := bnd h
      refine ts (ixD lT23 szI rfl rfl hx3) ?_
      refine ts (ldI sT3 rfl rfl) ?_
      refine ts (cln (f := fun _ => false) (kt rfl) rfl (.c rfl le1 .n) (curOf_nil _) (shapes_reshapeErr_c1_ok (rfl : shapes_reshapeErr_c1 x3 = _)) rfl) ?_
      refine rn ?_
      rcases ite h with ⟨c4, h⟩ | ⟨c4, h⟩
      · refine ct rfl c4 ?_
        refine sr ?_
        refine ts (mv rfl) ?_
        refine ts (as_ rfl) ?_
        refine rn ?_
        refine CWp.ret ?_
        obtain rfl := some_inj h
        exact ⟨rfl, rt1 (ex := false) (by exact (.t rfl .n)) (by exact (gd (by rfl))) (by rfl) (by rfl)⟩
      · refine cf rfl (vf c4) ?_
        refine CWp.skip ?_
        refine lr ?_
        refine ts (add rfl rfl) ?_
        refine ts (mv rfl) ?_
        refine rn ?_
        obtain rfl := some_inj h
        exact ⟨rfl, (by (try simp only [List.length_set, copied_len]); exact trk (by kernel_rfl) (by kernel_rfl) (by kernel_rfl))⟩
    · refine cf rfl (bf c2) ?_
      refine CWp.exit ?_
      obtain rfl := some_inj h
      exact ⟨rfl, (by (try simp only [List.length_set, copied_len]); exact trk (by kernel_rfl) (by kernel_rfl) (by kernel_rfl))⟩
  · cases z5 with
    | inl v6 =>
      intro e s ht
      refine CWp.trim ht ?_
      refine sr ?_
      refine ts (ac rfl rfl) ?_
      refine rn ?_
      refine CWp.ret ?_
      obtain rfl := some_inj h
      exact ⟨trivial, rt1 (ex := false) (by exact (.t rfl .n)) (by exact (gd (by rfl))) (by rfl) (by rfl)⟩
    | inr r7 =>
      intro e s hr
      obtain rfl := some_inj h
      exact ⟨trivial, hr⟩
theorem slices_ContainsFunc_int__shapes_reshapeErr_c1_ok {p0 : (List Int)} {out : Out} {r : Bool} (h : slices_ContainsFunc_int__shapes_reshapeErr_c1 p0 = some r) : FunOk PP 57 [.d (.sl (p0.map dI)), .d (.fn 58)] out ⟨.d (.bool r), []⟩ := by
  unfold slices_ContainsFunc_int__shapes_reshapeErr_c1 at h
  refine fi Try.func57 rfl (by kernel_rfl) (by kernel_rfl) (by kernel_rfl) ?_
  refine sr ?_
  refine ts (ac rfl rfl) ?_
  refine rn ?_
  refine sr ?_
  refine ts (mv rfl) ?_
  refine ts (mv rfl) ?_
  obtain ⟨x1, hx1, h⟩ := bnd h
  refine ts (cln (f := fun _ => false) kf rfl (.c rfl le1 (.c rfl le1 .n)) (curOf_nil _) (slices_IndexFunc_int__shapes_reshapeErr_c1_ok hx1) rfl) ?_
  refine ts (geq rfl rfl) ?_
  refine ts (as_ rfl) ?_
  refine rn ?_
  refine CWp.ret ?_
  obtain rfl := some_inj h
  exact ⟨trivial, rt1 (ex := false) (by exact (.t rfl .n)) (by exact (gd (by rfl))) (by rfl) (by rfl)⟩
theorem slices_Values_int_ok {p0 : List Int} {out : Out} : FunOk PP 63 [.d (.sl (p0.map dI))] out ⟨.clo 82 [.pimm (.sl (p0.map dI)) 0], []⟩ := by
  refine fi Try.func63 rfl (by kernel_rfl) (by kernel_rfl) (by kernel_rfl) ?_
  refine sr ?_
  refine ts (bxI rfl) ?_
  refine ts (ac rfl rfl) ?_
  refine rn ?_
  refine sr ?_
  refine ts (mf_ (v := .clo 82 [.pimm (.sl (p0.map dI)) 0]) rfl rfl) ?_
  refine ts (as_ rfl) ?_
  refine rn ?_
  refine CWp.ret ?_
  exact ⟨trivial, rtC rfl rfl rfl⟩
theorem slices_Sorted_int__slices_Values_int_c1_ok {p0_0 : List Int} {out : Out} {r : List Int} (h : slices_Sorted_int__slices_Values_int_c1 p0_0 = some r) : FunOk PP 62 [.clo 82 [.pimm (.sl (p0_0.map dI)) 0]] out ⟨.d (.sl (r.map dI)), []⟩ := it_sorted h
theorem shapes_orderOf_ok {p0 : (List Int)} {p1 : Int} {out : Out} {r : (List Int) × Bool} (h : shapes_orderOf p0 p1 = some r) : FunOk PP 31 [.d (.sl (p0.map dI)), .d (.int .i64 p1)] out ⟨.tup [.d (.sl (r.1.map dI)), .d (.bool r.2)], []⟩ := by
  unfold shapes_orderOf at h
  refine fi Try.func31 rfl (by kernel_rfl) (by kernel_rfl) (by kernel_rfl) ?_
  refine sr ?_
  refine ts (ak.wk (x' := .sl (([] : List Int).map dI)) rfl) ?_
  refine ts (ac rfl rfl) ?_
  refine rn ?_
  refine sr ?_
  refine ta (an (n := 0) lT23 rfl) ?_
  refine rn ?_
  refine CWp.seq ?_
  refine sr ?_
  refine ts (mv rfl) ?_
  refine ts (mv rfl) ?_
  refine rn ?_
  obtain ⟨z4, hz4, h⟩ := bnd h
  refine lb (E := fun s1 => [(0, .d (.sl (p0.map dI))), (1, .d (.int .i64 p1)), (6, .ref ⟨out.length, 6, 0⟩ 0 s1.2.length s1.2.length), (11, .d (.int .i64 p1)), (12, .d (.int .i64 s1.1))]) (M := fun s1 => ⟨[((6, 0), .arr 1 false (s1.2.map dI))], out, []⟩) (E' := fun y => [(0, .d (.sl (p0.map dI))), (1, .d (.int .i64 p1)), (6, .ref ⟨out.length, 6, 0⟩ 0 y.length y.length)]) (M' := fun y => ⟨[((6, 0), .arr 1 false (y.map dI))], out, []⟩) hz4 (by (try simp only [List.length_set, copied_len]); exact trk (by kernel_rfl) (by kernel_rfl) (by kernel_rfl)) ?_ ?_
  · intro s1 ww h
    unfold shapes_orderOf.s1 at h
    refine sr ?_
    refine ts (lss rfl rfl) ?_
    refine rn ?_
    refine CWp.seq ?_
    rcases ite h with ⟨c2, h⟩ | ⟨c2, h⟩
    · refine ct rfl (bt c2) ?_
      refine CWp.skip ?_
      refine CWp.seq ?_
      refine CWp.block ?_
      refine sr ?_
      refine ts (mv rfl) ?_
      refine ts (as_ rfl) ?_
      refine rn ?_
      refine lr ?_
      refine ts (mv rfl) ?_
      refine ts (mv rfl) ?_
      refine ts (bsT (l := (([s1.1] : List Int).map dI)) lT23 rfl rfl rfl (by kernel_rfl)) ?_
      obtain ⟨x3, hx3, h⟩ := bnd h
      refine tp (apG (ys := ([s1.1] : List Int)) (xs := s1.2) (f := dI) lT23 uT23 szI rfl rfl rfl elT (ow rfl) hx3 (so .h)) ?_
      refine ts (as_ rfl) ?_
      refine rn ?_
      refine lr ?_
      refine ts (add rfl rfl) ?_
      refine ts (mv rfl) ?_
      refine rn ?_
      obtain rfl := some_inj h
      exact ⟨rfl, (by (try simp only [List.length_set, copied_len]); exact trk (by kernel_rfl) (by kernel_rfl) (by kernel_rfl))⟩
    · refine cf rfl (bf c2) ?_
      refine CWp.exit ?_
      obtain rfl := some_inj h
      exact ⟨rfl, (by (try simp only [List.length_set, copied_len]); exact trk (by kernel_rfl) (by kernel_rfl) (by kernel_rfl))⟩
  · intro e s ht
    refine CWp.trim ht ?_
    refine CWp.seq ?_
    refine sr ?_
    refine ts (mv rfl) ?_
    refine ts (lnD lT23 rfl rfl) ?_
    refine ts (eql rfl rfl) ?_
    refine rn ?_
    rcases ite h with ⟨c5, h⟩ | ⟨c5, h⟩
    · refine ct rfl (et c5) ?_
      refine sr ?_
      refine ts (mv rfl) ?_
      refine ts (as_ rfl) ?_
      refine ts (ac rfl rfl) ?_
      refine rn ?_
      refine CWp.ret ?_
      obtain rfl := some_inj h
      exact ⟨trivial, rt2 (ex := false) (by exact (.t rfl (.t rfl .n))) (by exact (sc (gf rfl rfl) (sc (gd (by rfl)) sn))) (by rfl) (by rfl)⟩
    · refine cf rfl (ef c5) ?_
      refine CWp.skip ?_
      refine sr ?_
      refine ts (mv rfl) ?_
      refine ts (cln (f := fun _ => false) kf rfl (.c rfl le1 .n) (curOf_nil _) (slices_Values_int_ok (p0 := p0)) rfl) ?_
      obtain ⟨x6, hx6, h⟩ := bnd h
      refine ts (cln (f := fun _ => false) kf rfl (.c rfl le6 .n) (curOf_nil _) (slices_Sorted_int__slices_Values_int_c1_ok hx6) rfl) ?_
      refine ts (as_ rfl) ?_
      refine rn ?_
      refine CWp.seq ?_
      refine sr ?_
      refine ts (mv rfl) ?_
      refine ts (lnD lT23 rfl rfl) ?_
      refine ts (mv rfl) ?_
      refine ts (neq rfl rfl) ?_
      refine rn ?_
      rcases ite h with ⟨c7, h⟩ | ⟨c7, h⟩
      · refine ct rfl (nt c7) ?_
        refine sr ?_
        refine ts (ak.wk (x' := .sl (([] : List Int).map dI)) rfl) ?_
        refine ts (ac rfl rfl) ?_
        refine rn ?_
        refine CWp.ret ?_
        obtain rfl := some_inj h
        exact ⟨trivial, rt2 (ex := false) (by exact (.t rfl (.t rfl .n))) (by exact (sc (gd (by rfl)) (sc (gd (by rfl)) sn))) (by rfl) (by rfl)⟩
      · refine cf rfl (nf c7) ?_
        refine CWp.skip ?_
        refine CWp.seq ?_
        refine sr ?_
        refine ts (mv rfl) ?_
        refine ts (lnD lT23 rfl rfl) ?_
        refine ts (mv rfl) ?_
        refine rn ?_
        obtain ⟨z14, hz14, h⟩ := bnd h
        refine lbr (E := fun s8 => [(0, .d (.sl (p0.map dI))), (6, .ref ⟨out.length, 6, 0⟩ 0 s8.2.length s8.2.length), (31, .d (.sl (x6.map dI))), (32, .d (.int .i64 (x6.length : Int))), (33, .d (.int .i64 s8.1))]) (M := fun s8 => ⟨[((6, 0), .arr 1 false (s8.2.map dI))], out, []⟩) (E' := fun y => [(6, .ref ⟨out.length, 6, 0⟩ 0 y.length y.length)]) (M' := fun y => ⟨[((6, 0), .arr 1 false (y.map dI))], out, []⟩) (RT := fun r e s => Lx.Returns PP Try.f31.results.toList e s ⟨.tup [.d (.sl (r.1.map dI)), .d (.bool r.2)], []⟩) hz14 (by (try simp only [List.length_set, copied_len]); exact trk (by kernel_rfl) (by kernel_rfl) (by kernel_rfl)) ?_ ?_
        · intro s8 ww h
          unfold shapes_orderOf.s2 at h
          refine sr ?_
          refine ts (lss rfl rfl) ?_
          refine rn ?_
          refine CWp.seq ?_
          rcases ite h with ⟨c9, h⟩ | ⟨c9, h⟩
          · refine ct rfl (bt c9) ?_
            refine CWp.skip ?_
            refine CWp.seq ?_
            refine CWp.block ?_
            refine sr ?_
            refine ts (mv rfl) ?_
            obtain ⟨x10, hx10, h⟩ := bnd h
            refine ts (ixD lT23 szI rfl rfl hx10) ?_
            refine ts (ldI sT3 rfl rfl) ?_
            refine ts (as_ rfl) ?_
            refine ts (as_ rfl) ?_
            refine rn ?_
            refine CWp.seq ?_
            refine sr ?_
            refine ts (mv rfl) ?_
            refine ts (mv rfl) ?_
            refine ts (add rfl rfl) ?_
            refine ts (neq rfl rfl) ?_
            refine rn ?_
            rcases ite h with ⟨c11, h⟩ | ⟨c11, h⟩
            · refine ct rfl (nt c11) ?_
              refine sr ?_
              refine ts (ak.wk (x' := .sl (([] : List Int).map dI)) rfl) ?_
              refine ts (ac rfl rfl) ?_
              refine rn ?_
              refine CWp.ret ?_
              obtain rfl := some_inj h
              exact ⟨rfl, rt2 (ex := false) (by exact (.t rfl (.t rfl .n))) (by exact (sc (gd (by rfl)) (sc (gd (by rfl)) sn))) (by rfl) (by rfl)⟩
            · refine cf rfl (nf c11) ?_
              refine CWp.skip ?_
              refine lr ?_
              refine ts (mv rfl) ?_
              refine ts (mv rfl) ?_
              refine ts (mv rfl) ?_
              refine ts (mv rfl) ?_
              obtain ⟨x12, hx12, h⟩ := bnd h
              refine ts (ixD lT23 szI rfl rfl hx12) ?_
              refine ts (ldI sT3 rfl rfl) ?_
              refine ts (sub rfl rfl) ?_
              obtain ⟨x13, hx13, h⟩ := bnd h
              refine ts (ixR lT23 rfl rfl rfl (ow rfl) hx13) ?_
              refine tt0 (stE (b := (w (x12 - 1))) sT3 rfl rfl rfl rfl rfl hx13 rfl rfl .h) ?_
              refine rn ?_
              refine lr ?_
              refine ts (add rfl rfl) ?_
              refine ts (mv rfl) ?_
              refine rn ?_
              obtain rfl := some_inj h
              exact ⟨rfl, (by (try simp only [List.length_set, copied_len]); exact trk (by kernel_rfl) (by kernel_rfl) (by kernel_rfl))⟩
          · refine cf rfl (bf c9) ?_
            refine CWp.exit ?_
            obtain rfl := some_inj h
            exact ⟨rfl, (by (try simp only [List.length_set, copied_len]); exact trk (by kernel_rfl) (by kernel_rfl) (by kernel_rfl))⟩
        · cases z14 with
          | inl v15 =>
            intro e s ht
            refine CWp.trim ht ?_
            refine sr ?_
            refine ts (mv rfl) ?_
            refine ts (as_ rfl) ?_
            refine ts (ac rfl rfl) ?_
            refine rn ?_
            refine CWp.ret ?_
            obtain rfl := some_inj h
            exact ⟨trivial, rt2 (ex := false) (by exact (.t rfl (.t rfl .n))) (by exact (sc (gf rfl rfl) (sc (gd (by rfl)) sn))) (by rfl) (by rfl)⟩
          | inr r16 =>
            intro e s hr
            obtain rfl := some_inj h
            exact ⟨trivial, hr⟩
theorem shapes_reshapeErr_c2_ok {p0 : Int} {out : Out} {r : Bool} (h : shapes_reshapeErr_c2 p0 = r) : FunOk PP 59 [.d (.int .i64 p0)] out ⟨.d (.bool r), []⟩ := by
  unfold shapes_reshapeErr_c2 at h
  refine fi Try.func59 rfl (by kernel_rfl) (by kernel_rfl) (by kernel_rfl) ?_
  refine sr ?_
  refine ts (ac rfl rfl) ?_
  refine rn ?_
  refine sr ?_
  refine ts (mv rfl) ?_
  refine ts (cln (f := fun _ => false) kf rfl (.c rfl le1 .n) (curOf_nil _) (shapes_isInteger_ok (rfl : shapes_isInteger p0 = _)) rfl) ?_
  refine ts (not_ rfl) ?_
  refine ts (as_ rfl) ?_
  refine rn ?_
  refine CWp.ret ?_
  obtain rfl := h
  exact ⟨trivial, rt1 (ex := false) (by exact (.t rfl .n)) (by exact (gd (by rfl))) (by rfl) (by rfl)⟩
theorem slices_IndexFunc_int__shapes_reshapeErr_c2_ok {p0 : (List Int)} {out : Out} {r : Int} (h : slices_IndexFunc_int__shapes_reshapeErr_c2 p0 = some r) : FunOk PP 78 [.d (.sl (p0.map dI)), .d (.fn 59)] out ⟨.d (.int .i64 r), []⟩ := by
  unfold slices_IndexFunc_int__shapes_reshapeErr_c2 at h
  refine fi Try.func78 rfl (by kernel_rfl) (by kernel_rfl) (by kernel_rfl) ?_
  refine sr ?_
  refine ts (ac rfl rfl) ?_
  refine rn ?_
  refine CWp.seq ?_
  refine sr ?_
  refine ts (mv rfl) ?_
  refine ts (lnD lT23 rfl rfl) ?_
  refine ts (mv rfl) ?_
  refine rn ?_
  obtain ⟨z5, hz5, h⟩ := bnd h
  refine lbr (E := fun s1 => [(0, .d (.sl (p0.map dI))), (1, .d (.fn 59)), (7, .d (.int .i64 (p0.length : Int))), (8, .d (.int .i64 s1))]) (M := fun s1 => ⟨[], out, []⟩) (E' := fun y => []) (M' := fun y => ⟨[], out, []⟩) (RT := fun r e s => Lx.Returns PP Try.f78.results.toList e s ⟨.d (.int .i64 r), []⟩) hz5 (by (try simp only [List.length_set, copied_len]); exact trk (by kernel_rfl) (by kernel_rfl) (by kernel_rfl)) ?_ ?_
  · intro s1 ww h
    unfold slices_IndexFunc_int__shapes_reshapeErr_c2.s1 at h
    refine sr ?_
    refine ts (lss rfl rfl) ?_
    refine rn ?_
    refine CWp.seq ?_
    rcases ite h with ⟨c2, h⟩ | ⟨c2, h⟩
    · refine ct rfl (bt c2) ?_
      refine CWp.skip ?_
      refine CWp.seq ?_
      refine CWp.block ?_
      refine sr ?_
      refine ts (mv rfl) ?_
      refine ts (as_ rfl) ?_
      refine rn ?_
      refine sr ?_
      refine ts (mv rfl) ?_
      refine ts (mv rfl) ?_
      refine ts (mv rfl) ?_
      obtain ⟨x3, hx3, h⟩ := bnd h
      refine ts (ixD lT23 szI rfl rfl hx3) ?_
      refine ts (ldI sT3 rfl rfl) ?_
      refine ts (cln (f := fun _ => false) (kt rfl) rfl (.c rfl le1 .n) (curOf_nil _) (shapes_reshapeErr_c2_ok (rfl : shapes_reshapeErr_c2 x3 = _)) rfl) ?_
      refine rn ?_
      rcases ite h with ⟨c4, h⟩ | ⟨c4, h⟩
      · refine ct rfl c4 ?_
        refine sr ?_
        refine ts (mv rfl) ?_
        refine ts (as_ rfl) ?_
        refine rn ?_
        refine CWp.ret ?_
        obtain rfl := some_inj h
        exact ⟨rfl, rt1 (ex := false) (by exact (.t rfl .n)) (by exact (gd (by rfl))) (by rfl) (by rfl)⟩
      · refine cf rfl (vf c4) ?_
        refine CWp.skip ?_
        refine lr ?_
        refine ts (add rfl rfl) ?_
        refine ts (mv rfl) ?_
        refine rn ?_
        obtain rfl := some_inj h
        exact ⟨rfl, (by (try simp only [List.length_set, copied_len]); exact trk (by kernel_rfl) (by kernel_rfl) (by kernel_rfl))⟩
    · refine cf rfl (bf c2) ?_
      refine CWp.exit ?_
      obtain rfl := some_inj h
      exact ⟨rfl, (by (try simp only [List.length_set, copied_len]); exact trk (by kernel_rfl) (by kernel_rfl) (by kernel_rfl))⟩
  · cases z5 with
    | inl v6 =>
      intro e s ht
      refine CWp.trim ht ?_
      refine sr ?_
      refine ts (ac rfl rfl) ?_
      refine rn ?_
      refine CWp.ret ?_
      obtain rfl := some_inj h
      exact ⟨trivial, rt1 (ex := false) (by exact (.t rfl .n)) (by exact (gd (by rfl))) (by rfl) (by rfl)⟩
    | inr r7 =>
      intro e s hr
      obtain rfl := some_inj h
      exact ⟨trivial, hr⟩
theorem slices_ContainsFunc_int__shapes_reshapeErr_c2_ok {p0 : (List Int)} {out : Out} {r : Bool} (h : slices_ContainsFunc_int__shapes_reshapeErr_c2 p0 = some r) : FunOk PP 57 [.d (.sl (p0.map dI)), .d (.fn 59)] out ⟨.d (.bool r), []⟩ := by
  unfold slices_ContainsFunc_int__shapes_reshapeErr_c2 at h
  refine fi Try.func57 rfl (by kernel_rfl) (by kernel_rfl) (by kernel_rfl) ?_
  refine sr ?_
  refine ts (ac rfl rfl) ?_
  refine rn ?_
  refine sr ?_
  refine ts (mv rfl) ?_
  refine ts (mv rfl) ?_
  obtain ⟨x1, hx1, h⟩ := bnd h
  refine ts (cln (f := fun _ => false) kf rfl (.c rfl le1 (.c rfl le1 .n)) (curOf_nil _) (slices_IndexFunc_int__shapes_reshapeErr_c2_ok hx1) rfl) ?_
  refine ts (geq rfl rfl) ?_
  refine ts (as_ rfl) ?_
  refine rn ?_
  refine CWp.ret ?_
  obtain rfl := some_inj h
  exact ⟨trivial, rt1 (ex := false) (by exact (.t rfl .n)) (by exact (gd (by rfl))) (by rfl) (by rfl)⟩
theorem shapes_reshapeErr_ok {p0 : api_Reshape} {out : Out} {r : Int} (h : shapes_reshapeErr p0 = some r) : FunOk PP 29 [.d (api_Reshape.d p0)] out ⟨.d (.int .i64 r), []⟩ := by
  unfold shapes_reshapeErr at h
  refine fi Try.func29 rfl (by kernel_rfl) (by kernel_rfl) (by kernel_rfl) ?_
  refine sr ?_
  refine ts (bxI rfl) ?_
  refine ts (ac rfl rfl) ?_
  refine rn ?_
  refine sr ?_
  refine ts (faI fT27_0 rfl rfl) ?_
  refine ts (ldI sT23 rfl rfl) ?_
  obtain ⟨x1, hx1, h⟩ := bnd h
  refine ts (cln (f := fun _ => false) kf rfl (.c rfl le1 (.c rfl le1 .n)) (curOf_nil _) (slices_ContainsFunc_int__shapes_reshapeErr_c1_ok hx1) rfl) ?_
  refine ts (as_ rfl) ?_
  refine rn ?_
  refine CWp.seq ?_
  refine sr ?_
  refine ts (faI fT27_0 rfl rfl) ?_
  refine ts (ldI sT23 rfl rfl) ?_
  refine ts (lnD lT23 rfl rfl) ?_
  refine ts (gtr rfl rfl) ?_
  refine rn ?_
  rcases ite h with ⟨c2, h⟩ | ⟨c2, h⟩
  · refine ct rfl (bt c2) ?_
    refine sr ?_
    refine ts (ac rfl rfl) ?_
    refine rn ?_
    refine CWp.ret ?_
    obtain rfl := some_inj h
    exact ⟨trivial, rt1 (ex := false) (by exact (.t rfl .n)) (by exact (gd (by rfl))) (by rfl) (by rfl)⟩
  · refine cf rfl (bf c2) ?_
    refine CWp.skip ?_
    refine sr ?_
    refine ts (faI fT27_1 rfl rfl) ?_
    refine ts (ldI sT23 rfl rfl) ?_
    refine ts (faI fT27_0 rfl rfl) ?_
    refine ts (ldI sT23 rfl rfl) ?_
    refine ts (lnD lT23 rfl rfl) ?_
    obtain ⟨x3, hx3, h⟩ := bnd h
    refine ts (cln (f := fun _ => false) kf rfl (.c rfl le1 (.c rfl le1 .n)) (curOf_nil _) (shapes_orderOf_ok hx3) rfl) ?_
    refine ts (mv rfl) ?_
    refine ts (ex_ rfl rfl) ?_
    refine ts (ex_ rfl rfl) ?_
    refine ts (as_ rfl) ?_
    refine ts (as_ rfl) ?_
    refine rn ?_
    refine sd mixed (b := [0, 1, 3, 0, 8, 24, 56, 120, 248, 504, 1016, 0, 2048, 0, 8192, 24576, 57344, 122880, 0, 262144, 786680, 1835256, 3932408, 8388607, 16777215, 33554431]) (by kernel_rfl) ?_
    refine ds (mv rfl) rfl ?_
    refine ds (not_ rfl) rfl ?_
    refine ds (bld (v := .d (shapes_rule.d (shapes_rule.mk (!x1) 2))) rfl (by kernel_rfl)) rfl ?_
    refine ds (mv rfl) rfl ?_
    refine ds (mv rfl) rfl ?_
    rcases ite h with ⟨c4, h⟩ | ⟨c4, h⟩
    · refine vn (gn rfl rfl c4) ?_
      refine vn (gn rfl rfl c4) ?_
      refine vn (gn rfl rfl c4) ?_
      refine vn (gn rfl rfl c4) ?_
      refine ds (pt rfl c4 rfl) rfl ?_
      refine ds (bld (v := .d (shapes_rule.d (shapes_rule.mk true 8))) rfl (by kernel_rfl)) rfl ?_
      refine ds (mv rfl) rfl ?_
      refine ds (bld (v := .d (shapes_rule.d (shapes_rule.mk x3.2 3))) rfl (by kernel_rfl)) rfl ?_
      refine ds (faI fT27_2 rfl rfl) rfl ?_
      refine ds (ldI sT23 rfl rfl) rfl ?_
      refine ds (lnD lT23 rfl rfl) rfl ?_
      refine ds (leq rfl rfl) rfl ?_
      refine ds (bld (v := .d (shapes_rule.d (shapes_rule.mk (decide ((p0.Pad.length : Int) ≤ 512)) 8))) rfl (by kernel_rfl)) rfl ?_
      refine ds (faI fT27_2 rfl rfl) rfl ?_
      refine ds (ldI sT23 rfl rfl) rfl ?_
      obtain ⟨x5, hx5, h⟩ := bnd h
      refine dr (cln (f := fun _ => false) kf rfl (.c rfl le1 (.c rfl le1 .n)) (curOf_nil _) (slices_ContainsFunc_int__shapes_reshapeErr_c2_ok hx5) rfl) rfl ?_
      refine ds (not_ rfl) rfl ?_
      refine ds (bld (v := .d (shapes_rule.d (shapes_rule.mk (!x5) 2))) rfl (by kernel_rfl)) rfl ?_
      refine ds (bsT (l := (([(shapes_rule.mk (!x1) 2), (shapes_rule.mk true 8), (shapes_rule.mk x3.2 3), (shapes_rule.mk (decide ((p0.Pad.length : Int) ≤ 512)) 8), (shapes_rule.mk (!x5) 2)] : List shapes_rule).map shapes_rule.d)) lT102 rfl rfl rfl (by kernel_rfl)) rfl ?_
      obtain ⟨x6, hx6, h⟩ := bnd h
      refine dr (cln (f := fun _ => false) kf rfl (.c rfl le2 .n) (curOf_nil _) (shapes_broken_ok hx6) rfl) rfl ?_
      refine ds (as_ rfl) rfl ?_
      refine dn (by kernel_rfl) ?_
      refine CWp.ret ?_
      obtain rfl := some_inj h
      exact ⟨trivial, rt1 (ex := false) (by exact (.t rfl .n)) (by exact (gd (by rfl))) (by rfl) (by rfl)⟩
    · refine vs (gy rfl rfl (vf c4)) (faI fT27_0 rfl rfl) rfl ?_
      refine vs (gy rfl rfl (vf c4)) (ldI sT23 rfl rfl) rfl ?_
      obtain ⟨x7, hx7, h⟩ := bnd h
      refine vs (gy rfl rfl (vf c4)) (cln (f := fun _ => false) kf rfl (.c rfl le1 .n) (curOf_nil _) (shapes_product_ok hx7) rfl) rfl ?_
      refine vs (gy rfl rfl (vf c4)) (leq rfl rfl) rfl ?_
      refine ds (pf rfl (vf c4) rfl) rfl ?_
      refine ds (bld (v := .d (shapes_rule.d (shapes_rule.mk (decide (x7 ≤ 512)) 8))) rfl (by kernel_rfl)) rfl ?_
      refine ds (mv rfl) rfl ?_
      refine ds (bld (v := .d (shapes_rule.d (shapes_rule.mk x3.2 3))) rfl (by kernel_rfl)) rfl ?_
      refine ds (faI fT27_2 rfl rfl) rfl ?_
      refine ds (ldI sT23 rfl rfl) rfl ?_
      refine ds (lnD lT23 rfl rfl) rfl ?_
      refine ds (leq rfl rfl) rfl ?_
      refine ds (bld (v := .d (shapes_rule.d (shapes_rule.mk (decide ((p0.Pad.length : Int) ≤ 512)) 8))) rfl (by kernel_rfl)) rfl ?_
      refine ds (faI fT27_2 rfl rfl) rfl ?_
      refine ds (ldI sT23 rfl rfl) rfl ?_
      obtain ⟨x8, hx8, h⟩ := bnd h
      refine dr (cln (f := fun _ => false) kf rfl (.c rfl le1 (.c rfl le1 .n)) (curOf_nil _) (slices_ContainsFunc_int__shapes_reshapeErr_c2_ok hx8) rfl) rfl ?_
      refine ds (not_ rfl) rfl ?_
      refine ds (bld (v := .d (shapes_rule.d (shapes_rule.mk (!x8) 2))) rfl (by kernel_rfl)) rfl ?_
      refine ds (bsT (l := (([(shapes_rule.mk (!x1) 2), (shapes_rule.mk (decide (x7 ≤ 512)) 8), (shapes_rule.mk x3.2 3), (shapes_rule.mk (decide ((p0.Pad.length : Int) ≤ 512)) 8), (shapes_rule.mk (!x8) 2)] : List shapes_rule).map shapes_rule.d)) lT102 rfl rfl rfl (by kernel_rfl)) rfl ?_
      obtain ⟨x9, hx9, h⟩ := bnd h
      refine dr (cln (f := fun _ => false) kf rfl (.c rfl le2 .n) (curOf_nil _) (shapes_broken_ok hx9) rfl) rfl ?_
      refine ds (as_ rfl) rfl ?_
      refine dn (by kernel_rfl) ?_
      refine CWp.ret ?_
      obtain rfl := some_inj h
      exact ⟨trivial, rt1 (ex := false) (by exact (.t rfl .n)) (by exact (gd (by rfl))) (by rfl) (by rfl)⟩
end Go.Proofs.Ytndpfldakcdbiaa
