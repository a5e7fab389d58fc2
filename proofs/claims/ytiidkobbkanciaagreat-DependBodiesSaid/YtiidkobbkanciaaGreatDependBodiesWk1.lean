/- The walks: the program does what the functions in plain form say. Part 1. -/
import Derived.Test.YtiidkobbkanciaaGreatDependBodiesSh
import Derived.Test.YtiidkobbkanciaaGreatProg
set_option linter.all false
namespace Go.Sh
open Go.Lx
def api_Affine.d (x : api_Affine) : D := .agg [.sl (x.Coefs.map dI), .int .i64 x.Const]
theorem api_Affine.sz : Sz api_Affine.d 2 := ⟨fun _ => rfl⟩
def api_Loop.d (x : api_Loop) : D := .agg [.sl (x.Low.Coefs.map dI), .int .i64 x.Low.Const, .sl (x.High.Coefs.map dI), .int .i64 x.High.Const]
theorem api_Loop.sz : Sz api_Loop.d 4 := ⟨fun _ => rfl⟩
def api_Access.d (x : api_Access) : D := .agg [.int .i64 x.Array, .sl (x.Subscripts.map api_Affine.d), .bool x.Write]
theorem api_Access.sz : Sz api_Access.d 3 := ⟨fun _ => rfl⟩
def depend_rule.d (x : depend_rule) : D := .agg [.bool x.holds, .int .i64 x.code]
theorem depend_rule.sz : Sz depend_rule.d 2 := ⟨fun _ => rfl⟩
def api_Hull.d (x : api_Hull) : D := .agg [.int .i64 x.Low, .int .i64 x.High]
theorem api_Hull.sz : Sz api_Hull.d 2 := ⟨fun _ => rfl⟩
def api_DependPair.d (x : api_DependPair) : D := .agg [.int .i64 x.From, .int .i64 x.To]
theorem api_DependPair.sz : Sz api_DependPair.d 2 := ⟨fun _ => rfl⟩
def api_Dependence.d (x : api_Dependence) : D := .agg [.sl (x.Signs.map dI), .sl (x.Source.map dI), .sl (x.Sink.map dI)]
theorem api_Dependence.sz : Sz api_Dependence.d 3 := ⟨fun _ => rfl⟩
def api_LinRow.d (x : api_LinRow) : D := .agg [.sl (x.Coefs.map dI), .int .i64 x.Const, .bool x.Equal]
theorem api_LinRow.sz : Sz api_LinRow.d 3 := ⟨fun _ => rfl⟩
def api_LinSystem.d (x : api_LinSystem) : D := .agg [.int .i64 x.Vars, .sl (x.Rows.map api_LinRow.d)]
theorem api_LinSystem.sz : Sz api_LinSystem.d 2 := ⟨fun _ => rfl⟩
def api_LinNode.d (x : api_LinNode) : D := .agg [.int .i64 x.Kind, .sl (x.Weights.map dI), .int .i64 x.Divisor, .int .i64 x.Var, .int .i64 x.At, .int .i64 x.Left, .int .i64 x.Right]
theorem api_LinNode.sz : Sz api_LinNode.d 7 := ⟨fun _ => rfl⟩
def depend_checker.d (x : depend_checker) : D := .agg [.int .i64 x.x.Vars, .sl (x.x.Rows.map api_LinRow.d), .sl (x.p.map api_LinNode.d), .sl (x.rows.map (dL api_LinRow.d))]
theorem depend_checker.sz : Sz depend_checker.d 4 := ⟨fun _ => rfl⟩
def api_LinAnswer.d (x : api_LinAnswer) : D := .agg [.sl (x.Point.map dI), .sl (x.Proof.map api_LinNode.d)]
theorem api_LinAnswer.sz : Sz api_LinAnswer.d 2 := ⟨fun _ => rfl⟩
def depend_side.d (x : depend_side) : D := .agg [.bool x.known, .int .i64 x.n, .int .i64 x.row]
theorem depend_side.sz : Sz depend_side.d 3 := ⟨fun _ => rfl⟩
def depend_box.d (x : depend_box) : D := .agg [.sl (x.low.map depend_side.d), .sl (x.high.map depend_side.d)]
theorem depend_box.sz : Sz depend_box.d 2 := ⟨fun _ => rfl⟩
def depend_solver.d (x : depend_solver) : D := .agg [.int .i64 x.x.Vars, .sl (x.x.Rows.map api_LinRow.d), .sl (x.proof.map api_LinNode.d), .bool x.full]
theorem depend_solver.sz : Sz depend_solver.d 4 := ⟨fun _ => rfl⟩
end Go.Sh
namespace Go.Proofs.YtiidkobbkanciaaGreat
open Go.Lx Go.Sh
set_option linter.unusedVariables false
set_option maxRecDepth 100000
set_option maxHeartbeats 20000000
noncomputable abbrev PP : Program := Tryz.prog
theorem mixed : PP.follows .mixedOrders = true := by kernel_rfl
theorem aT26 : Aggr PP 26 2 := ⟨by kernel_rfl, by kernel_rfl⟩
theorem aT46 : Aggr PP 46 2 := ⟨by kernel_rfl, by kernel_rfl⟩
theorem aT52 : Aggr PP 52 2 := ⟨by kernel_rfl, by kernel_rfl⟩
theorem aT77 : Aggr PP 77 7 := ⟨by kernel_rfl, by kernel_rfl⟩
theorem aT90 : Aggr PP 90 3 := ⟨by kernel_rfl, by kernel_rfl⟩
theorem aT98 : Aggr PP 98 2 := ⟨by kernel_rfl, by kernel_rfl⟩
theorem aT105 : Aggr PP 105 3 := ⟨by kernel_rfl, by kernel_rfl⟩
theorem aT117 : Aggr PP 117 3 := ⟨by kernel_rfl, by kernel_rfl⟩
theorem aT123 : Aggr PP 123 2 := ⟨by kernel_rfl, by kernel_rfl⟩
theorem aT125 : Aggr PP 125 4 := ⟨by kernel_rfl, by kernel_rfl⟩
theorem aT142 : Aggr PP 142 2 := ⟨by kernel_rfl, by kernel_rfl⟩
theorem aT159 : Aggr PP 159 2 := ⟨by kernel_rfl, by kernel_rfl⟩
theorem aT195 : Aggr PP 195 3 := ⟨by kernel_rfl, by kernel_rfl⟩
theorem fT26_0 : Fld PP 26 0 3 0 1 := ⟨by kernel_rfl⟩
theorem fT26_1 : Fld PP 26 1 3 1 1 := ⟨by kernel_rfl⟩
theorem fT46_0 : Fld PP 46 0 3 0 1 := ⟨by kernel_rfl⟩
theorem fT46_1 : Fld PP 46 1 44 1 1 := ⟨by kernel_rfl⟩
theorem fT52_0 : Fld PP 52 0 48 0 1 := ⟨by kernel_rfl⟩
theorem fT52_1 : Fld PP 52 1 50 1 1 := ⟨by kernel_rfl⟩
theorem fT77_0 : Fld PP 77 0 3 0 1 := ⟨by kernel_rfl⟩
theorem fT77_1 : Fld PP 77 1 48 1 1 := ⟨by kernel_rfl⟩
theorem fT77_2 : Fld PP 77 2 3 2 1 := ⟨by kernel_rfl⟩
theorem fT77_3 : Fld PP 77 3 3 3 1 := ⟨by kernel_rfl⟩
theorem fT77_4 : Fld PP 77 4 3 4 1 := ⟨by kernel_rfl⟩
theorem fT77_5 : Fld PP 77 5 3 5 1 := ⟨by kernel_rfl⟩
theorem fT77_6 : Fld PP 77 6 3 6 1 := ⟨by kernel_rfl⟩
theorem fT90_0 : Fld PP 90 0 3 0 1 := ⟨by kernel_rfl⟩
theorem fT90_1 : Fld PP 90 1 88 1 1 := ⟨by kernel_rfl⟩
theorem fT90_2 : Fld PP 90 2 4 2 1 := ⟨by kernel_rfl⟩
theorem fT98_0 : Fld PP 98 0 3 0 1 := ⟨by kernel_rfl⟩
theorem fT98_1 : Fld PP 98 1 3 1 1 := ⟨by kernel_rfl⟩
theorem fT105_0 : Fld PP 105 0 48 0 1 := ⟨by kernel_rfl⟩
theorem fT105_1 : Fld PP 105 1 3 1 1 := ⟨by kernel_rfl⟩
theorem fT105_2 : Fld PP 105 2 4 2 1 := ⟨by kernel_rfl⟩
theorem fT117_0 : Fld PP 117 0 48 0 1 := ⟨by kernel_rfl⟩
theorem fT117_2 : Fld PP 117 2 48 2 1 := ⟨by kernel_rfl⟩
theorem fT123_0 : Fld PP 123 0 48 0 1 := ⟨by kernel_rfl⟩
theorem fT123_1 : Fld PP 123 1 3 1 1 := ⟨by kernel_rfl⟩
theorem fT125_0 : Fld PP 125 0 123 0 2 := ⟨by kernel_rfl⟩
theorem fT125_1 : Fld PP 125 1 123 2 2 := ⟨by kernel_rfl⟩
theorem fT142_0 : Fld PP 142 0 140 0 1 := ⟨by kernel_rfl⟩
theorem fT142_1 : Fld PP 142 1 140 1 1 := ⟨by kernel_rfl⟩
theorem fT147_0 : Fld PP 147 0 46 0 2 := ⟨by kernel_rfl⟩
theorem fT147_1 : Fld PP 147 1 50 2 1 := ⟨by kernel_rfl⟩
theorem fT147_2 : Fld PP 147 2 4 3 1 := ⟨by kernel_rfl⟩
theorem fT159_0 : Fld PP 159 0 4 0 1 := ⟨by kernel_rfl⟩
theorem fT159_1 : Fld PP 159 1 30 1 1 := ⟨by kernel_rfl⟩
theorem fT179_0 : Fld PP 179 0 46 0 2 := ⟨by kernel_rfl⟩
theorem fT179_1 : Fld PP 179 1 50 2 1 := ⟨by kernel_rfl⟩
theorem fT179_2 : Fld PP 179 2 177 3 1 := ⟨by kernel_rfl⟩
theorem fT195_0 : Fld PP 195 0 4 0 1 := ⟨by kernel_rfl⟩
theorem fT195_1 : Fld PP 195 1 3 1 1 := ⟨by kernel_rfl⟩
theorem fT195_2 : Fld PP 195 2 3 2 1 := ⟨by kernel_rfl⟩
theorem lT22 : Sli PP 22 125 4 64 (.agg [.nilsl, .int .i64 0, .nilsl, .int .i64 0]) := ⟨by kernel_rfl, by kernel_rfl, by kernel_rfl, by decide, by decide, by kernel_rfl, by kernel_rfl⟩
theorem lT23 : Sli PP 23 125 4 64 (.agg [.nilsl, .int .i64 0, .nilsl, .int .i64 0]) := ⟨by kernel_rfl, by kernel_rfl, by kernel_rfl, by decide, by decide, by kernel_rfl, by kernel_rfl⟩
theorem lT24 : Sli PP 24 90 3 40 (.agg [.int .i64 0, .nilsl, .bool false]) := ⟨by kernel_rfl, by kernel_rfl, by kernel_rfl, by decide, by decide, by kernel_rfl, by kernel_rfl⟩
theorem lT29 : Sli PP 29 117 3 72 (.agg [.nilsl, .nilsl, .nilsl]) := ⟨by kernel_rfl, by kernel_rfl, by kernel_rfl, by decide, by decide, by kernel_rfl, by kernel_rfl⟩
theorem lT35 : Sli PP 35 48 1 24 (.nilsl) := ⟨by kernel_rfl, by kernel_rfl, by kernel_rfl, by decide, by decide, by kernel_rfl, by kernel_rfl⟩
theorem lT44 : Sli PP 44 105 3 40 (.agg [.nilsl, .int .i64 0, .bool false]) := ⟨by kernel_rfl, by kernel_rfl, by kernel_rfl, by decide, by decide, by kernel_rfl, by kernel_rfl⟩
theorem lT48 : Sli PP 48 3 1 8 (.int .i64 0) := ⟨by kernel_rfl, by kernel_rfl, by kernel_rfl, by decide, by decide, by kernel_rfl, by kernel_rfl⟩
theorem lT49 : Sli PP 49 77 7 72 (.agg [.int .i64 0, .nilsl, .int .i64 0, .int .i64 0, .int .i64 0, .int .i64 0, .int .i64 0]) := ⟨by kernel_rfl, by kernel_rfl, by kernel_rfl, by decide, by decide, by kernel_rfl, by kernel_rfl⟩
theorem lT50 : Sli PP 50 77 7 72 (.agg [.int .i64 0, .nilsl, .int .i64 0, .int .i64 0, .int .i64 0, .int .i64 0, .int .i64 0]) := ⟨by kernel_rfl, by kernel_rfl, by kernel_rfl, by decide, by decide, by kernel_rfl, by kernel_rfl⟩
theorem lT56 : Sli PP 56 98 2 16 (.agg [.int .i64 0, .int .i64 0]) := ⟨by kernel_rfl, by kernel_rfl, by kernel_rfl, by decide, by decide, by kernel_rfl, by kernel_rfl⟩
theorem lT88 : Sli PP 88 123 2 32 (.agg [.nilsl, .int .i64 0]) := ⟨by kernel_rfl, by kernel_rfl, by kernel_rfl, by decide, by decide, by kernel_rfl, by kernel_rfl⟩
theorem lT140 : Sli PP 140 195 3 24 (.agg [.bool false, .int .i64 0, .int .i64 0]) := ⟨by kernel_rfl, by kernel_rfl, by kernel_rfl, by decide, by decide, by kernel_rfl, by kernel_rfl⟩
theorem lT177 : Sli PP 177 44 1 24 (.nilsl) := ⟨by kernel_rfl, by kernel_rfl, by kernel_rfl, by decide, by decide, by kernel_rfl, by kernel_rfl⟩
theorem lT226 : Sli PP 226 159 2 16 (.agg [.bool false, .int .i64 0]) := ⟨by kernel_rfl, by kernel_rfl, by kernel_rfl, by decide, by decide, by kernel_rfl, by kernel_rfl⟩
theorem lT227 : Sli PP 227 30 1 8 (.int .i64 0) := ⟨by kernel_rfl, by kernel_rfl, by kernel_rfl, by decide, by decide, by kernel_rfl, by kernel_rfl⟩
theorem mT223 : MapT PP 223 3 3 dI dI 0 := ⟨by kernel_rfl, by kernel_rfl, fun a b => by by_cases h : a = b <;> simp [dI, D.beq, h], fun a => by (simp only [keyOk]; kernel_rfl)⟩
theorem sT3 : Scal PP 3 := ⟨by kernel_rfl, by kernel_rfl⟩
theorem sT4 : Scal PP 4 := ⟨by kernel_rfl, by kernel_rfl⟩
theorem sT23 : Scal PP 23 := ⟨by kernel_rfl, by kernel_rfl⟩
theorem sT29 : Scal PP 29 := ⟨by kernel_rfl, by kernel_rfl⟩
theorem sT30 : Scal PP 30 := ⟨by kernel_rfl, by kernel_rfl⟩
theorem sT35 : Scal PP 35 := ⟨by kernel_rfl, by kernel_rfl⟩
theorem sT44 : Scal PP 44 := ⟨by kernel_rfl, by kernel_rfl⟩
theorem sT48 : Scal PP 48 := ⟨by kernel_rfl, by kernel_rfl⟩
theorem sT50 : Scal PP 50 := ⟨by kernel_rfl, by kernel_rfl⟩
theorem sT88 : Scal PP 88 := ⟨by kernel_rfl, by kernel_rfl⟩
theorem sT140 : Scal PP 140 := ⟨by kernel_rfl, by kernel_rfl⟩
theorem sT145 : Scal PP 145 := ⟨by kernel_rfl, by kernel_rfl⟩
theorem sT176 : Scal PP 176 := ⟨by kernel_rfl, by kernel_rfl⟩
theorem sT177 : Scal PP 177 := ⟨by kernel_rfl, by kernel_rfl⟩
theorem uT3 : PP.underlying 3 = some (.int .i64) := by kernel_rfl
theorem uT4 : PP.underlying 4 = some .bool := by kernel_rfl
theorem uT23 : PP.underlying 23 = some (.slice 125) := by kernel_rfl
theorem uT24 : PP.underlying 24 = some (.slice 90) := by kernel_rfl
theorem uT29 : PP.underlying 29 = some (.slice 117) := by kernel_rfl
theorem uT35 : PP.underlying 35 = some (.slice 48) := by kernel_rfl
theorem uT44 : PP.underlying 44 = some (.slice 105) := by kernel_rfl
theorem uT48 : PP.underlying 48 = some (.slice 3) := by kernel_rfl
theorem uT50 : PP.underlying 50 = some (.slice 77) := by kernel_rfl
theorem uT56 : PP.underlying 56 = some (.slice 98) := by kernel_rfl
theorem uT88 : PP.underlying 88 = some (.slice 123) := by kernel_rfl
theorem uT214 : PP.underlying 214 = some (.int .u64) := by kernel_rfl
theorem uT223 : PP.underlying 223 = some (.map 3 3) := by kernel_rfl
theorem zT3 : zeroA PP 3 = some [.d (.int .i64 0)] := by kernel_rfl
theorem zT29 : zeroA PP 29 = some [.d (.nilsl)] := by kernel_rfl
theorem zT35 : zeroA PP 35 = some [.d (.nilsl)] := by kernel_rfl
theorem zT46 : zeroA PP 46 = some [.d (.int .i64 0), .d (.nilsl)] := by kernel_rfl
theorem zT52 : zeroA PP 52 = some [.d (.nilsl), .d (.nilsl)] := by kernel_rfl
theorem zT77 : zeroA PP 77 = some [.d (.int .i64 0), .d (.nilsl), .d (.int .i64 0), .d (.int .i64 0), .d (.int .i64 0), .d (.int .i64 0), .d (.int .i64 0)] := by kernel_rfl
theorem zT90 : zeroA PP 90 = some [.d (.int .i64 0), .d (.nilsl), .d (.bool false)] := by kernel_rfl
theorem zT98 : zeroA PP 98 = some [.d (.int .i64 0), .d (.int .i64 0)] := by kernel_rfl
theorem zT105 : zeroA PP 105 = some [.d (.nilsl), .d (.int .i64 0), .d (.bool false)] := by kernel_rfl
theorem zT123 : zeroA PP 123 = some [.d (.nilsl), .d (.int .i64 0)] := by kernel_rfl
theorem zT125 : zeroA PP 125 = some [.d (.nilsl), .d (.int .i64 0), .d (.nilsl), .d (.int .i64 0)] := by kernel_rfl
theorem zT142 : zeroA PP 142 = some [.d (.nilsl), .d (.nilsl)] := by kernel_rfl
theorem zT159 : zeroA PP 159 = some [.d (.bool false), .d (.int .i64 0)] := by kernel_rfl
theorem zT176 : zeroA PP 176 = some [.d (.pnil)] := by kernel_rfl
theorem zT195 : zeroA PP 195 = some [.d (.bool false), .d (.int .i64 0), .d (.int .i64 0)] := by kernel_rfl
theorem law27_Form_ok {p0 : Int} {p1 : (List Int)} {out : Out} {r : api_Affine} (h : law27_Form p0 p1 = r) : FunOk PP 148 [.d (.int .i64 p0), .d (.sl (p1.map dI))] out ⟨.d (api_Affine.d r), []⟩ := by
  unfold law27_Form at h
  refine fi Tryz.func148 rfl (by kernel_rfl) (by kernel_rfl) (by kernel_rfl) ?_
  refine sr ?_
  refine ta (al (n := 0) zT123 rfl) ?_
  refine rn ?_
  refine sr ?_
  refine ts (mv rfl) ?_
  refine ts (mv rfl) ?_
  refine ts (bld (v := .d (api_Affine.d (api_Affine.mk p1 p0))) rfl (by kernel_rfl)) ?_
  refine tt0 (stW aT123 rfl rfl rfl rfl rfl rfl .h) ?_
  refine rn ?_
  refine CWp.ret ?_
  obtain rfl := h
  exact ⟨trivial, rt1 (ex := false) (by exact (rcW aT123 rfl (ow rfl) rfl rfl .n)) (by exact (gd (by rfl))) (by rfl) (by rfl)⟩
theorem law27_Triangle_ok {out : Out} {r : (List api_Loop)} (h : law27_Triangle = r) : FunOk PP 61 [] out ⟨.d (.sl (r.map api_Loop.d)), []⟩ := by
  unfold law27_Triangle at h
  refine fi Tryz.func61 rfl (by kernel_rfl) (by kernel_rfl) (by kernel_rfl) ?_
  refine sr ?_
  refine ts (ak.wk (x' := .sl (([] : List api_Loop).map api_Loop.d)) rfl) ?_
  refine rn ?_
  refine sr ?_
  refine ts (cln (f := fun _ => false) kf rfl (.c rfl le1 (.c rfl le1 .n)) (curOf_nil _) ((law27_Form_ok (rfl : law27_Form 1 [] = _)).args (.c (.w (.nil _) .n))) rfl) ?_
  refine ts (cln (f := fun _ => false) kf rfl (.c rfl le1 (.c rfl le1 .n)) (curOf_nil _) ((law27_Form_ok (rfl : law27_Form 4 [] = _)).args (.c (.w (.nil _) .n))) rfl) ?_
  refine ts (bld (v := .d (api_Loop.d (api_Loop.mk (law27_Form 1 []) (law27_Form 4 [])))) rfl (by kernel_rfl)) ?_
  refine ts (bsT (l := (([0] : List Int).map dI)) lT48 rfl rfl rfl (by kernel_rfl)) ?_
  refine ts (cln (f := fun _ => false) kf rfl (.c rfl le1 (.c rfl le2 .n)) (curOf_nil _) (law27_Form_ok (rfl : law27_Form 1 [0] = _)) rfl) ?_
  refine ts (bsT (l := (([1] : List Int).map dI)) lT48 rfl rfl rfl (by kernel_rfl)) ?_
  refine ts (cln (f := fun _ => false) kf rfl (.c rfl le1 (.c rfl le2 .n)) (curOf_nil _) (law27_Form_ok (rfl : law27_Form 0 [1] = _)) rfl) ?_
  refine ts (bld (v := .d (api_Loop.d (api_Loop.mk (law27_Form 1 [0]) (law27_Form 0 [1])))) rfl (by kernel_rfl)) ?_
  refine ts (bsT (l := (([(api_Loop.mk (law27_Form 1 []) (law27_Form 4 [])), (api_Loop.mk (law27_Form 1 [0]) (law27_Form 0 [1]))] : List api_Loop).map api_Loop.d)) lT23 rfl rfl rfl (by kernel_rfl)) ?_
  refine ts (as_ rfl) ?_
  refine rn ?_
  refine CWp.ret ?_
  obtain rfl := h
  exact ⟨trivial, rt1 (ex := false) (by exact (.t rfl .n)) (by exact gt) (by rfl) (by rfl)⟩
theorem depend_broken_ok {p0 : (List depend_rule)} {out : Out} {r : Int} (h : depend_broken p0 = some r) : FunOk PP 94 [.d (.sl (p0.map depend_rule.d))] out ⟨.d (.int .i64 r), []⟩ := by
  unfold depend_broken at h
  refine fi Tryz.func94 rfl (by kernel_rfl) (by kernel_rfl) (by kernel_rfl) ?_
  refine sr ?_
  refine ts (ac rfl rfl) ?_
  refine rn ?_
  refine CWp.seq ?_
  refine sr ?_
  refine ts (mv rfl) ?_
  refine ts (lnD lT226 rfl rfl) ?_
  refine ts (mv rfl) ?_
  refine rn ?_
  obtain ⟨z5, hz5, h⟩ := bnd h
  refine lbr (E := fun s1 => [(5, .d (.sl (p0.map depend_rule.d))), (6, .d (.int .i64 (p0.length : Int))), (7, .d (.int .i64 s1))]) (M := fun s1 => ⟨[], out, []⟩) (E' := fun y => []) (M' := fun y => ⟨[], out, []⟩) (RT := fun r e s => Lx.Returns PP Tryz.f94.results.toList e s ⟨.d (.int .i64 r), []⟩) hz5 (by (try simp only [List.length_set, copied_len]); exact trk (by kernel_rfl) (by kernel_rfl) (by kernel_rfl)) ?_ ?_
  · intro s1 ww h
    unfold depend_broken.s1 at h
    refine sr ?_
    refine ts (lss rfl rfl) ?_
    refine rn ?_
    refine CWp.seq ?_
    rcases ite h with ⟨c2, h⟩ | ⟨c2, h⟩
    · refine ct rfl (bt c2) ?_
      refine CWp.skip ?_
      refine CWp.seq ?_
      refine CWp.block ?_
      refine sr ?_
      obtain ⟨x3, hx3, h⟩ := bnd h
      refine ts (ixD lT226 depend_rule.sz rfl rfl hx3) ?_
      refine ts (ldIW aT159 rfl rfl rfl) ?_
      refine ta (al (n := 0) zT159 rfl) ?_
      refine tt0 (stW aT159 rfl rfl rfl rfl rfl rfl .h) ?_
      refine rn ?_
      refine CWp.trim (Le.fzBox (t := 4) (e := depend_rule.d x3) (env' := [(5, .d (.sl (p0.map depend_rule.d))), (6, .d (.int .i64 (p0.length : Int))), (7, .d (.int .i64 s1)), (9, .pimm (depend_rule.d x3) 0), (10, .d (depend_rule.d x3))]) (loc' := []) rfl rfl rfl rfl (by (try simp only [List.length_set, copied_len]); exact trkT (by kernel_rfl) (by kernel_rfl) (by kernel_rfl))) ?_
      refine sr ?_
      refine ts (faI fT159_0 rfl rfl) ?_
      refine ts (ldI sT4 rfl rfl) ?_
      refine ts (not_ rfl) ?_
      refine rn ?_
      rcases ite h with ⟨c4, h⟩ | ⟨c4, h⟩
      · refine ct rfl (not_t (vf c4)) ?_
        refine sr ?_
        refine ts (faI fT159_1 rfl rfl) ?_
        refine ts (ldI sT30 rfl rfl) ?_
        refine ts (as_ rfl) ?_
        refine rn ?_
        refine CWp.ret ?_
        obtain rfl := some_inj h
        exact ⟨rfl, rt1 (ex := false) (by exact (.t rfl .n)) (by exact (gd (by rfl))) (by rfl) (by rfl)⟩
      · refine cf rfl (not_f (Classical.not_not.1 c4)) ?_
        refine CWp.skip ?_
        refine lr ?_
        refine ts (add rfl rfl) ?_
        refine ts (mv rfl) ?_
        refine rn ?_
        obtain rfl := some_inj h
        exact ⟨rfl, (by (try simp only [List.length_set, copied_len]); exact trk (by kernel_rfl) (by kernel_rfl) (by kernel_rfl))⟩
    · refine cf rfl (bf c2) ?_
      refine CWp.exit ?_
      obtain rfl := some_inj h
      exact ⟨rfl, (by (try simp only [List.length_set, copied_len]); exact trk (by kernel_rfl) (by kernel_rfl) (by kernel_rfl))⟩
  · cases z5 with
    | inl v6 =>
      intro e s ht
      refine CWp.trim ht ?_
      refine sr ?_
      refine ts (ac rfl rfl) ?_
      refine rn ?_
      refine CWp.ret ?_
      obtain rfl := some_inj h
      exact ⟨trivial, rt1 (ex := false) (by exact (.t rfl .n)) (by exact (gd (by rfl))) (by rfl) (by rfl)⟩
    | inr r7 =>
      intro e s hr
      obtain rfl := some_inj h
      exact ⟨trivial, hr⟩
theorem depend_inside_ok {p0 : Int} {p1 : Int} {p2 : Int} {out : Out} {r : Bool} (h : depend_inside p0 p1 p2 = r) : FunOk PP 102 [.d (.int .i64 p0), .d (.int .i64 p1), .d (.int .i64 p2)] out ⟨.d (.bool r), []⟩ := by
  unfold depend_inside at h
  refine fi Tryz.func102 rfl (by kernel_rfl) (by kernel_rfl) (by kernel_rfl) ?_
  refine sr ?_
  refine ts (ac rfl rfl) ?_
  refine rn ?_
  refine sr ?_
  refine ts (mv rfl) ?_
  refine ts (mv rfl) ?_
  refine ts (geq rfl rfl) ?_
  refine ts (mv rfl) ?_
  refine sg 4 [(14, .d (.bool ((decide (p0 ≥ p1)) && (decide (p0 ≤ p2)))))] ?_ ?_
  · rcases bool_or (decide (p0 ≥ p1)) with g1 | g2
    · refine us (gy rfl rfl g1) (mv rfl) ?_
      refine us (gy rfl rfl g1) (mv rfl) ?_
      refine us (gy rfl rfl g1) (leq rfl rfl) ?_
      refine ts (pt rfl g1 rfl) ?_
      exact rn (trD 4 rfl (.c (bq (and_t g1)) .n) (by kernel_rfl))
    · refine un (gn rfl rfl g2) ?_
      refine un (gn rfl rfl g2) ?_
      refine un (gn rfl rfl g2) ?_
      refine ts (pf rfl g2 rfl) ?_
      exact rn (trD 4 rfl (.c (bq (and_f g2)) .n) (by kernel_rfl))
  refine ts (as_ rfl) ?_
  refine rn ?_
  refine CWp.ret ?_
  obtain rfl := h
  exact ⟨trivial, rt1 (ex := false) (by exact (.t rfl .n)) (by exact (gd (by rfl))) (by rfl) (by rfl)⟩
theorem depend_formErr_c1_ok {p0 : Int} {out : Out} {r : Bool} (h : depend_formErr_c1 p0 = r) : FunOk PP 168 [.d (.int .i64 p0)] out ⟨.d (.bool r), []⟩ := by
  unfold depend_formErr_c1 at h
  refine fi Tryz.func168 rfl (by kernel_rfl) (by kernel_rfl) (by kernel_rfl) ?_
  refine sr ?_
  refine ts (ac rfl rfl) ?_
  refine rn ?_
  refine sr ?_
  refine ts (mv rfl) ?_
  refine ts (cln (f := fun _ => false) kf rfl (.c rfl le1 (.c rfl le1 (.c rfl le1 .n))) (curOf_nil _) (depend_inside_ok (rfl : depend_inside p0 (-8) 8 = _)) rfl) ?_
  refine ts (not_ rfl) ?_
  refine ts (as_ rfl) ?_
  refine rn ?_
  refine CWp.ret ?_
  obtain rfl := h
  exact ⟨trivial, rt1 (ex := false) (by exact (.t rfl .n)) (by exact (gd (by rfl))) (by rfl) (by rfl)⟩
theorem slices_IndexFunc_int__depend_formErr_c1_ok {p0 : (List Int)} {out : Out} {r : Int} (h : slices_IndexFunc_int__depend_formErr_c1 p0 = some r) : FunOk PP 175 [.d (.sl (p0.map dI)), .d (.fn 168)] out ⟨.d (.int .i64 r), []⟩ := by
  unfold slices_IndexFunc_int__depend_formErr_c1 at h
  refine fi Tryz.func175 rfl (by kernel_rfl) (by kernel_rfl) (by kernel_rfl) ?_
  refine sr ?_
  refine ts (ac rfl rfl) ?_
  refine rn ?_
  refine CWp.seq ?_
  refine sr ?_
  refine ts (mv rfl) ?_
  refine ts (lnD lT48 rfl rfl) ?_
  refine ts (mv rfl) ?_
  refine rn ?_
  obtain ⟨z5, hz5, h⟩ := bnd h
  refine lbr (E := fun s1 => [(0, .d (.sl (p0.map dI))), (1, .d (.fn 168)), (7, .d (.int .i64 (p0.length : Int))), (8, .d (.int .i64 s1))]) (M := fun s1 => ⟨[], out, []⟩) (E' := fun y => []) (M' := fun y => ⟨[], out, []⟩) (RT := fun r e s => Lx.Returns PP Tryz.f175.results.toList e s ⟨.d (.int .i64 r), []⟩) hz5 (by (try simp only [List.length_set, copied_len]); exact trk (by kernel_rfl) (by kernel_rfl) (by kernel_rfl)) ?_ ?_
  · intro s1 ww h
    unfold slices_IndexFunc_int__depend_formErr_c1.s1 at h
    refine sr ?_
    refine ts (lss rfl rfl) ?_
    refine rn ?_
    refine CWp.seq ?_
    rcases ite h with ⟨c2, h⟩ | ⟨c2, h⟩
    · refine ct rfl (bt c2) ?_
      refine CWp.skip ?_
      refine CWp.seq ?_
      refine CWp.block ?_
      refine sr ?_
      refine ts (mv rfl) ?_
      refine ts (as_ rfl) ?_
      refine rn ?_
      refine sr ?_
      refine ts (mv rfl) ?_
      refine ts (mv rfl) ?_
      refine ts (mv rfl) ?_
      obtain ⟨x3, hx3, h⟩ := bnd h
      refine ts (ixD lT48 szI rfl rfl hx3) ?_
      refine ts (ldI sT3 rfl rfl) ?_
      refine ts (cln (f := fun _ => false) (kt rfl) rfl (.c rfl le1 .n) (curOf_nil _) (depend_formErr_c1_ok (rfl : depend_formErr_c1 x3 = _)) rfl) ?_
      refine rn ?_
      rcases ite h with ⟨c4, h⟩ | ⟨c4, h⟩
      · refine ct rfl c4 ?_
        refine sr ?_
        refine ts (mv rfl) ?_
        refine ts (as_ rfl) ?_
        refine rn ?_
        refine CWp.ret ?_
        obtain rfl := some_inj h
        exact ⟨rfl, rt1 (ex := false) (by exact (.t rfl .n)) (by exact (gd (by rfl))) (by rfl) (by rfl)⟩
      · refine cf rfl (vf c4) ?_
        refine CWp.skip ?_
        refine lr ?_
        refine ts (add rfl rfl) ?_
        refine ts (mv rfl) ?_
        refine rn ?_
        obtain rfl := some_inj h
        exact ⟨rfl, (by (try simp only [List.length_set, copied_len]); exact trk (by kernel_rfl) (by kernel_rfl) (by kernel_rfl))⟩
    · refine cf rfl (bf c2) ?_
      refine CWp.exit ?_
      obtain rfl := some_inj h
      exact ⟨rfl, (by (try simp only [List.length_set, copied_len]); exact trk (by kernel_rfl) (by kernel_rfl) (by kernel_rfl))⟩
  · cases z5 with
    | inl v6 =>
      intro e s ht
      refine CWp.trim ht ?_
      refine sr ?_
      refine ts (ac rfl rfl) ?_
      refine rn ?_
      refine CWp.ret ?_
      obtain rfl := some_inj h
      exact ⟨trivial, rt1 (ex := false) (by exact (.t rfl .n)) (by exact (gd (by rfl))) (by rfl) (by rfl)⟩
    | inr r7 =>
      intro e s hr
      obtain rfl := some_inj h
      exact ⟨trivial, hr⟩
theorem slices_ContainsFunc_int__depend_formErr_c1_ok {p0 : (List Int)} {out : Out} {r : Bool} (h : slices_ContainsFunc_int__depend_formErr_c1 p0 = some r) : FunOk PP 115 [.d (.sl (p0.map dI)), .d (.fn 168)] out ⟨.d (.bool r), []⟩ := by
  unfold slices_ContainsFunc_int__depend_formErr_c1 at h
  refine fi Tryz.func115 rfl (by kernel_rfl) (by kernel_rfl) (by kernel_rfl) ?_
  refine sr ?_
  refine ts (ac rfl rfl) ?_
  refine rn ?_
  refine sr ?_
  refine ts (mv rfl) ?_
  refine ts (mv rfl) ?_
  obtain ⟨x1, hx1, h⟩ := bnd h
  refine ts (cln (f := fun _ => false) kf rfl (.c rfl le1 (.c rfl le1 .n)) (curOf_nil _) (slices_IndexFunc_int__depend_formErr_c1_ok hx1) rfl) ?_
  refine ts (geq rfl rfl) ?_
  refine ts (as_ rfl) ?_
  refine rn ?_
  refine CWp.ret ?_
  obtain rfl := some_inj h
  exact ⟨trivial, rt1 (ex := false) (by exact (.t rfl .n)) (by exact (gd (by rfl))) (by rfl) (by rfl)⟩
theorem depend_formErr_ok {p0 : api_Affine} {p1 : Int} {out : Out} {r : Int} (h : depend_formErr p0 p1 = some r) : FunOk PP 98 [.d (api_Affine.d p0), .d (.int .i64 p1)] out ⟨.d (.int .i64 r), []⟩ := by
  unfold depend_formErr at h
  refine fi Tryz.func98 rfl (by kernel_rfl) (by kernel_rfl) (by kernel_rfl) ?_
  refine sr ?_
  refine ts (bxI rfl) ?_
  refine ts (ac rfl rfl) ?_
  refine rn ?_
  refine sr ?_
  refine ts (faI fT123_0 rfl rfl) ?_
  refine ts (ldI sT48 rfl rfl) ?_
  obtain ⟨x1, hx1, h⟩ := bnd h
  refine ts (cln (f := fun _ => false) kf rfl (.c rfl le1 (.c rfl le1 .n)) (curOf_nil _) (slices_ContainsFunc_int__depend_formErr_c1_ok hx1) rfl) ?_
  refine ts (as_ rfl) ?_
  refine rn ?_
  refine sd mixed (b := [0, 1, 3, 0, 15, 31, 0, 64, 192, 448, 960, 1984, 4032, 8128, 16383, 32767, 65535]) (by kernel_rfl) ?_
  refine ds (faI fT123_0 rfl rfl) rfl ?_
  refine ds (ldI sT48 rfl rfl) rfl ?_
  refine ds (lnD lT48 rfl rfl) rfl ?_
  refine ds (mv rfl) rfl ?_
  refine ds (eql rfl rfl) rfl ?_
  refine ds (bld (v := .d (depend_rule.d (depend_rule.mk ((p0.Coefs.length : Int) == p1) 10))) rfl (by kernel_rfl)) rfl ?_
  refine ds (mv rfl) rfl ?_
  refine ds (not_ rfl) rfl ?_
  refine ds (mv rfl) rfl ?_
  rcases ite h with ⟨c2, h⟩ | ⟨c2, h⟩
  · refine vs (gy rfl rfl (not_t (vf c2))) (faI fT123_1 rfl rfl) rfl ?_
    refine vs (gy rfl rfl (not_t (vf c2))) (ldI sT3 rfl rfl) rfl ?_
    refine vs (gy rfl rfl (not_t (vf c2))) (cln (f := fun _ => false) kf rfl (.c rfl le1 (.c rfl le1 (.c rfl le1 .n))) (curOf_nil _) (depend_inside_ok (rfl : depend_inside p0.Const (-64) 64 = _)) rfl) rfl ?_
    refine ds (pt rfl (not_t (vf c2)) rfl) rfl ?_
    refine ds (bld (v := .d (depend_rule.d (depend_rule.mk (depend_inside p0.Const (-64) 64) 2))) rfl (by kernel_rfl)) rfl ?_
    refine ds (bsT (l := (([(depend_rule.mk ((p0.Coefs.length : Int) == p1) 10), (depend_rule.mk (depend_inside p0.Const (-64) 64) 2)] : List depend_rule).map depend_rule.d)) lT226 rfl rfl rfl (by kernel_rfl)) rfl ?_
    obtain ⟨x3, hx3, h⟩ := bnd h
    refine dr (cln (f := fun _ => false) kf rfl (.c rfl le2 .n) (curOf_nil _) (depend_broken_ok hx3) rfl) rfl ?_
    refine ds (as_ rfl) rfl ?_
    refine dn (by kernel_rfl) ?_
    refine CWp.ret ?_
    obtain rfl := some_inj h
    exact ⟨trivial, rt1 (ex := false) (by exact (.t rfl .n)) (by exact (gd (by rfl))) (by rfl) (by rfl)⟩
  · refine vn (gn rfl rfl (not_f (Classical.not_not.1 c2))) ?_
    refine vn (gn rfl rfl (not_f (Classical.not_not.1 c2))) ?_
    refine vn (gn rfl rfl (not_f (Classical.not_not.1 c2))) ?_
    refine ds (pf rfl (not_f (Classical.not_not.1 c2)) rfl) rfl ?_
    refine ds (bld (v := .d (depend_rule.d (depend_rule.mk false 2))) rfl (by kernel_rfl)) rfl ?_
    refine ds (bsT (l := (([(depend_rule.mk ((p0.Coefs.length : Int) == p1) 10), (depend_rule.mk false 2)] : List depend_rule).map depend_rule.d)) lT226 rfl rfl rfl (by kernel_rfl)) rfl ?_
    obtain ⟨x4, hx4, h⟩ := bnd h
    refine dr (cln (f := fun _ => false) kf rfl (.c rfl le2 .n) (curOf_nil _) (depend_broken_ok hx4) rfl) rfl ?_
    refine ds (as_ rfl) rfl ?_
    refine dn (by kernel_rfl) ?_
    refine CWp.ret ?_
    obtain rfl := some_inj h
    exact ⟨trivial, rt1 (ex := false) (by exact (.t rfl .n)) (by exact (gd (by rfl))) (by rfl) (by rfl)⟩
theorem cmp_Or_api_Errno_ok {p0 : (List Int)} {out : Out} {r : Int} (h : cmp_Or_api_Errno p0 = some r) : FunOk PP 97 [.d (.sl (p0.map dI))] out ⟨.d (.int .i64 r), []⟩ := by
  unfold cmp_Or_api_Errno at h
  refine fi Tryz.func97 rfl (by kernel_rfl) (by kernel_rfl) (by kernel_rfl) ?_
  refine sr ?_
  refine ts (ac rfl rfl) ?_
  refine rn ?_
  refine sr ?_
  refine ts (ac rfl rfl) ?_
  refine rn ?_
  refine CWp.seq ?_
  refine sr ?_
  refine ts (mv rfl) ?_
  refine ts (lnD lT227 rfl rfl) ?_
  refine ts (mv rfl) ?_
  refine rn ?_
  obtain ⟨z5, hz5, h⟩ := bnd h
  refine lbr (E := fun s1 => [(3, .d (.int .i64 0)), (6, .d (.sl (p0.map dI))), (7, .d (.int .i64 (p0.length : Int))), (8, .d (.int .i64 s1))]) (M := fun s1 => ⟨[], out, []⟩) (E' := fun y => [(3, .d (.int .i64 0))]) (M' := fun y => ⟨[], out, []⟩) (RT := fun r e s => Lx.Returns PP Tryz.f97.results.toList e s ⟨.d (.int .i64 r), []⟩) hz5 (by (try simp only [List.length_set, copied_len]); exact trk (by kernel_rfl) (by kernel_rfl) (by kernel_rfl)) ?_ ?_
  · intro s1 ww h
    unfold cmp_Or_api_Errno.s1 at h
    refine sr ?_
    refine ts (lss rfl rfl) ?_
    refine rn ?_
    refine CWp.seq ?_
    rcases ite h with ⟨c2, h⟩ | ⟨c2, h⟩
    · refine ct rfl (bt c2) ?_
      refine CWp.skip ?_
      refine CWp.seq ?_
      refine CWp.block ?_
      refine sr ?_
      obtain ⟨x3, hx3, h⟩ := bnd h
      refine ts (ixD lT227 szI rfl rfl hx3) ?_
      refine ts (ldI sT30 rfl rfl) ?_
      refine ts (as_ rfl) ?_
      refine rn ?_
      refine sr ?_
      refine ts (mv rfl) ?_
      refine ts (mv rfl) ?_
      refine ts (neq rfl rfl) ?_
      refine rn ?_
      rcases ite h with ⟨c4, h⟩ | ⟨c4, h⟩
      · refine ct rfl (nt c4) ?_
        refine sr ?_
        refine ts (mv rfl) ?_
        refine ts (as_ rfl) ?_
        refine rn ?_
        refine CWp.ret ?_
        obtain rfl := some_inj h
        exact ⟨rfl, rt1 (ex := false) (by exact (.t rfl .n)) (by exact (gd (by rfl))) (by rfl) (by rfl)⟩
      · refine cf rfl (nf c4) ?_
        refine CWp.skip ?_
        refine lr ?_
        refine ts (add rfl rfl) ?_
        refine ts (mv rfl) ?_
        refine rn ?_
        obtain rfl := some_inj h
        exact ⟨rfl, (by (try simp only [List.length_set, copied_len]); exact trk (by kernel_rfl) (by kernel_rfl) (by kernel_rfl))⟩
    · refine cf rfl (bf c2) ?_
      refine CWp.exit ?_
      obtain rfl := some_inj h
      exact ⟨rfl, (by (try simp only [List.length_set, copied_len]); exact trk (by kernel_rfl) (by kernel_rfl) (by kernel_rfl))⟩
  · cases z5 with
    | inl v6 =>
      intro e s ht
      refine CWp.trim ht ?_
      refine sr ?_
      refine ts (mv rfl) ?_
      refine ts (as_ rfl) ?_
      refine rn ?_
      refine CWp.ret ?_
      obtain rfl := some_inj h
      exact ⟨trivial, rt1 (ex := false) (by exact (.t rfl .n)) (by exact (gd (by rfl))) (by rfl) (by rfl)⟩
    | inr r7 =>
      intro e s hr
      obtain rfl := some_inj h
      exact ⟨trivial, hr⟩
theorem depend_CheckNest_c1_ok {p0 : Int} {p1 : api_Loop} {out : Out} {r : Int} (h : depend_CheckNest_c1 p0 p1 = some r) : FunOk PP 96 [.d (.int .i64 p0), .d (api_Loop.d p1)] out ⟨.d (.int .i64 r), []⟩ := by
  unfold depend_CheckNest_c1 at h
  refine fi Tryz.func96 rfl (by kernel_rfl) (by kernel_rfl) (by kernel_rfl) ?_
  refine sr ?_
  refine ts (bxI rfl) ?_
  refine ts (ac rfl rfl) ?_
  refine rn ?_
  refine sd mixed (b := [0, 1, 0, 7, 0, 16, 0, 127, 255, 511, 1023]) (by kernel_rfl) ?_
  refine ds (faI fT125_0 rfl rfl) rfl ?_
  refine ds (ldIA (y := api_Affine.d (api_Affine.mk p1.Low.Coefs p1.Low.Const)) aT123 rfl (by kernel_rfl)) rfl ?_
  refine ds (mv rfl) rfl ?_
  obtain ⟨x1, hx1, h⟩ := bnd h
  refine dr (cln (f := fun _ => false) kf rfl (.c rfl le1 (.c rfl le1 .n)) (curOf_nil _) (depend_formErr_ok hx1) rfl) rfl ?_
  refine ds (faI fT125_1 rfl rfl) rfl ?_
  refine ds (ldIA (y := api_Affine.d (api_Affine.mk p1.High.Coefs p1.High.Const)) aT123 rfl (by kernel_rfl)) rfl ?_
  refine ds (mv rfl) rfl ?_
  obtain ⟨x2, hx2, h⟩ := bnd h
  refine dr (cln (f := fun _ => false) kf rfl (.c rfl le1 (.c rfl le1 .n)) (curOf_nil _) (depend_formErr_ok hx2) rfl) rfl ?_
  refine ds (bsT (l := (([x1, x2] : List Int).map dI)) lT227 rfl rfl rfl (by kernel_rfl)) rfl ?_
  obtain ⟨x3, hx3, h⟩ := bnd h
  refine dr (cln (f := fun _ => false) kf rfl (.c rfl le2 .n) (curOf_nil _) (cmp_Or_api_Errno_ok hx3) rfl) rfl ?_
  refine ds (as_ rfl) rfl ?_
  refine dn (by kernel_rfl) ?_
  refine CWp.ret ?_
  obtain rfl := some_inj h
  exact ⟨trivial, rt1 (ex := false) (by exact (.t rfl .n)) (by exact (gd (by rfl))) (by rfl) (by rfl)⟩
theorem depend_firstBad_api_Loop__depend_CheckNest_c1_ok {p0 : (List api_Loop)} {out : Out} {r : Int × Int} (h : depend_firstBad_api_Loop__depend_CheckNest_c1 p0 = some r) : FunOk PP 95 [.d (.sl (p0.map api_Loop.d)), .d (.fn 96)] out ⟨.tup [.d (.int .i64 r.1), .d (.int .i64 r.2)], []⟩ := by
  unfold depend_firstBad_api_Loop__depend_CheckNest_c1 at h
  refine fi Tryz.func95 rfl (by kernel_rfl) (by kernel_rfl) (by kernel_rfl) ?_
  refine sr ?_
  refine ts (ac rfl rfl) ?_
  refine ts (ac rfl rfl) ?_
  refine rn ?_
  refine CWp.seq ?_
  refine sr ?_
  refine ts (mv rfl) ?_
  refine ts (lnD lT22 rfl rfl) ?_
  refine ts (mv rfl) ?_
  refine rn ?_
  obtain ⟨z6, hz6, h⟩ := bnd h
  refine lbr (E := fun s1 => [(1, .d (.fn 96)), (9, .d (.sl (p0.map api_Loop.d))), (10, .d (.int .i64 (p0.length : Int))), (11, .d (.int .i64 s1))]) (M := fun s1 => ⟨[], out, []⟩) (E' := fun y => []) (M' := fun y => ⟨[], out, []⟩) (RT := fun r e s => Lx.Returns PP Tryz.f95.results.toList e s ⟨.tup [.d (.int .i64 r.1), .d (.int .i64 r.2)], []⟩) hz6 (by (try simp only [List.length_set, copied_len]); exact trk (by kernel_rfl) (by kernel_rfl) (by kernel_rfl)) ?_ ?_
  · intro s1 ww h
    unfold depend_firstBad_api_Loop__depend_CheckNest_c1.s1 at h
    refine sr ?_
    refine ts (lss rfl rfl) ?_
    refine rn ?_
    refine CWp.seq ?_
    rcases ite h with ⟨c2, h⟩ | ⟨c2, h⟩
    · refine ct rfl (bt c2) ?_
      refine CWp.skip ?_
      refine CWp.seq ?_
      refine CWp.block ?_
      refine sr ?_
      refine ts (mv rfl) ?_
      obtain ⟨x3, hx3, h⟩ := bnd h
      refine ts (ixD lT22 api_Loop.sz rfl rfl hx3) ?_
      refine ts (ldIW aT125 rfl rfl rfl) ?_
      refine ta (al (n := 0) zT125 rfl) ?_
      refine ts (as_ rfl) ?_
      refine tt0 (stW aT125 rfl rfl rfl rfl rfl rfl .h) ?_
      refine rn ?_
      refine sr ?_
      refine ts (mv rfl) ?_
      refine ts (mv rfl) ?_
      refine ts (ldW (e := api_Loop.d x3) aT125 rfl (ow rfl) rfl rfl) ?_
      obtain ⟨x4, hx4, h⟩ := bnd h
      refine ts (cln (f := fun _ => false) (kt rfl) rfl (.c rfl le1 (.c rfl le1 .n)) (curOf_nil _) (depend_CheckNest_c1_ok hx4) rfl) ?_
      refine ts (as_ rfl) ?_
      refine rn ?_
      refine sr ?_
      refine ts (mv rfl) ?_
      refine ts (neq rfl rfl) ?_
      refine rn ?_
      rcases ite h with ⟨c5, h⟩ | ⟨c5, h⟩
      · refine ct rfl (nt c5) ?_
        refine sr ?_
        refine ts (mv rfl) ?_
        refine ts (mv rfl) ?_
        refine ts (as_ rfl) ?_
        refine ts (as_ rfl) ?_
        refine rn ?_
        refine CWp.ret ?_
        obtain rfl := some_inj h
        exact ⟨rfl, rt2 (ex := false) (by exact (.t rfl (.t rfl .n))) (by exact (sc (gd (by rfl)) (sc (gd (by rfl)) sn))) (by rfl) (by rfl)⟩
      · refine cf rfl (nf c5) ?_
        refine CWp.skip ?_
        refine lr ?_
        refine ts (add rfl rfl) ?_
        refine ts (mv rfl) ?_
        refine rn ?_
        obtain rfl := some_inj h
        exact ⟨rfl, (by (try simp only [List.length_set, copied_len]); exact trk (by kernel_rfl) (by kernel_rfl) (by kernel_rfl))⟩
    · refine cf rfl (bf c2) ?_
      refine CWp.exit ?_
      obtain rfl := some_inj h
      exact ⟨rfl, (by (try simp only [List.length_set, copied_len]); exact trk (by kernel_rfl) (by kernel_rfl) (by kernel_rfl))⟩
  · cases z6 with
    | inl v7 =>
      intro e s ht
      refine CWp.trim ht ?_
      refine sr ?_
      refine ts (ac rfl rfl) ?_
      refine ts (ac rfl rfl) ?_
      refine rn ?_
      refine CWp.ret ?_
      obtain rfl := some_inj h
      exact ⟨trivial, rt2 (ex := false) (by exact (.t rfl (.t rfl .n))) (by exact (sc (gd (by rfl)) (sc (gd (by rfl)) sn))) (by rfl) (by rfl)⟩
    | inr r8 =>
      intro e s hr
      obtain rfl := some_inj h
      exact ⟨trivial, hr⟩
theorem depend_least_ok {p0 : api_Affine} {p1 : (List api_Hull)} {out : Out} {r : Int} (h : depend_least p0 p1 = some r) : FunOk PP 170 [.d (api_Affine.d p0), .d (.sl (p1.map api_Hull.d))] out ⟨.d (.int .i64 r), []⟩ := by
  unfold depend_least at h
  refine fi Tryz.func170 rfl (by kernel_rfl) (by kernel_rfl) (by kernel_rfl) ?_
  refine sr ?_
  refine ts (bxI rfl) ?_
  refine ts (ac rfl rfl) ?_
  refine rn ?_
  refine sr ?_
  refine ts (faI fT123_1 rfl rfl) ?_
  refine ts (ldI sT3 rfl rfl) ?_
  refine ts (as_ rfl) ?_
  refine rn ?_
  refine CWp.seq ?_
  refine sr ?_
  refine ts (faI fT123_0 rfl rfl) ?_
  refine ts (ldI sT48 rfl rfl) ?_
  refine ts (lnD lT48 rfl rfl) ?_
  refine ts (mv rfl) ?_
  refine rn ?_
  obtain ⟨z6, hz6, h⟩ := bnd h
  refine lb (E := fun s1 => [(1, .d (.sl (p1.map api_Hull.d))), (5, .d (.int .i64 s1.1)), (11, .d (.sl (p0.Coefs.map dI))), (12, .d (.int .i64 (p0.Coefs.length : Int))), (13, .d (.int .i64 s1.2))]) (M := fun s1 => ⟨[], out, []⟩) (E' := fun y => [(5, .d (.int .i64 y))]) (M' := fun y => ⟨[], out, []⟩) hz6 (by (try simp only [List.length_set, copied_len]); exact trk (by kernel_rfl) (by kernel_rfl) (by kernel_rfl)) ?_ ?_
  · intro s1 ww h
    unfold depend_least.s1 at h
    refine sr ?_
    refine ts (lss rfl rfl) ?_
    refine rn ?_
    refine CWp.seq ?_
    rcases ite h with ⟨c2, h⟩ | ⟨c2, h⟩
    · refine ct rfl (bt c2) ?_
      refine CWp.skip ?_
      refine CWp.seq ?_
      refine CWp.block ?_
      refine sr ?_
      refine ts (mv rfl) ?_
      obtain ⟨x3, hx3, h⟩ := bnd h
      refine ts (ixD lT48 szI rfl rfl hx3) ?_
      refine ts (ldI sT3 rfl rfl) ?_
      refine ts (as_ rfl) ?_
      refine ts (as_ rfl) ?_
      refine rn ?_
      refine ld_ mixed (b := [0, 0, 0, 0, 12, 28, 60, 126, 0, 0, 0, 1536, 3584, 7680, 16128, 32766, 65535, 131071]) (by kernel_rfl) ?_
      refine ds (mv rfl) rfl ?_
      refine ds (mv rfl) rfl ?_
      refine ds (mv rfl) rfl ?_
      refine ds (mv rfl) rfl ?_
      obtain ⟨x4, hx4, h⟩ := bnd h
      refine ds (ixD lT56 api_Hull.sz rfl rfl hx4) rfl ?_
      refine ds (faI fT98_0 rfl rfl) rfl ?_
      refine ds (ldI sT3 rfl rfl) rfl ?_
      refine ds (mul rfl rfl) rfl ?_
      refine ds (mv rfl) rfl ?_
      refine ds (mv rfl) rfl ?_
      refine ds (mv rfl) rfl ?_
      obtain ⟨x5, hx5, h⟩ := bnd h
      refine ds (ixD lT56 api_Hull.sz rfl rfl hx5) rfl ?_
      refine ds (faI fT98_1 rfl rfl) rfl ?_
      refine ds (ldI sT3 rfl rfl) rfl ?_
      refine ds (mul rfl rfl) rfl ?_
      refine ds (mn_ rfl) rfl ?_
      refine ds (add rfl rfl) rfl ?_
      refine ds (as_ rfl) rfl ?_
      refine dn (by kernel_rfl) ?_
      refine lr ?_
      refine ts (add rfl rfl) ?_
      refine ts (mv rfl) ?_
      refine rn ?_
      obtain rfl := some_inj h
      exact ⟨rfl, (by (try simp only [List.length_set, copied_len]); exact trk (by kernel_rfl) (by kernel_rfl) (by kernel_rfl))⟩
    · refine cf rfl (bf c2) ?_
      refine CWp.exit ?_
      obtain rfl := some_inj h
      exact ⟨rfl, (by (try simp only [List.length_set, copied_len]); exact trk (by kernel_rfl) (by kernel_rfl) (by kernel_rfl))⟩
  · intro e s ht
    refine CWp.trim ht ?_
    refine sr ?_
    refine ts (mv rfl) ?_
    refine ts (as_ rfl) ?_
    refine rn ?_
    refine CWp.ret ?_
    obtain rfl := some_inj h
    exact ⟨trivial, rt1 (ex := false) (by exact (.t rfl .n)) (by exact (gd (by rfl))) (by rfl) (by rfl)⟩
theorem depend_greatest_ok {p0 : api_Affine} {p1 : (List api_Hull)} {out : Out} {r : Int} (h : depend_greatest p0 p1 = some r) : FunOk PP 171 [.d (api_Affine.d p0), .d (.sl (p1.map api_Hull.d))] out ⟨.d (.int .i64 r), []⟩ := by
  unfold depend_greatest at h
  refine fi Tryz.func171 rfl (by kernel_rfl) (by kernel_rfl) (by kernel_rfl) ?_
  refine sr ?_
  refine ts (bxI rfl) ?_
  refine ts (ac rfl rfl) ?_
  refine rn ?_
  refine sr ?_
  refine ts (faI fT123_1 rfl rfl) ?_
  refine ts (ldI sT3 rfl rfl) ?_
  refine ts (as_ rfl) ?_
  refine rn ?_
  refine CWp.seq ?_
  refine sr ?_
  refine ts (faI fT123_0 rfl rfl) ?_
  refine ts (ldI sT48 rfl rfl) ?_
  refine ts (lnD lT48 rfl rfl) ?_
  refine ts (mv rfl) ?_
  refine rn ?_
  obtain ⟨z6, hz6, h⟩ := bnd h
  refine lb (E := fun s1 => [(1, .d (.sl (p1.map api_Hull.d))), (5, .d (.int .i64 s1.1)), (11, .d (.sl (p0.Coefs.map dI))), (12, .d (.int .i64 (p0.Coefs.length : Int))), (13, .d (.int .i64 s1.2))]) (M := fun s1 => ⟨[], out, []⟩) (E' := fun y => [(5, .d (.int .i64 y))]) (M' := fun y => ⟨[], out, []⟩) hz6 (by (try simp only [List.length_set, copied_len]); exact trk (by kernel_rfl) (by kernel_rfl) (by kernel_rfl)) ?_ ?_
  · intro s1 ww h
    unfold depend_greatest.s1 at h
    refine sr ?_
    refine ts (lss rfl rfl) ?_
    refine rn ?_
    refine CWp.seq ?_
    rcases ite h with ⟨c2, h⟩ | ⟨c2, h⟩
    · refine ct rfl (bt c2) ?_
      refine CWp.skip ?_
      refine CWp.seq ?_
      refine CWp.block ?_
      refine sr ?_
      refine ts (mv rfl) ?_
      obtain ⟨x3, hx3, h⟩ := bnd h
      refine ts (ixD lT48 szI rfl rfl hx3) ?_
      refine ts (ldI sT3 rfl rfl) ?_
      refine ts (as_ rfl) ?_
      refine ts (as_ rfl) ?_
      refine rn ?_
      refine ld_ mixed (b := [0, 0, 0, 0, 12, 28, 60, 126, 0, 0, 0, 1536, 3584, 7680, 16128, 32766, 65535, 131071]) (by kernel_rfl) ?_
      refine ds (mv rfl) rfl ?_
      refine ds (mv rfl) rfl ?_
      refine ds (mv rfl) rfl ?_
      refine ds (mv rfl) rfl ?_
      obtain ⟨x4, hx4, h⟩ := bnd h
      refine ds (ixD lT56 api_Hull.sz rfl rfl hx4) rfl ?_
      refine ds (faI fT98_0 rfl rfl) rfl ?_
      refine ds (ldI sT3 rfl rfl) rfl ?_
      refine ds (mul rfl rfl) rfl ?_
      refine ds (mv rfl) rfl ?_
      refine ds (mv rfl) rfl ?_
      refine ds (mv rfl) rfl ?_
      obtain ⟨x5, hx5, h⟩ := bnd h
      refine ds (ixD lT56 api_Hull.sz rfl rfl hx5) rfl ?_
      refine ds (faI fT98_1 rfl rfl) rfl ?_
      refine ds (ldI sT3 rfl rfl) rfl ?_
      refine ds (mul rfl rfl) rfl ?_
      refine ds (mx_ rfl) rfl ?_
      refine ds (add rfl rfl) rfl ?_
      refine ds (as_ rfl) rfl ?_
      refine dn (by kernel_rfl) ?_
      refine lr ?_
      refine ts (add rfl rfl) ?_
      refine ts (mv rfl) ?_
      refine rn ?_
      obtain rfl := some_inj h
      exact ⟨rfl, (by (try simp only [List.length_set, copied_len]); exact trk (by kernel_rfl) (by kernel_rfl) (by kernel_rfl))⟩
    · refine cf rfl (bf c2) ?_
      refine CWp.exit ?_
      obtain rfl := some_inj h
      exact ⟨rfl, (by (try simp only [List.length_set, copied_len]); exact trk (by kernel_rfl) (by kernel_rfl) (by kernel_rfl))⟩
  · intro e s ht
    refine CWp.trim ht ?_
    refine sr ?_
    refine ts (mv rfl) ?_
    refine ts (as_ rfl) ?_
    refine rn ?_
    refine CWp.ret ?_
    obtain rfl := some_inj h
    exact ⟨trivial, rt1 (ex := false) (by exact (.t rfl .n)) (by exact (gd (by rfl))) (by rfl) (by rfl)⟩
theorem depend_hulls_ok {p0 : (List api_Loop)} {out : Out} {r : (List api_Hull)} (h : depend_hulls p0 = some r) : FunOk PP 100 [.d (.sl (p0.map api_Loop.d))] out ⟨.d (.sl (r.map api_Hull.d)), []⟩ := by
  unfold depend_hulls at h
  refine fi Tryz.func100 rfl (by kernel_rfl) (by kernel_rfl) (by kernel_rfl) ?_
  refine sr ?_
  refine ts (ak.wk (x' := .sl (([] : List api_Hull).map api_Hull.d)) rfl) ?_
  refine rn ?_
  refine sr ?_
  refine ta (an (n := 0) lT56 rfl) ?_
  refine rn ?_
  refine CWp.seq ?_
  refine sr ?_
  refine ts (mv rfl) ?_
  refine ts (lnD lT23 rfl rfl) ?_
  refine ts (mv rfl) ?_
  refine rn ?_
  refine CWp.trim (Le.lent (t := 3) (n := 0) rfl .h) ?_
  obtain ⟨z7, hz7, h⟩ := bnd h
  refine lb (E := fun s1 => [(3, .ref ⟨out.length, 3, 0⟩ 0 s1.2.length s1.2.length), (6, .d (.sl (p0.map api_Loop.d))), (7, .d (.int .i64 (p0.length : Int))), (8, .d (.int .i64 s1.1))]) (M := fun s1 => ⟨[((3, 0), .arr 2 true (s1.2.map api_Hull.d))], out, []⟩) (E' := fun y => [(3, .ref ⟨out.length, 3, 0⟩ 0 y.length y.length)]) (M' := fun y => ⟨[((3, 0), .arr 2 true (y.map api_Hull.d))], out, []⟩) hz7 (by (try simp only [List.length_set, copied_len]); exact trk (by kernel_rfl) (by kernel_rfl) (by kernel_rfl)) ?_ ?_
  · intro s1 ww h
    unfold depend_hulls.s1 at h
    refine sr ?_
    refine ts (lss rfl rfl) ?_
    refine rn ?_
    refine CWp.seq ?_
    rcases ite h with ⟨c2, h⟩ | ⟨c2, h⟩
    · refine ct rfl (bt c2) ?_
      refine CWp.skip ?_
      refine CWp.seq ?_
      refine CWp.block ?_
      refine sr ?_
      obtain ⟨x3, hx3, h⟩ := bnd h
      refine ts (ixD lT23 api_Loop.sz rfl rfl hx3) ?_
      refine ts (ldIW aT125 rfl rfl rfl) ?_
      refine ta (al (n := 0) zT125 rfl) ?_
      refine tt0 (stW aT125 rfl rfl rfl rfl rfl rfl .h) ?_
      refine rn ?_
      refine CWp.trim (Le.fzBox (t := 5) (e := api_Loop.d x3) (env' := [(3, .ref ⟨out.length, 3, 0⟩ 0 s1.2.length s1.2.length), (6, .d (.sl (p0.map api_Loop.d))), (7, .d (.int .i64 (p0.length : Int))), (8, .d (.int .i64 s1.1)), (10, .pimm (api_Loop.d x3) 0), (11, .d (api_Loop.d x3))]) (loc' := [((3, 0), .arr 2 true (s1.2.map api_Hull.d))]) rfl rfl rfl rfl (by (try simp only [List.length_set, copied_len]); exact trkT (by kernel_rfl) (by kernel_rfl) (by kernel_rfl))) ?_
      refine ld_ mixed (b := [0, 0, 2, 0, 14, 0, 32, 0, 254, 510, 1022, 2047, 4095]) (by kernel_rfl) ?_
      refine ds (mv rfl) rfl ?_
      refine ds (faI fT125_0 rfl rfl) rfl ?_
      refine ds (ldIA (y := api_Affine.d (api_Affine.mk x3.Low.Coefs x3.Low.Const)) aT123 rfl (by kernel_rfl)) rfl ?_
      refine ds (mv rfl) rfl ?_
      obtain ⟨x4, hx4, h⟩ := bnd h
      refine dr (cln (f := fun _ => false) kf rfl (.c rfl le1 (.c rfl (le3 rfl (ow rfl)) .n)) (curOf_nil _) (depend_least_ok hx4) rfl) rfl ?_
      refine ds (faI fT125_1 rfl rfl) rfl ?_
      refine ds (ldIA (y := api_Affine.d (api_Affine.mk x3.High.Coefs x3.High.Const)) aT123 rfl (by kernel_rfl)) rfl ?_
      refine ds (mv rfl) rfl ?_
      obtain ⟨x5, hx5, h⟩ := bnd h
      refine dr (cln (f := fun _ => false) kf rfl (.c rfl le1 (.c rfl (le3 rfl (ow rfl)) .n)) (curOf_nil _) (depend_greatest_ok hx5) rfl) rfl ?_
      refine ds (bld (v := .d (api_Hull.d (api_Hull.mk x4 x5))) rfl (by kernel_rfl)) rfl ?_
      refine ds (bsT (l := (([(api_Hull.mk x4 x5)] : List api_Hull).map api_Hull.d)) lT56 rfl rfl rfl (by kernel_rfl)) rfl ?_
      obtain ⟨x6, hx6, h⟩ := bnd h
      refine dt (apGn (ys := ([(api_Hull.mk x4 x5)] : List api_Hull)) (xs := s1.2) (f := api_Hull.d) lT56 uT56 api_Hull.sz rfl rfl rfl elT (ow rfl) hx6 (so .h) rfl) rfl ?_
      refine ds (as_ rfl) rfl ?_
      refine dn (by kernel_rfl) ?_
      refine lr ?_
      refine ts (add rfl rfl) ?_
      refine ts (mv rfl) ?_
      refine rn ?_
      obtain rfl := some_inj h
      exact ⟨rfl, (by (try simp only [List.length_set, copied_len]); exact trk (by kernel_rfl) (by kernel_rfl) (by kernel_rfl))⟩
    · refine cf rfl (bf c2) ?_
      refine CWp.exit ?_
      obtain rfl := some_inj h
      exact ⟨rfl, (by (try simp only [List.length_set, copied_len]); exact trk (by kernel_rfl) (by kernel_rfl) (by kernel_rfl))⟩
  · intro e s ht
    refine CWp.trim ht ?_
    refine sr ?_
    refine ts (mv rfl) ?_
    refine ts (as_ rfl) ?_
    refine rn ?_
    refine CWp.ret ?_
    obtain rfl := some_inj h
    exact ⟨trivial, rt1 (ex := false) (by exact (.t rfl .n)) (by exact (gf rfl rfl)) (by rfl) (by rfl)⟩
theorem depend_CheckNest_c2_ok {p0 : api_Hull} {out : Out} {r : Bool} (h : depend_CheckNest_c2 p0 = r) : FunOk PP 101 [.d (api_Hull.d p0)] out ⟨.d (.bool r), []⟩ := by
  unfold depend_CheckNest_c2 at h
  refine fi Tryz.func101 rfl (by kernel_rfl) (by kernel_rfl) (by kernel_rfl) ?_
  refine sr ?_
  refine ts (bxI rfl) ?_
  refine ts (ac rfl rfl) ?_
  refine rn ?_
  refine sr ?_
  refine ts (faI fT98_0 rfl rfl) ?_
  refine ts (ldI sT3 rfl rfl) ?_
  refine ts (cln (f := fun _ => false) kf rfl (.c rfl le1 (.c rfl le1 (.c rfl le1 .n))) (curOf_nil _) (depend_inside_ok (rfl : depend_inside p0.Low (-1000) 1000 = _)) rfl) ?_
  refine ts (not_ rfl) ?_
  refine ts (mv rfl) ?_
  refine sg 5 [(12, .d (.bool ((!(depend_inside p0.Low (-1000) 1000)) || (!(depend_inside p0.High (-1000) 1000)))))] ?_ ?_
  · rcases bool_or (!(depend_inside p0.Low (-1000) 1000)) with g1 | g2
    · refine un (gn rfl rfl g1) ?_
      refine un (gn rfl rfl g1) ?_
      refine un (gn rfl rfl g1) ?_
      refine un (gn rfl rfl g1) ?_
      refine ts (pt rfl g1 rfl) ?_
      exact rn (trD 5 rfl (.c (bq (or_t g1)) .n) (by kernel_rfl))
    · refine us (gy rfl rfl g2) (faI fT98_1 rfl rfl) ?_
      refine us (gy rfl rfl g2) (ldI sT3 rfl rfl) ?_
      refine us (gy rfl rfl g2) (cln (f := fun _ => false) kf rfl (.c rfl le1 (.c rfl le1 (.c rfl le1 .n))) (curOf_nil _) (depend_inside_ok (rfl : depend_inside p0.High (-1000) 1000 = _)) rfl) ?_
      refine us (gy rfl rfl g2) (not_ rfl) ?_
      refine ts (pf rfl g2 rfl) ?_
      exact rn (trD 5 rfl (.c (bq (or_f g2)) .n) (by kernel_rfl))
  refine ts (as_ rfl) ?_
  refine rn ?_
  refine CWp.ret ?_
  obtain rfl := h
  exact ⟨trivial, rt1 (ex := false) (by exact (.t rfl .n)) (by exact (gd (by rfl))) (by rfl) (by rfl)⟩
theorem slices_IndexFunc_api_Hull__depend_CheckNest_c2_ok {p0 : (List api_Hull)} {out : Out} {r : Int} (h : slices_IndexFunc_api_Hull__depend_CheckNest_c2 p0 = some r) : FunOk PP 169 [.d (.sl (p0.map api_Hull.d)), .d (.fn 101)] out ⟨.d (.int .i64 r), []⟩ := by
  unfold slices_IndexFunc_api_Hull__depend_CheckNest_c2 at h
  refine fi Tryz.func169 rfl (by kernel_rfl) (by kernel_rfl) (by kernel_rfl) ?_
  refine sr ?_
  refine ts (ac rfl rfl) ?_
  refine rn ?_
  refine CWp.seq ?_
  refine sr ?_
  refine ts (mv rfl) ?_
  refine ts (lnD lT56 rfl rfl) ?_
  refine ts (mv rfl) ?_
  refine rn ?_
  obtain ⟨z5, hz5, h⟩ := bnd h
  refine lbr (E := fun s1 => [(0, .d (.sl (p0.map api_Hull.d))), (1, .d (.fn 101)), (7, .d (.int .i64 (p0.length : Int))), (8, .d (.int .i64 s1))]) (M := fun s1 => ⟨[], out, []⟩) (E' := fun y => []) (M' := fun y => ⟨[], out, []⟩) (RT := fun r e s => Lx.Returns PP Tryz.f169.results.toList e s ⟨.d (.int .i64 r), []⟩) hz5 (by (try simp only [List.length_set, copied_len]); exact trk (by kernel_rfl) (by kernel_rfl) (by kernel_rfl)) ?_ ?_
  · intro s1 ww h
    unfold slices_IndexFunc_api_Hull__depend_CheckNest_c2.s1 at h
    refine sr ?_
    refine ts (lss rfl rfl) ?_
    refine rn ?_
    refine CWp.seq ?_
    rcases ite h with ⟨c2, h⟩ | ⟨c2, h⟩
    · refine ct rfl (bt c2) ?_
      refine CWp.skip ?_
      refine CWp.seq ?_
      refine CWp.block ?_
      refine sr ?_
      refine ts (mv rfl) ?_
      refine ts (as_ rfl) ?_
      refine rn ?_
      refine sr ?_
      refine ts (mv rfl) ?_
      refine ts (mv rfl) ?_
      refine ts (mv rfl) ?_
      obtain ⟨x3, hx3, h⟩ := bnd h
      refine ts (ixD lT56 api_Hull.sz rfl rfl hx3) ?_
      refine ts (ldIW aT98 rfl rfl rfl) ?_
      refine ts (cln (f := fun _ => false) (kt rfl) rfl (.c rfl le1 .n) (curOf_nil _) (depend_CheckNest_c2_ok (rfl : depend_CheckNest_c2 x3 = _)) rfl) ?_
      refine rn ?_
      rcases ite h with ⟨c4, h⟩ | ⟨c4, h⟩
      · refine ct rfl c4 ?_
        refine sr ?_
        refine ts (mv rfl) ?_
        refine ts (as_ rfl) ?_
        refine rn ?_
        refine CWp.ret ?_
        obtain rfl := some_inj h
        exact ⟨rfl, rt1 (ex := false) (by exact (.t rfl .n)) (by exact (gd (by rfl))) (by rfl) (by rfl)⟩
      · refine cf rfl (vf c4) ?_
        refine CWp.skip ?_
        refine lr ?_
        refine ts (add rfl rfl) ?_
        refine ts (mv rfl) ?_
        refine rn ?_
        obtain rfl := some_inj h
        exact ⟨rfl, (by (try simp only [List.length_set, copied_len]); exact trk (by kernel_rfl) (by kernel_rfl) (by kernel_rfl))⟩
    · refine cf rfl (bf c2) ?_
      refine CWp.exit ?_
      obtain rfl := some_inj h
      exact ⟨rfl, (by (try simp only [List.length_set, copied_len]); exact trk (by kernel_rfl) (by kernel_rfl) (by kernel_rfl))⟩
  · cases z5 with
    | inl v6 =>
      intro e s ht
      refine CWp.trim ht ?_
      refine sr ?_
      refine ts (ac rfl rfl) ?_
      refine rn ?_
      refine CWp.ret ?_
      obtain rfl := some_inj h
      exact ⟨trivial, rt1 (ex := false) (by exact (.t rfl .n)) (by exact (gd (by rfl))) (by rfl) (by rfl)⟩
    | inr r7 =>
      intro e s hr
      obtain rfl := some_inj h
      exact ⟨trivial, hr⟩
theorem slices_ContainsFunc_api_Hull__depend_CheckNest_c2_ok {p0 : (List api_Hull)} {out : Out} {r : Bool} (h : slices_ContainsFunc_api_Hull__depend_CheckNest_c2 p0 = some r) : FunOk PP 99 [.d (.sl (p0.map api_Hull.d)), .d (.fn 101)] out ⟨.d (.bool r), []⟩ := by
  unfold slices_ContainsFunc_api_Hull__depend_CheckNest_c2 at h
  refine fi Tryz.func99 rfl (by kernel_rfl) (by kernel_rfl) (by kernel_rfl) ?_
  refine sr ?_
  refine ts (ac rfl rfl) ?_
  refine rn ?_
  refine sr ?_
  refine ts (mv rfl) ?_
  refine ts (mv rfl) ?_
  obtain ⟨x1, hx1, h⟩ := bnd h
  refine ts (cln (f := fun _ => false) kf rfl (.c rfl le1 (.c rfl le1 .n)) (curOf_nil _) (slices_IndexFunc_api_Hull__depend_CheckNest_c2_ok hx1) rfl) ?_
  refine ts (geq rfl rfl) ?_
  refine ts (as_ rfl) ?_
  refine rn ?_
  refine CWp.ret ?_
  obtain rfl := some_inj h
  exact ⟨trivial, rt1 (ex := false) (by exact (.t rfl .n)) (by exact (gd (by rfl))) (by rfl) (by rfl)⟩
theorem depend_CheckNest_c3_ok {p0 : (List Int)} {b0 : Int} {r : Bool × Int} (h : depend_CheckNest_c3 p0 b0 = r) : FunOk PP 104 [.d (.sl (p0.map dI)), .bptr ⟨0, 0, 0⟩ 0] [[((0, 0), .box [.d (.int .i64 b0)])]] ⟨.d (.bool r.1), [some [((0, 0), .box [.d (.int .i64 r.2)])]]⟩ := by
  unfold depend_CheckNest_c3 at h
  refine fi Tryz.func104 rfl (by kernel_rfl) (by kernel_rfl) (by kernel_rfl) ?_
  refine CWp.trim Le.start ?_
  refine sr ?_
  refine ts (ac rfl rfl) ?_
  refine rn ?_
  refine sr ?_
  refine ts (ld sT3 rfl (uw rfl) rfl) ?_
  refine ts (add rfl rfl) ?_
  refine tt0 (stG sT3 rfl rfl rfl rfl (uw rfl) .h (su .h)) ?_
  refine rn ?_
  refine sr ?_
  refine ts (ld sT3 rfl (uw rfl) rfl) ?_
  refine ts (gtr rfl rfl) ?_
  refine ts (as_ rfl) ?_
  refine rn ?_
  refine CWp.ret ?_
  obtain rfl := h
  exact ⟨trivial, rt1 (ex := false) (by exact (.t rfl .n)) (by exact (gd (by rfl))) (by rfl) (by first | rfl | (simp only [List.length_set, copied_len] <;> rfl))⟩
theorem depend_value_ok {p0 : api_Affine} {p1 : (List Int)} {out : Out} {r : Int} (h : depend_value p0 p1 = some r) : FunOk PP 172 [.d (api_Affine.d p0), .d (.sl (p1.map dI))] out ⟨.d (.int .i64 r), []⟩ := by
  unfold depend_value at h
  refine fi Tryz.func172 rfl (by kernel_rfl) (by kernel_rfl) (by kernel_rfl) ?_
  refine sr ?_
  refine ts (bxI rfl) ?_
  refine ts (ac rfl rfl) ?_
  refine rn ?_
  refine sr ?_
  refine ts (faI fT123_1 rfl rfl) ?_
  refine ts (ldI sT3 rfl rfl) ?_
  refine ts (as_ rfl) ?_
  refine rn ?_
  refine CWp.seq ?_
  refine sr ?_
  refine ts (faI fT123_0 rfl rfl) ?_
  refine ts (ldI sT48 rfl rfl) ?_
  refine ts (lnD lT48 rfl rfl) ?_
  refine ts (mv rfl) ?_
  refine rn ?_
  obtain ⟨z5, hz5, h⟩ := bnd h
  refine lb (E := fun s1 => [(1, .d (.sl (p1.map dI))), (5, .d (.int .i64 s1.1)), (11, .d (.sl (p0.Coefs.map dI))), (12, .d (.int .i64 (p0.Coefs.length : Int))), (13, .d (.int .i64 s1.2))]) (M := fun s1 => ⟨[], out, []⟩) (E' := fun y => [(5, .d (.int .i64 y))]) (M' := fun y => ⟨[], out, []⟩) hz5 (by (try simp only [List.length_set, copied_len]); exact trk (by kernel_rfl) (by kernel_rfl) (by kernel_rfl)) ?_ ?_
  · intro s1 ww h
    unfold depend_value.s1 at h
    refine sr ?_
    refine ts (lss rfl rfl) ?_
    refine rn ?_
    refine CWp.seq ?_
    rcases ite h with ⟨c2, h⟩ | ⟨c2, h⟩
    · refine ct rfl (bt c2) ?_
      refine CWp.skip ?_
      refine CWp.seq ?_
      refine CWp.block ?_
      refine sr ?_
      refine ts (mv rfl) ?_
      obtain ⟨x3, hx3, h⟩ := bnd h
      refine ts (ixD lT48 szI rfl rfl hx3) ?_
      refine ts (ldI sT3 rfl rfl) ?_
      refine ts (as_ rfl) ?_
      refine ts (as_ rfl) ?_
      refine rn ?_
      refine lr ?_
      refine ts (mv rfl) ?_
      refine ts (mv rfl) ?_
      refine ts (mv rfl) ?_
      refine ts (mv rfl) ?_
      obtain ⟨x4, hx4, h⟩ := bnd h
      refine ts (ixD lT48 szI rfl rfl hx4) ?_
      refine ts (ldI sT3 rfl rfl) ?_
      refine ts (mul rfl rfl) ?_
      refine ts (add rfl rfl) ?_
      refine ts (as_ rfl) ?_
      refine rn ?_
      refine lr ?_
      refine ts (add rfl rfl) ?_
      refine ts (mv rfl) ?_
      refine rn ?_
      obtain rfl := some_inj h
      exact ⟨rfl, (by (try simp only [List.length_set, copied_len]); exact trk (by kernel_rfl) (by kernel_rfl) (by kernel_rfl))⟩
    · refine cf rfl (bf c2) ?_
      refine CWp.exit ?_
      obtain rfl := some_inj h
      exact ⟨rfl, (by (try simp only [List.length_set, copied_len]); exact trk (by kernel_rfl) (by kernel_rfl) (by kernel_rfl))⟩
  · intro e s ht
    refine CWp.trim ht ?_
    refine sr ?_
    refine ts (mv rfl) ?_
    refine ts (as_ rfl) ?_
    refine rn ?_
    refine CWp.ret ?_
    obtain rfl := some_inj h
    exact ⟨trivial, rt1 (ex := false) (by exact (.t rfl .n)) (by exact (gd (by rfl))) (by rfl) (by rfl)⟩
theorem slices_Clip_int_ok {p0 : (List Int)} {out : Out} {r : (List Int)} (h : slices_Clip_int p0 = some r) : FunOk PP 173 [.d (.sl (p0.map dI))] out ⟨.tight (r.map dI), []⟩ := by
  unfold slices_Clip_int at h
  refine fi Tryz.func173 rfl (by kernel_rfl) (by kernel_rfl) (by kernel_rfl) ?_
  refine sr ?_
  refine ts (ak.wk (x' := .sl (([] : List Int).map dI)) rfl) ?_
  refine rn ?_
  refine sr ?_
  refine ts (mv rfl) ?_
  refine ts (mv rfl) ?_
  refine ts (lnD lT48 rfl rfl) ?_
  refine ts (mv rfl) ?_
  refine ts (lnD lT48 rfl rfl) ?_
  obtain ⟨x1, hx1, h⟩ := bnd h
  refine ts (slDt lT48 szI rfl .no rfl rfl hx1) ?_
  refine ts (as_ rfl) ?_
  refine rn ?_
  refine CWp.ret ?_
  obtain rfl := some_inj h
  exact ⟨trivial, rt1t (by exact (.t rfl .n)) (by rfl)⟩
theorem depend_walk__depend_CheckNest_c3.N_ok : ∀ (n : Nat) {p0 : (List api_Loop)} {p1 : (List Int)} {b0 : Int} {r : Bool × Int}, depend_walk__depend_CheckNest_c3.N n p0 p1 b0 = some r → FunOk PP 103 [.d (.sl (p0.map api_Loop.d)), .d (.sl (p1.map dI)), .clo 104 [.bptr ⟨0, 0, 0⟩ 0]] [[((0, 0), .box [.d (.int .i64 b0)])]] ⟨.d (.bool r.1), [some [((0, 0), .box [.d (.int .i64 r.2)])]]⟩ := by
  intro n
  induction n with
  | zero => intro p0 p1 b0 r h; cases h
  | succ n ih23 =>
    intro p0 p1 b0 r h
    unfold depend_walk__depend_CheckNest_c3.N depend_walk__depend_CheckNest_c3.F at h
    refine fi Tryz.func103 rfl (by kernel_rfl) (by kernel_rfl) (by kernel_rfl) ?_
    refine CWp.trim Le.start ?_
    refine sr ?_
    refine ts (ac rfl rfl) ?_
    refine rn ?_
    refine sr ?_
    refine ts (mv rfl) ?_
    refine ts (lnD lT48 rfl rfl) ?_
    refine ts (as_ rfl) ?_
    refine rn ?_
    refine CWp.seq ?_
    refine sr ?_
    refine ts (mv rfl) ?_
    refine ts (mv rfl) ?_
    refine ts (lnD lT23 rfl rfl) ?_
    refine ts (eql rfl rfl) ?_
    refine rn ?_
    rcases ite h with ⟨c1, h⟩ | ⟨c1, h⟩
    · refine ct rfl (et c1) ?_
      refine sr ?_
      refine ts (mv rfl) ?_
      refine ts (mv rfl) ?_
      refine tt (clq (f := fun _ => false) (kc rfl) rfl (.c rfl le1 .n) rfl (fr_ (ids := [⟨0, 0, 0⟩]) (cbs := [.box [.d (.int .i64 b0)]]) (cbs' := [.box [.d (.int .i64 (depend_CheckNest_c3 p1 b0).2)]]) (depend_CheckNest_c3_ok (rfl : depend_CheckNest_c3 p1 b0 = _)) (by first | rfl | (simp only [List.length_set, copied_len] <;> rfl)) (.inr ⟨rfl, rfl⟩) (by simp) rfl rfl rfl rfl rfl rfl rfl rfl (.c rfl .n) (.set .full rfl (by simp) (set_w0 .h))) rfl) ?_
      refine ts (as_ rfl) ?_
      refine rn ?_
      refine CWp.ret ?_
      obtain rfl := some_inj h
      exact ⟨trivial, rt1 (ex := false) (by exact (.t rfl .n)) (by exact (gd (by rfl))) (by rfl) (by first | rfl | (simp only [List.length_set, copied_len] <;> rfl))⟩
    · refine cf rfl (ef c1) ?_
      refine CWp.skip ?_
      refine CWp.seq ?_
      refine sr ?_
      refine ts (mv rfl) ?_
      refine ts (mv rfl) ?_
      obtain ⟨x2, hx2, h⟩ := bnd h
      refine ts (ixD lT23 api_Loop.sz rfl rfl hx2) ?_
      refine ts (faI fT125_0 rfl rfl) ?_
      refine ts (ldIA (y := api_Affine.d (api_Affine.mk x2.Low.Coefs x2.Low.Const)) aT123 rfl (by kernel_rfl)) ?_
      refine ts (mv rfl) ?_
      obtain ⟨x3, hx3, h⟩ := bnd h
      refine ts (cln (f := fun _ => false) kf rfl (.c rfl le1 (.c rfl le1 .n)) rfl (depend_value_ok hx3) rfl) ?_
      refine ts (as_ rfl) ?_
      refine rn ?_
      obtain ⟨z12, hz12, h⟩ := bnd h
      refine lbr (E := fun s4 => [(0, .d (.sl (p0.map api_Loop.d))), (1, .d (.sl (p1.map dI))), (2, .clo 104 [.bptr ⟨0, 0, 0⟩ 0]), (7, .d (.int .i64 (p1.length : Int))), (8, .d (.int .i64 s4.1))]) (M := fun s4 => ⟨[], [[((0, 0), .box [.d (.int .i64 b0)])]], [some [((0, 0), .box [.d (.int .i64 s4.2)])]]⟩) (E' := fun y => []) (M' := fun y => ⟨[], [[((0, 0), .box [.d (.int .i64 b0)])]], [some [((0, 0), .box [.d (.int .i64 y)])]]⟩) (RT := fun r e s => Lx.Returns PP Tryz.f103.results.toList e s ⟨.d (.bool r.1), [some [((0, 0), .box [.d (.int .i64 r.2)])]]⟩) hz12 (by (try simp only [List.length_set, copied_len]); exact trkc (by kernel_rfl) (by kernel_rfl) (by kernel_rfl)) ?_ ?_
      · intro s4 ww h
        unfold depend_walk__depend_CheckNest_c3.s1 at h
        refine CWp.seq ?_
        refine sr ?_
        refine ts (mv rfl) ?_
        refine ts (mv rfl) ?_
        refine ts (mv rfl) ?_
        obtain ⟨x5, hx5, h⟩ := bnd h
        refine ts (ixD lT23 api_Loop.sz rfl rfl hx5) ?_
        refine ts (faI fT125_1 rfl rfl) ?_
        refine ts (ldIA (y := api_Affine.d (api_Affine.mk x5.High.Coefs x5.High.Const)) aT123 rfl (by kernel_rfl)) ?_
        refine ts (mv rfl) ?_
        obtain ⟨x6, hx6, h⟩ := bnd h
        refine ts (cln (f := fun _ => false) kf rfl (.c rfl le1 (.c rfl le1 .n)) rfl (depend_value_ok hx6) rfl) ?_
        refine ts (leq rfl rfl) ?_
        refine rn ?_
        rcases ite h with ⟨c7, h⟩ | ⟨c7, h⟩
        · refine ct rfl (bt c7) ?_
          refine CWp.skip ?_
          refine CWp.seq ?_
          refine CWp.block ?_
          refine sr ?_
          refine ts (mv rfl) ?_
          refine ts (mv rfl) ?_
          obtain ⟨x8, hx8, h⟩ := bnd h
          refine ts (cln (f := fun _ => false) kf rfl (.c rfl le1 .n) rfl (slices_Clip_int_ok hx8) rfl) ?_
          refine ts (mv rfl) ?_
          refine ts (bsT (l := (([s4.1] : List Int).map dI)) lT48 rfl rfl rfl (by kernel_rfl)) ?_
          obtain ⟨x9, hx9, h⟩ := bnd h
          refine ta (apT (n := 0) (xs := (x8 : List Int)) (ys := ([s4.1] : List Int)) (f := dI) lT48 uT48 szI rfl rfl elT rfl hx9 rfl) ?_
          refine ts (mv rfl) ?_
          obtain ⟨x10, hx10, h⟩ := bnd h
          refine tt (clq (f := fun _ => false) kf rfl (.c rfl le1 (.w rfl (leG4 rfl (ow rfl) (so .h)) (.c rfl le6 .n))) rfl (fr_ (ids := [⟨0, 0, 0⟩]) (cbs := [.box [.d (.int .i64 s4.2)]]) (cbs' := [.box [.d (.int .i64 x10.2)]]) (ih23 hx10) (by first | rfl | (simp only [List.length_set, copied_len] <;> rfl)) (.inr ⟨rfl, rfl⟩) (by simp) rfl rfl rfl rfl rfl rfl rfl rfl (.c rfl .n) (.set .full rfl (by simp) (set_w0 .h))) rfl) ?_
          refine rn ?_
          rcases ite h with ⟨c11, h⟩ | ⟨c11, h⟩
          · refine ct rfl c11 ?_
            refine sr ?_
            refine ts (ac rfl rfl) ?_
            refine rn ?_
            refine CWp.ret ?_
            obtain rfl := some_inj h
            exact ⟨rfl, rt1 (ex := false) (by exact (.t rfl .n)) (by exact (gd (by rfl))) (by rfl) (by first | rfl | (simp only [List.length_set, copied_len] <;> rfl))⟩
          · refine cf rfl (vf c11) ?_
            refine CWp.skip ?_
            refine lr ?_
            refine ts (mv rfl) ?_
            refine ts (add rfl rfl) ?_
            refine ts (as_ rfl) ?_
            refine rn ?_
            obtain rfl := some_inj h
            exact ⟨rfl, (by (try simp only [List.length_set, copied_len]); exact trkc (by kernel_rfl) (by kernel_rfl) (by kernel_rfl))⟩
        · refine cf rfl (bf c7) ?_
          refine CWp.exit ?_
          obtain rfl := some_inj h
          exact ⟨rfl, (by (try simp only [List.length_set, copied_len]); exact trkc (by kernel_rfl) (by kernel_rfl) (by kernel_rfl))⟩
      · cases z12 with
        | inl v13 =>
          intro e s ht
          refine CWp.trim ht ?_
          refine sr ?_
          refine ts (ac rfl rfl) ?_
          refine rn ?_
          refine CWp.ret ?_
          obtain rfl := some_inj h
          exact ⟨trivial, rt1 (ex := false) (by exact (.t rfl .n)) (by exact (gd (by rfl))) (by rfl) (by first | rfl | (simp only [List.length_set, copied_len] <;> rfl))⟩
        | inr r14 =>
          intro e s hr
          obtain rfl := some_inj h
          exact ⟨trivial, hr⟩
theorem depend_walk__depend_CheckNest_c3_ok {p0 : (List api_Loop)} {p1 : (List Int)} {b0 : Int} {r : Bool × Int} (h : depend_walk__depend_CheckNest_c3 p0 p1 b0 = some r) : FunOk PP 103 [.d (.sl (p0.map api_Loop.d)), .d (.sl (p1.map dI)), .clo 104 [.bptr ⟨0, 0, 0⟩ 0]] [[((0, 0), .box [.d (.int .i64 b0)])]] ⟨.d (.bool r.1), [some [((0, 0), .box [.d (.int .i64 r.2)])]]⟩ := by
  obtain ⟨n, hn⟩ := lim_some h
  exact depend_walk__depend_CheckNest_c3.N_ok n hn
theorem depend_CheckNest_ok {p0 : (List api_Loop)} {out : Out} {r : Int × Int} (h : depend_CheckNest p0 = some r) : FunOk PP 32 [.d (.sl (p0.map api_Loop.d))] out ⟨.tup [.d (.int .i64 r.1), .d (.int .i64 r.2)], []⟩ := by
  unfold depend_CheckNest at h
  refine fi Tryz.func32 rfl (by kernel_rfl) (by kernel_rfl) (by kernel_rfl) ?_
  refine sr ?_
  refine ts (ac rfl rfl) ?_
  refine ts (ac rfl rfl) ?_
  refine rn ?_
  refine CWp.seq ?_
  refine sr ?_
  refine ts (mv rfl) ?_
  refine ts (lnD lT23 rfl rfl) ?_
  refine ts (gtr rfl rfl) ?_
  refine ts (bld (v := .d (depend_rule.d (depend_rule.mk (decide ((p0.length : Int) > 0)) 17))) rfl (by kernel_rfl)) ?_
  refine ts (mv rfl) ?_
  refine ts (lnD lT23 rfl rfl) ?_
  refine ts (leq rfl rfl) ?_
  refine ts (bld (v := .d (depend_rule.d (depend_rule.mk (decide ((p0.length : Int) ≤ 3)) 8))) rfl (by kernel_rfl)) ?_
  refine ts (bsT (l := (([(depend_rule.mk (decide ((p0.length : Int) > 0)) 17), (depend_rule.mk (decide ((p0.length : Int) ≤ 3)) 8)] : List depend_rule).map depend_rule.d)) lT226 rfl rfl rfl (by kernel_rfl)) ?_
  obtain ⟨x1, hx1, h⟩ := bnd h
  refine ts (cln (f := fun _ => false) kf rfl (.c rfl le2 .n) (curOf_nil _) (depend_broken_ok hx1) rfl) ?_
  refine ts (as_ rfl) ?_
  refine rn ?_
  refine sr ?_
  refine ts (mv rfl) ?_
  refine ts (neq rfl rfl) ?_
  refine rn ?_
  rcases ite h with ⟨c2, h⟩ | ⟨c2, h⟩
  · refine ct rfl (nt c2) ?_
    refine sr ?_
    refine ts (mv rfl) ?_
    refine ts (ac rfl rfl) ?_
    refine ts (as_ rfl) ?_
    refine rn ?_
    refine CWp.ret ?_
    obtain rfl := some_inj h
    exact ⟨trivial, rt2 (ex := false) (by exact (.t rfl (.t rfl .n))) (by exact (sc (gd (by rfl)) (sc (gd (by rfl)) sn))) (by rfl) (by rfl)⟩
  · refine cf rfl (nf c2) ?_
    refine CWp.skip ?_
    refine CWp.seq ?_
    refine sr ?_
    refine ts (mv rfl) ?_
    obtain ⟨x3, hx3, h⟩ := bnd h
    refine ts (cln (f := fun _ => false) kf rfl (.c rfl le1 (.c rfl le1 .n)) (curOf_nil _) (depend_firstBad_api_Loop__depend_CheckNest_c1_ok hx3) rfl) ?_
    refine ts (mv rfl) ?_
    refine ts (ex_ rfl rfl) ?_
    refine ts (ex_ rfl rfl) ?_
    refine ts (as_ rfl) ?_
    refine ts (as_ rfl) ?_
    refine rn ?_
    refine sr ?_
    refine ts (mv rfl) ?_
    refine ts (neq rfl rfl) ?_
    refine rn ?_
    rcases ite h with ⟨c4, h⟩ | ⟨c4, h⟩
    · refine ct rfl (nt c4) ?_
      refine sr ?_
      refine ts (mv rfl) ?_
      refine ts (mv rfl) ?_
      refine ts (as_ rfl) ?_
      refine ts (as_ rfl) ?_
      refine rn ?_
      refine CWp.ret ?_
      obtain rfl := some_inj h
      exact ⟨trivial, rt2 (ex := false) (by exact (.t rfl (.t rfl .n))) (by exact (sc (gd (by rfl)) (sc (gd (by rfl)) sn))) (by rfl) (by rfl)⟩
    · refine cf rfl (nf c4) ?_
      refine CWp.skip ?_
      refine sr ?_
      refine ts (mv rfl) ?_
      obtain ⟨x5, hx5, h⟩ := bnd h
      refine ts (cln (f := fun _ => false) kf rfl (.c rfl le1 .n) (curOf_nil _) (depend_hulls_ok hx5) rfl) ?_
      obtain ⟨x6, hx6, h⟩ := bnd h
      refine ts (cln (f := fun _ => false) kf rfl (.c rfl le1 (.c rfl le1 .n)) (curOf_nil _) (slices_ContainsFunc_api_Hull__depend_CheckNest_c2_ok hx6) rfl) ?_
      refine ts (as_ rfl) ?_
      refine rn ?_
      refine CWp.seq ?_
      refine sr ?_
      refine ts (mv rfl) ?_
      refine rn ?_
      rcases ite h with ⟨c7, h⟩ | ⟨c7, h⟩
      · refine ct rfl c7 ?_
        refine sr ?_
        refine ts (ac rfl rfl) ?_
        refine ts (ac rfl rfl) ?_
        refine rn ?_
        refine CWp.ret ?_
        obtain rfl := some_inj h
        exact ⟨trivial, rt2 (ex := false) (by exact (.t rfl (.t rfl .n))) (by exact (sc (gd (by rfl)) (sc (gd (by rfl)) sn))) (by rfl) (by rfl)⟩
      · refine cf rfl (vf c7) ?_
        refine CWp.skip ?_
        refine sr ?_
        refine ta (al (n := 0) zT3 rfl) ?_
        refine tt0 (st sT3 rfl rfl rfl rfl .h .h) ?_
        refine rn ?_
        refine sr ?_
        refine ts (mv rfl) ?_
        refine ts (mf_ (v := .clo 104 [.bptr ⟨out.length, 8, 0⟩ 0]) rfl rfl) ?_
        obtain ⟨x8, hx8, h⟩ := bnd h
        refine tt (clp (f := fun _ => false) kf rfl (.c rfl le1 (.c rfl le1 (.c rfl le6 .n))) rfl (curOf_nil _) ((fr_ (ids := [⟨out.length, 8, 0⟩]) (cbs := [.box [.d (.int .i64 0)]]) (cbs' := [.box [.d (.int .i64 x8.2)]]) (depend_walk__depend_CheckNest_c3_ok hx8) (by first | rfl | (simp only [List.length_set, copied_len] <;> rfl)) (.inr ⟨rfl, rfl⟩) (by simp) rfl rfl rfl rfl rfl rfl rfl rfl (.c (o1 rfl) .n) (.set .one (o1 rfl) (by simp) (set_o1' .h))).args (.c (.w (.nil _) (.c .n)))) rfl) ?_
        refine ts (as_ rfl) ?_
        refine rn ?_
        refine sr ?_
        refine ts (mv rfl) ?_
        refine ts (not_ rfl) ?_
        refine ts (bld (v := .d (depend_rule.d (depend_rule.mk (!x8.1) 8))) rfl (by kernel_rfl)) ?_
        refine ts (bsT (l := (([(depend_rule.mk (!x8.1) 8)] : List depend_rule).map depend_rule.d)) lT226 rfl rfl rfl (by kernel_rfl)) ?_
        obtain ⟨x9, hx9, h⟩ := bnd h
        refine ts (cln (f := fun _ => false) kf rfl (.c rfl le2 .n) (curOf_nil _) (depend_broken_ok hx9) rfl) ?_
        refine ts (ac rfl rfl) ?_
        refine ts (as_ rfl) ?_
        refine rn ?_
        refine CWp.ret ?_
        obtain rfl := some_inj h
        exact ⟨trivial, rt2 (ex := false) (by exact (.t rfl (.t rfl .n))) (by exact (sc (gd (by rfl)) (sc (gd (by rfl)) sn))) (by rfl) (by rfl)⟩
theorem depend_nestErr_ok {p0 : (List api_Loop)} {out : Out} {r : Int} (h : depend_nestErr p0 = some r) : FunOk PP 105 [.d (.sl (p0.map api_Loop.d))] out ⟨.d (.int .i64 r), []⟩ := by
  unfold depend_nestErr at h
  refine fi Tryz.func105 rfl (by kernel_rfl) (by kernel_rfl) (by kernel_rfl) ?_
  refine sr ?_
  refine ts (ac rfl rfl) ?_
  refine rn ?_
  refine sr ?_
  refine ts (mv rfl) ?_
  obtain ⟨x1, hx1, h⟩ := bnd h
  refine ts (cln (f := fun _ => false) kf rfl (.c rfl le1 .n) (curOf_nil _) (depend_CheckNest_ok hx1) rfl) ?_
  refine ts (mv rfl) ?_
  refine ts (ex_ rfl rfl) ?_
  refine ts (ex_ rfl rfl) ?_
  refine ts (as_ rfl) ?_
  refine ts (as_ rfl) ?_
  refine rn ?_
  refine sr ?_
  refine ts (mv rfl) ?_
  refine ts (as_ rfl) ?_
  refine rn ?_
  refine CWp.ret ?_
  obtain rfl := some_inj h
  exact ⟨trivial, rt1 (ex := false) (by exact (.t rfl .n)) (by exact (gd (by rfl))) (by rfl) (by rfl)⟩
theorem slices_Clone_int_ok {p0 : (List Int)} {out : Out} {r : (List Int)} (h : slices_Clone_int p0 = some r) : FunOk PP 74 [.d (.sl (p0.map dI))] out ⟨.d (.sl (r.map dI)), []⟩ := by
  unfold slices_Clone_int at h
  refine fi Tryz.func74 rfl (by kernel_rfl) (by kernel_rfl) (by kernel_rfl) ?_
  refine sr ?_
  refine ts (ak) ?_
  refine rn ?_
  refine CWp.seq ?_
  refine sr ?_
  refine ts (mv rfl) ?_
  refine nq uT48 rfl ?_ ?_
  · refine rn ?_
    refine cf rfl rfl ?_
    refine CWp.skip ?_
    refine sr ?_
    refine ta (bsM (n := 0) (xs := ([] : List Int)) (f := dI) lT48 rfl rfl rfl (by kernel_rfl) rfl rfl) ?_
    refine ts (mv rfl) ?_
    obtain ⟨x1, hx1, h⟩ := bnd h
    refine tp (apG (ys := p0) (xs := ([] : List Int)) (f := dI) lT48 uT48 szI rfl (by first | rfl | simp only [List.length_set, copied_len]) rfl elD (ow rfl) hx1 (so .h)) ?_
    refine ts (as_ rfl) ?_
    refine rn ?_
    refine CWp.ret ?_
    obtain rfl := some_inj h
    exact ⟨trivial, rt1 (ex := false) (by exact (.t rfl .n)) (by exact (gf rfl rfl)) (by rfl) (by rfl)⟩
  · intro hq
    have hq := List.map_eq_nil_iff.1 hq
    subst hq
    refine rn ?_
    refine ct rfl rfl ?_
    refine sr ?_
    refine ts (ak) ?_
    refine rn ?_
    refine CWp.ret ?_
    have h2 : some ([] : (List Int)) = some r := by simpa [app] using h
    obtain rfl := some_inj h2
    exact ⟨trivial, rt1 (ex := false) (by exact (.t rfl .n)) (by exact (gd (by rfl))) (by rfl) (by rfl)⟩
theorem depend_points_c1_ok {p0 : (List Int)} {b1 : (List (List Int))} {r : Bool × List (List Int)} (h : depend_points_c1 p0 b1 = some r) : FunOk PP 174 [.d (.sl (p0.map dI)), .bptr ⟨0, 0, 0⟩ 0] [[((0, 0), .box [.ref ⟨0, 1, 0⟩ 0 b1.length b1.length]), ((1, 0), .arr 1 false (b1.map (dL dI)))]] ⟨.d (.bool r.1), [some [((0, 0), .box [.ref ⟨0, 1, 0⟩ 0 r.2.length r.2.length]), ((1, 0), .arr 1 false (r.2.map (dL dI)))]]⟩ := by
  unfold depend_points_c1 at h
  refine fi Tryz.func174 rfl (by kernel_rfl) (by kernel_rfl) (by kernel_rfl) ?_
  refine CWp.trim Le.start ?_
  refine sr ?_
  refine ts (ac rfl rfl) ?_
  refine rn ?_
  refine sd mixed (b := [0, 0, 2, 6, 15, 31]) (by kernel_rfl) ?_
  refine dr (ld sT35 rfl (uw rfl) rfl) rfl ?_
  refine ds (mv rfl) rfl ?_
  obtain ⟨x1, hx1, h⟩ := bnd h
  refine dr (cln (f := fun _ => false) kf rfl (.c rfl le1 .n) rfl (slices_Clone_int_ok hx1) rfl) rfl ?_
  refine ds (bsT (l := (([x1] : List (List Int)).map (dL dI))) lT35 rfl rfl rfl (by kernel_rfl)) rfl ?_
  obtain ⟨x2, hx2, h⟩ := bnd h
  refine dt (apGn (ys := ([x1] : List (List Int))) (xs := b1) (f := (dL dI)) lT35 uT35 szL rfl rfl rfl elT (uw rfl) hx2 (su (.s rfl .h)) rfl) rfl ?_
  refine dt0 (stG sT35 rfl rfl rfl rfl (uw rfl) .h (su .h)) rfl ?_
  refine dn (by kernel_rfl) ?_
  refine sr ?_
  refine ts (ac rfl rfl) ?_
  refine rn ?_
  refine CWp.ret ?_
  obtain rfl := some_inj h
  exact ⟨trivial, rt1 (ex := false) (by exact (.t rfl .n)) (by exact (gd (by rfl))) (by rfl) (by first | rfl | (simp only [List.length_set, copied_len] <;> rfl))⟩
theorem depend_walk__depend_points_c1.N_ok : ∀ (n : Nat) {p0 : (List api_Loop)} {p1 : (List Int)} {b1 : (List (List Int))} {r : Bool × List (List Int)}, depend_walk__depend_points_c1.N n p0 p1 b1 = some r → FunOk PP 103 [.d (.sl (p0.map api_Loop.d)), .d (.sl (p1.map dI)), .clo 174 [.bptr ⟨0, 0, 0⟩ 0]] [[((0, 0), .box [.ref ⟨0, 1, 0⟩ 0 b1.length b1.length]), ((1, 0), .arr 1 false (b1.map (dL dI)))]] ⟨.d (.bool r.1), [some [((0, 0), .box [.ref ⟨0, 1, 0⟩ 0 r.2.length r.2.length]), ((1, 0), .arr 1 false (r.2.map (dL dI)))]]⟩ := by
  intro n
  induction n with
  | zero => intro p0 p1 b1 r h; cases h
  | succ n ih28 =>
    intro p0 p1 b1 r h
    unfold depend_walk__depend_points_c1.N depend_walk__depend_points_c1.F at h
    refine fi Tryz.func103 rfl (by kernel_rfl) (by kernel_rfl) (by kernel_rfl) ?_
    refine CWp.trim Le.start ?_
    refine sr ?_
    refine ts (ac rfl rfl) ?_
    refine rn ?_
    refine sr ?_
    refine ts (mv rfl) ?_
    refine ts (lnD lT48 rfl rfl) ?_
    refine ts (as_ rfl) ?_
    refine rn ?_
    refine CWp.seq ?_
    refine sr ?_
    refine ts (mv rfl) ?_
    refine ts (mv rfl) ?_
    refine ts (lnD lT23 rfl rfl) ?_
    refine ts (eql rfl rfl) ?_
    refine rn ?_
    rcases ite h with ⟨c1, h⟩ | ⟨c1, h⟩
    · refine ct rfl (et c1) ?_
      refine sr ?_
      refine ts (mv rfl) ?_
      refine ts (mv rfl) ?_
      obtain ⟨x2, hx2, h⟩ := bnd h
      refine tt (clq (f := fun _ => false) (kc rfl) rfl (.c rfl le1 .n) rfl (fr_ (ids := [⟨0, 0, 0⟩, ⟨0, 1, 0⟩]) (cbs := [.box [.ref ⟨0, 1, 0⟩ 0 b1.length b1.length], .arr 1 false (b1.map (dL dI))]) (cbs' := [.box [.ref ⟨0, 1, 0⟩ 0 x2.2.length x2.2.length], .arr 1 false (x2.2.map (dL dI))]) (depend_points_c1_ok hx2) (by first | rfl | (simp only [List.length_set, copied_len] <;> rfl)) (.inr ⟨rfl, rfl⟩) (by simp) rfl rfl rfl rfl rfl rfl rfl rfl (.c rfl (.c rfl .n)) (.set (.set .full rfl (by simp) (set_w0 (.s rfl .h))) rfl (by simp) (set_w0 .h))) rfl) ?_
      refine ts (as_ rfl) ?_
      refine rn ?_
      refine CWp.ret ?_
      obtain rfl := some_inj h
      exact ⟨trivial, rt1 (ex := false) (by exact (.t rfl .n)) (by exact (gd (by rfl))) (by rfl) (by first | rfl | (simp only [List.length_set, copied_len] <;> rfl))⟩
    · refine cf rfl (ef c1) ?_
      refine CWp.skip ?_
      refine CWp.seq ?_
      refine sr ?_
      refine ts (mv rfl) ?_
      refine ts (mv rfl) ?_
      obtain ⟨x3, hx3, h⟩ := bnd h
      refine ts (ixD lT23 api_Loop.sz rfl rfl hx3) ?_
      refine ts (faI fT125_0 rfl rfl) ?_
      refine ts (ldIA (y := api_Affine.d (api_Affine.mk x3.Low.Coefs x3.Low.Const)) aT123 rfl (by kernel_rfl)) ?_
      refine ts (mv rfl) ?_
      obtain ⟨x4, hx4, h⟩ := bnd h
      refine ts (cln (f := fun _ => false) kf rfl (.c rfl le1 (.c rfl le1 .n)) rfl (depend_value_ok hx4) rfl) ?_
      refine ts (as_ rfl) ?_
      refine rn ?_
      obtain ⟨z13, hz13, h⟩ := bnd h
      refine lb (E := fun s5 => [(0, .d (.sl (p0.map api_Loop.d))), (1, .d (.sl (p1.map dI))), (2, .clo 174 [.bptr ⟨0, 0, 0⟩ 0]), (7, .d (.int .i64 (p1.length : Int))), (8, .d (.int .i64 s5.1))]) (M := fun s5 => ⟨[], [[((0, 0), .box [.ref ⟨0, 1, 0⟩ 0 b1.length b1.length]), ((1, 0), .arr 1 false (b1.map (dL dI)))]], [some [((0, 0), .box [.ref ⟨0, 1, 0⟩ 0 s5.2.length s5.2.length]), ((1, 0), .arr 1 false (s5.2.map (dL dI)))]]⟩) (E' := fun y => []) (M' := fun y => ⟨[], [[((0, 0), .box [.ref ⟨0, 1, 0⟩ 0 b1.length b1.length]), ((1, 0), .arr 1 false (b1.map (dL dI)))]], [some [((0, 0), .box [.ref ⟨0, 1, 0⟩ 0 y.length y.length]), ((1, 0), .arr 1 false (y.map (dL dI)))]]⟩) hz13 (by (try simp only [List.length_set, copied_len]); exact trkc (by kernel_rfl) (by kernel_rfl) (by kernel_rfl)) ?_ ?_
      · intro s5 ww h
        unfold depend_walk__depend_points_c1.s1 at h
        refine CWp.seq ?_
        refine sr ?_
        refine ts (mv rfl) ?_
        refine ts (mv rfl) ?_
        refine ts (mv rfl) ?_
        obtain ⟨x6, hx6, h⟩ := bnd h
        refine ts (ixD lT23 api_Loop.sz rfl rfl hx6) ?_
        refine ts (faI fT125_1 rfl rfl) ?_
        refine ts (ldIA (y := api_Affine.d (api_Affine.mk x6.High.Coefs x6.High.Const)) aT123 rfl (by kernel_rfl)) ?_
        refine ts (mv rfl) ?_
        obtain ⟨x7, hx7, h⟩ := bnd h
        refine ts (cln (f := fun _ => false) kf rfl (.c rfl le1 (.c rfl le1 .n)) rfl (depend_value_ok hx7) rfl) ?_
        refine ts (leq rfl rfl) ?_
        refine rn ?_
        rcases ite h with ⟨c8, h⟩ | ⟨c8, h⟩
        · refine ct rfl (bt c8) ?_
          refine CWp.skip ?_
          refine CWp.seq ?_
          refine CWp.block ?_
          refine sr ?_
          refine ts (mv rfl) ?_
          refine ts (mv rfl) ?_
          obtain ⟨x9, hx9, h⟩ := bnd h
          refine ts (cln (f := fun _ => false) kf rfl (.c rfl le1 .n) rfl (slices_Clip_int_ok hx9) rfl) ?_
          refine ts (mv rfl) ?_
          refine ts (bsT (l := (([s5.1] : List Int).map dI)) lT48 rfl rfl rfl (by kernel_rfl)) ?_
          obtain ⟨x10, hx10, h⟩ := bnd h
          refine ta (apT (n := 0) (xs := (x9 : List Int)) (ys := ([s5.1] : List Int)) (f := dI) lT48 uT48 szI rfl rfl elT rfl hx10 rfl) ?_
          refine ts (mv rfl) ?_
          obtain ⟨x11, hx11, h⟩ := bnd h
          refine tt (clq (f := fun _ => false) kf rfl (.c rfl le1 (.w rfl (leG4 rfl (ow rfl) (so .h)) (.c rfl le6 .n))) rfl (fr_ (ids := [⟨0, 0, 0⟩, ⟨0, 1, 0⟩]) (cbs := [.box [.ref ⟨0, 1, 0⟩ 0 s5.2.length s5.2.length], .arr 1 false (s5.2.map (dL dI))]) (cbs' := [.box [.ref ⟨0, 1, 0⟩ 0 x11.2.length x11.2.length], .arr 1 false (x11.2.map (dL dI))]) (ih28 hx11) (by first | rfl | (simp only [List.length_set, copied_len] <;> rfl)) (.inr ⟨rfl, rfl⟩) (by simp) rfl rfl rfl rfl rfl rfl rfl rfl (.c rfl (.c rfl .n)) (.set (.set .full rfl (by simp) (set_w0 (.s rfl .h))) rfl (by simp) (set_w0 .h))) rfl) ?_
          refine rn ?_
          rcases ite h with ⟨c12, h⟩ | ⟨c12, h⟩
          · cases h
          · refine cf rfl (vf c12) ?_
            refine CWp.skip ?_
            refine lr ?_
            refine ts (mv rfl) ?_
            refine ts (add rfl rfl) ?_
            refine ts (as_ rfl) ?_
            refine rn ?_
            obtain rfl := some_inj h
            exact ⟨rfl, (by (try simp only [List.length_set, copied_len]); exact trkc (by kernel_rfl) (by kernel_rfl) (by kernel_rfl))⟩
        · refine cf rfl (bf c8) ?_
          refine CWp.exit ?_
          obtain rfl := some_inj h
          exact ⟨rfl, (by (try simp only [List.length_set, copied_len]); exact trkc (by kernel_rfl) (by kernel_rfl) (by kernel_rfl))⟩
      · intro e s ht
        refine CWp.trim ht ?_
        refine sr ?_
        refine ts (ac rfl rfl) ?_
        refine rn ?_
        refine CWp.ret ?_
        obtain rfl := some_inj h
        exact ⟨trivial, rt1 (ex := false) (by exact (.t rfl .n)) (by exact (gd (by rfl))) (by rfl) (by first | rfl | (simp only [List.length_set, copied_len] <;> rfl))⟩
theorem depend_walk__depend_points_c1_ok {p0 : (List api_Loop)} {p1 : (List Int)} {b1 : (List (List Int))} {r : Bool × List (List Int)} (h : depend_walk__depend_points_c1 p0 p1 b1 = some r) : FunOk PP 103 [.d (.sl (p0.map api_Loop.d)), .d (.sl (p1.map dI)), .clo 174 [.bptr ⟨0, 0, 0⟩ 0]] [[((0, 0), .box [.ref ⟨0, 1, 0⟩ 0 b1.length b1.length]), ((1, 0), .arr 1 false (b1.map (dL dI)))]] ⟨.d (.bool r.1), [some [((0, 0), .box [.ref ⟨0, 1, 0⟩ 0 r.2.length r.2.length]), ((1, 0), .arr 1 false (r.2.map (dL dI)))]]⟩ := by
  obtain ⟨n, hn⟩ := lim_some h
  exact depend_walk__depend_points_c1.N_ok n hn
theorem depend_points_ok {p0 : (List api_Loop)} {out : Out} {r : (List (List Int))} (h : depend_points p0 = some r) : FunOk PP 106 [.d (.sl (p0.map api_Loop.d))] out ⟨.d (.sl (r.map (dL dI))), []⟩ := by
  unfold depend_points at h
  refine fi Tryz.func106 rfl (by kernel_rfl) (by kernel_rfl) (by kernel_rfl) ?_
  refine sr ?_
  refine ts (ak.wk (x' := .sl (([] : List (List Int)).map (dL dI))) rfl) ?_
  refine rn ?_
  refine sr ?_
  refine ta (al (n := 0) zT35 rfl) ?_
  refine gz (Le.nilBox (t := 3) (n := 0) (t' := 1060) (n' := 0) (off := 0) (sz := 1) rfl rfl rfl rfl) ?_
  refine rn ?_
  refine sr ?_
  refine ts (mv rfl) ?_
  refine ts (mf_ (v := .clo 174 [.bptr ⟨out.length, 3, 0⟩ 0]) rfl rfl) ?_
  obtain ⟨x1, hx1, h⟩ := bnd h
  refine tt (clp (f := fun _ => false) kf rfl (.c rfl le1 (.c rfl le1 (.c rfl le6 .n))) rfl (curOf_nil _) ((fr_ (ids := [⟨out.length, 3, 0⟩, ⟨out.length, 1060, 0⟩]) (cbs := [.box [.ref ⟨0, 1, 0⟩ 0 0 0], .arr 1 false (([] : List (List Int)).map (dL dI))]) (cbs' := [.box [.ref ⟨0, 1, 0⟩ 0 x1.2.length x1.2.length], .arr 1 false (x1.2.map (dL dI))]) (depend_walk__depend_points_c1_ok hx1) (by first | rfl | (simp only [List.length_set, copied_len] <;> rfl)) (.inr ⟨rfl, rfl⟩) (by simp) rfl rfl rfl rfl rfl rfl rfl rfl (.c (o1 rfl) (.c (o1 rfl) .n)) (.set (.set .one (o1 rfl) (by simp) (set_o1' .h)) (o1 rfl) (by simp) (set_o1' (.s rfl .h)))).args (.c (.w (.nil _) (.c .n)))) rfl) ?_
  refine rn ?_
  refine sr ?_
  refine ts (ld sT35 rfl (ow rfl) rfl) ?_
  refine ts (as_ rfl) ?_
  refine rn ?_
  refine CWp.ret ?_
  obtain rfl := some_inj h
  exact ⟨trivial, rt1 (ex := false) (by exact (.t rfl .n)) (by exact (gf rfl rfl)) (by rfl) (by rfl)⟩
theorem depend_PointsOf_ok {p0 : (List api_Loop)} {out : Out} {r : (List (List Int)) × Int} (h : depend_PointsOf p0 = some r) : FunOk PP 34 [.d (.sl (p0.map api_Loop.d))] out ⟨.tup [.d (.sl (r.1.map (dL dI))), .d (.int .i64 r.2)], []⟩ := by
  unfold depend_PointsOf at h
  refine fi Tryz.func34 rfl (by kernel_rfl) (by kernel_rfl) (by kernel_rfl) ?_
  refine sr ?_
  refine ts (ak.wk (x' := .sl (([] : List (List Int)).map (dL dI))) rfl) ?_
  refine ts (ac rfl rfl) ?_
  refine rn ?_
  refine CWp.seq ?_
  refine sr ?_
  refine ts (mv rfl) ?_
  obtain ⟨x1, hx1, h⟩ := bnd h
  refine ts (cln (f := fun _ => false) kf rfl (.c rfl le1 .n) (curOf_nil _) (depend_nestErr_ok hx1) rfl) ?_
  refine ts (as_ rfl) ?_
  refine rn ?_
  refine sr ?_
  refine ts (mv rfl) ?_
  refine ts (neq rfl rfl) ?_
  refine rn ?_
  rcases ite h with ⟨c2, h⟩ | ⟨c2, h⟩
  · cases h
  · refine cf rfl (nf c2) ?_
    refine CWp.skip ?_
    refine sr ?_
    refine ts (mv rfl) ?_
    obtain ⟨x3, hx3, h⟩ := bnd h
    refine ts (cln (f := fun _ => false) kf rfl (.c rfl le1 .n) (curOf_nil _) (depend_points_ok hx3) rfl) ?_
    refine ts (as_ rfl) ?_
    refine ts (ac rfl rfl) ?_
    refine rn ?_
    refine CWp.ret ?_
    obtain rfl := some_inj h
    exact ⟨trivial, rt2 (ex := false) (by exact (.t rfl (.t rfl .n))) (by exact (sc (gd (by rfl)) (sc (gd (by rfl)) sn))) (by rfl) (by rfl)⟩
theorem law27_Shift_ok {out : Out} {r : (List api_Access)} (h : law27_Shift = r) : FunOk PP 62 [] out ⟨.d (.sl (r.map api_Access.d)), []⟩ := by
  unfold law27_Shift at h
  refine fi Tryz.func62 rfl (by kernel_rfl) (by kernel_rfl) (by kernel_rfl) ?_
  refine sr ?_
  refine ts (ak.wk (x' := .sl (([] : List api_Access).map api_Access.d)) rfl) ?_
  refine rn ?_
  refine sr ?_
  refine ts (bsT (l := (([1, 0] : List Int).map dI)) lT48 rfl rfl rfl (by kernel_rfl)) ?_
  refine ts (cln (f := fun _ => false) kf rfl (.c rfl le1 (.c rfl le2 .n)) (curOf_nil _) (law27_Form_ok (rfl : law27_Form 0 [1, 0] = _)) rfl) ?_
  refine ts (bsT (l := (([0, 1] : List Int).map dI)) lT48 rfl rfl rfl (by kernel_rfl)) ?_
  refine ts (cln (f := fun _ => false) kf rfl (.c rfl le1 (.c rfl le2 .n)) (curOf_nil _) (law27_Form_ok (rfl : law27_Form 0 [0, 1] = _)) rfl) ?_
  refine ts (bsT (l := (([(law27_Form 0 [1, 0]), (law27_Form 0 [0, 1])] : List api_Affine).map api_Affine.d)) lT88 rfl rfl rfl (by kernel_rfl)) ?_
  refine ts ((bld (v := .agg [.d (.int .i64 0), .tight (([(law27_Form 0 [1, 0]), (law27_Form 0 [0, 1])] : List api_Affine).map api_Affine.d), .d (.bool true)]) rfl (by kernel_rfl)).wkf (x' := .d (api_Access.d (api_Access.mk 0 [(law27_Form 0 [1, 0]), (law27_Form 0 [0, 1])] true))) rfl) ?_
  refine ts (bsT (l := (([1, 0] : List Int).map dI)) lT48 rfl rfl rfl (by kernel_rfl)) ?_
  refine ts (cln (f := fun _ => false) kf rfl (.c rfl le1 (.c rfl le2 .n)) (curOf_nil _) (law27_Form_ok (rfl : law27_Form (-1) [1, 0] = _)) rfl) ?_
  refine ts (bsT (l := (([0, 1] : List Int).map dI)) lT48 rfl rfl rfl (by kernel_rfl)) ?_
  refine ts (cln (f := fun _ => false) kf rfl (.c rfl le1 (.c rfl le2 .n)) (curOf_nil _) (law27_Form_ok (rfl : law27_Form 0 [0, 1] = _)) rfl) ?_
  refine ts (bsT (l := (([(law27_Form (-1) [1, 0]), (law27_Form 0 [0, 1])] : List api_Affine).map api_Affine.d)) lT88 rfl rfl rfl (by kernel_rfl)) ?_
  refine ts ((bld (v := .agg [.d (.int .i64 0), .tight (([(law27_Form (-1) [1, 0]), (law27_Form 0 [0, 1])] : List api_Affine).map api_Affine.d), .d (.bool false)]) rfl (by kernel_rfl)).wkf (x' := .d (api_Access.d (api_Access.mk 0 [(law27_Form (-1) [1, 0]), (law27_Form 0 [0, 1])] false))) rfl) ?_
  refine ts (bsT (l := (([(api_Access.mk 0 [(law27_Form 0 [1, 0]), (law27_Form 0 [0, 1])] true), (api_Access.mk 0 [(law27_Form (-1) [1, 0]), (law27_Form 0 [0, 1])] false)] : List api_Access).map api_Access.d)) lT24 rfl rfl rfl (by kernel_rfl)) ?_
  refine ts (as_ rfl) ?_
  refine rn ?_
  refine CWp.ret ?_
  obtain rfl := h
  exact ⟨trivial, rt1 (ex := false) (by exact (.t rfl .n)) (by exact gt) (by rfl) (by rfl)⟩
theorem depend_accessErr_c1_ok {p0 : Int} {p1 : api_Affine} {p2 : Int} {out : Out} {r : Int} (h : depend_accessErr_c1 p0 p1 p2 = some r) : FunOk PP 181 [.d (.int .i64 p0), .d (api_Affine.d p1), .pimm (.int .i64 p2) 0] out ⟨.d (.int .i64 r), []⟩ := by
  unfold depend_accessErr_c1 at h
  refine fi Tryz.func181 rfl (by kernel_rfl) (by kernel_rfl) (by kernel_rfl) ?_
  refine sr ?_
  refine ts (bxI rfl) ?_
  refine ts (ac rfl rfl) ?_
  refine rn ?_
  refine sr ?_
  refine ts (ldIW aT123 rfl rfl rfl) ?_
  refine ts (ldI sT3 rfl rfl) ?_
  obtain ⟨x1, hx1, h⟩ := bnd h
  refine ts (cln (f := fun _ => false) kf rfl (.c rfl le1 (.c rfl le1 .n)) (curOf_nil _) (depend_formErr_ok hx1) rfl) ?_
  refine ts (as_ rfl) ?_
  refine rn ?_
  refine CWp.ret ?_
  obtain rfl := some_inj h
  exact ⟨trivial, rt1 (ex := false) (by exact (.t rfl .n)) (by exact (gd (by rfl))) (by rfl) (by rfl)⟩
theorem depend_firstBad_api_Affine__depend_accessErr_c1_ok {p0 : (List api_Affine)} {p1_0 : Int} {out : Out} {r : Int × Int} (h : depend_firstBad_api_Affine__depend_accessErr_c1 p0 p1_0 = some r) : FunOk PP 180 [.d (.sl (p0.map api_Affine.d)), .clo 181 [.pimm (.int .i64 p1_0) 0]] out ⟨.tup [.d (.int .i64 r.1), .d (.int .i64 r.2)], []⟩ := by
  unfold depend_firstBad_api_Affine__depend_accessErr_c1 at h
  refine fi Tryz.func180 rfl (by kernel_rfl) (by kernel_rfl) (by kernel_rfl) ?_
  refine sr ?_
  refine ts (ac rfl rfl) ?_
  refine ts (ac rfl rfl) ?_
  refine rn ?_
  refine CWp.seq ?_
  refine sr ?_
  refine ts (mv rfl) ?_
  refine ts (lnD lT88 rfl rfl) ?_
  refine ts (mv rfl) ?_
  refine rn ?_
  obtain ⟨z6, hz6, h⟩ := bnd h
  refine lbr (E := fun s1 => [(1, .clo 181 [.pimm (.int .i64 p1_0) 0]), (9, .d (.sl (p0.map api_Affine.d))), (10, .d (.int .i64 (p0.length : Int))), (11, .d (.int .i64 s1))]) (M := fun s1 => ⟨[], out, []⟩) (E' := fun y => []) (M' := fun y => ⟨[], out, []⟩) (RT := fun r e s => Lx.Returns PP Tryz.f180.results.toList e s ⟨.tup [.d (.int .i64 r.1), .d (.int .i64 r.2)], []⟩) hz6 (by (try simp only [List.length_set, copied_len]); exact trk (by kernel_rfl) (by kernel_rfl) (by kernel_rfl)) ?_ ?_
  · intro s1 ww h
    unfold depend_firstBad_api_Affine__depend_accessErr_c1.s1 at h
    refine sr ?_
    refine ts (lss rfl rfl) ?_
    refine rn ?_
    refine CWp.seq ?_
    rcases ite h with ⟨c2, h⟩ | ⟨c2, h⟩
    · refine ct rfl (bt c2) ?_
      refine CWp.skip ?_
      refine CWp.seq ?_
      refine CWp.block ?_
      refine sr ?_
      refine ts (mv rfl) ?_
      obtain ⟨x3, hx3, h⟩ := bnd h
      refine ts (ixD lT88 api_Affine.sz rfl rfl hx3) ?_
      refine ts (ldIW aT123 rfl rfl rfl) ?_
      refine ta (al (n := 0) zT123 rfl) ?_
      refine ts (as_ rfl) ?_
      refine tt0 (stW aT123 rfl rfl rfl rfl rfl rfl .h) ?_
      refine rn ?_
      refine sr ?_
      refine ts (mv rfl) ?_
      refine ts (mv rfl) ?_
      refine ts (ldW (e := api_Affine.d x3) aT123 rfl (ow rfl) rfl rfl) ?_
      obtain ⟨x4, hx4, h⟩ := bnd h
      refine ts (cln (f := fun _ => false) (kc rfl) rfl (.c rfl le1 (.c rfl le1 .n)) (curOf_nil _) (depend_accessErr_c1_ok hx4) rfl) ?_
      refine ts (as_ rfl) ?_
      refine rn ?_
      refine sr ?_
      refine ts (mv rfl) ?_
      refine ts (neq rfl rfl) ?_
      refine rn ?_
      rcases ite h with ⟨c5, h⟩ | ⟨c5, h⟩
      · refine ct rfl (nt c5) ?_
        refine sr ?_
        refine ts (mv rfl) ?_
        refine ts (mv rfl) ?_
        refine ts (as_ rfl) ?_
        refine ts (as_ rfl) ?_
        refine rn ?_
        refine CWp.ret ?_
        obtain rfl := some_inj h
        exact ⟨rfl, rt2 (ex := false) (by exact (.t rfl (.t rfl .n))) (by exact (sc (gd (by rfl)) (sc (gd (by rfl)) sn))) (by rfl) (by rfl)⟩
      · refine cf rfl (nf c5) ?_
        refine CWp.skip ?_
        refine lr ?_
        refine ts (add rfl rfl) ?_
        refine ts (mv rfl) ?_
        refine rn ?_
        obtain rfl := some_inj h
        exact ⟨rfl, (by (try simp only [List.length_set, copied_len]); exact trk (by kernel_rfl) (by kernel_rfl) (by kernel_rfl))⟩
    · refine cf rfl (bf c2) ?_
      refine CWp.exit ?_
      obtain rfl := some_inj h
      exact ⟨rfl, (by (try simp only [List.length_set, copied_len]); exact trk (by kernel_rfl) (by kernel_rfl) (by kernel_rfl))⟩
  · cases z6 with
    | inl v7 =>
      intro e s ht
      refine CWp.trim ht ?_
      refine sr ?_
      refine ts (ac rfl rfl) ?_
      refine ts (ac rfl rfl) ?_
      refine rn ?_
      refine CWp.ret ?_
      obtain rfl := some_inj h
      exact ⟨trivial, rt2 (ex := false) (by exact (.t rfl (.t rfl .n))) (by exact (sc (gd (by rfl)) (sc (gd (by rfl)) sn))) (by rfl) (by rfl)⟩
    | inr r8 =>
      intro e s hr
      obtain rfl := some_inj h
      exact ⟨trivial, hr⟩
theorem depend_accessErr_ok {p0 : api_Access} {p1 : Int} {out : Out} {r : Int} (h : depend_accessErr p0 p1 = some r) : FunOk PP 124 [.d (api_Access.d p0), .d (.int .i64 p1)] out ⟨.d (.int .i64 r), []⟩ := by
  unfold depend_accessErr at h
  refine fi Tryz.func124 rfl (by kernel_rfl) (by kernel_rfl) (by kernel_rfl) ?_
  refine sr ?_
  refine ts (bxI rfl) ?_
  refine ts (bxI rfl) ?_
  refine ts (ac rfl rfl) ?_
  refine rn ?_
  refine sd mixed (b := [0, 1, 3, 7, 0, 16, 48, 119, 247, 511, 1023, 2047]) (by kernel_rfl) ?_
  refine ds (faI fT90_0 rfl rfl) rfl ?_
  refine ds (ldI sT3 rfl rfl) rfl ?_
  refine dr (cln (f := fun _ => false) kf rfl (.c rfl le1 (.c rfl le1 (.c rfl le1 .n))) (curOf_nil _) (depend_inside_ok (rfl : depend_inside p0.Array 0 9 = _)) rfl) rfl ?_
  refine ds (bld (v := .d (depend_rule.d (depend_rule.mk (depend_inside p0.Array 0 9) 2))) rfl (by kernel_rfl)) rfl ?_
  refine ds (faI fT90_1 rfl rfl) rfl ?_
  refine ds (ldI sT88 rfl rfl) rfl ?_
  refine ds (lnD lT88 rfl rfl) rfl ?_
  refine dr (cln (f := fun _ => false) kf rfl (.c rfl le1 (.c rfl le1 (.c rfl le1 .n))) (curOf_nil _) (depend_inside_ok (rfl : depend_inside (p0.Subscripts.length : Int) 1 7 = _)) rfl) rfl ?_
  refine ds (bld (v := .d (depend_rule.d (depend_rule.mk (depend_inside (p0.Subscripts.length : Int) 1 7) 32))) rfl (by kernel_rfl)) rfl ?_
  refine ds (bsT (l := (([(depend_rule.mk (depend_inside p0.Array 0 9) 2), (depend_rule.mk (depend_inside (p0.Subscripts.length : Int) 1 7) 32)] : List depend_rule).map depend_rule.d)) lT226 rfl rfl rfl (by kernel_rfl)) rfl ?_
  obtain ⟨x1, hx1, h⟩ := bnd h
  refine dr (cln (f := fun _ => false) kf rfl (.c rfl le2 .n) (curOf_nil _) (depend_broken_ok hx1) rfl) rfl ?_
  refine ds (as_ rfl) rfl ?_
  refine dn (by kernel_rfl) ?_
  refine CWp.seq ?_
  refine sr ?_
  refine ts (mv rfl) ?_
  refine ts (eql rfl rfl) ?_
  refine rn ?_
  rcases ite h with ⟨c2, h⟩ | ⟨c2, h⟩
  · refine ct rfl (et c2) ?_
    refine lr ?_
    refine ts (faI fT90_1 rfl rfl) ?_
    refine ts (ldI sT88 rfl rfl) ?_
    refine ts (mf_ (v := .clo 181 [.pimm (.int .i64 p1) 0]) rfl rfl) ?_
    obtain ⟨x3, hx3, h⟩ := bnd h
    refine ts (cln (f := fun _ => false) kf rfl (.c rfl le1 (.c rfl le6 .n)) (curOf_nil _) (depend_firstBad_api_Affine__depend_accessErr_c1_ok hx3) rfl) ?_
    refine ts (mv rfl) ?_
    refine ts (ex_ rfl rfl) ?_
    refine ts (ex_ rfl rfl) ?_
    refine ts (as_ rfl) ?_
    refine rn ?_
    refine sr ?_
    refine ts (mv rfl) ?_
    refine ts (as_ rfl) ?_
    refine rn ?_
    refine CWp.ret ?_
    obtain rfl := some_inj h
    exact ⟨trivial, rt1 (ex := false) (by exact (.t rfl .n)) (by exact (gd (by rfl))) (by rfl) (by rfl)⟩
  · refine cf rfl (ef c2) ?_
    refine CWp.skip ?_
    refine sr ?_
    refine ts (mv rfl) ?_
    refine ts (as_ rfl) ?_
    refine rn ?_
    refine CWp.ret ?_
    obtain rfl := some_inj h
    exact ⟨trivial, rt1 (ex := false) (by exact (.t rfl .n)) (by exact (gd (by rfl))) (by rfl) (by rfl)⟩
theorem depend_CheckBody_c1_ok {p0 : Int} {p1 : api_Access} {p2 : (List api_Loop)} {out : Out} {r : Int} (h : depend_CheckBody_c1 p0 p1 p2 = some r) : FunOk PP 123 [.d (.int .i64 p0), .d (api_Access.d p1), .pimm (.sl (p2.map api_Loop.d)) 0] out ⟨.d (.int .i64 r), []⟩ := by
  unfold depend_CheckBody_c1 at h
  refine fi Tryz.func123 rfl (by kernel_rfl) (by kernel_rfl) (by kernel_rfl) ?_
  refine sr ?_
  refine ts (bxI rfl) ?_
  refine ts (ac rfl rfl) ?_
  refine rn ?_
  refine sr ?_
  refine ts (ldIW aT90 rfl rfl rfl) ?_
  refine ts (ldI sT23 rfl rfl) ?_
  refine ts (lnD lT23 rfl rfl) ?_
  obtain ⟨x1, hx1, h⟩ := bnd h
  refine ts (cln (f := fun _ => false) kf rfl (.c rfl le1 (.c rfl le1 .n)) (curOf_nil _) (depend_accessErr_ok hx1) rfl) ?_
  refine ts (as_ rfl) ?_
  refine rn ?_
  refine CWp.ret ?_
  obtain rfl := some_inj h
  exact ⟨trivial, rt1 (ex := false) (by exact (.t rfl .n)) (by exact (gd (by rfl))) (by rfl) (by rfl)⟩
theorem depend_firstBad_api_Access__depend_CheckBody_c1_ok {p0 : (List api_Access)} {p1_0 : (List api_Loop)} {out : Out} {r : Int × Int} (h : depend_firstBad_api_Access__depend_CheckBody_c1 p0 p1_0 = some r) : FunOk PP 122 [.d (.sl (p0.map api_Access.d)), .clo 123 [.pimm (.sl (p1_0.map api_Loop.d)) 0]] out ⟨.tup [.d (.int .i64 r.1), .d (.int .i64 r.2)], []⟩ := by
  unfold depend_firstBad_api_Access__depend_CheckBody_c1 at h
  refine fi Tryz.func122 rfl (by kernel_rfl) (by kernel_rfl) (by kernel_rfl) ?_
  refine sr ?_
  refine ts (ac rfl rfl) ?_
  refine ts (ac rfl rfl) ?_
  refine rn ?_
  refine CWp.seq ?_
  refine sr ?_
  refine ts (mv rfl) ?_
  refine ts (lnD lT24 rfl rfl) ?_
  refine ts (mv rfl) ?_
  refine rn ?_
  obtain ⟨z6, hz6, h⟩ := bnd h
  refine lbr (E := fun s1 => [(1, .clo 123 [.pimm (.sl (p1_0.map api_Loop.d)) 0]), (9, .d (.sl (p0.map api_Access.d))), (10, .d (.int .i64 (p0.length : Int))), (11, .d (.int .i64 s1))]) (M := fun s1 => ⟨[], out, []⟩) (E' := fun y => []) (M' := fun y => ⟨[], out, []⟩) (RT := fun r e s => Lx.Returns PP Tryz.f122.results.toList e s ⟨.tup [.d (.int .i64 r.1), .d (.int .i64 r.2)], []⟩) hz6 (by (try simp only [List.length_set, copied_len]); exact trk (by kernel_rfl) (by kernel_rfl) (by kernel_rfl)) ?_ ?_
  · intro s1 ww h
    unfold depend_firstBad_api_Access__depend_CheckBody_c1.s1 at h
    refine sr ?_
    refine ts (lss rfl rfl) ?_
    refine rn ?_
    refine CWp.seq ?_
    rcases ite h with ⟨c2, h⟩ | ⟨c2, h⟩
    · refine ct rfl (bt c2) ?_
      refine CWp.skip ?_
      refine CWp.seq ?_
      refine CWp.block ?_
      refine sr ?_
      refine ts (mv rfl) ?_
      obtain ⟨x3, hx3, h⟩ := bnd h
      refine ts (ixD lT24 api_Access.sz rfl rfl hx3) ?_
      refine ts (ldIW aT90 rfl rfl rfl) ?_
      refine ta (al (n := 0) zT90 rfl) ?_
      refine ts (as_ rfl) ?_
      refine tt0 (stW aT90 rfl rfl rfl rfl rfl rfl .h) ?_
      refine rn ?_
      refine sr ?_
      refine ts (mv rfl) ?_
      refine ts (mv rfl) ?_
      refine ts (ldW (e := api_Access.d x3) aT90 rfl (ow rfl) rfl rfl) ?_
      obtain ⟨x4, hx4, h⟩ := bnd h
      refine ts (cln (f := fun _ => false) (kc rfl) rfl (.c rfl le1 (.c rfl le1 .n)) (curOf_nil _) (depend_CheckBody_c1_ok hx4) rfl) ?_
      refine ts (as_ rfl) ?_
      refine rn ?_
      refine sr ?_
      refine ts (mv rfl) ?_
      refine ts (neq rfl rfl) ?_
      refine rn ?_
      rcases ite h with ⟨c5, h⟩ | ⟨c5, h⟩
      · refine ct rfl (nt c5) ?_
        refine sr ?_
        refine ts (mv rfl) ?_
        refine ts (mv rfl) ?_
        refine ts (as_ rfl) ?_
        refine ts (as_ rfl) ?_
        refine rn ?_
        refine CWp.ret ?_
        obtain rfl := some_inj h
        exact ⟨rfl, rt2 (ex := false) (by exact (.t rfl (.t rfl .n))) (by exact (sc (gd (by rfl)) (sc (gd (by rfl)) sn))) (by rfl) (by rfl)⟩
      · refine cf rfl (nf c5) ?_
        refine CWp.skip ?_
        refine lr ?_
        refine ts (add rfl rfl) ?_
        refine ts (mv rfl) ?_
        refine rn ?_
        obtain rfl := some_inj h
        exact ⟨rfl, (by (try simp only [List.length_set, copied_len]); exact trk (by kernel_rfl) (by kernel_rfl) (by kernel_rfl))⟩
    · refine cf rfl (bf c2) ?_
      refine CWp.exit ?_
      obtain rfl := some_inj h
      exact ⟨rfl, (by (try simp only [List.length_set, copied_len]); exact trk (by kernel_rfl) (by kernel_rfl) (by kernel_rfl))⟩
  · cases z6 with
    | inl v7 =>
      intro e s ht
      refine CWp.trim ht ?_
      refine sr ?_
      refine ts (ac rfl rfl) ?_
      refine ts (ac rfl rfl) ?_
      refine rn ?_
      refine CWp.ret ?_
      obtain rfl := some_inj h
      exact ⟨trivial, rt2 (ex := false) (by exact (.t rfl (.t rfl .n))) (by exact (sc (gd (by rfl)) (sc (gd (by rfl)) sn))) (by rfl) (by rfl)⟩
    | inr r8 =>
      intro e s hr
      obtain rfl := some_inj h
      exact ⟨trivial, hr⟩
theorem depend_CheckBody_ok {p0 : (List api_Loop)} {p1 : (List api_Access)} {out : Out} {r : Int × Int} (h : depend_CheckBody p0 p1 = some r) : FunOk PP 43 [.d (.sl (p0.map api_Loop.d)), .d (.sl (p1.map api_Access.d))] out ⟨.tup [.d (.int .i64 r.1), .d (.int .i64 r.2)], []⟩ := by
  unfold depend_CheckBody at h
  refine fi Tryz.func43 rfl (by kernel_rfl) (by kernel_rfl) (by kernel_rfl) ?_
  refine sr ?_
  refine ts (bxI rfl) ?_
  refine ts (ac rfl rfl) ?_
  refine ts (ac rfl rfl) ?_
  refine rn ?_
  refine CWp.seq ?_
  refine sr ?_
  refine ts (ldI sT23 rfl rfl) ?_
  obtain ⟨x1, hx1, h⟩ := bnd h
  refine ts (cln (f := fun _ => false) kf rfl (.c rfl le1 .n) (curOf_nil _) (depend_nestErr_ok hx1) rfl) ?_
  refine ts (mv rfl) ?_
  refine ts (lnD lT24 rfl rfl) ?_
  refine ts (leq rfl rfl) ?_
  refine ts (bld (v := .d (depend_rule.d (depend_rule.mk (decide ((p1.length : Int) ≤ 8)) 8))) rfl (by kernel_rfl)) ?_
  refine ts (bsT (l := (([(depend_rule.mk (decide ((p1.length : Int) ≤ 8)) 8)] : List depend_rule).map depend_rule.d)) lT226 rfl rfl rfl (by kernel_rfl)) ?_
  obtain ⟨x2, hx2, h⟩ := bnd h
  refine ts (cln (f := fun _ => false) kf rfl (.c rfl le2 .n) (curOf_nil _) (depend_broken_ok hx2) rfl) ?_
  refine ts (bsT (l := (([x1, x2] : List Int).map dI)) lT227 rfl rfl rfl (by kernel_rfl)) ?_
  obtain ⟨x3, hx3, h⟩ := bnd h
  refine ts (cln (f := fun _ => false) kf rfl (.c rfl le2 .n) (curOf_nil _) (cmp_Or_api_Errno_ok hx3) rfl) ?_
  refine ts (as_ rfl) ?_
  refine rn ?_
  refine sr ?_
  refine ts (mv rfl) ?_
  refine ts (neq rfl rfl) ?_
  refine rn ?_
  rcases ite h with ⟨c4, h⟩ | ⟨c4, h⟩
  · refine ct rfl (nt c4) ?_
    refine sr ?_
    refine ts (mv rfl) ?_
    refine ts (ac rfl rfl) ?_
    refine ts (as_ rfl) ?_
    refine rn ?_
    refine CWp.ret ?_
    obtain rfl := some_inj h
    exact ⟨trivial, rt2 (ex := false) (by exact (.t rfl (.t rfl .n))) (by exact (sc (gd (by rfl)) (sc (gd (by rfl)) sn))) (by rfl) (by rfl)⟩
  · refine cf rfl (nf c4) ?_
    refine CWp.skip ?_
    refine sr ?_
    refine ts (mv rfl) ?_
    refine ts (mf_ (v := .clo 123 [.pimm (.sl (p0.map api_Loop.d)) 0]) rfl rfl) ?_
    obtain ⟨x5, hx5, h⟩ := bnd h
    refine ts (cln (f := fun _ => false) kf rfl (.c rfl le1 (.c rfl le6 .n)) (curOf_nil _) (depend_firstBad_api_Access__depend_CheckBody_c1_ok hx5) rfl) ?_
    refine ts (ex_ rfl rfl) ?_
    refine ts (ex_ rfl rfl) ?_
    refine ts (as_ rfl) ?_
    refine ts (as_ rfl) ?_
    refine rn ?_
    refine CWp.ret ?_
    obtain rfl := some_inj h
    exact ⟨trivial, rt2 (ex := false) (by exact (.t rfl (.t rfl .n))) (by exact (sc (gd (by rfl)) (sc (gd (by rfl)) sn))) (by rfl) (by rfl)⟩
theorem depend_pairErr_ok {p0 : (List api_Loop)} {p1 : (List api_Access)} {p2 : Int} {p3 : Int} {out : Out} {r : Int} (h : depend_pairErr p0 p1 p2 p3 = some r) : FunOk PP 65 [.d (.sl (p0.map api_Loop.d)), .d (.sl (p1.map api_Access.d)), .d (.int .i64 p2), .d (.int .i64 p3)] out ⟨.d (.int .i64 r), []⟩ := by
  unfold depend_pairErr at h
  refine fi Tryz.func65 rfl (by kernel_rfl) (by kernel_rfl) (by kernel_rfl) ?_
  refine sr ?_
  refine ts (ac rfl rfl) ?_
  refine rn ?_
  refine sr ?_
  refine ts (mv rfl) ?_
  refine ts (mv rfl) ?_
  obtain ⟨x1, hx1, h⟩ := bnd h
  refine ts (cln (f := fun _ => false) kf rfl (.c rfl le1 (.c rfl le1 .n)) (curOf_nil _) (depend_CheckBody_ok hx1) rfl) ?_
  refine ts (mv rfl) ?_
  refine ts (ex_ rfl rfl) ?_
  refine ts (ex_ rfl rfl) ?_
  refine ts (as_ rfl) ?_
  refine ts (as_ rfl) ?_
  refine rn ?_
  refine sr ?_
  refine ts (mv rfl) ?_
  refine ts (mv rfl) ?_
  refine ts (mv rfl) ?_
  refine ts (lnD lT24 rfl rfl) ?_
  refine ts (sub rfl rfl) ?_
  refine ts (cln (f := fun _ => false) kf rfl (.c rfl le1 (.c rfl le1 (.c rfl le1 .n))) (curOf_nil _) (depend_inside_ok (rfl : depend_inside p2 0 (w ((p1.length : Int) - 1)) = _)) rfl) ?_
  refine ts (mv rfl) ?_
  refine sg 6 [(29, .d (.bool ((depend_inside p2 0 (w ((p1.length : Int) - 1))) && (depend_inside p3 0 (w ((p1.length : Int) - 1))))))] ?_ ?_
  · rcases bool_or (depend_inside p2 0 (w ((p1.length : Int) - 1))) with g2 | g3
    · refine us (gy rfl rfl g2) (mv rfl) ?_
      refine us (gy rfl rfl g2) (mv rfl) ?_
      refine us (gy rfl rfl g2) (lnD lT24 rfl rfl) ?_
      refine us (gy rfl rfl g2) (sub rfl rfl) ?_
      refine us (gy rfl rfl g2) (cln (f := fun _ => false) kf rfl (.c rfl le1 (.c rfl le1 (.c rfl le1 .n))) (curOf_nil _) (depend_inside_ok (rfl : depend_inside p3 0 (w ((p1.length : Int) - 1)) = _)) rfl) ?_
      refine ts (pt rfl g2 rfl) ?_
      exact rn (trD 6 rfl (.c (bq (and_t g2)) .n) (by kernel_rfl))
    · refine un (gn rfl rfl g3) ?_
      refine un (gn rfl rfl g3) ?_
      refine un (gn rfl rfl g3) ?_
      refine un (gn rfl rfl g3) ?_
      refine un (gn rfl rfl g3) ?_
      refine ts (pf rfl g3 rfl) ?_
      exact rn (trD 6 rfl (.c (bq (and_f g3)) .n) (by kernel_rfl))
  refine ts (bld (v := .d (depend_rule.d (depend_rule.mk ((depend_inside p2 0 (w ((p1.length : Int) - 1))) && (depend_inside p3 0 (w ((p1.length : Int) - 1)))) 6))) rfl (by kernel_rfl)) ?_
  refine ts (bsT (l := (([(depend_rule.mk ((depend_inside p2 0 (w ((p1.length : Int) - 1))) && (depend_inside p3 0 (w ((p1.length : Int) - 1)))) 6)] : List depend_rule).map depend_rule.d)) lT226 rfl rfl rfl (by kernel_rfl)) ?_
  obtain ⟨x4, hx4, h⟩ := bnd h
  refine ts (cln (f := fun _ => false) kf rfl (.c rfl le2 .n) (curOf_nil _) (depend_broken_ok hx4) rfl) ?_
  refine ts (bsT (l := (([x1.2, x4] : List Int).map dI)) lT227 rfl rfl rfl (by kernel_rfl)) ?_
  obtain ⟨x5, hx5, h⟩ := bnd h
  refine ts (cln (f := fun _ => false) kf rfl (.c rfl le2 .n) (curOf_nil _) (cmp_Or_api_Errno_ok hx5) rfl) ?_
  refine ts (as_ rfl) ?_
  refine rn ?_
  refine CWp.ret ?_
  obtain rfl := some_inj h
  exact ⟨trivial, rt1 (ex := false) (by exact (.t rfl .n)) (by exact (gd (by rfl))) (by rfl) (by rfl)⟩
theorem depend_related_ok {p0 : api_Access} {p1 : api_Access} {out : Out} {r : Bool} (h : depend_related p0 p1 = r) : FunOk PP 149 [.d (api_Access.d p0), .d (api_Access.d p1)] out ⟨.d (.bool r), []⟩ := by
  unfold depend_related at h
  refine fi Tryz.func149 rfl (by kernel_rfl) (by kernel_rfl) (by kernel_rfl) ?_
  refine sr ?_
  refine ts (bxI rfl) ?_
  refine ts (bxI rfl) ?_
  refine ts (ac rfl rfl) ?_
  refine rn ?_
  refine sr ?_
  refine ts (faI fT90_0 rfl rfl) ?_
  refine ts (ldI sT3 rfl rfl) ?_
  refine ts (faI fT90_0 rfl rfl) ?_
  refine ts (ldI sT3 rfl rfl) ?_
  refine ts (eql rfl rfl) ?_
  refine ts (mv rfl) ?_
  refine sg 8 [(18, .d (.bool ((p0.Array == p1.Array) && ((p0.Subscripts.length : Int) == (p1.Subscripts.length : Int)))))] ?_ ?_
  · rcases bool_or (p0.Array == p1.Array) with g1 | g2
    · refine us (gy rfl rfl g1) (faI fT90_1 rfl rfl) ?_
      refine us (gy rfl rfl g1) (ldI sT88 rfl rfl) ?_
      refine us (gy rfl rfl g1) (lnD lT88 rfl rfl) ?_
      refine us (gy rfl rfl g1) (faI fT90_1 rfl rfl) ?_
      refine us (gy rfl rfl g1) (ldI sT88 rfl rfl) ?_
      refine us (gy rfl rfl g1) (lnD lT88 rfl rfl) ?_
      refine us (gy rfl rfl g1) (eql rfl rfl) ?_
      refine ts (pt rfl g1 rfl) ?_
      exact rn (trD 8 rfl (.c (bq (and_t g1)) .n) (by kernel_rfl))
    · refine un (gn rfl rfl g2) ?_
      refine un (gn rfl rfl g2) ?_
      refine un (gn rfl rfl g2) ?_
      refine un (gn rfl rfl g2) ?_
      refine un (gn rfl rfl g2) ?_
      refine un (gn rfl rfl g2) ?_
      refine un (gn rfl rfl g2) ?_
      refine ts (pf rfl g2 rfl) ?_
      exact rn (trD 8 rfl (.c (bq (and_f g2)) .n) (by kernel_rfl))
  refine ts (mv rfl) ?_
  refine sg 7 [(26, .d (.bool (((p0.Array == p1.Array) && ((p0.Subscripts.length : Int) == (p1.Subscripts.length : Int))) && (p0.Write || p1.Write))))] ?_ ?_
  · rcases bool_or ((p0.Array == p1.Array) && ((p0.Subscripts.length : Int) == (p1.Subscripts.length : Int))) with g3 | g6
    · refine us (gy rfl rfl g3) (faI fT90_2 rfl rfl) ?_
      refine us (gy rfl rfl g3) (ldI sT4 rfl rfl) ?_
      refine us (gy rfl rfl g3) (mv rfl) ?_
      refine sg 3 [(25, .d (.bool (p0.Write || p1.Write)))] ?_ ?_
      · rcases bool_or p0.Write with g4 | g5
        · refine un (gn rfl rfl g4) ?_
          refine un (gn rfl rfl g4) ?_
          refine us (gy rfl rfl g3) (pt rfl g4 rfl) ?_
          exact rn (trD 3 rfl (.c (bq (or_t g4)) .n) (by kernel_rfl))
        · refine us (gy rfl rfl g5) (faI fT90_2 rfl rfl) ?_
          refine us (gy rfl rfl g5) (ldI sT4 rfl rfl) ?_
          refine us (gy rfl rfl g3) (pf rfl g5 rfl) ?_
          exact rn (trD 3 rfl (.c (bq (or_f g5)) .n) (by kernel_rfl))
      refine ts (pt rfl g3 rfl) ?_
      exact rn (trD 5 rfl (.c (bq (and_t g3)) .n) (by kernel_rfl))
    · refine un (gn rfl rfl g6) ?_
      refine un (gn rfl rfl g6) ?_
      refine un (gn rfl rfl g6) ?_
      refine un (gu rfl rfl) ?_
      refine un (gu rfl rfl) ?_
      refine un (gn rfl rfl g6) ?_
      refine ts (pf rfl g6 rfl) ?_
      exact rn (trD 7 rfl (.c (bq (and_f g6)) .n) (by kernel_rfl))
  refine ts (as_ rfl) ?_
  refine rn ?_
  refine CWp.ret ?_
  obtain rfl := h
  exact ⟨trivial, rt1 (ex := false) (by exact (.t rfl .n)) (by exact (gd (by rfl))) (by rfl) (by rfl)⟩
theorem depend_element_ok {p0 : api_Access} {p1 : (List Int)} {out : Out} {r : (List Int)} (h : depend_element p0 p1 = some r) : FunOk PP 127 [.d (api_Access.d p0), .d (.sl (p1.map dI))] out ⟨.d (.sl (r.map dI)), []⟩ := by
  unfold depend_element at h
  refine fi Tryz.func127 rfl (by kernel_rfl) (by kernel_rfl) (by kernel_rfl) ?_
  refine sr ?_
  refine ts (bxI rfl) ?_
  refine ts (ak.wk (x' := .sl (([] : List Int).map dI)) rfl) ?_
  refine rn ?_
  refine sr ?_
  refine ta (an (n := 0) lT48 rfl) ?_
  refine rn ?_
  refine CWp.seq ?_
  refine sr ?_
  refine ts (faI fT90_1 rfl rfl) ?_
  refine ts (ldI sT88 rfl rfl) ?_
  refine ts (lnD lT88 rfl rfl) ?_
  refine ts (mv rfl) ?_
  refine rn ?_
  obtain ⟨z6, hz6, h⟩ := bnd h
  refine lb (E := fun s1 => [(1, .d (.sl (p1.map dI))), (5, .ref ⟨out.length, 5, 0⟩ 0 s1.2.length s1.2.length), (9, .d (.sl (p0.Subscripts.map api_Affine.d))), (10, .d (.int .i64 (p0.Subscripts.length : Int))), (11, .d (.int .i64 s1.1))]) (M := fun s1 => ⟨[((5, 0), .arr 1 false (s1.2.map dI))], out, []⟩) (E' := fun y => [(5, .ref ⟨out.length, 5, 0⟩ 0 y.length y.length)]) (M' := fun y => ⟨[((5, 0), .arr 1 false (y.map dI))], out, []⟩) hz6 (by (try simp only [List.length_set, copied_len]); exact trk (by kernel_rfl) (by kernel_rfl) (by kernel_rfl)) ?_ ?_
  · intro s1 ww h
    unfold depend_element.s1 at h
    refine sr ?_
    refine ts (lss rfl rfl) ?_
    refine rn ?_
    refine CWp.seq ?_
    rcases ite h with ⟨c2, h⟩ | ⟨c2, h⟩
    · refine ct rfl (bt c2) ?_
      refine CWp.skip ?_
      refine CWp.seq ?_
      refine CWp.block ?_
      refine sr ?_
      obtain ⟨x3, hx3, h⟩ := bnd h
      refine ts (ixD lT88 api_Affine.sz rfl rfl hx3) ?_
      refine ts (ldIW aT123 rfl rfl rfl) ?_
      refine ta (al (n := 0) zT123 rfl) ?_
      refine tt0 (stW aT123 rfl rfl rfl rfl rfl rfl .h) ?_
      refine rn ?_
      refine CWp.trim (Le.fzBox (t := 7) (e := api_Affine.d x3) (env' := [(1, .d (.sl (p1.map dI))), (5, .ref ⟨out.length, 5, 0⟩ 0 s1.2.length s1.2.length), (9, .d (.sl (p0.Subscripts.map api_Affine.d))), (10, .d (.int .i64 (p0.Subscripts.length : Int))), (11, .d (.int .i64 s1.1)), (13, .pimm (api_Affine.d x3) 0), (14, .d (api_Affine.d x3))]) (loc' := [((5, 0), .arr 1 false (s1.2.map dI))]) rfl rfl rfl rfl (by (try simp only [List.length_set, copied_len]); exact trkT (by kernel_rfl) (by kernel_rfl) (by kernel_rfl))) ?_
      refine lr ?_
      refine ts (mv rfl) ?_
      refine ts (ldIW aT123 rfl rfl rfl) ?_
      refine ts (mv rfl) ?_
      obtain ⟨x4, hx4, h⟩ := bnd h
      refine ts (cln (f := fun _ => false) kf rfl (.c rfl le1 (.c rfl le1 .n)) (curOf_nil _) (depend_value_ok hx4) rfl) ?_
      refine ts (bsT (l := (([x4] : List Int).map dI)) lT48 rfl rfl rfl (by kernel_rfl)) ?_
      obtain ⟨x5, hx5, h⟩ := bnd h
      refine tp (apG (ys := ([x4] : List Int)) (xs := s1.2) (f := dI) lT48 uT48 szI rfl rfl rfl elT (ow rfl) hx5 (so .h)) ?_
      refine ts (as_ rfl) ?_
      refine rn ?_
      refine lr ?_
      refine ts (add rfl rfl) ?_
      refine ts (mv rfl) ?_
      refine rn ?_
      obtain rfl := some_inj h
      exact ⟨rfl, (by (try simp only [List.length_set, copied_len]); exact trk (by kernel_rfl) (by kernel_rfl) (by kernel_rfl))⟩
    · refine cf rfl (bf c2) ?_
      refine CWp.exit ?_
      obtain rfl := some_inj h
      exact ⟨rfl, (by (try simp only [List.length_set, copied_len]); exact trk (by kernel_rfl) (by kernel_rfl) (by kernel_rfl))⟩
  · intro e s ht
    refine CWp.trim ht ?_
    refine sr ?_
    refine ts (mv rfl) ?_
    refine ts (as_ rfl) ?_
    refine rn ?_
    refine CWp.ret ?_
    obtain rfl := some_inj h
    exact ⟨trivial, rt1 (ex := false) (by exact (.t rfl .n)) (by exact (gf rfl rfl)) (by rfl) (by rfl)⟩
theorem slices_Equal_int_ok {p0 : (List Int)} {p1 : (List Int)} {out : Out} {r : Bool} (h : slices_Equal_int p0 p1 = some r) : FunOk PP 150 [.d (.sl (p0.map dI)), .d (.sl (p1.map dI))] out ⟨.d (.bool r), []⟩ := by
  unfold slices_Equal_int at h
  refine fi Tryz.func150 rfl (by kernel_rfl) (by kernel_rfl) (by kernel_rfl) ?_
  refine sr ?_
  refine ts (ac rfl rfl) ?_
  refine rn ?_
  refine CWp.seq ?_
  refine sr ?_
  refine ts (mv rfl) ?_
  refine ts (lnD lT48 rfl rfl) ?_
  refine ts (mv rfl) ?_
  refine ts (lnD lT48 rfl rfl) ?_
  refine ts (neq rfl rfl) ?_
  refine rn ?_
  rcases ite h with ⟨c1, h⟩ | ⟨c1, h⟩
  · cases h
  · refine cf rfl (nf c1) ?_
    refine CWp.skip ?_
    refine CWp.seq ?_
    refine sr ?_
    refine ts (mv rfl) ?_
    refine ts (lnD lT48 rfl rfl) ?_
    refine ts (mv rfl) ?_
    refine rn ?_
    obtain ⟨z7, hz7, h⟩ := bnd h
    refine lbr (E := fun s2 => [(0, .d (.sl (p0.map dI))), (1, .d (.sl (p1.map dI))), (12, .d (.int .i64 (p0.length : Int))), (13, .d (.int .i64 s2))]) (M := fun s2 => ⟨[], out, []⟩) (E' := fun y => []) (M' := fun y => ⟨[], out, []⟩) (RT := fun r e s => Lx.Returns PP Tryz.f150.results.toList e s ⟨.d (.bool r), []⟩) hz7 (by (try simp only [List.length_set, copied_len]); exact trk (by kernel_rfl) (by kernel_rfl) (by kernel_rfl)) ?_ ?_
    · intro s2 ww h
      unfold slices_Equal_int.s1 at h
      refine sr ?_
      refine ts (lss rfl rfl) ?_
      refine rn ?_
      refine CWp.seq ?_
      rcases ite h with ⟨c3, h⟩ | ⟨c3, h⟩
      · refine ct rfl (bt c3) ?_
        refine CWp.skip ?_
        refine CWp.seq ?_
        refine CWp.block ?_
        refine sr ?_
        refine ts (mv rfl) ?_
        refine ts (as_ rfl) ?_
        refine rn ?_
        refine sd mixed (b := [0, 0, 3, 7, 0, 0, 48, 112, 255]) (by kernel_rfl) ?_
        refine ds (mv rfl) rfl ?_
        refine ds (mv rfl) rfl ?_
        obtain ⟨x4, hx4, h⟩ := bnd h
        refine ds (ixD lT48 szI rfl rfl hx4) rfl ?_
        refine ds (ldI sT3 rfl rfl) rfl ?_
        refine ds (mv rfl) rfl ?_
        refine ds (mv rfl) rfl ?_
        obtain ⟨x5, hx5, h⟩ := bnd h
        refine ds (ixD lT48 szI rfl rfl hx5) rfl ?_
        refine ds (ldI sT3 rfl rfl) rfl ?_
        refine ds (neq rfl rfl) rfl ?_
        refine dn (by kernel_rfl) ?_
        rcases ite h with ⟨c6, h⟩ | ⟨c6, h⟩
        · refine ct rfl (nt c6) ?_
          refine sr ?_
          refine ts (ac rfl rfl) ?_
          refine rn ?_
          refine CWp.ret ?_
          obtain rfl := some_inj h
          exact ⟨rfl, rt1 (ex := false) (by exact (.t rfl .n)) (by exact (gd (by rfl))) (by rfl) (by rfl)⟩
        · refine cf rfl (nf c6) ?_
          refine CWp.skip ?_
          refine lr ?_
          refine ts (add rfl rfl) ?_
          refine ts (mv rfl) ?_
          refine rn ?_
          obtain rfl := some_inj h
          exact ⟨rfl, (by (try simp only [List.length_set, copied_len]); exact trk (by kernel_rfl) (by kernel_rfl) (by kernel_rfl))⟩
      · refine cf rfl (bf c3) ?_
        refine CWp.exit ?_
        obtain rfl := some_inj h
        exact ⟨rfl, (by (try simp only [List.length_set, copied_len]); exact trk (by kernel_rfl) (by kernel_rfl) (by kernel_rfl))⟩
    · cases z7 with
      | inl v8 =>
        intro e s ht
        refine CWp.trim ht ?_
        refine sr ?_
        refine ts (ac rfl rfl) ?_
        refine rn ?_
        refine CWp.ret ?_
        obtain rfl := some_inj h
        exact ⟨trivial, rt1 (ex := false) (by exact (.t rfl .n)) (by exact (gd (by rfl))) (by rfl) (by rfl)⟩
      | inr r9 =>
        intro e s hr
        obtain rfl := some_inj h
        exact ⟨trivial, hr⟩
theorem depend_difference_ok {p0 : (List Int)} {p1 : (List Int)} {out : Out} {r : (List Int)} (h : depend_difference p0 p1 = some r) : FunOk PP 69 [.d (.sl (p0.map dI)), .d (.sl (p1.map dI))] out ⟨.d (.sl (r.map dI)), []⟩ := by
  unfold depend_difference at h
  refine fi Tryz.func69 rfl (by kernel_rfl) (by kernel_rfl) (by kernel_rfl) ?_
  refine sr ?_
  refine ts (ak.wk (x' := .sl (([] : List Int).map dI)) rfl) ?_
  refine rn ?_
  refine sr ?_
  refine ta (an (n := 0) lT48 rfl) ?_
  refine rn ?_
  refine CWp.seq ?_
  refine sr ?_
  refine ts (mv rfl) ?_
  refine ts (lnD lT48 rfl rfl) ?_
  refine ts (mv rfl) ?_
  refine rn ?_
  obtain ⟨z6, hz6, h⟩ := bnd h
  refine lb (E := fun s1 => [(0, .d (.sl (p0.map dI))), (1, .d (.sl (p1.map dI))), (5, .ref ⟨out.length, 5, 0⟩ 0 s1.2.length s1.2.length), (8, .d (.int .i64 (p0.length : Int))), (9, .d (.int .i64 s1.1))]) (M := fun s1 => ⟨[((5, 0), .arr 1 false (s1.2.map dI))], out, []⟩) (E' := fun y => [(5, .ref ⟨out.length, 5, 0⟩ 0 y.length y.length)]) (M' := fun y => ⟨[((5, 0), .arr 1 false (y.map dI))], out, []⟩) hz6 (by (try simp only [List.length_set, copied_len]); exact trk (by kernel_rfl) (by kernel_rfl) (by kernel_rfl)) ?_ ?_
  · intro s1 ww h
    unfold depend_difference.s1 at h
    refine sr ?_
    refine ts (lss rfl rfl) ?_
    refine rn ?_
    refine CWp.seq ?_
    rcases ite h with ⟨c2, h⟩ | ⟨c2, h⟩
    · refine ct rfl (bt c2) ?_
      refine CWp.skip ?_
      refine CWp.seq ?_
      refine CWp.block ?_
      refine sr ?_
      refine ts (mv rfl) ?_
      refine ts (as_ rfl) ?_
      refine rn ?_
      refine ld_ mixed (b := [0, 0, 0, 6, 14, 0, 0, 96, 224, 510, 1022, 2047, 4095]) (by kernel_rfl) ?_
      refine ds (mv rfl) rfl ?_
      refine ds (mv rfl) rfl ?_
      refine ds (mv rfl) rfl ?_
      obtain ⟨x3, hx3, h⟩ := bnd h
      refine ds (ixD lT48 szI rfl rfl hx3) rfl ?_
      refine ds (ldI sT3 rfl rfl) rfl ?_
      refine ds (mv rfl) rfl ?_
      refine ds (mv rfl) rfl ?_
      obtain ⟨x4, hx4, h⟩ := bnd h
      refine ds (ixD lT48 szI rfl rfl hx4) rfl ?_
      refine ds (ldI sT3 rfl rfl) rfl ?_
      refine ds (sub rfl rfl) rfl ?_
      refine ds (bsT (l := (([(w (x3 - x4))] : List Int).map dI)) lT48 rfl rfl rfl (by kernel_rfl)) rfl ?_
      obtain ⟨x5, hx5, h⟩ := bnd h
      refine dt (apGn (ys := ([(w (x3 - x4))] : List Int)) (xs := s1.2) (f := dI) lT48 uT48 szI rfl rfl rfl elT (ow rfl) hx5 (so .h) rfl) rfl ?_
      refine ds (as_ rfl) rfl ?_
      refine dn (by kernel_rfl) ?_
      refine lr ?_
      refine ts (add rfl rfl) ?_
      refine ts (mv rfl) ?_
      refine rn ?_
      obtain rfl := some_inj h
      exact ⟨rfl, (by (try simp only [List.length_set, copied_len]); exact trk (by kernel_rfl) (by kernel_rfl) (by kernel_rfl))⟩
    · refine cf rfl (bf c2) ?_
      refine CWp.exit ?_
      obtain rfl := some_inj h
      exact ⟨rfl, (by (try simp only [List.length_set, copied_len]); exact trk (by kernel_rfl) (by kernel_rfl) (by kernel_rfl))⟩
  · intro e s ht
    refine CWp.trim ht ?_
    refine sr ?_
    refine ts (mv rfl) ?_
    refine ts (as_ rfl) ?_
    refine rn ?_
    refine CWp.ret ?_
    obtain rfl := some_inj h
    exact ⟨trivial, rt1 (ex := false) (by exact (.t rfl .n)) (by exact (gf rfl rfl)) (by rfl) (by rfl)⟩
theorem cmp_isNaN_int_ok {p0 : Int} {out : Out} {r : Bool} (h : cmp_isNaN_int p0 = r) : FunOk PP 186 [.d (.int .i64 p0)] out ⟨.d (.bool r), []⟩ := by
  unfold cmp_isNaN_int at h
  refine fi Tryz.func186 rfl (by kernel_rfl) (by kernel_rfl) (by kernel_rfl) ?_
  refine sr ?_
  refine ts (ac rfl rfl) ?_
  refine rn ?_
  refine sr ?_
  refine ts (mv rfl) ?_
  refine ts (mv rfl) ?_
  refine ts (neq rfl rfl) ?_
  refine ts (as_ rfl) ?_
  refine rn ?_
  refine CWp.ret ?_
  obtain rfl := h
  exact ⟨trivial, rt1 (ex := false) (by exact (.t rfl .n)) (by exact (gd (by rfl))) (by rfl) (by rfl)⟩
theorem cmp_Compare_int_ok {p0 : Int} {p1 : Int} {out : Out} {r : Int} (h : cmp_Compare_int p0 p1 = some r) : FunOk PP 151 [.d (.int .i64 p0), .d (.int .i64 p1)] out ⟨.d (.int .i64 r), []⟩ := by
  unfold cmp_Compare_int at h
  refine fi Tryz.func151 rfl (by kernel_rfl) (by kernel_rfl) (by kernel_rfl) ?_
  refine sr ?_
  refine ts (ac rfl rfl) ?_
  refine rn ?_
  refine sr ?_
  refine ts (mv rfl) ?_
  refine ts (cln (f := fun _ => false) kf rfl (.c rfl le1 .n) (curOf_nil _) (cmp_isNaN_int_ok (rfl : cmp_isNaN_int p0 = _)) rfl) ?_
  refine ts (as_ rfl) ?_
  refine rn ?_
  refine sr ?_
  refine ts (mv rfl) ?_
  refine ts (cln (f := fun _ => false) kf rfl (.c rfl le1 .n) (curOf_nil _) (cmp_isNaN_int_ok (rfl : cmp_isNaN_int p1 = _)) rfl) ?_
  refine ts (as_ rfl) ?_
  refine rn ?_
  refine CWp.seq ?_
  refine sr ?_
  refine ts (mv rfl) ?_
  refine rn ?_
  rcases ite h with ⟨c1, h⟩ | ⟨c1, h⟩
  · cases h
  · refine cf rfl (vf c1) ?_
    refine CWp.skip ?_
    refine CWp.seq ?_
    refine sr ?_
    refine ts (mv rfl) ?_
    refine rn ?_
    rcases ite h with ⟨c2, h⟩ | ⟨c2, h⟩
    · cases h
    · refine cf rfl (vf c2) ?_
      refine CWp.skip ?_
      refine CWp.seq ?_
      refine sr ?_
      refine ts (mv rfl) ?_
      refine ts (mv rfl) ?_
      refine ts (lss rfl rfl) ?_
      refine rn ?_
      rcases ite h with ⟨c3, h⟩ | ⟨c3, h⟩
      · cases h
      · refine cf rfl (bf c3) ?_
        refine CWp.skip ?_
        refine CWp.seq ?_
        refine sr ?_
        refine ts (mv rfl) ?_
        refine ts (mv rfl) ?_
        refine ts (gtr rfl rfl) ?_
        refine rn ?_
        rcases ite h with ⟨c4, h⟩ | ⟨c4, h⟩
        · refine ct rfl (bt c4) ?_
          refine sr ?_
          refine ts (ac rfl rfl) ?_
          refine rn ?_
          refine CWp.ret ?_
          obtain rfl := some_inj h
          exact ⟨trivial, rt1 (ex := false) (by exact (.t rfl .n)) (by exact (gd (by rfl))) (by rfl) (by rfl)⟩
        · refine cf rfl (bf c4) ?_
          refine CWp.skip ?_
          refine sr ?_
          refine ts (ac rfl rfl) ?_
          refine rn ?_
          refine CWp.ret ?_
          obtain rfl := some_inj h
          exact ⟨trivial, rt1 (ex := false) (by exact (.t rfl .n)) (by exact (gd (by rfl))) (by rfl) (by rfl)⟩
theorem depend_signs_ok {p0 : (List Int)} {out : Out} {r : (List Int)} (h : depend_signs p0 = some r) : FunOk PP 68 [.d (.sl (p0.map dI))] out ⟨.d (.sl (r.map dI)), []⟩ := by
  unfold depend_signs at h
  refine fi Tryz.func68 rfl (by kernel_rfl) (by kernel_rfl) (by kernel_rfl) ?_
  refine sr ?_
  refine ts (ak.wk (x' := .sl (([] : List Int).map dI)) rfl) ?_
  refine rn ?_
  refine sr ?_
  refine ta (an (n := 0) lT48 rfl) ?_
  refine rn ?_
  refine CWp.seq ?_
  refine sr ?_
  refine ts (mv rfl) ?_
  refine ts (lnD lT48 rfl rfl) ?_
  refine ts (mv rfl) ?_
  refine rn ?_
  obtain ⟨z6, hz6, h⟩ := bnd h
  refine lb (E := fun s1 => [(3, .ref ⟨out.length, 3, 0⟩ 0 s1.2.length s1.2.length), (6, .d (.sl (p0.map dI))), (7, .d (.int .i64 (p0.length : Int))), (8, .d (.int .i64 s1.1))]) (M := fun s1 => ⟨[((3, 0), .arr 1 false (s1.2.map dI))], out, []⟩) (E' := fun y => [(3, .ref ⟨out.length, 3, 0⟩ 0 y.length y.length)]) (M' := fun y => ⟨[((3, 0), .arr 1 false (y.map dI))], out, []⟩) hz6 (by (try simp only [List.length_set, copied_len]); exact trk (by kernel_rfl) (by kernel_rfl) (by kernel_rfl)) ?_ ?_
  · intro s1 ww h
    unfold depend_signs.s1 at h
    refine sr ?_
    refine ts (lss rfl rfl) ?_
    refine rn ?_
    refine CWp.seq ?_
    rcases ite h with ⟨c2, h⟩ | ⟨c2, h⟩
    · refine ct rfl (bt c2) ?_
      refine CWp.skip ?_
      refine CWp.seq ?_
      refine CWp.block ?_
      refine sr ?_
      obtain ⟨x3, hx3, h⟩ := bnd h
      refine ts (ixD lT48 szI rfl rfl hx3) ?_
      refine ts (ldI sT3 rfl rfl) ?_
      refine ts (as_ rfl) ?_
      refine rn ?_
      refine lr ?_
      refine ts (mv rfl) ?_
      refine ts (mv rfl) ?_
      obtain ⟨x4, hx4, h⟩ := bnd h
      refine ts (cln (f := fun _ => false) kf rfl (.c rfl le1 (.c rfl le1 .n)) (curOf_nil _) (cmp_Compare_int_ok hx4) rfl) ?_
      refine ts (bsT (l := (([x4] : List Int).map dI)) lT48 rfl rfl rfl (by kernel_rfl)) ?_
      obtain ⟨x5, hx5, h⟩ := bnd h
      refine tp (apG (ys := ([x4] : List Int)) (xs := s1.2) (f := dI) lT48 uT48 szI rfl rfl rfl elT (ow rfl) hx5 (so .h)) ?_
      refine ts (as_ rfl) ?_
      refine rn ?_
      refine lr ?_
      refine ts (add rfl rfl) ?_
      refine ts (mv rfl) ?_
      refine rn ?_
      obtain rfl := some_inj h
      exact ⟨rfl, (by (try simp only [List.length_set, copied_len]); exact trk (by kernel_rfl) (by kernel_rfl) (by kernel_rfl))⟩
    · refine cf rfl (bf c2) ?_
      refine CWp.exit ?_
      obtain rfl := some_inj h
      exact ⟨rfl, (by (try simp only [List.length_set, copied_len]); exact trk (by kernel_rfl) (by kernel_rfl) (by kernel_rfl))⟩
  · intro e s ht
    refine CWp.trim ht ?_
    refine sr ?_
    refine ts (mv rfl) ?_
    refine ts (as_ rfl) ?_
    refine rn ?_
    refine CWp.ret ?_
    obtain rfl := some_inj h
    exact ⟨trivial, rt1 (ex := false) (by exact (.t rfl .n)) (by exact (gf rfl rfl)) (by rfl) (by rfl)⟩
theorem slices_Compare_int_ok {p0 : (List Int)} {p1 : (List Int)} {out : Out} {r : Int} (h : slices_Compare_int p0 p1 = some r) : FunOk PP 72 [.d (.sl (p0.map dI)), .d (.sl (p1.map dI))] out ⟨.d (.int .i64 r), []⟩ := by
  unfold slices_Compare_int at h
  refine fi Tryz.func72 rfl (by kernel_rfl) (by kernel_rfl) (by kernel_rfl) ?_
  refine sr ?_
  refine ts (ac rfl rfl) ?_
  refine rn ?_
  refine CWp.seq ?_
  refine sr ?_
  refine ts (mv rfl) ?_
  refine ts (lnD lT48 rfl rfl) ?_
  refine ts (mv rfl) ?_
  refine rn ?_
  obtain ⟨z8, hz8, h⟩ := bnd h
  refine lb (E := fun s1 => [(0, .d (.sl (p0.map dI))), (1, .d (.sl (p1.map dI))), (9, .d (.sl (p0.map dI))), (10, .d (.int .i64 (p0.length : Int))), (11, .d (.int .i64 s1))]) (M := fun s1 => ⟨[], out, []⟩) (E' := fun y => [(0, .d (.sl (p0.map dI))), (1, .d (.sl (p1.map dI)))]) (M' := fun y => ⟨[], out, []⟩) hz8 (by (try simp only [List.length_set, copied_len]); exact trk (by kernel_rfl) (by kernel_rfl) (by kernel_rfl)) ?_ ?_
  · intro s1 ww h
    unfold slices_Compare_int.s1 at h
    refine sr ?_
    refine ts (lss rfl rfl) ?_
    refine rn ?_
    refine CWp.seq ?_
    rcases ite h with ⟨c2, h⟩ | ⟨c2, h⟩
    · refine ct rfl (bt c2) ?_
      refine CWp.skip ?_
      refine CWp.seq ?_
      refine CWp.block ?_
      refine sr ?_
      refine ts (mv rfl) ?_
      obtain ⟨x3, hx3, h⟩ := bnd h
      refine ts (ixD lT48 szI rfl rfl hx3) ?_
      refine ts (ldI sT3 rfl rfl) ?_
      refine ts (as_ rfl) ?_
      refine ts (as_ rfl) ?_
      refine rn ?_
      refine CWp.seq ?_
      refine sr ?_
      refine ts (mv rfl) ?_
      refine ts (mv rfl) ?_
      refine ts (lnD lT48 rfl rfl) ?_
      refine ts (geq rfl rfl) ?_
      refine rn ?_
      rcases ite h with ⟨c4, h⟩ | ⟨c4, h⟩
      · cases h
      · refine cf rfl (bf c4) ?_
        refine CWp.skip ?_
        refine sr ?_
        refine ts (mv rfl) ?_
        refine ts (mv rfl) ?_
        obtain ⟨x5, hx5, h⟩ := bnd h
        refine ts (ixD lT48 szI rfl rfl hx5) ?_
        refine ts (ldI sT3 rfl rfl) ?_
        refine ts (as_ rfl) ?_
        refine rn ?_
        refine sr ?_
        refine ts (mv rfl) ?_
        refine ts (mv rfl) ?_
        obtain ⟨x6, hx6, h⟩ := bnd h
        refine ts (cln (f := fun _ => false) kf rfl (.c rfl le1 (.c rfl le1 .n)) (curOf_nil _) (cmp_Compare_int_ok hx6) rfl) ?_
        refine ts (as_ rfl) ?_
        refine rn ?_
        refine sr ?_
        refine ts (mv rfl) ?_
        refine ts (neq rfl rfl) ?_
        refine rn ?_
        rcases ite h with ⟨c7, h⟩ | ⟨c7, h⟩
        · cases h
        · refine cf rfl (nf c7) ?_
          refine CWp.skip ?_
          refine lr ?_
          refine ts (add rfl rfl) ?_
          refine ts (mv rfl) ?_
          refine rn ?_
          obtain rfl := some_inj h
          exact ⟨rfl, (by (try simp only [List.length_set, copied_len]); exact trk (by kernel_rfl) (by kernel_rfl) (by kernel_rfl))⟩
    · refine cf rfl (bf c2) ?_
      refine CWp.exit ?_
      obtain rfl := some_inj h
      exact ⟨rfl, (by (try simp only [List.length_set, copied_len]); exact trk (by kernel_rfl) (by kernel_rfl) (by kernel_rfl))⟩
  · intro e s ht
    refine CWp.trim ht ?_
    refine CWp.seq ?_
    refine sr ?_
    refine ts (mv rfl) ?_
    refine ts (lnD lT48 rfl rfl) ?_
    refine ts (mv rfl) ?_
    refine ts (lnD lT48 rfl rfl) ?_
    refine ts (lss rfl rfl) ?_
    refine rn ?_
    rcases ite h with ⟨c9, h⟩ | ⟨c9, h⟩
    · cases h
    · refine cf rfl (bf c9) ?_
      refine CWp.skip ?_
      refine sr ?_
      refine ts (ac rfl rfl) ?_
      refine rn ?_
      refine CWp.ret ?_
      obtain rfl := some_inj h
      exact ⟨trivial, rt1 (ex := false) (by exact (.t rfl .n)) (by exact (gd (by rfl))) (by rfl) (by rfl)⟩
theorem depend_DependencesOf_c1_c1_ok {p0 : api_Dependence} {p1 : (List Int)} {out : Out} {r : Int} (h : depend_DependencesOf_c1_c1 p0 p1 = some r) : FunOk PP 71 [.d (api_Dependence.d p0), .d (.sl (p1.map dI))] out ⟨.d (.int .i64 r), []⟩ := by
  unfold depend_DependencesOf_c1_c1 at h
  refine fi Tryz.func71 rfl (by kernel_rfl) (by kernel_rfl) (by kernel_rfl) ?_
  refine sr ?_
  refine ts (bxI rfl) ?_
  refine ts (ac rfl rfl) ?_
  refine rn ?_
  refine sr ?_
  refine ts (faI fT117_0 rfl rfl) ?_
  refine ts (ldI sT48 rfl rfl) ?_
  refine ts (mv rfl) ?_
  obtain ⟨x1, hx1, h⟩ := bnd h
  refine ts (cln (f := fun _ => false) kf rfl (.c rfl le1 (.c rfl le1 .n)) (curOf_nil _) (slices_Compare_int_ok hx1) rfl) ?_
  refine ts (as_ rfl) ?_
  refine rn ?_
  refine CWp.ret ?_
  obtain rfl := some_inj h
  exact ⟨trivial, rt1 (ex := false) (by exact (.t rfl .n)) (by exact (gd (by rfl))) (by rfl) (by rfl)⟩
theorem slices_BinarySearchFunc_api_Dependence_int__depend_DependencesOf_c1_c1_ok {p1 : (List Int)} {b0 : (List api_Dependence)} {r : Int × Bool} (h : slices_BinarySearchFunc_api_Dependence_int__depend_DependencesOf_c1_c1 p1 b0 = some r) : FunOk PP 70 [.ref ⟨0, 0, 0⟩ 0 b0.length b0.length, .d (.sl (p1.map dI)), .d (.fn 71)] [[((0, 0), .arr 3 false (b0.map api_Dependence.d))]] ⟨.tup [.d (.int .i64 r.1), .d (.bool r.2)], []⟩ := by
  unfold slices_BinarySearchFunc_api_Dependence_int__depend_DependencesOf_c1_c1 at h
  refine fi Tryz.func70 rfl (by kernel_rfl) (by kernel_rfl) (by kernel_rfl) ?_
  refine sr ?_
  refine ts (ac rfl rfl) ?_
  refine ts (ac rfl rfl) ?_
  refine rn ?_
  refine sr ?_
  refine ts (mv rfl) ?_
  refine ts (lnR lT29 rfl rfl) ?_
  refine ts (as_ rfl) ?_
  refine rn ?_
  refine sr ?_
  refine ts (mv rfl) ?_
  refine ts (ac rfl rfl) ?_
  refine ts (as_ rfl) ?_
  refine rn ?_
  refine CWp.seq ?_
  obtain ⟨z7, hz7, h⟩ := bnd h
  refine lb (E := fun s1 => [(0, .ref ⟨0, 0, 0⟩ 0 b0.length b0.length), (1, .d (.sl (p1.map dI))), (2, .d (.fn 71)), (8, .d (.int .i64 (b0.length : Int))), (9, .d (.int .i64 s1.1)), (10, .d (.int .i64 s1.2))]) (M := fun s1 => ⟨[], [[((0, 0), .arr 3 false (b0.map api_Dependence.d))]], []⟩) (E' := fun y => [(0, .ref ⟨0, 0, 0⟩ 0 b0.length b0.length), (1, .d (.sl (p1.map dI))), (2, .d (.fn 71)), (8, .d (.int .i64 (b0.length : Int))), (9, .d (.int .i64 y))]) (M' := fun y => ⟨[], [[((0, 0), .arr 3 false (b0.map api_Dependence.d))]], []⟩) hz7 (by (try simp only [List.length_set, copied_len]); exact trkc (by kernel_rfl) (by kernel_rfl) (by kernel_rfl)) ?_ ?_
  · intro s1 ww h
    unfold slices_BinarySearchFunc_api_Dependence_int__depend_DependencesOf_c1_c1.s1 at h
    refine CWp.seq ?_
    refine sr ?_
    refine ts (mv rfl) ?_
    refine ts (mv rfl) ?_
    refine ts (lss rfl rfl) ?_
    refine rn ?_
    rcases ite h with ⟨c2, h⟩ | ⟨c2, h⟩
    · refine ct rfl (bt c2) ?_
      refine CWp.skip ?_
      refine CWp.block ?_
      refine sr ?_
      refine ts (mv rfl) ?_
      refine ts (mv rfl) ?_
      refine ts (add rfl rfl) ?_
      refine ts (cnv rfl (by kernel_rfl) uT214) ?_
      obtain ⟨x3, hx3, h⟩ := bnd h
      refine ts (shr_ rfl rfl hx3) ?_
      refine ts (cnv rfl (by kernel_rfl) uT3) ?_
      refine ts (as_ rfl) ?_
      refine rn ?_
      refine sr ?_
      refine ts (mv rfl) ?_
      refine ts (mv rfl) ?_
      refine ts (mv rfl) ?_
      obtain ⟨x4, hx4, h⟩ := bnd h
      refine ts (ixR lT29 rfl rfl rfl (uw0 rfl) hx4) ?_
      refine ts (ldEW aT117 rfl rfl (uw0 rfl) hx4 rfl rfl) ?_
      refine ts (mv rfl) ?_
      obtain ⟨x5, hx5, h⟩ := bnd h
      refine ts (cln (f := fun _ => false) (kt rfl) rfl (.c rfl le1 (.c rfl le1 .n)) rfl (depend_DependencesOf_c1_c1_ok hx5) rfl) ?_
      refine ts (lss rfl rfl) ?_
      refine rn ?_
      rcases ite h with ⟨c6, h⟩ | ⟨c6, h⟩
      · cases h
      · refine cf rfl (bf c6) ?_
        refine lr ?_
        refine ts (mv rfl) ?_
        refine ts (as_ rfl) ?_
        refine rn ?_
        obtain rfl := some_inj h
        exact ⟨rfl, (by (try simp only [List.length_set, copied_len]); exact trkc (by kernel_rfl) (by kernel_rfl) (by kernel_rfl))⟩
    · refine cf rfl (bf c2) ?_
      refine CWp.exit ?_
      obtain rfl := some_inj h
      exact ⟨rfl, (by (try simp only [List.length_set, copied_len]); exact trkc (by kernel_rfl) (by kernel_rfl) (by kernel_rfl))⟩
  · intro e s ht
    refine CWp.trim ht ?_
    refine sr ?_
    refine ts (mv rfl) ?_
    refine ts (mv rfl) ?_
    refine ts (mv rfl) ?_
    refine ts (lss rfl rfl) ?_
    refine ts (mv rfl) ?_
    rcases ite h with ⟨c8, h⟩ | ⟨c8, h⟩
    · refine us (gy rfl rfl (bt c8)) (mv rfl) ?_
      refine us (gy rfl rfl (bt c8)) (mv rfl) ?_
      refine us (gy rfl rfl (bt c8)) (mv rfl) ?_
      obtain ⟨x9, hx9, h⟩ := bnd h
      refine us (gy rfl rfl (bt c8)) (ixR lT29 rfl rfl rfl (uw0 rfl) hx9) ?_
      refine us (gy rfl rfl (bt c8)) (ldEW aT117 rfl rfl (uw0 rfl) hx9 rfl rfl) ?_
      refine us (gy rfl rfl (bt c8)) (mv rfl) ?_
      obtain ⟨x10, hx10, h⟩ := bnd h
      refine us (gy rfl rfl (bt c8)) (cln (f := fun _ => false) (kt rfl) rfl (.c rfl le1 (.c rfl le1 .n)) rfl (depend_DependencesOf_c1_c1_ok hx10) rfl) ?_
      refine us (gy rfl rfl (bt c8)) (eql rfl rfl) ?_
      refine ts (pt rfl (bt c8) rfl) ?_
      refine ts (as_ rfl) ?_
      refine ts (as_ rfl) ?_
      refine rn ?_
      refine CWp.ret ?_
      obtain rfl := some_inj h
      exact ⟨trivial, rt2 (ex := false) (by exact (.t rfl (.t rfl .n))) (by exact (sc (gd (by rfl)) (sc (gd (by rfl)) sn))) (by rfl) (by rfl)⟩
    · refine un (gn rfl rfl (bf c8)) ?_
      refine un (gn rfl rfl (bf c8)) ?_
      refine un (gn rfl rfl (bf c8)) ?_
      refine un (gn rfl rfl (bf c8)) ?_
      refine un (gn rfl rfl (bf c8)) ?_
      refine un (gn rfl rfl (bf c8)) ?_
      refine un (gn rfl rfl (bf c8)) ?_
      refine un (gn rfl rfl (bf c8)) ?_
      refine ts (pf rfl (bf c8) rfl) ?_
      refine ts (as_ rfl) ?_
      refine ts (as_ rfl) ?_
      refine rn ?_
      refine CWp.ret ?_
      obtain rfl := some_inj h
      exact ⟨trivial, rt2 (ex := false) (by exact (.t rfl (.t rfl .n))) (by exact (sc (gd (by rfl)) (sc (gd (by rfl)) sn))) (by rfl) (by rfl)⟩
theorem slices_Insert_api_Dependence_ok {p1 : Int} {p2 : (List api_Dependence)} {b0 : (List api_Dependence)} {r : (List api_Dependence)} (h : slices_Insert_api_Dependence p1 p2 b0 = some r) : FunOk PP 73 [.ref ⟨0, 0, 0⟩ 0 b0.length b0.length, .d (.int .i64 p1), .d (.sl (p2.map api_Dependence.d))] [[((0, 0), .arr 3 false (b0.map api_Dependence.d))]] ⟨.ref ⟨0, 0, 0⟩ 0 r.length r.length, [some [((0, 0), .arr 3 false (r.map api_Dependence.d))]]⟩ := by
  unfold slices_Insert_api_Dependence at h
  obtain ⟨i, rfl, hi, hm, hr⟩ := inserted_ok h
  have hX : (b0.map api_Dependence.d).length = b0.length := by simp
  have hV : (p2.map api_Dependence.d).length = p2.length := by simp
  have hR : (b0.map api_Dependence.d).take i ++ p2.map api_Dependence.d ++ (b0.map api_Dependence.d).drop i = r.map api_Dependence.d := by rw [hr]; simp [List.map_take, List.map_drop]
  have hL : r.length = b0.length + p2.length := by rw [hr]; simp; omega
  refine fi Tryz.func73 rfl (by kernel_rfl) (by kernel_rfl) (by kernel_rfl) ?_
  refine CWp.trim Le.start ?_
  refine sr ?_
  refine ts (ak) ?_
  refine rn ?_
  refine sr ?_
  refine ts (mv rfl) ?_
  refine ts (mv rfl) ?_
  refine ts (slG1 lT29 rfl hX.symm (uw rfl) rfl ⟨by omega, by omega, by omega⟩) ?_
  refine rn ?_
  refine sr ?_
  refine ts (mv rfl) ?_
  refine ts (lnD lT29 rfl rfl) ?_
  refine ts (as_ rfl) ?_
  refine rn ?_
  refine CWp.seq ?_
  refine sr ?_
  refine ts (mv rfl) ?_
  refine ts (eql rfl rfl) ?_
  refine rn ?_
  by_cases em : p2 = []
  · have hb : r = b0 := by rw [hr, em]; simp
    subst hb
    refine ct rfl (et (by simp [em])) ?_
    refine sr ?_
    refine ts (mv rfl) ?_
    refine ts (as_ rfl) ?_
    refine rn ?_
    refine CWp.ret ?_
    exact ⟨trivial, rt1 (ex := false) (by exact (.t rfl .n)) (by exact (gro rfl)) (by rfl) (by rfl)⟩
  have hm0 : 0 < p2.length := List.length_pos_iff.2 em
  refine cf rfl (ef (by omega)) ?_
  refine CWp.skip ?_
  refine sr ?_
  refine ts (mv rfl) ?_
  refine ts (lnR lT29 rfl rfl) ?_
  refine ts (as_ rfl) ?_
  refine rn ?_
  refine CWp.seq ?_
  refine sr ?_
  refine ts (mv rfl) ?_
  refine ts (mv rfl) ?_
  refine ts (eql rfl rfl) ?_
  refine rn ?_
  by_cases en : i = b0.length
  · have hb : r = b0 ++ p2 := by rw [hr, en]; simp
    subst hb
    refine ct rfl (et (by omega)) ?_
    refine sr ?_
    refine ts (mv rfl) ?_
    refine ts (mv rfl) ?_
    refine tt (apGn (zs := b0 ++ p2) lT29 uT29 api_Dependence.sz rfl rfl rfl elD (uw rfl) (by unfold app; rw [if_pos hm]) (su .h) (by cases p2 with | nil => exact absurd rfl em | cons _ _ => rfl)) ?_
    refine ts (as_ rfl) ?_
    refine rn ?_
    refine CWp.ret ?_
    exact ⟨trivial, rt1 (ex := false) (by exact (.t rfl .n)) (by exact (gro rfl)) (by rfl) (by rfl)⟩
  refine cf rfl (ef (by omega)) ?_
  refine CWp.skip ?_
  refine CWp.cap (t0 := 0) (n := b0.length) (xs := b0.map api_Dependence.d) rfl hX.symm (uw rfl) fun c hc => ?_
  refine CWp.seq ?_
  refine sr ?_
  refine ts (mv rfl) ?_
  refine ts (mv rfl) ?_
  refine ts (adS (c := b0.length + p2.length) rfl rfl ⟨by omega, by omega⟩) ?_
  refine ts (mv rfl) ?_
  refine ts (cap_ lT29 rfl rfl) ?_
  refine ts (gtr rfl rfl) ?_
  refine rn ?_
  by_cases ec : c < b0.length + p2.length
  · refine ct rfl (decide_eq_true (by omega)) ?_
    refine sr ?_
    refine ts (mv rfl) ?_
    refine ts (mv rfl) ?_
    refine ts (slRc lT29 rfl rfl rfl ⟨by omega, by omega, hc⟩) ?_
    refine ts (mv rfl) ?_
    refine ts (mv rfl) ?_
    refine ts (adS (c := b0.length + p2.length) rfl rfl ⟨by omega, by omega⟩) ?_
    refine ts (mv rfl) ?_
    refine ts (suS (c := b0.length + p2.length - i) rfl rfl ⟨by omega, by omega⟩) ?_
    refine ta (apMk (nn := 0) (xs := b0.map api_Dependence.d) lT29 uT3 rfl rfl rfl hX.symm (uw rfl) (by show i ≤ b0.length; omega) ⟨by omega, by show (c : Int) < (i : Nat) + _; omega, by show ((i : Nat) : Int) + _ ≤ _; omega⟩ rfl) ?_
    refine ts (as_ rfl) ?_
    refine rn ?_
    refine CWp.trim (Le.uncap (t0 := 0) rfl) ?_
    have hK : i + (b0.length + p2.length - i) = b0.length + p2.length := by omega
    have hB0 : (((b0.map api_Dependence.d).take i) ++ List.replicate (b0.length + p2.length - i) (.agg [.nilsl, .nilsl, .nilsl] : D)).length = b0.length + p2.length := by simp; omega
    refine sr ?_
    refine ts (mv rfl) ?_
    refine ts (mv rfl) ?_
    refine ts (slG1 lT29 rfl (hK.trans hB0.symm) (ow rfl) rfl ⟨by omega, by omega, by omega⟩) ?_
    refine ts (mv rfl) ?_
    refine tt (cpR (ys := p2.map api_Dependence.d) lT29 rfl (hK.trans hB0.symm) rfl elD (all_sz api_Dependence.sz) (ow rfl) (by omega) (so .h)) ?_
    refine rn ?_
    refine sd mixed (b := [0, 0, 0, 6, 15, 0, 0, 96, 255]) (by kernel_rfl) ?_
    refine ds (mv rfl) rfl ?_
    refine ds (mv rfl) rfl ?_
    refine ds (mv rfl) rfl ?_
    refine ds (adS (c := i + p2.length) rfl rfl ⟨by omega, by omega⟩) rfl ?_
    refine dr (slG1 lT29 rfl (hK.trans ((splice_length _ _ _ (by simp; omega)).trans hB0).symm) (ow rfl) rfl ⟨by omega, by omega, by omega⟩) rfl ?_
    refine ds (mv rfl) rfl ?_
    refine ds (mv rfl) rfl ?_
    refine dr (slG1 lT29 rfl hX.symm (uw rfl) rfl ⟨by omega, by omega, by omega⟩) rfl ?_
    refine dt (cpR lT29 rfl (hK.trans ((splice_length _ _ _ (by simp; omega)).trans hB0).symm) rfl (elG (uw rfl) hX.symm (by omega)) (all_part api_Dependence.sz) (ow rfl) (by omega) (so .h)) rfl ?_
    refine dn (by kernel_rfl) ?_
    refine sr ?_
    refine ts (mv rfl) ?_
    refine ts (as_ rfl) ?_
    refine rn ?_
    refine CWp.trim (Le.swap (t6 := 6) (ys := r.map api_Dependence.d) (xs := b0.map api_Dependence.d) rfl (by simp only [List.length_map]; omega) (congrArg (fun q => some (Blk.arr 3 false q)) (insC' (X := b0.map api_Dependence.d) (V := p2.map api_Dependence.d) (i := i) (by omega) (by omega) (by omega) (by omega) (by omega) (by omega) (by omega) (by omega) (by omega) hR)) rfl (uw rfl) (by simp only [List.length_map]; omega) (su .h)) ?_
    refine CWp.ret ?_
    exact ⟨trivial, rt1 (ex := false) (by exact (.t rfl .n)) (by exact (groE rfl (by omega) (by omega))) (by rfl) (by rfl)⟩
  refine cf rfl (decide_eq_false (by omega)) ?_
  refine CWp.skip ?_
  refine CWp.trim (Le.open (t0 := 0) (n := b0.length) (m := p2.length) (xs := b0.map api_Dependence.d) rfl hX.symm (uw rfl) hm0 (by omega) (su .h)) ?_
  have hZ : (b0.map api_Dependence.d ++ List.replicate p2.length (junkD 3)).length = b0.length + p2.length := by simp
  refine sr ?_
  refine ts (mv rfl) ?_
  refine ts (mv rfl) ?_
  refine ts (mv rfl) ?_
  refine ts (adS (c := b0.length + p2.length) rfl rfl ⟨by omega, by omega⟩) ?_
  refine ts (slG2 lT29 rfl hZ.symm (uw rfl) rfl ⟨by omega, by omega, by omega⟩) ?_
  refine ts (as_ rfl) ?_
  refine rn ?_
  refine CWp.seq ?_
  refine sr ?_
  refine ts (mv rfl) ?_
  refine ts (mv rfl) ?_
  refine ts (mv rfl) ?_
  refine ts (mv rfl) ?_
  refine ts (adS (c := i + p2.length) rfl rfl ⟨by omega, by omega⟩) ?_
  refine ts (slG1 lT29 rfl hZ.symm (uw rfl) rfl ⟨by omega, by omega, by omega⟩) ?_
  refine ts (ovl_ (fn := Tryz.f152) (tS := 29) (tR := 4) Tryz.func152 (by kernel_rfl) (by kernel_rfl) (by kernel_rfl) (by kernel_rfl) lT29 rfl rfl hZ.symm (uw rfl) (by simpa using em) (all_sz api_Dependence.sz) ⟨by omega, by omega⟩) ?_
  refine ts (not_ rfl) ?_
  refine rn ?_
  refine ct rfl rfl ?_
  refine sd mixed (b := [0, 0, 0, 6, 15, 0, 0, 96, 255]) (by kernel_rfl) ?_
  refine ds (mv rfl) rfl ?_
  refine ds (mv rfl) rfl ?_
  refine ds (mv rfl) rfl ?_
  refine ds (adS (c := i + p2.length) rfl rfl ⟨by omega, by omega⟩) rfl ?_
  refine dr (slG1 lT29 rfl hZ.symm (uw rfl) rfl ⟨by omega, by omega, by omega⟩) rfl ?_
  refine ds (mv rfl) rfl ?_
  refine ds (mv rfl) rfl ?_
  refine dr (slG1 lT29 rfl hZ.symm (uw rfl) rfl ⟨by omega, by omega, by omega⟩) rfl ?_
  refine dt (cpR lT29 rfl hZ.symm rfl (elG (uw rfl) hZ.symm (by omega)) (all_open api_Dependence.sz) (uw rfl) (by omega) (su .h)) rfl ?_
  refine dn (by kernel_rfl) ?_
  refine sr ?_
  refine ts (mv rfl) ?_
  refine ts (mv rfl) ?_
  refine ts (slG1 lT29 rfl (by rw [splice_length _ _ _ (by simp; omega)]; rw [hZ]) (uw rfl) rfl ⟨by omega, by omega, by omega⟩) ?_
  refine ts (mv rfl) ?_
  refine tt (cpR (ys := p2.map api_Dependence.d) lT29 rfl (by rw [splice_length _ _ _ (by simp; omega)]; rw [hZ]) rfl elD (all_sz api_Dependence.sz) (uw rfl) (by omega) (su .h)) ?_
  refine rn ?_
  refine sr ?_
  refine ts (mv rfl) ?_
  refine ts (as_ rfl) ?_
  refine rn ?_
  refine CWp.ret ?_
  exact ⟨trivial, rt1 (ex := false) (by exact (.t rfl .n)) (by exact (groE rfl (by omega) (by omega))) (by rfl) (congrArg (fun q => [some [((0, 0), Blk.arr 3 false q)]]) (insD' (X := b0.map api_Dependence.d) (V := p2.map api_Dependence.d) (i := i) (by omega) (by omega) (by omega) (by omega) (by omega) (by omega) (by omega) (by omega) hR))⟩
theorem depend_DependencesOf_c1_ok {p0 : (List Int)} {p1 : (List Int)} {b1 : (List api_Dependence)} {r : List api_Dependence} (h : depend_DependencesOf_c1 p0 p1 b1 = some r) : FunOk PP 67 [.d (.sl (p0.map dI)), .d (.sl (p1.map dI)), .bptr ⟨0, 0, 0⟩ 0] [[((0, 0), .box [.ref ⟨0, 1, 0⟩ 0 b1.length b1.length]), ((1, 0), .arr 3 false (b1.map api_Dependence.d))]] ⟨.tup [], [some [((0, 0), .box [.ref ⟨0, 1, 0⟩ 0 r.length r.length]), ((1, 0), .arr 3 false (r.map api_Dependence.d))]]⟩ := by
  unfold depend_DependencesOf_c1 at h
  refine fi Tryz.func67 rfl (by kernel_rfl) (by kernel_rfl) (by kernel_rfl) ?_
  refine CWp.trim Le.start ?_
  refine sr ?_
  refine ts (mv rfl) ?_
  refine ts (mv rfl) ?_
  obtain ⟨x1, hx1, h⟩ := bnd h
  refine ts (cln (f := fun _ => false) kf rfl (.c rfl le1 (.c rfl le1 .n)) rfl (depend_difference_ok hx1) rfl) ?_
  obtain ⟨x2, hx2, h⟩ := bnd h
  refine ts (cln (f := fun _ => false) kf rfl (.c rfl le1 .n) rfl (depend_signs_ok hx2) rfl) ?_
  refine ts (as_ rfl) ?_
  refine rn ?_
  refine sr ?_
  refine ts (ld sT29 rfl (uw rfl) rfl) ?_
  refine ts (mv rfl) ?_
  obtain ⟨x3, hx3, h⟩ := bnd h
  refine ts (cln (f := at0 [0]) kf rfl (.b rfl (.c rfl le1 (.c rfl le1 .n))) rfl (fr_ (cc' := []) (ids := [⟨0, 1, 0⟩]) (cbs := [.arr 3 false (b1.map api_Dependence.d)]) (cbs' := [.arr 3 false (b1.map api_Dependence.d)]) (slices_BinarySearchFunc_api_Dependence_int__depend_DependencesOf_c1_c1_ok hx3) (by first | rfl | (simp only [List.length_set, copied_len] <;> rfl)) (.inl ⟨rfl, rfl⟩) (by simp) rfl rfl rfl rfl rfl rfl rfl rfl (.c rfl .n) (.keep .nil rfl (by simp))) rfl) ?_
  refine ts (mv rfl) ?_
  refine ts (ex_ rfl rfl) ?_
  refine ts (ex_ rfl rfl) ?_
  refine ts (as_ rfl) ?_
  refine ts (as_ rfl) ?_
  refine rn ?_
  refine sr ?_
  refine ts (mv rfl) ?_
  refine ts (not_ rfl) ?_
  refine rn ?_
  rcases ite h with ⟨c4, h⟩ | ⟨c4, h⟩
  · refine ct rfl (not_t (vf c4)) ?_
    refine ld_ mixed (b := [0, 0, 0, 0, 8, 0, 56, 124, 252, 511, 1023]) (by kernel_rfl) ?_
    refine dr (ld sT29 rfl (uw rfl) rfl) rfl ?_
    refine ds (mv rfl) rfl ?_
    refine ds (mv rfl) rfl ?_
    refine ds (mv rfl) rfl ?_
    obtain ⟨x5, hx5, h⟩ := bnd h
    refine dr (cln (f := fun _ => false) kf rfl (.c rfl le1 .n) rfl (slices_Clone_int_ok hx5) rfl) rfl ?_
    refine ds (mv rfl) rfl ?_
    obtain ⟨x6, hx6, h⟩ := bnd h
    refine dr (cln (f := fun _ => false) kf rfl (.c rfl le1 .n) rfl (slices_Clone_int_ok hx6) rfl) rfl ?_
    refine ds (bld (v := .d (api_Dependence.d (api_Dependence.mk x2 x5 x6))) rfl (by kernel_rfl)) rfl ?_
    refine ds (bsT (l := (([(api_Dependence.mk x2 x5 x6)] : List api_Dependence).map api_Dependence.d)) lT29 rfl rfl rfl (by kernel_rfl)) rfl ?_
    obtain ⟨x7, hx7, h⟩ := bnd h
    refine dt (clq (f := at0 [0]) kf rfl (.b rfl (.c rfl le1 (.c rfl le2 .n))) rfl (fr_ (ids := [⟨0, 1, 0⟩]) (cbs := [.arr 3 false (b1.map api_Dependence.d)]) (cbs' := [.arr 3 false (x7.map api_Dependence.d)]) (slices_Insert_api_Dependence_ok hx7) (by first | rfl | (simp only [List.length_set, copied_len] <;> rfl)) (.inr ⟨rfl, rfl⟩) (by simp) rfl rfl rfl rfl rfl rfl rfl rfl (.c rfl .n) (.set .full rfl (by simp) (set_w0 (.s rfl .h)))) rfl) rfl ?_
    refine dt0 (stG sT29 rfl rfl rfl rfl (uw rfl) .h (su .h)) rfl ?_
    refine dn (by kernel_rfl) ?_
    obtain rfl := some_inj h
    exact ⟨trivial, rt0 rfl⟩
  · refine cf rfl (not_f (Classical.not_not.1 c4)) ?_
    refine CWp.skip ?_
    obtain rfl := some_inj h
    exact ⟨trivial, rt0 rfl⟩
theorem depend_pairs__depend_DependencesOf_c1_ok {p0 : (List api_Loop)} {p1 : (List api_Access)} {p2 : api_DependPair} {b1 : (List api_Dependence)} {r : List api_Dependence} (h : depend_pairs__depend_DependencesOf_c1 p0 p1 p2 b1 = some r) : FunOk PP 66 [.d (.sl (p0.map api_Loop.d)), .d (.sl (p1.map api_Access.d)), .d (api_DependPair.d p2), .clo 67 [.bptr ⟨0, 0, 0⟩ 0]] [[((0, 0), .box [.ref ⟨0, 1, 0⟩ 0 b1.length b1.length]), ((1, 0), .arr 3 false (b1.map api_Dependence.d))]] ⟨.tup [], [some [((0, 0), .box [.ref ⟨0, 1, 0⟩ 0 r.length r.length]), ((1, 0), .arr 3 false (r.map api_Dependence.d))]]⟩ := by
  unfold depend_pairs__depend_DependencesOf_c1 at h
  refine fi Tryz.func66 rfl (by kernel_rfl) (by kernel_rfl) (by kernel_rfl) ?_
  refine CWp.endLe ?_
  refine CWp.trim Le.start ?_
  refine sr ?_
  refine ts (bxI rfl) ?_
  refine rn ?_
  refine sd mixed (b := [0, 0, 2, 7, 15, 0, 0, 64, 224, 480, 0, 0, 3103, 8191]) (by kernel_rfl) ?_
  refine ds (mv rfl) rfl ?_
  refine ds (faI fT26_0 rfl rfl) rfl ?_
  refine ds (ldI sT3 rfl rfl) rfl ?_
  obtain ⟨x1, hx1, h⟩ := bnd h
  refine ds (ixD lT24 api_Access.sz rfl rfl hx1) rfl ?_
  refine ds (ldIW aT90 rfl rfl rfl) rfl ?_
  refine ds (mv rfl) rfl ?_
  refine ds (faI fT26_1 rfl rfl) rfl ?_
  refine ds (ldI sT3 rfl rfl) rfl ?_
  obtain ⟨x2, hx2, h⟩ := bnd h
  refine ds (ixD lT24 api_Access.sz rfl rfl hx2) rfl ?_
  refine ds (ldIW aT90 rfl rfl rfl) rfl ?_
  refine da (al (n := 0) zT90 rfl) rfl ?_
  refine ea rfl (al (n := 0) zT90 rfl) rfl ?_
  refine et0 rfl (stW aT90 rfl rfl rfl rfl rfl rfl (.s rfl .h)) (by kernel_rfl) rfl ?_
  refine dt0 (stW aT90 rfl rfl rfl rfl rfl rfl .h) rfl ?_
  refine dn (by kernel_rfl) ?_
  refine CWp.seq ?_
  refine sr ?_
  refine ts (ldW (e := api_Access.d x1) aT90 rfl (ow rfl) rfl rfl) ?_
  refine ts (ldW (e := api_Access.d x2) aT90 rfl (ow rfl) rfl rfl) ?_
  refine ts (cln (f := fun _ => false) kf rfl (.c rfl le1 (.c rfl le1 .n)) rfl (depend_related_ok (rfl : depend_related x1 x2 = _)) rfl) ?_
  refine ts (not_ rfl) ?_
  refine rn ?_
  rcases ite h with ⟨c3, h⟩ | ⟨c3, h⟩
  · cases h
  · refine cf rfl (not_f (Classical.not_not.1 c3)) ?_
    refine CWp.skip ?_
    refine sr ?_
    refine ts (mv rfl) ?_
    obtain ⟨x4, hx4, h⟩ := bnd h
    refine ts (cln (f := fun _ => false) kf rfl (.c rfl le1 .n) rfl (depend_points_ok hx4) rfl) ?_
    refine ts (as_ rfl) ?_
    refine rn ?_
    refine sr ?_
    refine ts (mv rfl) ?_
    refine ts (lnD lT35 rfl rfl) ?_
    refine ts (mv rfl) ?_
    refine rn ?_
    obtain ⟨z27, hz27, h⟩ := bnd h
    refine lb (E := fun s5 => [(3, .clo 67 [.bptr ⟨0, 0, 0⟩ 0]), (6, .pimm (api_DependPair.d p2) 0), (8, .bptr ⟨1, 8, 0⟩ 0), (9, .bptr ⟨1, 9, 0⟩ 0), (10, .d (.sl (x4.map (dL dI)))), (31, .d (.sl (x4.map (dL dI)))), (32, .d (.int .i64 (x4.length : Int))), (33, .d (.int .i64 s5.1))]) (M := fun s5 => ⟨[((8, 0), .box [.d (.int .i64 x1.Array), .d (.sl (x1.Subscripts.map api_Affine.d)), .d (.bool x1.Write)]), ((9, 0), .box [.d (.int .i64 x2.Array), .d (.sl (x2.Subscripts.map api_Affine.d)), .d (.bool x2.Write)])], [[((0, 0), .box [.ref ⟨0, 1, 0⟩ 0 b1.length b1.length]), ((1, 0), .arr 3 false (b1.map api_Dependence.d))]], [some [((0, 0), .box [.ref ⟨0, 1, 0⟩ 0 s5.2.length s5.2.length]), ((1, 0), .arr 3 false (s5.2.map api_Dependence.d))]]⟩) (E' := fun y => []) (M' := fun y => ⟨[], [[((0, 0), .box [.ref ⟨0, 1, 0⟩ 0 b1.length b1.length]), ((1, 0), .arr 3 false (b1.map api_Dependence.d))]], [some [((0, 0), .box [.ref ⟨0, 1, 0⟩ 0 y.length y.length]), ((1, 0), .arr 3 false (y.map api_Dependence.d))]]⟩) hz27 (by (try simp only [List.length_set, copied_len]); exact trkc (by kernel_rfl) (by kernel_rfl) (by kernel_rfl)) ?_ ?_
    · intro s5 ww h
      unfold depend_pairs__depend_DependencesOf_c1.s1 at h
      refine sr ?_
      refine ts (lss rfl rfl) ?_
      refine rn ?_
      refine CWp.seq ?_
      rcases ite h with ⟨c6, h⟩ | ⟨c6, h⟩
      · refine ct rfl (bt c6) ?_
        refine CWp.skip ?_
        refine CWp.seq ?_
        refine CWp.block ?_
        refine sr ?_
        refine ts (mv rfl) ?_
        obtain ⟨x7, hx7, h⟩ := bnd h
        refine ts (ixD lT35 szL rfl rfl hx7) ?_
        refine ts (ldI sT48 rfl rfl) ?_
        refine ts (as_ rfl) ?_
        refine ts (as_ rfl) ?_
        refine rn ?_
        refine sr ?_
        refine ts (ldW (e := api_Access.d x1) aT90 rfl (ow rfl) rfl rfl) ?_
        refine ts (mv rfl) ?_
        obtain ⟨x8, hx8, h⟩ := bnd h
        refine ts (cln (f := fun _ => false) kf rfl (.c rfl le1 (.c rfl le1 .n)) rfl (depend_element_ok hx8) rfl) ?_
        refine ts (as_ rfl) ?_
        refine rn ?_
        refine sr ?_
        refine ts (mv rfl) ?_
        refine ts (as_ rfl) ?_
        refine rn ?_
        obtain ⟨z25, hz25, h⟩ := bnd h
        refine lb (E := fun s9 => [(3, .clo 67 [.bptr ⟨0, 0, 0⟩ 0]), (6, .pimm (api_DependPair.d p2) 0), (8, .bptr ⟨1, 8, 0⟩ 0), (9, .bptr ⟨1, 9, 0⟩ 0), (10, .d (.sl (x4.map (dL dI)))), (11, .d (.int .i64 s5.1)), (12, .d (.sl (x7.map dI))), (13, .d (.sl (x8.map dI))), (14, .d (.int .i64 s9.1)), (31, .d (.sl (x4.map (dL dI)))), (32, .d (.int .i64 (x4.length : Int))), (33, .d (.int .i64 s5.1))]) (M := fun s9 => ⟨[((8, 0), .box [.d (.int .i64 x1.Array), .d (.sl (x1.Subscripts.map api_Affine.d)), .d (.bool x1.Write)]), ((9, 0), .box [.d (.int .i64 x2.Array), .d (.sl (x2.Subscripts.map api_Affine.d)), .d (.bool x2.Write)])], [[((0, 0), .box [.ref ⟨0, 1, 0⟩ 0 b1.length b1.length]), ((1, 0), .arr 3 false (b1.map api_Dependence.d))]], [some [((0, 0), .box [.ref ⟨0, 1, 0⟩ 0 s9.2.length s9.2.length]), ((1, 0), .arr 3 false (s9.2.map api_Dependence.d))]]⟩) (E' := fun y => [(3, .clo 67 [.bptr ⟨0, 0, 0⟩ 0]), (6, .pimm (api_DependPair.d p2) 0), (8, .bptr ⟨1, 8, 0⟩ 0), (9, .bptr ⟨1, 9, 0⟩ 0), (10, .d (.sl (x4.map (dL dI)))), (31, .d (.sl (x4.map (dL dI)))), (32, .d (.int .i64 (x4.length : Int))), (33, .d (.int .i64 s5.1))]) (M' := fun y => ⟨[((8, 0), .box [.d (.int .i64 x1.Array), .d (.sl (x1.Subscripts.map api_Affine.d)), .d (.bool x1.Write)]), ((9, 0), .box [.d (.int .i64 x2.Array), .d (.sl (x2.Subscripts.map api_Affine.d)), .d (.bool x2.Write)])], [[((0, 0), .box [.ref ⟨0, 1, 0⟩ 0 b1.length b1.length]), ((1, 0), .arr 3 false (b1.map api_Dependence.d))]], [some [((0, 0), .box [.ref ⟨0, 1, 0⟩ 0 y.length y.length]), ((1, 0), .arr 3 false (y.map api_Dependence.d))]]⟩) hz25 (by (try simp only [List.length_set, copied_len]); exact trkc (by kernel_rfl) (by kernel_rfl) (by kernel_rfl)) ?_ ?_
        · intro s9 ww h
          unfold depend_pairs__depend_DependencesOf_c1.s2 at h
          refine CWp.seq ?_
          refine sr ?_
          refine ts (mv rfl) ?_
          refine ts (mv rfl) ?_
          refine ts (lnD lT35 rfl rfl) ?_
          refine ts (lss rfl rfl) ?_
          refine rn ?_
          rcases ite h with ⟨c10, h⟩ | ⟨c10, h⟩
          · refine ct rfl (bt c10) ?_
            refine CWp.skip ?_
            refine CWp.seq ?_
            refine CWp.block ?_
            refine sd mixed (b := [0, 0, 3, 7, 15, 31, 15, 79, 255, 511, 1023, 2047, 2047, 2047, 2047, 26623, 59391, 129023, 262143, 524287]) (by kernel_rfl) ?_
            refine ds (mv rfl) rfl ?_
            refine ds (mv rfl) rfl ?_
            refine ds (gtr rfl rfl) rfl ?_
            refine ds (mv rfl) rfl ?_
            rcases ite h with ⟨c11, h⟩ | ⟨c11, h⟩
            · refine vn (gn rfl rfl (bt c11)) ?_
              refine vn (gn rfl rfl (bt c11)) ?_
              refine vn (gn rfl rfl (bt c11)) ?_
              refine vn (gn rfl rfl (bt c11)) ?_
              refine vn (gn rfl rfl (bt c11)) ?_
              refine ds (pt rfl (bt c11) rfl) rfl ?_
              refine ds (mv rfl) rfl ?_
              refine vs (gy rfl rfl rfl) (mv rfl) rfl ?_
              refine vs (gy rfl rfl rfl) (ldW (e := api_Access.d x2) aT90 rfl (ow rfl) rfl rfl) rfl ?_
              refine vs (gy rfl rfl rfl) (mv rfl) rfl ?_
              refine vs (gy rfl rfl rfl) (mv rfl) rfl ?_
              obtain ⟨x12, hx12, h⟩ := bnd h
              refine vs (gy rfl rfl rfl) (ixD lT35 szL rfl rfl hx12) rfl ?_
              refine vs (gy rfl rfl rfl) (ldI sT48 rfl rfl) rfl ?_
              obtain ⟨x13, hx13, h⟩ := bnd h
              refine vs (gy rfl rfl rfl) (cln (f := fun _ => false) kf rfl (.c rfl le1 (.c rfl le1 .n)) rfl (depend_element_ok hx13) rfl) rfl ?_
              obtain ⟨x14, hx14, h⟩ := bnd h
              refine vs (gy rfl rfl rfl) (cln (f := fun _ => false) kf rfl (.c rfl le1 (.c rfl le1 .n)) rfl (slices_Equal_int_ok hx14) rfl) rfl ?_
              refine ds (pt rfl rfl rfl) rfl ?_
              refine dn (by kernel_rfl) ?_
              rcases ite h with ⟨c15, h⟩ | ⟨c15, h⟩
              · refine ct rfl c15 ?_
                refine lr ?_
                refine ts (mv rfl) ?_
                refine ts (mv rfl) ?_
                refine ts (mv rfl) ?_
                refine ts (mv rfl) ?_
                obtain ⟨x16, hx16, h⟩ := bnd h
                refine ts (ixD lT35 szL rfl rfl hx16) ?_
                refine ts (ldI sT48 rfl rfl) ?_
                obtain ⟨x17, hx17, h⟩ := bnd h
                refine tt (clq (f := fun _ => false) (kc rfl) rfl (.c rfl le1 (.c rfl le1 .n)) rfl (fr_ (ids := [⟨0, 0, 0⟩, ⟨0, 1, 0⟩]) (cbs := [.box [.ref ⟨0, 1, 0⟩ 0 s9.2.length s9.2.length], .arr 3 false (s9.2.map api_Dependence.d)]) (cbs' := [.box [.ref ⟨0, 1, 0⟩ 0 x17.length x17.length], .arr 3 false (x17.map api_Dependence.d)]) (depend_DependencesOf_c1_ok hx17) (by first | rfl | (simp only [List.length_set, copied_len] <;> rfl)) (.inr ⟨rfl, rfl⟩) (by simp) rfl rfl rfl rfl rfl rfl rfl rfl (.c rfl (.c rfl .n)) (.set (.set .full rfl (by simp) (set_w0 (.s rfl .h))) rfl (by simp) (set_w0 .h))) rfl) ?_
                refine rn ?_
                refine lr ?_
                refine ts (mv rfl) ?_
                refine ts (add rfl rfl) ?_
                refine ts (as_ rfl) ?_
                refine rn ?_
                obtain rfl := some_inj h
                exact ⟨rfl, (by (try simp only [List.length_set, copied_len]); exact trkc (by kernel_rfl) (by kernel_rfl) (by kernel_rfl))⟩
              · refine cf rfl (vf c15) ?_
                refine CWp.skip ?_
                refine lr ?_
                refine ts (mv rfl) ?_
                refine ts (add rfl rfl) ?_
                refine ts (as_ rfl) ?_
                refine rn ?_
                obtain rfl := some_inj h
                exact ⟨rfl, (by (try simp only [List.length_set, copied_len]); exact trkc (by kernel_rfl) (by kernel_rfl) (by kernel_rfl))⟩
            · refine vs (gy rfl rfl (bf c11)) (faI fT26_0 rfl rfl) rfl ?_
              refine vs (gy rfl rfl (bf c11)) (ldI sT3 rfl rfl) rfl ?_
              refine vs (gy rfl rfl (bf c11)) (faI fT26_1 rfl rfl) rfl ?_
              refine vs (gy rfl rfl (bf c11)) (ldI sT3 rfl rfl) rfl ?_
              refine vs (gy rfl rfl (bf c11)) (lss rfl rfl) rfl ?_
              refine ds (pf rfl (bf c11) rfl) rfl ?_
              refine ds (mv rfl) rfl ?_
              rcases ite h with ⟨c18, h⟩ | ⟨c18, h⟩
              · refine vs (gy rfl rfl (bt c18)) (mv rfl) rfl ?_
                refine vs (gy rfl rfl (bt c18)) (ldW (e := api_Access.d x2) aT90 rfl (ow rfl) rfl rfl) rfl ?_
                refine vs (gy rfl rfl (bt c18)) (mv rfl) rfl ?_
                refine vs (gy rfl rfl (bt c18)) (mv rfl) rfl ?_
                obtain ⟨x19, hx19, h⟩ := bnd h
                refine vs (gy rfl rfl (bt c18)) (ixD lT35 szL rfl rfl hx19) rfl ?_
                refine vs (gy rfl rfl (bt c18)) (ldI sT48 rfl rfl) rfl ?_
                obtain ⟨x20, hx20, h⟩ := bnd h
                refine vs (gy rfl rfl (bt c18)) (cln (f := fun _ => false) kf rfl (.c rfl le1 (.c rfl le1 .n)) rfl (depend_element_ok hx20) rfl) rfl ?_
                obtain ⟨x21, hx21, h⟩ := bnd h
                refine vs (gy rfl rfl (bt c18)) (cln (f := fun _ => false) kf rfl (.c rfl le1 (.c rfl le1 .n)) rfl (slices_Equal_int_ok hx21) rfl) rfl ?_
                refine ds (pt rfl (bt c18) rfl) rfl ?_
                refine dn (by kernel_rfl) ?_
                rcases ite h with ⟨c22, h⟩ | ⟨c22, h⟩
                · refine ct rfl c22 ?_
                  refine lr ?_
                  refine ts (mv rfl) ?_
                  refine ts (mv rfl) ?_
                  refine ts (mv rfl) ?_
                  refine ts (mv rfl) ?_
                  obtain ⟨x23, hx23, h⟩ := bnd h
                  refine ts (ixD lT35 szL rfl rfl hx23) ?_
                  refine ts (ldI sT48 rfl rfl) ?_
                  obtain ⟨x24, hx24, h⟩ := bnd h
                  refine tt (clq (f := fun _ => false) (kc rfl) rfl (.c rfl le1 (.c rfl le1 .n)) rfl (fr_ (ids := [⟨0, 0, 0⟩, ⟨0, 1, 0⟩]) (cbs := [.box [.ref ⟨0, 1, 0⟩ 0 s9.2.length s9.2.length], .arr 3 false (s9.2.map api_Dependence.d)]) (cbs' := [.box [.ref ⟨0, 1, 0⟩ 0 x24.length x24.length], .arr 3 false (x24.map api_Dependence.d)]) (depend_DependencesOf_c1_ok hx24) (by first | rfl | (simp only [List.length_set, copied_len] <;> rfl)) (.inr ⟨rfl, rfl⟩) (by simp) rfl rfl rfl rfl rfl rfl rfl rfl (.c rfl (.c rfl .n)) (.set (.set .full rfl (by simp) (set_w0 (.s rfl .h))) rfl (by simp) (set_w0 .h))) rfl) ?_
                  refine rn ?_
                  refine lr ?_
                  refine ts (mv rfl) ?_
                  refine ts (add rfl rfl) ?_
                  refine ts (as_ rfl) ?_
                  refine rn ?_
                  obtain rfl := some_inj h
                  exact ⟨rfl, (by (try simp only [List.length_set, copied_len]); exact trkc (by kernel_rfl) (by kernel_rfl) (by kernel_rfl))⟩
                · refine cf rfl (vf c22) ?_
                  refine CWp.skip ?_
                  refine lr ?_
                  refine ts (mv rfl) ?_
                  refine ts (add rfl rfl) ?_
                  refine ts (as_ rfl) ?_
                  refine rn ?_
                  obtain rfl := some_inj h
                  exact ⟨rfl, (by (try simp only [List.length_set, copied_len]); exact trkc (by kernel_rfl) (by kernel_rfl) (by kernel_rfl))⟩
              · cases h
          · refine cf rfl (bf c10) ?_
            refine CWp.exit ?_
            obtain rfl := some_inj h
            exact ⟨rfl, (by (try simp only [List.length_set, copied_len]); exact trkc (by kernel_rfl) (by kernel_rfl) (by kernel_rfl))⟩
        · intro e s ht
          refine CWp.trim ht ?_
          refine lr ?_
          refine ts (add rfl rfl) ?_
          refine ts (mv rfl) ?_
          refine rn ?_
          obtain rfl := some_inj h
          exact ⟨rfl, (by (try simp only [List.length_set, copied_len]); exact trkc (by kernel_rfl) (by kernel_rfl) (by kernel_rfl))⟩
      · refine cf rfl (bf c6) ?_
        refine CWp.exit ?_
        obtain rfl := some_inj h
        exact ⟨rfl, (by (try simp only [List.length_set, copied_len]); exact trkc (by kernel_rfl) (by kernel_rfl) (by kernel_rfl))⟩
    · intro e s ht
      obtain rfl := some_inj h
      exact ⟨_, _, ht, trivial, rt0 rfl⟩
theorem depend_DependencesOf_ok {p0 : (List api_Loop)} {p1 : (List api_Access)} {p2 : api_DependPair} {out : Out} {r : (List api_Dependence) × Int} (h : depend_DependencesOf p0 p1 p2 = some r) : FunOk PP 13 [.d (.sl (p0.map api_Loop.d)), .d (.sl (p1.map api_Access.d)), .d (api_DependPair.d p2)] out ⟨.tup [.d (.sl (r.1.map api_Dependence.d)), .d (.int .i64 r.2)], []⟩ := by
  unfold depend_DependencesOf at h
  refine fi Tryz.func13 rfl (by kernel_rfl) (by kernel_rfl) (by kernel_rfl) ?_
  refine sr ?_
  refine ts (bxI rfl) ?_
  refine ts (ak.wk (x' := .sl (([] : List api_Dependence).map api_Dependence.d)) rfl) ?_
  refine ts (ac rfl rfl) ?_
  refine rn ?_
  refine CWp.seq ?_
  refine sr ?_
  refine ts (mv rfl) ?_
  refine ts (mv rfl) ?_
  refine ts (faI fT26_0 rfl rfl) ?_
  refine ts (ldI sT3 rfl rfl) ?_
  refine ts (faI fT26_1 rfl rfl) ?_
  refine ts (ldI sT3 rfl rfl) ?_
  obtain ⟨x1, hx1, h⟩ := bnd h
  refine ts (cln (f := fun _ => false) kf rfl (.c rfl le1 (.c rfl le1 (.c rfl le1 (.c rfl le1 .n)))) (curOf_nil _) (depend_pairErr_ok hx1) rfl) ?_
  refine ts (as_ rfl) ?_
  refine rn ?_
  refine sr ?_
  refine ts (mv rfl) ?_
  refine ts (neq rfl rfl) ?_
  refine rn ?_
  rcases ite h with ⟨c2, h⟩ | ⟨c2, h⟩
  · cases h
  · refine cf rfl (nf c2) ?_
    refine CWp.skip ?_
    refine sr ?_
    refine ta (al (n := 0) zT29 rfl) ?_
    refine gz (Le.nilBox (t := 9) (n := 0) (t' := 1180) (n' := 0) (off := 0) (sz := 3) rfl rfl rfl rfl) ?_
    refine rn ?_
    refine sr ?_
    refine ts (mv rfl) ?_
    refine ts (mv rfl) ?_
    refine ts (ldIW aT26 rfl rfl rfl) ?_
    refine ts (mf_ (v := .clo 67 [.bptr ⟨out.length, 9, 0⟩ 0]) rfl rfl) ?_
    obtain ⟨x3, hx3, h⟩ := bnd h
    refine tt (clp (f := fun _ => false) kf rfl (.c rfl le1 (.c rfl le1 (.c rfl le1 (.c rfl le6 .n)))) rfl (curOf_nil _) (fr_ (ids := [⟨out.length, 9, 0⟩, ⟨out.length, 1180, 0⟩]) (cbs := [.box [.ref ⟨0, 1, 0⟩ 0 0 0], .arr 3 false (([] : List api_Dependence).map api_Dependence.d)]) (cbs' := [.box [.ref ⟨0, 1, 0⟩ 0 x3.length x3.length], .arr 3 false (x3.map api_Dependence.d)]) (depend_pairs__depend_DependencesOf_c1_ok hx3) (by first | rfl | (simp only [List.length_set, copied_len] <;> rfl)) (.inr ⟨rfl, rfl⟩) (by simp) rfl rfl rfl rfl rfl rfl rfl rfl (.c (o1 rfl) (.c (o1 rfl) .n)) (.set (.set .one (o1 rfl) (by simp) (set_o1' .h)) (o1 rfl) (by simp) (set_o1' (.s rfl .h)))) rfl) ?_
    refine rn ?_
    refine sr ?_
    refine ts (ld sT29 rfl (ow rfl) rfl) ?_
    refine ts (as_ rfl) ?_
    refine ts (ac rfl rfl) ?_
    refine rn ?_
    refine CWp.ret ?_
    obtain rfl := some_inj h
    exact ⟨trivial, rt2 (ex := false) (by exact (.t rfl (.t rfl .n))) (by exact (sc (gf rfl rfl) (sc (gd (by rfl)) sn))) (by rfl) (by rfl)⟩
theorem slices_BinarySearchFunc_int_int__slices_Compare_int_ok {p1 : (List Int)} {b0 : (List (List Int))} {r : Int × Bool} (h : slices_BinarySearchFunc_int_int__slices_Compare_int p1 b0 = some r) : FunOk PP 77 [.ref ⟨0, 0, 0⟩ 0 b0.length b0.length, .d (.sl (p1.map dI)), .d (.fn 72)] [[((0, 0), .arr 1 false (b0.map (dL dI)))]] ⟨.tup [.d (.int .i64 r.1), .d (.bool r.2)], []⟩ := by
  unfold slices_BinarySearchFunc_int_int__slices_Compare_int at h
  refine fi Tryz.func77 rfl (by kernel_rfl) (by kernel_rfl) (by kernel_rfl) ?_
  refine sr ?_
  refine ts (ac rfl rfl) ?_
  refine ts (ac rfl rfl) ?_
  refine rn ?_
  refine sr ?_
  refine ts (mv rfl) ?_
  refine ts (lnR lT35 rfl rfl) ?_
  refine ts (as_ rfl) ?_
  refine rn ?_
  refine sr ?_
  refine ts (mv rfl) ?_
  refine ts (ac rfl rfl) ?_
  refine ts (as_ rfl) ?_
  refine rn ?_
  refine CWp.seq ?_
  obtain ⟨z7, hz7, h⟩ := bnd h
  refine lb (E := fun s1 => [(0, .ref ⟨0, 0, 0⟩ 0 b0.length b0.length), (1, .d (.sl (p1.map dI))), (2, .d (.fn 72)), (8, .d (.int .i64 (b0.length : Int))), (9, .d (.int .i64 s1.1)), (10, .d (.int .i64 s1.2))]) (M := fun s1 => ⟨[], [[((0, 0), .arr 1 false (b0.map (dL dI)))]], []⟩) (E' := fun y => [(0, .ref ⟨0, 0, 0⟩ 0 b0.length b0.length), (1, .d (.sl (p1.map dI))), (2, .d (.fn 72)), (8, .d (.int .i64 (b0.length : Int))), (9, .d (.int .i64 y))]) (M' := fun y => ⟨[], [[((0, 0), .arr 1 false (b0.map (dL dI)))]], []⟩) hz7 (by (try simp only [List.length_set, copied_len]); exact trkc (by kernel_rfl) (by kernel_rfl) (by kernel_rfl)) ?_ ?_
  · intro s1 ww h
    unfold slices_BinarySearchFunc_int_int__slices_Compare_int.s1 at h
    refine CWp.seq ?_
    refine sr ?_
    refine ts (mv rfl) ?_
    refine ts (mv rfl) ?_
    refine ts (lss rfl rfl) ?_
    refine rn ?_
    rcases ite h with ⟨c2, h⟩ | ⟨c2, h⟩
    · refine ct rfl (bt c2) ?_
      refine CWp.skip ?_
      refine CWp.block ?_
      refine sr ?_
      refine ts (mv rfl) ?_
      refine ts (mv rfl) ?_
      refine ts (add rfl rfl) ?_
      refine ts (cnv rfl (by kernel_rfl) uT214) ?_
      obtain ⟨x3, hx3, h⟩ := bnd h
      refine ts (shr_ rfl rfl hx3) ?_
      refine ts (cnv rfl (by kernel_rfl) uT3) ?_
      refine ts (as_ rfl) ?_
      refine rn ?_
      refine sr ?_
      refine ts (mv rfl) ?_
      refine ts (mv rfl) ?_
      refine ts (mv rfl) ?_
      obtain ⟨x4, hx4, h⟩ := bnd h
      refine ts (ixR lT35 rfl rfl rfl (uw0 rfl) hx4) ?_
      refine ts (ldE sT48 rfl rfl (uw0 rfl) hx4 rfl) ?_
      refine ts (mv rfl) ?_
      obtain ⟨x5, hx5, h⟩ := bnd h
      refine ts (cln (f := fun _ => false) (kt rfl) rfl (.c rfl le1 (.c rfl le1 .n)) rfl (slices_Compare_int_ok hx5) rfl) ?_
      refine ts (lss rfl rfl) ?_
      refine rn ?_
      rcases ite h with ⟨c6, h⟩ | ⟨c6, h⟩
      · cases h
      · refine cf rfl (bf c6) ?_
        refine lr ?_
        refine ts (mv rfl) ?_
        refine ts (as_ rfl) ?_
        refine rn ?_
        obtain rfl := some_inj h
        exact ⟨rfl, (by (try simp only [List.length_set, copied_len]); exact trkc (by kernel_rfl) (by kernel_rfl) (by kernel_rfl))⟩
    · refine cf rfl (bf c2) ?_
      refine CWp.exit ?_
      obtain rfl := some_inj h
      exact ⟨rfl, (by (try simp only [List.length_set, copied_len]); exact trkc (by kernel_rfl) (by kernel_rfl) (by kernel_rfl))⟩
  · intro e s ht
    refine CWp.trim ht ?_
    refine sr ?_
    refine ts (mv rfl) ?_
    refine ts (mv rfl) ?_
    refine ts (mv rfl) ?_
    refine ts (lss rfl rfl) ?_
    refine ts (mv rfl) ?_
    rcases ite h with ⟨c8, h⟩ | ⟨c8, h⟩
    · refine us (gy rfl rfl (bt c8)) (mv rfl) ?_
      refine us (gy rfl rfl (bt c8)) (mv rfl) ?_
      refine us (gy rfl rfl (bt c8)) (mv rfl) ?_
      obtain ⟨x9, hx9, h⟩ := bnd h
      refine us (gy rfl rfl (bt c8)) (ixR lT35 rfl rfl rfl (uw0 rfl) hx9) ?_
      refine us (gy rfl rfl (bt c8)) (ldE sT48 rfl rfl (uw0 rfl) hx9 rfl) ?_
      refine us (gy rfl rfl (bt c8)) (mv rfl) ?_
      obtain ⟨x10, hx10, h⟩ := bnd h
      refine us (gy rfl rfl (bt c8)) (cln (f := fun _ => false) (kt rfl) rfl (.c rfl le1 (.c rfl le1 .n)) rfl (slices_Compare_int_ok hx10) rfl) ?_
      refine us (gy rfl rfl (bt c8)) (eql rfl rfl) ?_
      refine ts (pt rfl (bt c8) rfl) ?_
      refine ts (as_ rfl) ?_
      refine ts (as_ rfl) ?_
      refine rn ?_
      refine CWp.ret ?_
      obtain rfl := some_inj h
      exact ⟨trivial, rt2 (ex := false) (by exact (.t rfl (.t rfl .n))) (by exact (sc (gd (by rfl)) (sc (gd (by rfl)) sn))) (by rfl) (by rfl)⟩
    · refine un (gn rfl rfl (bf c8)) ?_
      refine un (gn rfl rfl (bf c8)) ?_
      refine un (gn rfl rfl (bf c8)) ?_
      refine un (gn rfl rfl (bf c8)) ?_
      refine un (gn rfl rfl (bf c8)) ?_
      refine un (gn rfl rfl (bf c8)) ?_
      refine un (gn rfl rfl (bf c8)) ?_
      refine un (gn rfl rfl (bf c8)) ?_
      refine ts (pf rfl (bf c8) rfl) ?_
      refine ts (as_ rfl) ?_
      refine ts (as_ rfl) ?_
      refine rn ?_
      refine CWp.ret ?_
      obtain rfl := some_inj h
      exact ⟨trivial, rt2 (ex := false) (by exact (.t rfl (.t rfl .n))) (by exact (sc (gd (by rfl)) (sc (gd (by rfl)) sn))) (by rfl) (by rfl)⟩
theorem slices_Insert_int_ok {p1 : Int} {p2 : (List (List Int))} {b0 : (List (List Int))} {r : (List (List Int))} (h : slices_Insert_int p1 p2 b0 = some r) : FunOk PP 78 [.ref ⟨0, 0, 0⟩ 0 b0.length b0.length, .d (.int .i64 p1), .d (.sl (p2.map (dL dI)))] [[((0, 0), .arr 1 false (b0.map (dL dI)))]] ⟨.ref ⟨0, 0, 0⟩ 0 r.length r.length, [some [((0, 0), .arr 1 false (r.map (dL dI)))]]⟩ := by
  unfold slices_Insert_int at h
  obtain ⟨i, rfl, hi, hm, hr⟩ := inserted_ok h
  have hX : (b0.map (dL dI)).length = b0.length := by simp
  have hV : (p2.map (dL dI)).length = p2.length := by simp
  have hR : (b0.map (dL dI)).take i ++ p2.map (dL dI) ++ (b0.map (dL dI)).drop i = r.map (dL dI) := by rw [hr]; simp [List.map_take, List.map_drop]
  have hL : r.length = b0.length + p2.length := by rw [hr]; simp; omega
  refine fi Tryz.func78 rfl (by kernel_rfl) (by kernel_rfl) (by kernel_rfl) ?_
  refine CWp.trim Le.start ?_
  refine sr ?_
  refine ts (ak) ?_
  refine rn ?_
  refine sr ?_
  refine ts (mv rfl) ?_
  refine ts (mv rfl) ?_
  refine ts (slG1 lT35 rfl hX.symm (uw rfl) rfl ⟨by omega, by omega, by omega⟩) ?_
  refine rn ?_
  refine sr ?_
  refine ts (mv rfl) ?_
  refine ts (lnD lT35 rfl rfl) ?_
  refine ts (as_ rfl) ?_
  refine rn ?_
  refine CWp.seq ?_
  refine sr ?_
  refine ts (mv rfl) ?_
  refine ts (eql rfl rfl) ?_
  refine rn ?_
  by_cases em : p2 = []
  · have hb : r = b0 := by rw [hr, em]; simp
    subst hb
    refine ct rfl (et (by simp [em])) ?_
    refine sr ?_
    refine ts (mv rfl) ?_
    refine ts (as_ rfl) ?_
    refine rn ?_
    refine CWp.ret ?_
    exact ⟨trivial, rt1 (ex := false) (by exact (.t rfl .n)) (by exact (gro rfl)) (by rfl) (by rfl)⟩
  have hm0 : 0 < p2.length := List.length_pos_iff.2 em
  refine cf rfl (ef (by omega)) ?_
  refine CWp.skip ?_
  refine sr ?_
  refine ts (mv rfl) ?_
  refine ts (lnR lT35 rfl rfl) ?_
  refine ts (as_ rfl) ?_
  refine rn ?_
  refine CWp.seq ?_
  refine sr ?_
  refine ts (mv rfl) ?_
  refine ts (mv rfl) ?_
  refine ts (eql rfl rfl) ?_
  refine rn ?_
  by_cases en : i = b0.length
  · have hb : r = b0 ++ p2 := by rw [hr, en]; simp
    subst hb
    refine ct rfl (et (by omega)) ?_
    refine sr ?_
    refine ts (mv rfl) ?_
    refine ts (mv rfl) ?_
    refine tt (apGn (zs := b0 ++ p2) lT35 uT35 szL rfl rfl rfl elD (uw rfl) (by unfold app; rw [if_pos hm]) (su .h) (by cases p2 with | nil => exact absurd rfl em | cons _ _ => rfl)) ?_
    refine ts (as_ rfl) ?_
    refine rn ?_
    refine CWp.ret ?_
    exact ⟨trivial, rt1 (ex := false) (by exact (.t rfl .n)) (by exact (gro rfl)) (by rfl) (by rfl)⟩
  refine cf rfl (ef (by omega)) ?_
  refine CWp.skip ?_
  refine CWp.cap (t0 := 0) (n := b0.length) (xs := b0.map (dL dI)) rfl hX.symm (uw rfl) fun c hc => ?_
  refine CWp.seq ?_
  refine sr ?_
  refine ts (mv rfl) ?_
  refine ts (mv rfl) ?_
  refine ts (adS (c := b0.length + p2.length) rfl rfl ⟨by omega, by omega⟩) ?_
  refine ts (mv rfl) ?_
  refine ts (cap_ lT35 rfl rfl) ?_
  refine ts (gtr rfl rfl) ?_
  refine rn ?_
  by_cases ec : c < b0.length + p2.length
  · refine ct rfl (decide_eq_true (by omega)) ?_
    refine sr ?_
    refine ts (mv rfl) ?_
    refine ts (mv rfl) ?_
    refine ts (slRc lT35 rfl rfl rfl ⟨by omega, by omega, hc⟩) ?_
    refine ts (mv rfl) ?_
    refine ts (mv rfl) ?_
    refine ts (adS (c := b0.length + p2.length) rfl rfl ⟨by omega, by omega⟩) ?_
    refine ts (mv rfl) ?_
    refine ts (suS (c := b0.length + p2.length - i) rfl rfl ⟨by omega, by omega⟩) ?_
    refine ta (apMk (nn := 0) (xs := b0.map (dL dI)) lT35 uT3 rfl rfl rfl hX.symm (uw rfl) (by show i ≤ b0.length; omega) ⟨by omega, by show (c : Int) < (i : Nat) + _; omega, by show ((i : Nat) : Int) + _ ≤ _; omega⟩ rfl) ?_
    refine ts (as_ rfl) ?_
    refine rn ?_
    refine CWp.trim (Le.uncap (t0 := 0) rfl) ?_
    have hK : i + (b0.length + p2.length - i) = b0.length + p2.length := by omega
    have hB0 : (((b0.map (dL dI)).take i) ++ List.replicate (b0.length + p2.length - i) (.nilsl : D)).length = b0.length + p2.length := by simp; omega
    refine sr ?_
    refine ts (mv rfl) ?_
    refine ts (mv rfl) ?_
    refine ts (slG1 lT35 rfl (hK.trans hB0.symm) (ow rfl) rfl ⟨by omega, by omega, by omega⟩) ?_
    refine ts (mv rfl) ?_
    refine tt (cpR (ys := p2.map (dL dI)) lT35 rfl (hK.trans hB0.symm) rfl elD (all_sz szL) (ow rfl) (by omega) (so .h)) ?_
    refine rn ?_
    refine sd mixed (b := [0, 0, 0, 6, 15, 0, 0, 96, 255]) (by kernel_rfl) ?_
    refine ds (mv rfl) rfl ?_
    refine ds (mv rfl) rfl ?_
    refine ds (mv rfl) rfl ?_
    refine ds (adS (c := i + p2.length) rfl rfl ⟨by omega, by omega⟩) rfl ?_
    refine dr (slG1 lT35 rfl (hK.trans ((splice_length _ _ _ (by simp; omega)).trans hB0).symm) (ow rfl) rfl ⟨by omega, by omega, by omega⟩) rfl ?_
    refine ds (mv rfl) rfl ?_
    refine ds (mv rfl) rfl ?_
    refine dr (slG1 lT35 rfl hX.symm (uw rfl) rfl ⟨by omega, by omega, by omega⟩) rfl ?_
    refine dt (cpR lT35 rfl (hK.trans ((splice_length _ _ _ (by simp; omega)).trans hB0).symm) rfl (elG (uw rfl) hX.symm (by omega)) (all_part szL) (ow rfl) (by omega) (so .h)) rfl ?_
    refine dn (by kernel_rfl) ?_
    refine sr ?_
    refine ts (mv rfl) ?_
    refine ts (as_ rfl) ?_
    refine rn ?_
    refine CWp.trim (Le.swap (t6 := 6) (ys := r.map (dL dI)) (xs := b0.map (dL dI)) rfl (by simp only [List.length_map]; omega) (congrArg (fun q => some (Blk.arr 1 false q)) (insC' (X := b0.map (dL dI)) (V := p2.map (dL dI)) (i := i) (by omega) (by omega) (by omega) (by omega) (by omega) (by omega) (by omega) (by omega) (by omega) hR)) rfl (uw rfl) (by simp only [List.length_map]; omega) (su .h)) ?_
    refine CWp.ret ?_
    exact ⟨trivial, rt1 (ex := false) (by exact (.t rfl .n)) (by exact (groE rfl (by omega) (by omega))) (by rfl) (by rfl)⟩
  refine cf rfl (decide_eq_false (by omega)) ?_
  refine CWp.skip ?_
  refine CWp.trim (Le.open (t0 := 0) (n := b0.length) (m := p2.length) (xs := b0.map (dL dI)) rfl hX.symm (uw rfl) hm0 (by omega) (su .h)) ?_
  have hZ : (b0.map (dL dI) ++ List.replicate p2.length (junkD 1)).length = b0.length + p2.length := by simp
  refine sr ?_
  refine ts (mv rfl) ?_
  refine ts (mv rfl) ?_
  refine ts (mv rfl) ?_
  refine ts (adS (c := b0.length + p2.length) rfl rfl ⟨by omega, by omega⟩) ?_
  refine ts (slG2 lT35 rfl hZ.symm (uw rfl) rfl ⟨by omega, by omega, by omega⟩) ?_
  refine ts (as_ rfl) ?_
  refine rn ?_
  refine CWp.seq ?_
  refine sr ?_
  refine ts (mv rfl) ?_
  refine ts (mv rfl) ?_
  refine ts (mv rfl) ?_
  refine ts (mv rfl) ?_
  refine ts (adS (c := i + p2.length) rfl rfl ⟨by omega, by omega⟩) ?_
  refine ts (slG1 lT35 rfl hZ.symm (uw rfl) rfl ⟨by omega, by omega, by omega⟩) ?_
  refine ts (ovl_ (fn := Tryz.f154) (tS := 35) (tR := 4) Tryz.func154 (by kernel_rfl) (by kernel_rfl) (by kernel_rfl) (by kernel_rfl) lT35 rfl rfl hZ.symm (uw rfl) (by simpa using em) (all_sz szL) ⟨by omega, by omega⟩) ?_
  refine ts (not_ rfl) ?_
  refine rn ?_
  refine ct rfl rfl ?_
  refine sd mixed (b := [0, 0, 0, 6, 15, 0, 0, 96, 255]) (by kernel_rfl) ?_
  refine ds (mv rfl) rfl ?_
  refine ds (mv rfl) rfl ?_
  refine ds (mv rfl) rfl ?_
  refine ds (adS (c := i + p2.length) rfl rfl ⟨by omega, by omega⟩) rfl ?_
  refine dr (slG1 lT35 rfl hZ.symm (uw rfl) rfl ⟨by omega, by omega, by omega⟩) rfl ?_
  refine ds (mv rfl) rfl ?_
  refine ds (mv rfl) rfl ?_
  refine dr (slG1 lT35 rfl hZ.symm (uw rfl) rfl ⟨by omega, by omega, by omega⟩) rfl ?_
  refine dt (cpR lT35 rfl hZ.symm rfl (elG (uw rfl) hZ.symm (by omega)) (all_open szL) (uw rfl) (by omega) (su .h)) rfl ?_
  refine dn (by kernel_rfl) ?_
  refine sr ?_
  refine ts (mv rfl) ?_
  refine ts (mv rfl) ?_
  refine ts (slG1 lT35 rfl (by rw [splice_length _ _ _ (by simp; omega)]; rw [hZ]) (uw rfl) rfl ⟨by omega, by omega, by omega⟩) ?_
  refine ts (mv rfl) ?_
  refine tt (cpR (ys := p2.map (dL dI)) lT35 rfl (by rw [splice_length _ _ _ (by simp; omega)]; rw [hZ]) rfl elD (all_sz szL) (uw rfl) (by omega) (su .h)) ?_
  refine rn ?_
  refine sr ?_
  refine ts (mv rfl) ?_
  refine ts (as_ rfl) ?_
  refine rn ?_
  refine CWp.ret ?_
  exact ⟨trivial, rt1 (ex := false) (by exact (.t rfl .n)) (by exact (groE rfl (by omega) (by omega))) (by rfl) (congrArg (fun q => [some [((0, 0), Blk.arr 1 false q)]]) (insD' (X := b0.map (dL dI)) (V := p2.map (dL dI)) (i := i) (by omega) (by omega) (by omega) (by omega) (by omega) (by omega) (by omega) (by omega) hR))⟩
theorem depend_DistancesOf_c1_ok {p0 : (List Int)} {p1 : (List Int)} {b1 : (List (List Int))} {r : List (List Int)} (h : depend_DistancesOf_c1 p0 p1 b1 = some r) : FunOk PP 76 [.d (.sl (p0.map dI)), .d (.sl (p1.map dI)), .bptr ⟨0, 0, 0⟩ 0] [[((0, 0), .box [.ref ⟨0, 1, 0⟩ 0 b1.length b1.length]), ((1, 0), .arr 1 false (b1.map (dL dI)))]] ⟨.tup [], [some [((0, 0), .box [.ref ⟨0, 1, 0⟩ 0 r.length r.length]), ((1, 0), .arr 1 false (r.map (dL dI)))]]⟩ := by
  unfold depend_DistancesOf_c1 at h
  refine fi Tryz.func76 rfl (by kernel_rfl) (by kernel_rfl) (by kernel_rfl) ?_
  refine CWp.trim Le.start ?_
  refine sr ?_
  refine ts (mv rfl) ?_
  refine ts (mv rfl) ?_
  obtain ⟨x1, hx1, h⟩ := bnd h
  refine ts (cln (f := fun _ => false) kf rfl (.c rfl le1 (.c rfl le1 .n)) rfl (depend_difference_ok hx1) rfl) ?_
  refine ts (as_ rfl) ?_
  refine rn ?_
  refine sr ?_
  refine ts (ld sT35 rfl (uw rfl) rfl) ?_
  refine ts (mv rfl) ?_
  obtain ⟨x2, hx2, h⟩ := bnd h
  refine ts (cln (f := at0 [0]) kf rfl (.b rfl (.c rfl le1 (.c rfl le1 .n))) rfl (fr_ (cc' := []) (ids := [⟨0, 1, 0⟩]) (cbs := [.arr 1 false (b1.map (dL dI))]) (cbs' := [.arr 1 false (b1.map (dL dI))]) (slices_BinarySearchFunc_int_int__slices_Compare_int_ok hx2) (by first | rfl | (simp only [List.length_set, copied_len] <;> rfl)) (.inl ⟨rfl, rfl⟩) (by simp) rfl rfl rfl rfl rfl rfl rfl rfl (.c rfl .n) (.keep .nil rfl (by simp))) rfl) ?_
  refine ts (mv rfl) ?_
  refine ts (ex_ rfl rfl) ?_
  refine ts (ex_ rfl rfl) ?_
  refine ts (as_ rfl) ?_
  refine ts (as_ rfl) ?_
  refine rn ?_
  refine sr ?_
  refine ts (mv rfl) ?_
  refine ts (not_ rfl) ?_
  refine rn ?_
  rcases ite h with ⟨c3, h⟩ | ⟨c3, h⟩
  · refine ct rfl (not_t (vf c3)) ?_
    refine lr ?_
    refine ts (ld sT35 rfl (uw rfl) rfl) ?_
    refine ts (mv rfl) ?_
    refine ts (mv rfl) ?_
    refine ts (bsT (l := (([x1] : List (List Int)).map (dL dI))) lT35 rfl rfl rfl (by kernel_rfl)) ?_
    obtain ⟨x4, hx4, h⟩ := bnd h
    refine tt (clq (f := at0 [0]) kf rfl (.b rfl (.c rfl le1 (.c rfl le2 .n))) rfl (fr_ (ids := [⟨0, 1, 0⟩]) (cbs := [.arr 1 false (b1.map (dL dI))]) (cbs' := [.arr 1 false (x4.map (dL dI))]) (slices_Insert_int_ok hx4) (by first | rfl | (simp only [List.length_set, copied_len] <;> rfl)) (.inr ⟨rfl, rfl⟩) (by simp) rfl rfl rfl rfl rfl rfl rfl rfl (.c rfl .n) (.set .full rfl (by simp) (set_w0 (.s rfl .h)))) rfl) ?_
    refine tt0 (stG sT35 rfl rfl rfl rfl (uw rfl) .h (su .h)) ?_
    refine rn ?_
    obtain rfl := some_inj h
    exact ⟨trivial, rt0 rfl⟩
  · refine cf rfl (not_f (Classical.not_not.1 c3)) ?_
    refine CWp.skip ?_
    obtain rfl := some_inj h
    exact ⟨trivial, rt0 rfl⟩
theorem depend_pairs__depend_DistancesOf_c1_ok {p0 : (List api_Loop)} {p1 : (List api_Access)} {p2 : api_DependPair} {b1 : (List (List Int))} {r : List (List Int)} (h : depend_pairs__depend_DistancesOf_c1 p0 p1 p2 b1 = some r) : FunOk PP 66 [.d (.sl (p0.map api_Loop.d)), .d (.sl (p1.map api_Access.d)), .d (api_DependPair.d p2), .clo 76 [.bptr ⟨0, 0, 0⟩ 0]] [[((0, 0), .box [.ref ⟨0, 1, 0⟩ 0 b1.length b1.length]), ((1, 0), .arr 1 false (b1.map (dL dI)))]] ⟨.tup [], [some [((0, 0), .box [.ref ⟨0, 1, 0⟩ 0 r.length r.length]), ((1, 0), .arr 1 false (r.map (dL dI)))]]⟩ := by
  unfold depend_pairs__depend_DistancesOf_c1 at h
  refine fi Tryz.func66 rfl (by kernel_rfl) (by kernel_rfl) (by kernel_rfl) ?_
  refine CWp.endLe ?_
  refine CWp.trim Le.start ?_
  refine sr ?_
  refine ts (bxI rfl) ?_
  refine rn ?_
  refine sd mixed (b := [0, 0, 2, 7, 15, 0, 0, 64, 224, 480, 0, 0, 3103, 8191]) (by kernel_rfl) ?_
  refine ds (mv rfl) rfl ?_
  refine ds (faI fT26_0 rfl rfl) rfl ?_
  refine ds (ldI sT3 rfl rfl) rfl ?_
  obtain ⟨x1, hx1, h⟩ := bnd h
  refine ds (ixD lT24 api_Access.sz rfl rfl hx1) rfl ?_
  refine ds (ldIW aT90 rfl rfl rfl) rfl ?_
  refine ds (mv rfl) rfl ?_
  refine ds (faI fT26_1 rfl rfl) rfl ?_
  refine ds (ldI sT3 rfl rfl) rfl ?_
  obtain ⟨x2, hx2, h⟩ := bnd h
  refine ds (ixD lT24 api_Access.sz rfl rfl hx2) rfl ?_
  refine ds (ldIW aT90 rfl rfl rfl) rfl ?_
  refine da (al (n := 0) zT90 rfl) rfl ?_
  refine ea rfl (al (n := 0) zT90 rfl) rfl ?_
  refine et0 rfl (stW aT90 rfl rfl rfl rfl rfl rfl (.s rfl .h)) (by kernel_rfl) rfl ?_
  refine dt0 (stW aT90 rfl rfl rfl rfl rfl rfl .h) rfl ?_
  refine dn (by kernel_rfl) ?_
  refine CWp.seq ?_
  refine sr ?_
  refine ts (ldW (e := api_Access.d x1) aT90 rfl (ow rfl) rfl rfl) ?_
  refine ts (ldW (e := api_Access.d x2) aT90 rfl (ow rfl) rfl rfl) ?_
  refine ts (cln (f := fun _ => false) kf rfl (.c rfl le1 (.c rfl le1 .n)) rfl (depend_related_ok (rfl : depend_related x1 x2 = _)) rfl) ?_
  refine ts (not_ rfl) ?_
  refine rn ?_
  rcases ite h with ⟨c3, h⟩ | ⟨c3, h⟩
  · cases h
  · refine cf rfl (not_f (Classical.not_not.1 c3)) ?_
    refine CWp.skip ?_
    refine sr ?_
    refine ts (mv rfl) ?_
    obtain ⟨x4, hx4, h⟩ := bnd h
    refine ts (cln (f := fun _ => false) kf rfl (.c rfl le1 .n) rfl (depend_points_ok hx4) rfl) ?_
    refine ts (as_ rfl) ?_
    refine rn ?_
    refine sr ?_
    refine ts (mv rfl) ?_
    refine ts (lnD lT35 rfl rfl) ?_
    refine ts (mv rfl) ?_
    refine rn ?_
    obtain ⟨z27, hz27, h⟩ := bnd h
    refine lb (E := fun s5 => [(3, .clo 76 [.bptr ⟨0, 0, 0⟩ 0]), (6, .pimm (api_DependPair.d p2) 0), (8, .bptr ⟨1, 8, 0⟩ 0), (9, .bptr ⟨1, 9, 0⟩ 0), (10, .d (.sl (x4.map (dL dI)))), (31, .d (.sl (x4.map (dL dI)))), (32, .d (.int .i64 (x4.length : Int))), (33, .d (.int .i64 s5.1))]) (M := fun s5 => ⟨[((8, 0), .box [.d (.int .i64 x1.Array), .d (.sl (x1.Subscripts.map api_Affine.d)), .d (.bool x1.Write)]), ((9, 0), .box [.d (.int .i64 x2.Array), .d (.sl (x2.Subscripts.map api_Affine.d)), .d (.bool x2.Write)])], [[((0, 0), .box [.ref ⟨0, 1, 0⟩ 0 b1.length b1.length]), ((1, 0), .arr 1 false (b1.map (dL dI)))]], [some [((0, 0), .box [.ref ⟨0, 1, 0⟩ 0 s5.2.length s5.2.length]), ((1, 0), .arr 1 false (s5.2.map (dL dI)))]]⟩) (E' := fun y => []) (M' := fun y => ⟨[], [[((0, 0), .box [.ref ⟨0, 1, 0⟩ 0 b1.length b1.length]), ((1, 0), .arr 1 false (b1.map (dL dI)))]], [some [((0, 0), .box [.ref ⟨0, 1, 0⟩ 0 y.length y.length]), ((1, 0), .arr 1 false (y.map (dL dI)))]]⟩) hz27 (by (try simp only [List.length_set, copied_len]); exact trkc (by kernel_rfl) (by kernel_rfl) (by kernel_rfl)) ?_ ?_
    · intro s5 ww h
      unfold depend_pairs__depend_DistancesOf_c1.s1 at h
      refine sr ?_
      refine ts (lss rfl rfl) ?_
      refine rn ?_
      refine CWp.seq ?_
      rcases ite h with ⟨c6, h⟩ | ⟨c6, h⟩
      · refine ct rfl (bt c6) ?_
        refine CWp.skip ?_
        refine CWp.seq ?_
        refine CWp.block ?_
        refine sr ?_
        refine ts (mv rfl) ?_
        obtain ⟨x7, hx7, h⟩ := bnd h
        refine ts (ixD lT35 szL rfl rfl hx7) ?_
        refine ts (ldI sT48 rfl rfl) ?_
        refine ts (as_ rfl) ?_
        refine ts (as_ rfl) ?_
        refine rn ?_
        refine sr ?_
        refine ts (ldW (e := api_Access.d x1) aT90 rfl (ow rfl) rfl rfl) ?_
        refine ts (mv rfl) ?_
        obtain ⟨x8, hx8, h⟩ := bnd h
        refine ts (cln (f := fun _ => false) kf rfl (.c rfl le1 (.c rfl le1 .n)) rfl (depend_element_ok hx8) rfl) ?_
        refine ts (as_ rfl) ?_
        refine rn ?_
        refine sr ?_
        refine ts (mv rfl) ?_
        refine ts (as_ rfl) ?_
        refine rn ?_
        obtain ⟨z25, hz25, h⟩ := bnd h
        refine lb (E := fun s9 => [(3, .clo 76 [.bptr ⟨0, 0, 0⟩ 0]), (6, .pimm (api_DependPair.d p2) 0), (8, .bptr ⟨1, 8, 0⟩ 0), (9, .bptr ⟨1, 9, 0⟩ 0), (10, .d (.sl (x4.map (dL dI)))), (11, .d (.int .i64 s5.1)), (12, .d (.sl (x7.map dI))), (13, .d (.sl (x8.map dI))), (14, .d (.int .i64 s9.1)), (31, .d (.sl (x4.map (dL dI)))), (32, .d (.int .i64 (x4.length : Int))), (33, .d (.int .i64 s5.1))]) (M := fun s9 => ⟨[((8, 0), .box [.d (.int .i64 x1.Array), .d (.sl (x1.Subscripts.map api_Affine.d)), .d (.bool x1.Write)]), ((9, 0), .box [.d (.int .i64 x2.Array), .d (.sl (x2.Subscripts.map api_Affine.d)), .d (.bool x2.Write)])], [[((0, 0), .box [.ref ⟨0, 1, 0⟩ 0 b1.length b1.length]), ((1, 0), .arr 1 false (b1.map (dL dI)))]], [some [((0, 0), .box [.ref ⟨0, 1, 0⟩ 0 s9.2.length s9.2.length]), ((1, 0), .arr 1 false (s9.2.map (dL dI)))]]⟩) (E' := fun y => [(3, .clo 76 [.bptr ⟨0, 0, 0⟩ 0]), (6, .pimm (api_DependPair.d p2) 0), (8, .bptr ⟨1, 8, 0⟩ 0), (9, .bptr ⟨1, 9, 0⟩ 0), (10, .d (.sl (x4.map (dL dI)))), (31, .d (.sl (x4.map (dL dI)))), (32, .d (.int .i64 (x4.length : Int))), (33, .d (.int .i64 s5.1))]) (M' := fun y => ⟨[((8, 0), .box [.d (.int .i64 x1.Array), .d (.sl (x1.Subscripts.map api_Affine.d)), .d (.bool x1.Write)]), ((9, 0), .box [.d (.int .i64 x2.Array), .d (.sl (x2.Subscripts.map api_Affine.d)), .d (.bool x2.Write)])], [[((0, 0), .box [.ref ⟨0, 1, 0⟩ 0 b1.length b1.length]), ((1, 0), .arr 1 false (b1.map (dL dI)))]], [some [((0, 0), .box [.ref ⟨0, 1, 0⟩ 0 y.length y.length]), ((1, 0), .arr 1 false (y.map (dL dI)))]]⟩) hz25 (by (try simp only [List.length_set, copied_len]); exact trkc (by kernel_rfl) (by kernel_rfl) (by kernel_rfl)) ?_ ?_
        · intro s9 ww h
          unfold depend_pairs__depend_DistancesOf_c1.s2 at h
          refine CWp.seq ?_
          refine sr ?_
          refine ts (mv rfl) ?_
          refine ts (mv rfl) ?_
          refine ts (lnD lT35 rfl rfl) ?_
          refine ts (lss rfl rfl) ?_
          refine rn ?_
          rcases ite h with ⟨c10, h⟩ | ⟨c10, h⟩
          · refine ct rfl (bt c10) ?_
            refine CWp.skip ?_
            refine CWp.seq ?_
            refine CWp.block ?_
            refine sd mixed (b := [0, 0, 3, 7, 15, 31, 15, 79, 255, 511, 1023, 2047, 2047, 2047, 2047, 26623, 59391, 129023, 262143, 524287]) (by kernel_rfl) ?_
            refine ds (mv rfl) rfl ?_
            refine ds (mv rfl) rfl ?_
            refine ds (gtr rfl rfl) rfl ?_
            refine ds (mv rfl) rfl ?_
            rcases ite h with ⟨c11, h⟩ | ⟨c11, h⟩
            · refine vn (gn rfl rfl (bt c11)) ?_
              refine vn (gn rfl rfl (bt c11)) ?_
              refine vn (gn rfl rfl (bt c11)) ?_
              refine vn (gn rfl rfl (bt c11)) ?_
              refine vn (gn rfl rfl (bt c11)) ?_
              refine ds (pt rfl (bt c11) rfl) rfl ?_
              refine ds (mv rfl) rfl ?_
              refine vs (gy rfl rfl rfl) (mv rfl) rfl ?_
              refine vs (gy rfl rfl rfl) (ldW (e := api_Access.d x2) aT90 rfl (ow rfl) rfl rfl) rfl ?_
              refine vs (gy rfl rfl rfl) (mv rfl) rfl ?_
              refine vs (gy rfl rfl rfl) (mv rfl) rfl ?_
              obtain ⟨x12, hx12, h⟩ := bnd h
              refine vs (gy rfl rfl rfl) (ixD lT35 szL rfl rfl hx12) rfl ?_
              refine vs (gy rfl rfl rfl) (ldI sT48 rfl rfl) rfl ?_
              obtain ⟨x13, hx13, h⟩ := bnd h
              refine vs (gy rfl rfl rfl) (cln (f := fun _ => false) kf rfl (.c rfl le1 (.c rfl le1 .n)) rfl (depend_element_ok hx13) rfl) rfl ?_
              obtain ⟨x14, hx14, h⟩ := bnd h
              refine vs (gy rfl rfl rfl) (cln (f := fun _ => false) kf rfl (.c rfl le1 (.c rfl le1 .n)) rfl (slices_Equal_int_ok hx14) rfl) rfl ?_
              refine ds (pt rfl rfl rfl) rfl ?_
              refine dn (by kernel_rfl) ?_
              rcases ite h with ⟨c15, h⟩ | ⟨c15, h⟩
              · refine ct rfl c15 ?_
                refine lr ?_
                refine ts (mv rfl) ?_
                refine ts (mv rfl) ?_
                refine ts (mv rfl) ?_
                refine ts (mv rfl) ?_
                obtain ⟨x16, hx16, h⟩ := bnd h
                refine ts (ixD lT35 szL rfl rfl hx16) ?_
                refine ts (ldI sT48 rfl rfl) ?_
                obtain ⟨x17, hx17, h⟩ := bnd h
                refine tt (clq (f := fun _ => false) (kc rfl) rfl (.c rfl le1 (.c rfl le1 .n)) rfl (fr_ (ids := [⟨0, 0, 0⟩, ⟨0, 1, 0⟩]) (cbs := [.box [.ref ⟨0, 1, 0⟩ 0 s9.2.length s9.2.length], .arr 1 false (s9.2.map (dL dI))]) (cbs' := [.box [.ref ⟨0, 1, 0⟩ 0 x17.length x17.length], .arr 1 false (x17.map (dL dI))]) (depend_DistancesOf_c1_ok hx17) (by first | rfl | (simp only [List.length_set, copied_len] <;> rfl)) (.inr ⟨rfl, rfl⟩) (by simp) rfl rfl rfl rfl rfl rfl rfl rfl (.c rfl (.c rfl .n)) (.set (.set .full rfl (by simp) (set_w0 (.s rfl .h))) rfl (by simp) (set_w0 .h))) rfl) ?_
                refine rn ?_
                refine lr ?_
                refine ts (mv rfl) ?_
                refine ts (add rfl rfl) ?_
                refine ts (as_ rfl) ?_
                refine rn ?_
                obtain rfl := some_inj h
                exact ⟨rfl, (by (try simp only [List.length_set, copied_len]); exact trkc (by kernel_rfl) (by kernel_rfl) (by kernel_rfl))⟩
              · refine cf rfl (vf c15) ?_
                refine CWp.skip ?_
                refine lr ?_
                refine ts (mv rfl) ?_
                refine ts (add rfl rfl) ?_
                refine ts (as_ rfl) ?_
                refine rn ?_
                obtain rfl := some_inj h
                exact ⟨rfl, (by (try simp only [List.length_set, copied_len]); exact trkc (by kernel_rfl) (by kernel_rfl) (by kernel_rfl))⟩
            · refine vs (gy rfl rfl (bf c11)) (faI fT26_0 rfl rfl) rfl ?_
              refine vs (gy rfl rfl (bf c11)) (ldI sT3 rfl rfl) rfl ?_
              refine vs (gy rfl rfl (bf c11)) (faI fT26_1 rfl rfl) rfl ?_
              refine vs (gy rfl rfl (bf c11)) (ldI sT3 rfl rfl) rfl ?_
              refine vs (gy rfl rfl (bf c11)) (lss rfl rfl) rfl ?_
              refine ds (pf rfl (bf c11) rfl) rfl ?_
              refine ds (mv rfl) rfl ?_
              rcases ite h with ⟨c18, h⟩ | ⟨c18, h⟩
              · refine vs (gy rfl rfl (bt c18)) (mv rfl) rfl ?_
                refine vs (gy rfl rfl (bt c18)) (ldW (e := api_Access.d x2) aT90 rfl (ow rfl) rfl rfl) rfl ?_
                refine vs (gy rfl rfl (bt c18)) (mv rfl) rfl ?_
                refine vs (gy rfl rfl (bt c18)) (mv rfl) rfl ?_
                obtain ⟨x19, hx19, h⟩ := bnd h
                refine vs (gy rfl rfl (bt c18)) (ixD lT35 szL rfl rfl hx19) rfl ?_
                refine vs (gy rfl rfl (bt c18)) (ldI sT48 rfl rfl) rfl ?_
                obtain ⟨x20, hx20, h⟩ := bnd h
                refine vs (gy rfl rfl (bt c18)) (cln (f := fun _ => false) kf rfl (.c rfl le1 (.c rfl le1 .n)) rfl (depend_element_ok hx20) rfl) rfl ?_
                obtain ⟨x21, hx21, h⟩ := bnd h
                refine vs (gy rfl rfl (bt c18)) (cln (f := fun _ => false) kf rfl (.c rfl le1 (.c rfl le1 .n)) rfl (slices_Equal_int_ok hx21) rfl) rfl ?_
                refine ds (pt rfl (bt c18) rfl) rfl ?_
                refine dn (by kernel_rfl) ?_
                rcases ite h with ⟨c22, h⟩ | ⟨c22, h⟩
                · refine ct rfl c22 ?_
                  refine lr ?_
                  refine ts (mv rfl) ?_
                  refine ts (mv rfl) ?_
                  refine ts (mv rfl) ?_
                  refine ts (mv rfl) ?_
                  obtain ⟨x23, hx23, h⟩ := bnd h
                  refine ts (ixD lT35 szL rfl rfl hx23) ?_
                  refine ts (ldI sT48 rfl rfl) ?_
                  obtain ⟨x24, hx24, h⟩ := bnd h
                  refine tt (clq (f := fun _ => false) (kc rfl) rfl (.c rfl le1 (.c rfl le1 .n)) rfl (fr_ (ids := [⟨0, 0, 0⟩, ⟨0, 1, 0⟩]) (cbs := [.box [.ref ⟨0, 1, 0⟩ 0 s9.2.length s9.2.length], .arr 1 false (s9.2.map (dL dI))]) (cbs' := [.box [.ref ⟨0, 1, 0⟩ 0 x24.length x24.length], .arr 1 false (x24.map (dL dI))]) (depend_DistancesOf_c1_ok hx24) (by first | rfl | (simp only [List.length_set, copied_len] <;> rfl)) (.inr ⟨rfl, rfl⟩) (by simp) rfl rfl rfl rfl rfl rfl rfl rfl (.c rfl (.c rfl .n)) (.set (.set .full rfl (by simp) (set_w0 (.s rfl .h))) rfl (by simp) (set_w0 .h))) rfl) ?_
                  refine rn ?_
                  refine lr ?_
                  refine ts (mv rfl) ?_
                  refine ts (add rfl rfl) ?_
                  refine ts (as_ rfl) ?_
                  refine rn ?_
                  obtain rfl := some_inj h
                  exact ⟨rfl, (by (try simp only [List.length_set, copied_len]); exact trkc (by kernel_rfl) (by kernel_rfl) (by kernel_rfl))⟩
                · refine cf rfl (vf c22) ?_
                  refine CWp.skip ?_
                  refine lr ?_
                  refine ts (mv rfl) ?_
                  refine ts (add rfl rfl) ?_
                  refine ts (as_ rfl) ?_
                  refine rn ?_
                  obtain rfl := some_inj h
                  exact ⟨rfl, (by (try simp only [List.length_set, copied_len]); exact trkc (by kernel_rfl) (by kernel_rfl) (by kernel_rfl))⟩
              · cases h
          · refine cf rfl (bf c10) ?_
            refine CWp.exit ?_
            obtain rfl := some_inj h
            exact ⟨rfl, (by (try simp only [List.length_set, copied_len]); exact trkc (by kernel_rfl) (by kernel_rfl) (by kernel_rfl))⟩
        · intro e s ht
          refine CWp.trim ht ?_
          refine lr ?_
          refine ts (add rfl rfl) ?_
          refine ts (mv rfl) ?_
          refine rn ?_
          obtain rfl := some_inj h
          exact ⟨rfl, (by (try simp only [List.length_set, copied_len]); exact trkc (by kernel_rfl) (by kernel_rfl) (by kernel_rfl))⟩
      · refine cf rfl (bf c6) ?_
        refine CWp.exit ?_
        obtain rfl := some_inj h
        exact ⟨rfl, (by (try simp only [List.length_set, copied_len]); exact trkc (by kernel_rfl) (by kernel_rfl) (by kernel_rfl))⟩
    · intro e s ht
      obtain rfl := some_inj h
      exact ⟨_, _, ht, trivial, rt0 rfl⟩
theorem depend_DistancesOf_ok {p0 : (List api_Loop)} {p1 : (List api_Access)} {p2 : api_DependPair} {out : Out} {r : (List (List Int)) × Int} (h : depend_DistancesOf p0 p1 p2 = some r) : FunOk PP 16 [.d (.sl (p0.map api_Loop.d)), .d (.sl (p1.map api_Access.d)), .d (api_DependPair.d p2)] out ⟨.tup [.d (.sl (r.1.map (dL dI))), .d (.int .i64 r.2)], []⟩ := by
  unfold depend_DistancesOf at h
  refine fi Tryz.func16 rfl (by kernel_rfl) (by kernel_rfl) (by kernel_rfl) ?_
  refine sr ?_
  refine ts (bxI rfl) ?_
  refine ts (ak.wk (x' := .sl (([] : List (List Int)).map (dL dI))) rfl) ?_
  refine ts (ac rfl rfl) ?_
  refine rn ?_
  refine CWp.seq ?_
  refine sr ?_
  refine ts (mv rfl) ?_
  refine ts (mv rfl) ?_
  refine ts (faI fT26_0 rfl rfl) ?_
  refine ts (ldI sT3 rfl rfl) ?_
  refine ts (faI fT26_1 rfl rfl) ?_
  refine ts (ldI sT3 rfl rfl) ?_
  obtain ⟨x1, hx1, h⟩ := bnd h
  refine ts (cln (f := fun _ => false) kf rfl (.c rfl le1 (.c rfl le1 (.c rfl le1 (.c rfl le1 .n)))) (curOf_nil _) (depend_pairErr_ok hx1) rfl) ?_
  refine ts (as_ rfl) ?_
  refine rn ?_
  refine sr ?_
  refine ts (mv rfl) ?_
  refine ts (neq rfl rfl) ?_
  refine rn ?_
  rcases ite h with ⟨c2, h⟩ | ⟨c2, h⟩
  · cases h
  · refine cf rfl (nf c2) ?_
    refine CWp.skip ?_
    refine sr ?_
    refine ta (al (n := 0) zT35 rfl) ?_
    refine gz (Le.nilBox (t := 9) (n := 0) (t' := 1180) (n' := 0) (off := 0) (sz := 1) rfl rfl rfl rfl) ?_
    refine rn ?_
    refine sr ?_
    refine ts (mv rfl) ?_
    refine ts (mv rfl) ?_
    refine ts (ldIW aT26 rfl rfl rfl) ?_
    refine ts (mf_ (v := .clo 76 [.bptr ⟨out.length, 9, 0⟩ 0]) rfl rfl) ?_
    obtain ⟨x3, hx3, h⟩ := bnd h
    refine tt (clp (f := fun _ => false) kf rfl (.c rfl le1 (.c rfl le1 (.c rfl le1 (.c rfl le6 .n)))) rfl (curOf_nil _) (fr_ (ids := [⟨out.length, 9, 0⟩, ⟨out.length, 1180, 0⟩]) (cbs := [.box [.ref ⟨0, 1, 0⟩ 0 0 0], .arr 1 false (([] : List (List Int)).map (dL dI))]) (cbs' := [.box [.ref ⟨0, 1, 0⟩ 0 x3.length x3.length], .arr 1 false (x3.map (dL dI))]) (depend_pairs__depend_DistancesOf_c1_ok hx3) (by first | rfl | (simp only [List.length_set, copied_len] <;> rfl)) (.inr ⟨rfl, rfl⟩) (by simp) rfl rfl rfl rfl rfl rfl rfl rfl (.c (o1 rfl) (.c (o1 rfl) .n)) (.set (.set .one (o1 rfl) (by simp) (set_o1' .h)) (o1 rfl) (by simp) (set_o1' (.s rfl .h)))) rfl) ?_
    refine rn ?_
    refine sr ?_
    refine ts (ld sT35 rfl (ow rfl) rfl) ?_
    refine ts (as_ rfl) ?_
    refine ts (ac rfl rfl) ?_
    refine rn ?_
    refine CWp.ret ?_
    obtain rfl := some_inj h
    exact ⟨trivial, rt2 (ex := false) (by exact (.t rfl (.t rfl .n))) (by exact (sc (gf rfl rfl) (sc (gd (by rfl)) sn))) (by rfl) (by rfl)⟩
theorem law27_Far_ok {out : Out} {r : api_LinSystem} (h : law27_Far = r) : FunOk PP 63 [] out ⟨.d (api_LinSystem.d r), []⟩ := by
  unfold law27_Far at h
  refine fi Tryz.func63 rfl (by kernel_rfl) (by kernel_rfl) (by kernel_rfl) ?_
  refine sr ?_
  refine ta (al (n := 0) zT46 rfl) ?_
  refine rn ?_
  refine sr ?_
  refine ts (bsT (l := (([1, 0] : List Int).map dI)) lT48 rfl rfl rfl (by kernel_rfl)) ?_
  refine ts ((bld (v := .agg [.tight (([1, 0] : List Int).map dI), .d (.int .i64 0), .d (.bool false)]) rfl (by kernel_rfl)).wkf (x' := .d (api_LinRow.d (api_LinRow.mk [1, 0] 0 false))) rfl) ?_
  refine ts (bsT (l := (([(-1), 0] : List Int).map dI)) lT48 rfl rfl rfl (by kernel_rfl)) ?_
  refine ts ((bld (v := .agg [.tight (([(-1), 0] : List Int).map dI), .d (.int .i64 3), .d (.bool false)]) rfl (by kernel_rfl)).wkf (x' := .d (api_LinRow.d (api_LinRow.mk [(-1), 0] 3 false))) rfl) ?_
  refine ts (bsT (l := (([0, 1] : List Int).map dI)) lT48 rfl rfl rfl (by kernel_rfl)) ?_
  refine ts ((bld (v := .agg [.tight (([0, 1] : List Int).map dI), .d (.int .i64 0), .d (.bool false)]) rfl (by kernel_rfl)).wkf (x' := .d (api_LinRow.d (api_LinRow.mk [0, 1] 0 false))) rfl) ?_
  refine ts (bsT (l := (([0, (-1)] : List Int).map dI)) lT48 rfl rfl rfl (by kernel_rfl)) ?_
  refine ts ((bld (v := .agg [.tight (([0, (-1)] : List Int).map dI), .d (.int .i64 3), .d (.bool false)]) rfl (by kernel_rfl)).wkf (x' := .d (api_LinRow.d (api_LinRow.mk [0, (-1)] 3 false))) rfl) ?_
  refine ts (bsT (l := (([1, 1] : List Int).map dI)) lT48 rfl rfl rfl (by kernel_rfl)) ?_
  refine ts ((bld (v := .agg [.tight (([1, 1] : List Int).map dI), .d (.int .i64 (-7)), .d (.bool false)]) rfl (by kernel_rfl)).wkf (x' := .d (api_LinRow.d (api_LinRow.mk [1, 1] (-7) false))) rfl) ?_
  refine ts (bsT (l := (([(api_LinRow.mk [1, 0] 0 false), (api_LinRow.mk [(-1), 0] 3 false), (api_LinRow.mk [0, 1] 0 false), (api_LinRow.mk [0, (-1)] 3 false), (api_LinRow.mk [1, 1] (-7) false)] : List api_LinRow).map api_LinRow.d)) lT44 rfl rfl rfl (by kernel_rfl)) ?_
  refine ts ((bld (v := .agg [.d (.int .i64 2), .tight (([(api_LinRow.mk [1, 0] 0 false), (api_LinRow.mk [(-1), 0] 3 false), (api_LinRow.mk [0, 1] 0 false), (api_LinRow.mk [0, (-1)] 3 false), (api_LinRow.mk [1, 1] (-7) false)] : List api_LinRow).map api_LinRow.d)]) rfl (by kernel_rfl)).wkf (x' := .d (api_LinSystem.d (api_LinSystem.mk 2 [(api_LinRow.mk [1, 0] 0 false), (api_LinRow.mk [(-1), 0] 3 false), (api_LinRow.mk [0, 1] 0 false), (api_LinRow.mk [0, (-1)] 3 false), (api_LinRow.mk [1, 1] (-7) false)]))) rfl) ?_
  refine tt0 (stW aT46 rfl rfl rfl rfl rfl rfl .h) ?_
  refine rn ?_
  refine CWp.ret ?_
  obtain rfl := h
  exact ⟨trivial, rt1 (ex := false) (by exact (rcW aT46 rfl (ow rfl) rfl rfl .n)) (by exact (gd (by rfl))) (by rfl) (by rfl)⟩
theorem depend_rowErr_c1_ok {p0 : Int} {out : Out} {r : Bool} (h : depend_rowErr_c1 p0 = r) : FunOk PP 182 [.d (.int .i64 p0)] out ⟨.d (.bool r), []⟩ := by
  unfold depend_rowErr_c1 at h
  refine fi Tryz.func182 rfl (by kernel_rfl) (by kernel_rfl) (by kernel_rfl) ?_
  refine sr ?_
  refine ts (ac rfl rfl) ?_
  refine rn ?_
  refine sr ?_
  refine ts (mv rfl) ?_
  refine ts (cln (f := fun _ => false) kf rfl (.c rfl le1 (.c rfl le1 (.c rfl le1 .n))) (curOf_nil _) (depend_inside_ok (rfl : depend_inside p0 (-1000) 1000 = _)) rfl) ?_
  refine ts (not_ rfl) ?_
  refine ts (as_ rfl) ?_
  refine rn ?_
  refine CWp.ret ?_
  obtain rfl := h
  exact ⟨trivial, rt1 (ex := false) (by exact (.t rfl .n)) (by exact (gd (by rfl))) (by rfl) (by rfl)⟩
theorem slices_IndexFunc_int__depend_rowErr_c1_ok {p0 : (List Int)} {out : Out} {r : Int} (h : slices_IndexFunc_int__depend_rowErr_c1 p0 = some r) : FunOk PP 175 [.d (.sl (p0.map dI)), .d (.fn 182)] out ⟨.d (.int .i64 r), []⟩ := by
  unfold slices_IndexFunc_int__depend_rowErr_c1 at h
  refine fi Tryz.func175 rfl (by kernel_rfl) (by kernel_rfl) (by kernel_rfl) ?_
  refine sr ?_
  refine ts (ac rfl rfl) ?_
  refine rn ?_
  refine CWp.seq ?_
  refine sr ?_
  refine ts (mv rfl) ?_
  refine ts (lnD lT48 rfl rfl) ?_
  refine ts (mv rfl) ?_
  refine rn ?_
  obtain ⟨z5, hz5, h⟩ := bnd h
  refine lb (E := fun s1 => [(0, .d (.sl (p0.map dI))), (1, .d (.fn 182)), (7, .d (.int .i64 (p0.length : Int))), (8, .d (.int .i64 s1))]) (M := fun s1 => ⟨[], out, []⟩) (E' := fun y => []) (M' := fun y => ⟨[], out, []⟩) hz5 (by (try simp only [List.length_set, copied_len]); exact trk (by kernel_rfl) (by kernel_rfl) (by kernel_rfl)) ?_ ?_
  · intro s1 ww h
    unfold slices_IndexFunc_int__depend_rowErr_c1.s1 at h
    refine sr ?_
    refine ts (lss rfl rfl) ?_
    refine rn ?_
    refine CWp.seq ?_
    rcases ite h with ⟨c2, h⟩ | ⟨c2, h⟩
    · refine ct rfl (bt c2) ?_
      refine CWp.skip ?_
      refine CWp.seq ?_
      refine CWp.block ?_
      refine sr ?_
      refine ts (mv rfl) ?_
      refine ts (as_ rfl) ?_
      refine rn ?_
      refine sr ?_
      refine ts (mv rfl) ?_
      refine ts (mv rfl) ?_
      refine ts (mv rfl) ?_
      obtain ⟨x3, hx3, h⟩ := bnd h
      refine ts (ixD lT48 szI rfl rfl hx3) ?_
      refine ts (ldI sT3 rfl rfl) ?_
      refine ts (cln (f := fun _ => false) (kt rfl) rfl (.c rfl le1 .n) (curOf_nil _) (depend_rowErr_c1_ok (rfl : depend_rowErr_c1 x3 = _)) rfl) ?_
      refine rn ?_
      rcases ite h with ⟨c4, h⟩ | ⟨c4, h⟩
      · cases h
      · refine cf rfl (vf c4) ?_
        refine CWp.skip ?_
        refine lr ?_
        refine ts (add rfl rfl) ?_
        refine ts (mv rfl) ?_
        refine rn ?_
        obtain rfl := some_inj h
        exact ⟨rfl, (by (try simp only [List.length_set, copied_len]); exact trk (by kernel_rfl) (by kernel_rfl) (by kernel_rfl))⟩
    · refine cf rfl (bf c2) ?_
      refine CWp.exit ?_
      obtain rfl := some_inj h
      exact ⟨rfl, (by (try simp only [List.length_set, copied_len]); exact trk (by kernel_rfl) (by kernel_rfl) (by kernel_rfl))⟩
  · intro e s ht
    refine CWp.trim ht ?_
    refine sr ?_
    refine ts (ac rfl rfl) ?_
    refine rn ?_
    refine CWp.ret ?_
    obtain rfl := some_inj h
    exact ⟨trivial, rt1 (ex := false) (by exact (.t rfl .n)) (by exact (gd (by rfl))) (by rfl) (by rfl)⟩
theorem slices_ContainsFunc_int__depend_rowErr_c1_ok {p0 : (List Int)} {out : Out} {r : Bool} (h : slices_ContainsFunc_int__depend_rowErr_c1 p0 = some r) : FunOk PP 115 [.d (.sl (p0.map dI)), .d (.fn 182)] out ⟨.d (.bool r), []⟩ := by
  unfold slices_ContainsFunc_int__depend_rowErr_c1 at h
  refine fi Tryz.func115 rfl (by kernel_rfl) (by kernel_rfl) (by kernel_rfl) ?_
  refine sr ?_
  refine ts (ac rfl rfl) ?_
  refine rn ?_
  refine sr ?_
  refine ts (mv rfl) ?_
  refine ts (mv rfl) ?_
  obtain ⟨x1, hx1, h⟩ := bnd h
  refine ts (cln (f := fun _ => false) kf rfl (.c rfl le1 (.c rfl le1 .n)) (curOf_nil _) (slices_IndexFunc_int__depend_rowErr_c1_ok hx1) rfl) ?_
  refine ts (geq rfl rfl) ?_
  refine ts (as_ rfl) ?_
  refine rn ?_
  refine CWp.ret ?_
  obtain rfl := some_inj h
  exact ⟨trivial, rt1 (ex := false) (by exact (.t rfl .n)) (by exact (gd (by rfl))) (by rfl) (by rfl)⟩
theorem depend_rowErr_ok {p0 : api_LinRow} {p1 : Int} {out : Out} {r : Int} (h : depend_rowErr p0 p1 = some r) : FunOk PP 131 [.d (api_LinRow.d p0), .d (.int .i64 p1)] out ⟨.d (.int .i64 r), []⟩ := by
  unfold depend_rowErr at h
  refine fi Tryz.func131 rfl (by kernel_rfl) (by kernel_rfl) (by kernel_rfl) ?_
  refine sr ?_
  refine ts (bxI rfl) ?_
  refine ts (ac rfl rfl) ?_
  refine rn ?_
  refine sr ?_
  refine ts (faI fT105_0 rfl rfl) ?_
  refine ts (ldI sT48 rfl rfl) ?_
  obtain ⟨x1, hx1, h⟩ := bnd h
  refine ts (cln (f := fun _ => false) kf rfl (.c rfl le1 (.c rfl le1 .n)) (curOf_nil _) (slices_ContainsFunc_int__depend_rowErr_c1_ok hx1) rfl) ?_
  refine ts (as_ rfl) ?_
  refine rn ?_
  refine sd mixed (b := [0, 1, 3, 0, 15, 31, 0, 64, 192, 448, 960, 1984, 4032, 8128, 16383, 32767, 65535]) (by kernel_rfl) ?_
  refine ds (faI fT105_0 rfl rfl) rfl ?_
  refine ds (ldI sT48 rfl rfl) rfl ?_
  refine ds (lnD lT48 rfl rfl) rfl ?_
  refine ds (mv rfl) rfl ?_
  refine ds (eql rfl rfl) rfl ?_
  refine ds (bld (v := .d (depend_rule.d (depend_rule.mk ((p0.Coefs.length : Int) == p1) 10))) rfl (by kernel_rfl)) rfl ?_
  refine ds (mv rfl) rfl ?_
  refine ds (not_ rfl) rfl ?_
  refine ds (mv rfl) rfl ?_
  rcases ite h with ⟨c2, h⟩ | ⟨c2, h⟩
  · refine vs (gy rfl rfl (not_t (vf c2))) (faI fT105_1 rfl rfl) rfl ?_
    refine vs (gy rfl rfl (not_t (vf c2))) (ldI sT3 rfl rfl) rfl ?_
    refine vs (gy rfl rfl (not_t (vf c2))) (cln (f := fun _ => false) kf rfl (.c rfl le1 (.c rfl le1 (.c rfl le1 .n))) (curOf_nil _) (depend_inside_ok (rfl : depend_inside p0.Const (-100000) 100000 = _)) rfl) rfl ?_
    refine ds (pt rfl (not_t (vf c2)) rfl) rfl ?_
    refine ds (bld (v := .d (depend_rule.d (depend_rule.mk (depend_inside p0.Const (-100000) 100000) 2))) rfl (by kernel_rfl)) rfl ?_
    refine ds (bsT (l := (([(depend_rule.mk ((p0.Coefs.length : Int) == p1) 10), (depend_rule.mk (depend_inside p0.Const (-100000) 100000) 2)] : List depend_rule).map depend_rule.d)) lT226 rfl rfl rfl (by kernel_rfl)) rfl ?_
    obtain ⟨x3, hx3, h⟩ := bnd h
    refine dr (cln (f := fun _ => false) kf rfl (.c rfl le2 .n) (curOf_nil _) (depend_broken_ok hx3) rfl) rfl ?_
    refine ds (as_ rfl) rfl ?_
    refine dn (by kernel_rfl) ?_
    refine CWp.ret ?_
    obtain rfl := some_inj h
    exact ⟨trivial, rt1 (ex := false) (by exact (.t rfl .n)) (by exact (gd (by rfl))) (by rfl) (by rfl)⟩
  · cases h
theorem depend_CheckSystem_c1_ok {p0 : Int} {p1 : api_LinRow} {p2 : api_LinSystem} {out : Out} {r : Int} (h : depend_CheckSystem_c1 p0 p1 p2 = some r) : FunOk PP 130 [.d (.int .i64 p0), .d (api_LinRow.d p1), .pimm (api_LinSystem.d p2) 0] out ⟨.d (.int .i64 r), []⟩ := by
  unfold depend_CheckSystem_c1 at h
  refine fi Tryz.func130 rfl (by kernel_rfl) (by kernel_rfl) (by kernel_rfl) ?_
  refine sr ?_
  refine ts (bxI rfl) ?_
  refine ts (ac rfl rfl) ?_
  refine rn ?_
  refine sr ?_
  refine ts (ldIW aT105 rfl rfl rfl) ?_
  refine ts (faI fT46_0 rfl rfl) ?_
  refine ts (ldI sT3 rfl rfl) ?_
  obtain ⟨x1, hx1, h⟩ := bnd h
  refine ts (cln (f := fun _ => false) kf rfl (.c rfl le1 (.c rfl le1 .n)) (curOf_nil _) (depend_rowErr_ok hx1) rfl) ?_
  refine ts (as_ rfl) ?_
  refine rn ?_
  refine CWp.ret ?_
  obtain rfl := some_inj h
  exact ⟨trivial, rt1 (ex := false) (by exact (.t rfl .n)) (by exact (gd (by rfl))) (by rfl) (by rfl)⟩
theorem depend_firstBad_api_LinRow__depend_CheckSystem_c1_ok {p0 : (List api_LinRow)} {p1_0 : api_LinSystem} {out : Out} {r : Int × Int} (h : depend_firstBad_api_LinRow__depend_CheckSystem_c1 p0 p1_0 = some r) : FunOk PP 129 [.d (.sl (p0.map api_LinRow.d)), .clo 130 [.pimm (api_LinSystem.d p1_0) 0]] out ⟨.tup [.d (.int .i64 r.1), .d (.int .i64 r.2)], []⟩ := by
  unfold depend_firstBad_api_LinRow__depend_CheckSystem_c1 at h
  refine fi Tryz.func129 rfl (by kernel_rfl) (by kernel_rfl) (by kernel_rfl) ?_
  refine sr ?_
  refine ts (ac rfl rfl) ?_
  refine ts (ac rfl rfl) ?_
  refine rn ?_
  refine CWp.seq ?_
  refine sr ?_
  refine ts (mv rfl) ?_
  refine ts (lnD lT44 rfl rfl) ?_
  refine ts (mv rfl) ?_
  refine rn ?_
  obtain ⟨z6, hz6, h⟩ := bnd h
  refine lb (E := fun s1 => [(1, .clo 130 [.pimm (api_LinSystem.d p1_0) 0]), (9, .d (.sl (p0.map api_LinRow.d))), (10, .d (.int .i64 (p0.length : Int))), (11, .d (.int .i64 s1))]) (M := fun s1 => ⟨[], out, []⟩) (E' := fun y => []) (M' := fun y => ⟨[], out, []⟩) hz6 (by (try simp only [List.length_set, copied_len]); exact trk (by kernel_rfl) (by kernel_rfl) (by kernel_rfl)) ?_ ?_
  · intro s1 ww h
    unfold depend_firstBad_api_LinRow__depend_CheckSystem_c1.s1 at h
    refine sr ?_
    refine ts (lss rfl rfl) ?_
    refine rn ?_
    refine CWp.seq ?_
    rcases ite h with ⟨c2, h⟩ | ⟨c2, h⟩
    · refine ct rfl (bt c2) ?_
      refine CWp.skip ?_
      refine CWp.seq ?_
      refine CWp.block ?_
      refine sr ?_
      refine ts (mv rfl) ?_
      obtain ⟨x3, hx3, h⟩ := bnd h
      refine ts (ixD lT44 api_LinRow.sz rfl rfl hx3) ?_
      refine ts (ldIW aT105 rfl rfl rfl) ?_
      refine ta (al (n := 0) zT105 rfl) ?_
      refine ts (as_ rfl) ?_
      refine tt0 (stW aT105 rfl rfl rfl rfl rfl rfl .h) ?_
      refine rn ?_
      refine sr ?_
      refine ts (mv rfl) ?_
      refine ts (mv rfl) ?_
      refine ts (ldW (e := api_LinRow.d x3) aT105 rfl (ow rfl) rfl rfl) ?_
      obtain ⟨x4, hx4, h⟩ := bnd h
      refine ts (cln (f := fun _ => false) (kc rfl) rfl (.c rfl le1 (.c rfl le1 .n)) (curOf_nil _) (depend_CheckSystem_c1_ok hx4) rfl) ?_
      refine ts (as_ rfl) ?_
      refine rn ?_
      refine sr ?_
      refine ts (mv rfl) ?_
      refine ts (neq rfl rfl) ?_
      refine rn ?_
      rcases ite h with ⟨c5, h⟩ | ⟨c5, h⟩
      · cases h
      · refine cf rfl (nf c5) ?_
        refine CWp.skip ?_
        refine lr ?_
        refine ts (add rfl rfl) ?_
        refine ts (mv rfl) ?_
        refine rn ?_
        obtain rfl := some_inj h
        exact ⟨rfl, (by (try simp only [List.length_set, copied_len]); exact trk (by kernel_rfl) (by kernel_rfl) (by kernel_rfl))⟩
    · refine cf rfl (bf c2) ?_
      refine CWp.exit ?_
      obtain rfl := some_inj h
      exact ⟨rfl, (by (try simp only [List.length_set, copied_len]); exact trk (by kernel_rfl) (by kernel_rfl) (by kernel_rfl))⟩
  · intro e s ht
    refine CWp.trim ht ?_
    refine sr ?_
    refine ts (ac rfl rfl) ?_
    refine ts (ac rfl rfl) ?_
    refine rn ?_
    refine CWp.ret ?_
    obtain rfl := some_inj h
    exact ⟨trivial, rt2 (ex := false) (by exact (.t rfl (.t rfl .n))) (by exact (sc (gd (by rfl)) (sc (gd (by rfl)) sn))) (by rfl) (by rfl)⟩
theorem depend_CheckSystem_ok {p0 : api_LinSystem} {out : Out} {r : Int × Int} (h : depend_CheckSystem p0 = some r) : FunOk PP 49 [.d (api_LinSystem.d p0)] out ⟨.tup [.d (.int .i64 r.1), .d (.int .i64 r.2)], []⟩ := by
  unfold depend_CheckSystem at h
  refine fi Tryz.func49 rfl (by kernel_rfl) (by kernel_rfl) (by kernel_rfl) ?_
  refine sr ?_
  refine ts (bxI rfl) ?_
  refine ts (ac rfl rfl) ?_
  refine ts (ac rfl rfl) ?_
  refine rn ?_
  refine CWp.seq ?_
  refine sd mixed (b := [0, 1, 3, 7, 0, 16, 48, 112, 240, 511, 1023, 2047]) (by kernel_rfl) ?_
  refine ds (faI fT46_0 rfl rfl) rfl ?_
  refine ds (ldI sT3 rfl rfl) rfl ?_
  refine dr (cln (f := fun _ => false) kf rfl (.c rfl le1 (.c rfl le1 (.c rfl le1 .n))) (curOf_nil _) (depend_inside_ok (rfl : depend_inside p0.Vars 1 8 = _)) rfl) rfl ?_
  refine ds (bld (v := .d (depend_rule.d (depend_rule.mk (depend_inside p0.Vars 1 8) 2))) rfl (by kernel_rfl)) rfl ?_
  refine ds (faI fT46_1 rfl rfl) rfl ?_
  refine ds (ldI sT44 rfl rfl) rfl ?_
  refine ds (lnD lT44 rfl rfl) rfl ?_
  refine ds (leq rfl rfl) rfl ?_
  refine ds (bld (v := .d (depend_rule.d (depend_rule.mk (decide ((p0.Rows.length : Int) ≤ 60)) 8))) rfl (by kernel_rfl)) rfl ?_
  refine ds (bsT (l := (([(depend_rule.mk (depend_inside p0.Vars 1 8) 2), (depend_rule.mk (decide ((p0.Rows.length : Int) ≤ 60)) 8)] : List depend_rule).map depend_rule.d)) lT226 rfl rfl rfl (by kernel_rfl)) rfl ?_
  obtain ⟨x1, hx1, h⟩ := bnd h
  refine dr (cln (f := fun _ => false) kf rfl (.c rfl le2 .n) (curOf_nil _) (depend_broken_ok hx1) rfl) rfl ?_
  refine ds (as_ rfl) rfl ?_
  refine dn (by kernel_rfl) ?_
  refine sr ?_
  refine ts (mv rfl) ?_
  refine ts (neq rfl rfl) ?_
  refine rn ?_
  rcases ite h with ⟨c2, h⟩ | ⟨c2, h⟩
  · cases h
  · refine cf rfl (nf c2) ?_
    refine CWp.skip ?_
    refine sr ?_
    refine ts (faI fT46_1 rfl rfl) ?_
    refine ts (ldI sT44 rfl rfl) ?_
    refine ts (mf_ (v := .clo 130 [.pimm (api_LinSystem.d p0) 0]) rfl rfl) ?_
    obtain ⟨x3, hx3, h⟩ := bnd h
    refine ts (cln (f := fun _ => false) kf rfl (.c rfl le1 (.c rfl le6 .n)) (curOf_nil _) (depend_firstBad_api_LinRow__depend_CheckSystem_c1_ok hx3) rfl) ?_
    refine ts (ex_ rfl rfl) ?_
    refine ts (ex_ rfl rfl) ?_
    refine ts (as_ rfl) ?_
    refine ts (as_ rfl) ?_
    refine rn ?_
    refine CWp.ret ?_
    obtain rfl := some_inj h
    exact ⟨trivial, rt2 (ex := false) (by exact (.t rfl (.t rfl .n))) (by exact (sc (gd (by rfl)) (sc (gd (by rfl)) sn))) (by rfl) (by rfl)⟩
theorem depend_systemErr_ok {p0 : api_LinSystem} {out : Out} {r : Int} (h : depend_systemErr p0 = some r) : FunOk PP 110 [.d (api_LinSystem.d p0)] out ⟨.d (.int .i64 r), []⟩ := by
  unfold depend_systemErr at h
  refine fi Tryz.func110 rfl (by kernel_rfl) (by kernel_rfl) (by kernel_rfl) ?_
  refine sr ?_
  refine ts (bxI rfl) ?_
  refine ts (ac rfl rfl) ?_
  refine rn ?_
  refine sr ?_
  refine ts (ldIW aT46 rfl rfl rfl) ?_
  obtain ⟨x1, hx1, h⟩ := bnd h
  refine ts (cln (f := fun _ => false) kf rfl (.c rfl le1 .n) (curOf_nil _) (depend_CheckSystem_ok hx1) rfl) ?_
  refine ts (mv rfl) ?_
  refine ts (ex_ rfl rfl) ?_
  refine ts (ex_ rfl rfl) ?_
  refine ts (as_ rfl) ?_
  refine ts (as_ rfl) ?_
  refine rn ?_
  refine sr ?_
  refine ts (mv rfl) ?_
  refine ts (as_ rfl) ?_
  refine rn ?_
  refine CWp.ret ?_
  obtain rfl := some_inj h
  exact ⟨trivial, rt1 (ex := false) (by exact (.t rfl .n)) (by exact (gd (by rfl))) (by rfl) (by rfl)⟩
theorem depend_nodeErr_ok {p0 : (List api_LinNode)} {p1 : Int} {out : Out} {r : Int} (h : depend_nodeErr p0 p1 = some r) : FunOk PP 113 [.d (.sl (p0.map api_LinNode.d)), .d (.int .i64 p1)] out ⟨.d (.int .i64 r), []⟩ := by
  unfold depend_nodeErr at h
  refine fi Tryz.func113 rfl (by kernel_rfl) (by kernel_rfl) (by kernel_rfl) ?_
  refine sr ?_
  refine ts (ac rfl rfl) ?_
  refine rn ?_
  refine sr ?_
  refine ts (mv rfl) ?_
  refine ts (mv rfl) ?_
  obtain ⟨x1, hx1, h⟩ := bnd h
  refine ts (ixD lT50 api_LinNode.sz rfl rfl hx1) ?_
  refine ts (ldIW aT77 rfl rfl rfl) ?_
  refine ta (al (n := 0) zT77 rfl) ?_
  refine tt0 (stW aT77 rfl rfl rfl rfl rfl rfl .h) ?_
  refine rn ?_
  refine CWp.trim (Le.fzBox (t := 5) (e := api_LinNode.d x1) (env' := [(0, .d (.sl (p0.map api_LinNode.d))), (1, .d (.int .i64 p1)), (4, .d (.int .i64 0)), (14, .d (.sl (p0.map api_LinNode.d))), (15, .d (.int .i64 p1)), (16, .pimm (api_LinNode.d x1) 0), (17, .d (api_LinNode.d x1))]) (loc' := []) rfl rfl rfl rfl (by (try simp only [List.length_set, copied_len]); exact trkT (by kernel_rfl) (by kernel_rfl) (by kernel_rfl))) ?_
  refine CWp.seq ?_
  refine sr ?_
  refine ts (faI fT77_0 rfl rfl) ?_
  refine ts (ldI sT3 rfl rfl) ?_
  refine ts (cln (f := fun _ => false) kf rfl (.c rfl le1 (.c rfl le1 (.c rfl le1 .n))) (curOf_nil _) (depend_inside_ok (rfl : depend_inside x1.Kind 0 2 = _)) rfl) ?_
  refine ts (not_ rfl) ?_
  refine rn ?_
  rcases ite h with ⟨c2, h⟩ | ⟨c2, h⟩
  · cases h
  · refine cf rfl (not_f (Classical.not_not.1 c2)) ?_
    refine CWp.skip ?_
    refine sr ?_
    refine ts (faI fT77_0 rfl rfl) ?_
    refine ts (ldI sT3 rfl rfl) ?_
    refine ts (eql rfl rfl) ?_
    refine ts (as_ rfl) ?_
    refine rn ?_
    refine sr ?_
    refine ts (faI fT77_0 rfl rfl) ?_
    refine ts (ldI sT3 rfl rfl) ?_
    refine ts (eql rfl rfl) ?_
    refine ts (mv rfl) ?_
    refine sg 4 [(32, .d (.bool ((x1.Kind == 1) || (x1.Divisor == 0))))] ?_ ?_
    · rcases bool_or (x1.Kind == 1) with g3 | g4
      · refine un (gn rfl rfl g3) ?_
        refine un (gn rfl rfl g3) ?_
        refine un (gn rfl rfl g3) ?_
        refine ts (pt rfl g3 rfl) ?_
        exact rn (trD 4 rfl (.c (bq (or_t g3)) .n) (by kernel_rfl))
      · refine us (gy rfl rfl g4) (faI fT77_2 rfl rfl) ?_
        refine us (gy rfl rfl g4) (ldI sT3 rfl rfl) ?_
        refine us (gy rfl rfl g4) (eql rfl rfl) ?_
        refine ts (pf rfl g4 rfl) ?_
        exact rn (trD 4 rfl (.c (bq (or_f g4)) .n) (by kernel_rfl))
    refine ts (mv rfl) ?_
    refine sg 22 [(55, .d (.bool (((x1.Kind == 1) || (x1.Divisor == 0)) && ((x1.Kind == 2) || ((((x1.Var == 0) && (x1.At == 0)) && (x1.Left == 0)) && (x1.Right == 0))))))] ?_ ?_
    · rcases bool_or ((x1.Kind == 1) || (x1.Divisor == 0)) with g5 | g14
      · refine us (gy rfl rfl g5) (mv rfl) ?_
        refine us (gy rfl rfl g5) (mv rfl) ?_
        refine sg 19 [(54, .d (.bool ((x1.Kind == 2) || ((((x1.Var == 0) && (x1.At == 0)) && (x1.Left == 0)) && (x1.Right == 0)))))] ?_ ?_
        · rcases bool_or (x1.Kind == 2) with g6 | g7
          · refine un (gn rfl rfl g6) ?_
            refine un (gn rfl rfl g6) ?_
            refine un (gn rfl rfl g6) ?_
            refine un (gn rfl rfl g6) ?_
            refine un (gu rfl rfl) ?_
            refine un (gu rfl rfl) ?_
            refine un (gu rfl rfl) ?_
            refine un (gn rfl rfl g6) ?_
            refine un (gn rfl rfl g6) ?_
            refine un (gu rfl rfl) ?_
            refine un (gu rfl rfl) ?_
            refine un (gu rfl rfl) ?_
            refine un (gn rfl rfl g6) ?_
            refine un (gn rfl rfl g6) ?_
            refine un (gu rfl rfl) ?_
            refine un (gu rfl rfl) ?_
            refine un (gu rfl rfl) ?_
            refine un (gn rfl rfl g6) ?_
            refine us (gy rfl rfl g5) (pt rfl g6 rfl) ?_
            exact rn (trD 19 rfl (.c (bq (or_t g6)) .n) (by kernel_rfl))
          · refine us (gy rfl rfl g7) (faI fT77_3 rfl rfl) ?_
            refine us (gy rfl rfl g7) (ldI sT3 rfl rfl) ?_
            refine us (gy rfl rfl g7) (eql rfl rfl) ?_
            refine us (gy rfl rfl g7) (mv rfl) ?_
            refine sg 4 [(43, .d (.bool ((x1.Var == 0) && (x1.At == 0))))] ?_ ?_
            · rcases bool_or (x1.Var == 0) with g8 | g9
              · refine us (gy rfl rfl g8) (faI fT77_4 rfl rfl) ?_
                refine us (gy rfl rfl g8) (ldI sT3 rfl rfl) ?_
                refine us (gy rfl rfl g8) (eql rfl rfl) ?_
                refine us (gy rfl rfl g7) (pt rfl g8 rfl) ?_
                exact rn (trD 4 rfl (.c (bq (and_t g8)) .n) (by kernel_rfl))
              · refine un (gn rfl rfl g9) ?_
                refine un (gn rfl rfl g9) ?_
                refine un (gn rfl rfl g9) ?_
                refine us (gy rfl rfl g7) (pf rfl g9 rfl) ?_
                exact rn (trD 4 rfl (.c (bq (and_f g9)) .n) (by kernel_rfl))
            refine us (gy rfl rfl g7) (mv rfl) ?_
            refine sg 4 [(48, .d (.bool (((x1.Var == 0) && (x1.At == 0)) && (x1.Left == 0))))] ?_ ?_
            · rcases bool_or ((x1.Var == 0) && (x1.At == 0)) with g10 | g11
              · refine us (gy rfl rfl g10) (faI fT77_5 rfl rfl) ?_
                refine us (gy rfl rfl g10) (ldI sT3 rfl rfl) ?_
                refine us (gy rfl rfl g10) (eql rfl rfl) ?_
                refine us (gy rfl rfl g7) (pt rfl g10 rfl) ?_
                exact rn (trD 4 rfl (.c (bq (and_t g10)) .n) (by kernel_rfl))
              · refine un (gn rfl rfl g11) ?_
                refine un (gn rfl rfl g11) ?_
                refine un (gn rfl rfl g11) ?_
                refine us (gy rfl rfl g7) (pf rfl g11 rfl) ?_
                exact rn (trD 4 rfl (.c (bq (and_f g11)) .n) (by kernel_rfl))
            refine us (gy rfl rfl g7) (mv rfl) ?_
            refine sg 4 [(53, .d (.bool ((((x1.Var == 0) && (x1.At == 0)) && (x1.Left == 0)) && (x1.Right == 0))))] ?_ ?_
            · rcases bool_or (((x1.Var == 0) && (x1.At == 0)) && (x1.Left == 0)) with g12 | g13
              · refine us (gy rfl rfl g12) (faI fT77_6 rfl rfl) ?_
                refine us (gy rfl rfl g12) (ldI sT3 rfl rfl) ?_
                refine us (gy rfl rfl g12) (eql rfl rfl) ?_
                refine us (gy rfl rfl g7) (pt rfl g12 rfl) ?_
                exact rn (trD 4 rfl (.c (bq (and_t g12)) .n) (by kernel_rfl))
              · refine un (gn rfl rfl g13) ?_
                refine un (gn rfl rfl g13) ?_
                refine un (gn rfl rfl g13) ?_
                refine us (gy rfl rfl g7) (pf rfl g13 rfl) ?_
                exact rn (trD 4 rfl (.c (bq (and_f g13)) .n) (by kernel_rfl))
            refine us (gy rfl rfl g5) (pf rfl g7 rfl) ?_
            exact rn (trD 10 rfl (.c (bq (or_f g7)) .n) (by kernel_rfl))
        refine ts (pt rfl g5 rfl) ?_
        exact rn (trD 4 rfl (.c (bq (and_t g5)) .n) (by kernel_rfl))
      · refine un (gn rfl rfl g14) ?_
        refine un (gn rfl rfl g14) ?_
        refine un (gu rfl rfl) ?_
        refine un (gu rfl rfl) ?_
        refine un (gu rfl rfl) ?_
        refine un (gu rfl rfl) ?_
        refine un (gu rfl rfl) ?_
        refine un (gu rfl rfl) ?_
        refine un (gu rfl rfl) ?_
        refine un (gu rfl rfl) ?_
        refine un (gu rfl rfl) ?_
        refine un (gu rfl rfl) ?_
        refine un (gu rfl rfl) ?_
        refine un (gu rfl rfl) ?_
        refine un (gu rfl rfl) ?_
        refine un (gu rfl rfl) ?_
        refine un (gu rfl rfl) ?_
        refine un (gu rfl rfl) ?_
        refine un (gu rfl rfl) ?_
        refine un (gu rfl rfl) ?_
        refine un (gn rfl rfl g14) ?_
        refine ts (pf rfl g14 rfl) ?_
        exact rn (trD 22 rfl (.c (bq (and_f g14)) .n) (by kernel_rfl))
    refine ts (mv rfl) ?_
    refine sg 9 [(65, .d (.bool ((((x1.Kind == 1) || (x1.Divisor == 0)) && ((x1.Kind == 2) || ((((x1.Var == 0) && (x1.At == 0)) && (x1.Left == 0)) && (x1.Right == 0)))) && ((!(x1.Kind == 2)) || ((x1.Weights.length : Int) == 0)))))] ?_ ?_
    · rcases bool_or (((x1.Kind == 1) || (x1.Divisor == 0)) && ((x1.Kind == 2) || ((((x1.Var == 0) && (x1.At == 0)) && (x1.Left == 0)) && (x1.Right == 0)))) with g15 | g18
      · refine us (gy rfl rfl g15) (mv rfl) ?_
        refine us (gy rfl rfl g15) (not_ rfl) ?_
        refine us (gy rfl rfl g15) (mv rfl) ?_
        refine sg 5 [(64, .d (.bool ((!(x1.Kind == 2)) || ((x1.Weights.length : Int) == 0))))] ?_ ?_
        · rcases bool_or (!(x1.Kind == 2)) with g16 | g17
          · refine un (gn rfl rfl g16) ?_
            refine un (gn rfl rfl g16) ?_
            refine un (gn rfl rfl g16) ?_
            refine un (gn rfl rfl g16) ?_
            refine us (gy rfl rfl g15) (pt rfl g16 rfl) ?_
            exact rn (trD 5 rfl (.c (bq (or_t g16)) .n) (by kernel_rfl))
          · refine us (gy rfl rfl g17) (faI fT77_1 rfl rfl) ?_
            refine us (gy rfl rfl g17) (ldI sT48 rfl rfl) ?_
            refine us (gy rfl rfl g17) (lnD lT48 rfl rfl) ?_
            refine us (gy rfl rfl g17) (eql rfl rfl) ?_
            refine us (gy rfl rfl g15) (pf rfl g17 rfl) ?_
            exact rn (trD 5 rfl (.c (bq (or_f g17)) .n) (by kernel_rfl))
        refine ts (pt rfl g15 rfl) ?_
        exact rn (trD 5 rfl (.c (bq (and_t g15)) .n) (by kernel_rfl))
      · refine un (gn rfl rfl g18) ?_
        refine un (gn rfl rfl g18) ?_
        refine un (gn rfl rfl g18) ?_
        refine un (gu rfl rfl) ?_
        refine un (gu rfl rfl) ?_
        refine un (gu rfl rfl) ?_
        refine un (gu rfl rfl) ?_
        refine un (gn rfl rfl g18) ?_
        refine ts (pf rfl g18 rfl) ?_
        exact rn (trD 9 rfl (.c (bq (and_f g18)) .n) (by kernel_rfl))
    refine ts (as_ rfl) ?_
    refine rn ?_
    refine sr ?_
    refine ts (mv rfl) ?_
    refine ts (lnD lT50 rfl rfl) ?_
    refine ts (sub rfl rfl) ?_
    refine ts (as_ rfl) ?_
    refine rn ?_
    refine sr ?_
    refine ts (ac rfl rfl) ?_
    refine rn ?_
    refine CWp.seq ?_
    refine sr ?_
    refine ts (mv rfl) ?_
    refine ts (lnD lT50 rfl rfl) ?_
    refine ts (mv rfl) ?_
    refine rn ?_
    obtain ⟨z23, hz23, h⟩ := bnd h
    refine lb (E := fun s19 => [(1, .d (.int .i64 p1)), (5, .pimm (api_LinNode.d x1) 0), (6, .d (.bool (x1.Kind == 2))), (7, .d (.bool ((((x1.Kind == 1) || (x1.Divisor == 0)) && ((x1.Kind == 2) || ((((x1.Var == 0) && (x1.At == 0)) && (x1.Left == 0)) && (x1.Right == 0)))) && ((!(x1.Kind == 2)) || ((x1.Weights.length : Int) == 0))))), (8, .d (.int .i64 (w ((p0.length : Int) - 1)))), (9, .d (.int .i64 s19.1)), (69, .d (.sl (p0.map api_LinNode.d))), (70, .d (.int .i64 (p0.length : Int))), (71, .d (.int .i64 s19.2))]) (M := fun s19 => ⟨[], out, []⟩) (E' := fun y => [(1, .d (.int .i64 p1)), (5, .pimm (api_LinNode.d x1) 0), (6, .d (.bool (x1.Kind == 2))), (7, .d (.bool ((((x1.Kind == 1) || (x1.Divisor == 0)) && ((x1.Kind == 2) || ((((x1.Var == 0) && (x1.At == 0)) && (x1.Left == 0)) && (x1.Right == 0)))) && ((!(x1.Kind == 2)) || ((x1.Weights.length : Int) == 0))))), (8, .d (.int .i64 (w ((p0.length : Int) - 1)))), (9, .d (.int .i64 y))]) (M' := fun y => ⟨[], out, []⟩) hz23 (by (try simp only [List.length_set, copied_len]); exact trk (by kernel_rfl) (by kernel_rfl) (by kernel_rfl)) ?_ ?_
    · intro s19 ww h
      unfold depend_nodeErr.s1 at h
      refine sr ?_
      refine ts (lss rfl rfl) ?_
      refine rn ?_
      refine CWp.seq ?_
      rcases ite h with ⟨c20, h⟩ | ⟨c20, h⟩
      · refine ct rfl (bt c20) ?_
        refine CWp.skip ?_
        refine CWp.seq ?_
        refine CWp.block ?_
        refine sr ?_
        obtain ⟨x21, hx21, h⟩ := bnd h
        refine ts (ixD lT50 api_LinNode.sz rfl rfl hx21) ?_
        refine ts (ldIW aT77 rfl rfl rfl) ?_
        refine ta (al (n := 0) zT77 rfl) ?_
        refine tt0 (stW aT77 rfl rfl rfl rfl rfl rfl .h) ?_
        refine rn ?_
        refine CWp.trim (Le.fzBox (t := 11) (e := api_LinNode.d x21) (env' := [(1, .d (.int .i64 p1)), (5, .pimm (api_LinNode.d x1) 0), (6, .d (.bool (x1.Kind == 2))), (7, .d (.bool ((((x1.Kind == 1) || (x1.Divisor == 0)) && ((x1.Kind == 2) || ((((x1.Var == 0) && (x1.At == 0)) && (x1.Left == 0)) && (x1.Right == 0)))) && ((!(x1.Kind == 2)) || ((x1.Weights.length : Int) == 0))))), (8, .d (.int .i64 (w ((p0.length : Int) - 1)))), (9, .d (.int .i64 s19.1)), (69, .d (.sl (p0.map api_LinNode.d))), (70, .d (.int .i64 (p0.length : Int))), (71, .d (.int .i64 s19.2)), (73, .pimm (api_LinNode.d x21) 0), (74, .d (api_LinNode.d x21))]) (loc' := []) rfl rfl rfl rfl (by (try simp only [List.length_set, copied_len]); exact trkT (by kernel_rfl) (by kernel_rfl) (by kernel_rfl))) ?_
        refine CWp.seq ?_
        refine sr ?_
        refine ts (faI fT77_0 rfl rfl) ?_
        refine ts (ldI sT3 rfl rfl) ?_
        refine ts (neq rfl rfl) ?_
        refine rn ?_
        rcases ite h with ⟨c22, h⟩ | ⟨c22, h⟩
        · refine ct rfl (nt c22) ?_
          refine CWp.exit ?_
          refine lr ?_
          refine ts (add rfl rfl) ?_
          refine ts (mv rfl) ?_
          refine rn ?_
          obtain rfl := some_inj h
          exact ⟨rfl, (by (try simp only [List.length_set, copied_len]); exact trk (by kernel_rfl) (by kernel_rfl) (by kernel_rfl))⟩
        · cases h
      · refine cf rfl (bf c20) ?_
        refine CWp.exit ?_
        obtain rfl := some_inj h
        exact ⟨rfl, (by (try simp only [List.length_set, copied_len]); exact trk (by kernel_rfl) (by kernel_rfl) (by kernel_rfl))⟩
    · intro e s ht
      refine CWp.trim ht ?_
      refine sr ?_
      refine ts (mv rfl) ?_
      refine ts (bld (v := .d (depend_rule.d (depend_rule.mk ((((x1.Kind == 1) || (x1.Divisor == 0)) && ((x1.Kind == 2) || ((((x1.Var == 0) && (x1.At == 0)) && (x1.Left == 0)) && (x1.Right == 0)))) && ((!(x1.Kind == 2)) || ((x1.Weights.length : Int) == 0))) 3))) rfl (by kernel_rfl)) ?_
      refine ts (mv rfl) ?_
      refine ts (not_ rfl) ?_
      refine ts (mv rfl) ?_
      refine sg 15 [(112, .d (.bool ((!(x1.Kind == 2)) || ((depend_inside x1.Left (w (p1 + 1)) (w ((p0.length : Int) - 1))) && (depend_inside x1.Right (w (p1 + 1)) (w ((p0.length : Int) - 1)))))))] ?_ ?_
      · rcases bool_or (!(x1.Kind == 2)) with g24 | g25
        · refine un (gn rfl rfl g24) ?_
          refine un (gn rfl rfl g24) ?_
          refine un (gn rfl rfl g24) ?_
          refine un (gn rfl rfl g24) ?_
          refine un (gn rfl rfl g24) ?_
          refine un (gn rfl rfl g24) ?_
          refine un (gn rfl rfl g24) ?_
          refine un (gu rfl rfl) ?_
          refine un (gu rfl rfl) ?_
          refine un (gu rfl rfl) ?_
          refine un (gu rfl rfl) ?_
          refine un (gu rfl rfl) ?_
          refine un (gu rfl rfl) ?_
          refine un (gn rfl rfl g24) ?_
          refine ts (pt rfl g24 rfl) ?_
          exact rn (trD 15 rfl (.c (bq (or_t g24)) .n) (by kernel_rfl))
        · refine us (gy rfl rfl g25) (faI fT77_5 rfl rfl) ?_
          refine us (gy rfl rfl g25) (ldI sT3 rfl rfl) ?_
          refine us (gy rfl rfl g25) (mv rfl) ?_
          refine us (gy rfl rfl g25) (add rfl rfl) ?_
          refine us (gy rfl rfl g25) (mv rfl) ?_
          refine us (gy rfl rfl g25) (cln (f := fun _ => false) kf rfl (.c rfl le1 (.c rfl le1 (.c rfl le1 .n))) (curOf_nil _) (depend_inside_ok (rfl : depend_inside x1.Left (w (p1 + 1)) (w ((p0.length : Int) - 1)) = _)) rfl) ?_
          refine us (gy rfl rfl g25) (mv rfl) ?_
          refine sg 7 [(111, .d (.bool ((depend_inside x1.Left (w (p1 + 1)) (w ((p0.length : Int) - 1))) && (depend_inside x1.Right (w (p1 + 1)) (w ((p0.length : Int) - 1))))))] ?_ ?_
          · rcases bool_or (depend_inside x1.Left (w (p1 + 1)) (w ((p0.length : Int) - 1))) with g26 | g27
            · refine us (gy rfl rfl g26) (faI fT77_6 rfl rfl) ?_
              refine us (gy rfl rfl g26) (ldI sT3 rfl rfl) ?_
              refine us (gy rfl rfl g26) (mv rfl) ?_
              refine us (gy rfl rfl g26) (add rfl rfl) ?_
              refine us (gy rfl rfl g26) (mv rfl) ?_
              refine us (gy rfl rfl g26) (cln (f := fun _ => false) kf rfl (.c rfl le1 (.c rfl le1 (.c rfl le1 .n))) (curOf_nil _) (depend_inside_ok (rfl : depend_inside x1.Right (w (p1 + 1)) (w ((p0.length : Int) - 1)) = _)) rfl) ?_
              refine us (gy rfl rfl g25) (pt rfl g26 rfl) ?_
              exact rn (trD 7 rfl (.c (bq (and_t g26)) .n) (by kernel_rfl))
            · refine un (gn rfl rfl g27) ?_
              refine un (gn rfl rfl g27) ?_
              refine un (gn rfl rfl g27) ?_
              refine un (gn rfl rfl g27) ?_
              refine un (gn rfl rfl g27) ?_
              refine un (gn rfl rfl g27) ?_
              refine us (gy rfl rfl g25) (pf rfl g27 rfl) ?_
              exact rn (trD 7 rfl (.c (bq (and_f g27)) .n) (by kernel_rfl))
          refine ts (pf rfl g25 rfl) ?_
          exact rn (trD 9 rfl (.c (bq (or_f g25)) .n) (by kernel_rfl))
      refine ts (bld (v := .d (depend_rule.d (depend_rule.mk ((!(x1.Kind == 2)) || ((depend_inside x1.Left (w (p1 + 1)) (w ((p0.length : Int) - 1))) && (depend_inside x1.Right (w (p1 + 1)) (w ((p0.length : Int) - 1))))) 2))) rfl (by kernel_rfl)) ?_
      refine ts (mv rfl) ?_
      refine ts (eql rfl rfl) ?_
      refine ts (mv rfl) ?_
      refine sg 3 [(119, .d (.bool ((p1 == 0) || (z23 == 1))))] ?_ ?_
      · rcases bool_or (p1 == 0) with g28 | g29
        · refine un (gn rfl rfl g28) ?_
          refine un (gn rfl rfl g28) ?_
          refine ts (pt rfl g28 rfl) ?_
          exact rn (trD 3 rfl (.c (bq (or_t g28)) .n) (by kernel_rfl))
        · refine us (gy rfl rfl g29) (mv rfl) ?_
          refine us (gy rfl rfl g29) (eql rfl rfl) ?_
          refine ts (pf rfl g29 rfl) ?_
          exact rn (trD 3 rfl (.c (bq (or_f g29)) .n) (by kernel_rfl))
      refine ts (bld (v := .d (depend_rule.d (depend_rule.mk ((p1 == 0) || (z23 == 1)) 19))) rfl (by kernel_rfl)) ?_
      refine ts (bsT (l := (([(depend_rule.mk ((((x1.Kind == 1) || (x1.Divisor == 0)) && ((x1.Kind == 2) || ((((x1.Var == 0) && (x1.At == 0)) && (x1.Left == 0)) && (x1.Right == 0)))) && ((!(x1.Kind == 2)) || ((x1.Weights.length : Int) == 0))) 3), (depend_rule.mk ((!(x1.Kind == 2)) || ((depend_inside x1.Left (w (p1 + 1)) (w ((p0.length : Int) - 1))) && (depend_inside x1.Right (w (p1 + 1)) (w ((p0.length : Int) - 1))))) 2), (depend_rule.mk ((p1 == 0) || (z23 == 1)) 19)] : List depend_rule).map depend_rule.d)) lT226 rfl rfl rfl (by kernel_rfl)) ?_
      obtain ⟨x30, hx30, h⟩ := bnd h
      refine ts (cln (f := fun _ => false) kf rfl (.c rfl le2 .n) (curOf_nil _) (depend_broken_ok hx30) rfl) ?_
      refine ts (as_ rfl) ?_
      refine rn ?_
      refine CWp.ret ?_
      obtain rfl := some_inj h
      exact ⟨trivial, rt1 (ex := false) (by exact (.t rfl .n)) (by exact (gd (by rfl))) (by rfl) (by rfl)⟩
theorem depend_CheckProof_c1_ok {p0 : Int} {p1 : api_LinNode} {p2 : (List api_LinNode)} {out : Out} {r : Int} (h : depend_CheckProof_c1 p0 p1 p2 = some r) : FunOk PP 112 [.d (.int .i64 p0), .d (api_LinNode.d p1), .pimm (.sl (p2.map api_LinNode.d)) 0] out ⟨.d (.int .i64 r), []⟩ := by
  unfold depend_CheckProof_c1 at h
  refine fi Tryz.func112 rfl (by kernel_rfl) (by kernel_rfl) (by kernel_rfl) ?_
  refine sr ?_
  refine ts (bxI rfl) ?_
  refine ts (ac rfl rfl) ?_
  refine rn ?_
  refine sr ?_
  refine ts (ldI sT50 rfl rfl) ?_
  refine ts (mv rfl) ?_
  obtain ⟨x1, hx1, h⟩ := bnd h
  refine ts (cln (f := fun _ => false) kf rfl (.c rfl le1 (.c rfl le1 .n)) (curOf_nil _) (depend_nodeErr_ok hx1) rfl) ?_
  refine ts (as_ rfl) ?_
  refine rn ?_
  refine CWp.ret ?_
  obtain rfl := some_inj h
  exact ⟨trivial, rt1 (ex := false) (by exact (.t rfl .n)) (by exact (gd (by rfl))) (by rfl) (by rfl)⟩
theorem depend_firstBad_api_LinNode__depend_CheckProof_c1_ok {p0 : (List api_LinNode)} {p1_0 : (List api_LinNode)} {out : Out} {r : Int × Int} (h : depend_firstBad_api_LinNode__depend_CheckProof_c1 p0 p1_0 = some r) : FunOk PP 111 [.d (.sl (p0.map api_LinNode.d)), .clo 112 [.pimm (.sl (p1_0.map api_LinNode.d)) 0]] out ⟨.tup [.d (.int .i64 r.1), .d (.int .i64 r.2)], []⟩ := by
  unfold depend_firstBad_api_LinNode__depend_CheckProof_c1 at h
  refine fi Tryz.func111 rfl (by kernel_rfl) (by kernel_rfl) (by kernel_rfl) ?_
  refine sr ?_
  refine ts (ac rfl rfl) ?_
  refine ts (ac rfl rfl) ?_
  refine rn ?_
  refine CWp.seq ?_
  refine sr ?_
  refine ts (mv rfl) ?_
  refine ts (lnD lT49 rfl rfl) ?_
  refine ts (mv rfl) ?_
  refine rn ?_
  obtain ⟨z6, hz6, h⟩ := bnd h
  refine lb (E := fun s1 => [(1, .clo 112 [.pimm (.sl (p1_0.map api_LinNode.d)) 0]), (9, .d (.sl (p0.map api_LinNode.d))), (10, .d (.int .i64 (p0.length : Int))), (11, .d (.int .i64 s1))]) (M := fun s1 => ⟨[], out, []⟩) (E' := fun y => []) (M' := fun y => ⟨[], out, []⟩) hz6 (by (try simp only [List.length_set, copied_len]); exact trk (by kernel_rfl) (by kernel_rfl) (by kernel_rfl)) ?_ ?_
  · intro s1 ww h
    unfold depend_firstBad_api_LinNode__depend_CheckProof_c1.s1 at h
    refine sr ?_
    refine ts (lss rfl rfl) ?_
    refine rn ?_
    refine CWp.seq ?_
    rcases ite h with ⟨c2, h⟩ | ⟨c2, h⟩
    · refine ct rfl (bt c2) ?_
      refine CWp.skip ?_
      refine CWp.seq ?_
      refine CWp.block ?_
      refine sr ?_
      refine ts (mv rfl) ?_
      obtain ⟨x3, hx3, h⟩ := bnd h
      refine ts (ixD lT49 api_LinNode.sz rfl rfl hx3) ?_
      refine ts (ldIW aT77 rfl rfl rfl) ?_
      refine ta (al (n := 0) zT77 rfl) ?_
      refine ts (as_ rfl) ?_
      refine tt0 (stW aT77 rfl rfl rfl rfl rfl rfl .h) ?_
      refine rn ?_
      refine sr ?_
      refine ts (mv rfl) ?_
      refine ts (mv rfl) ?_
      refine ts (ldW (e := api_LinNode.d x3) aT77 rfl (ow rfl) rfl rfl) ?_
      obtain ⟨x4, hx4, h⟩ := bnd h
      refine ts (cln (f := fun _ => false) (kc rfl) rfl (.c rfl le1 (.c rfl le1 .n)) (curOf_nil _) (depend_CheckProof_c1_ok hx4) rfl) ?_
      refine ts (as_ rfl) ?_
      refine rn ?_
      refine sr ?_
      refine ts (mv rfl) ?_
      refine ts (neq rfl rfl) ?_
      refine rn ?_
      rcases ite h with ⟨c5, h⟩ | ⟨c5, h⟩
      · cases h
      · refine cf rfl (nf c5) ?_
        refine CWp.skip ?_
        refine lr ?_
        refine ts (add rfl rfl) ?_
        refine ts (mv rfl) ?_
        refine rn ?_
        obtain rfl := some_inj h
        exact ⟨rfl, (by (try simp only [List.length_set, copied_len]); exact trk (by kernel_rfl) (by kernel_rfl) (by kernel_rfl))⟩
    · refine cf rfl (bf c2) ?_
      refine CWp.exit ?_
      obtain rfl := some_inj h
      exact ⟨rfl, (by (try simp only [List.length_set, copied_len]); exact trk (by kernel_rfl) (by kernel_rfl) (by kernel_rfl))⟩
  · intro e s ht
    refine CWp.trim ht ?_
    refine sr ?_
    refine ts (ac rfl rfl) ?_
    refine ts (ac rfl rfl) ?_
    refine rn ?_
    refine CWp.ret ?_
    obtain rfl := some_inj h
    exact ⟨trivial, rt2 (ex := false) (by exact (.t rfl (.t rfl .n))) (by exact (sc (gd (by rfl)) (sc (gd (by rfl)) sn))) (by rfl) (by rfl)⟩
theorem depend_CheckProof_c2_c1_ok {p0 : Int} {out : Out} {r : Bool} (h : depend_CheckProof_c2_c1 p0 = r) : FunOk PP 116 [.d (.int .i64 p0)] out ⟨.d (.bool r), []⟩ := by
  unfold depend_CheckProof_c2_c1 at h
  refine fi Tryz.func116 rfl (by kernel_rfl) (by kernel_rfl) (by kernel_rfl) ?_
  refine sr ?_
  refine ts (ac rfl rfl) ?_
  refine rn ?_
  refine sr ?_
  refine ts (mv rfl) ?_
  refine ts (cln (f := fun _ => false) kf rfl (.c rfl le1 (.c rfl le1 (.c rfl le1 .n))) (curOf_nil _) (depend_inside_ok (rfl : depend_inside p0 (-1000000) 1000000 = _)) rfl) ?_
  refine ts (not_ rfl) ?_
  refine ts (as_ rfl) ?_
  refine rn ?_
  refine CWp.ret ?_
  obtain rfl := h
  exact ⟨trivial, rt1 (ex := false) (by exact (.t rfl .n)) (by exact (gd (by rfl))) (by rfl) (by rfl)⟩
theorem slices_IndexFunc_int__depend_CheckProof_c2_c1_ok {p0 : (List Int)} {out : Out} {r : Int} (h : slices_IndexFunc_int__depend_CheckProof_c2_c1 p0 = some r) : FunOk PP 175 [.d (.sl (p0.map dI)), .d (.fn 116)] out ⟨.d (.int .i64 r), []⟩ := by
  unfold slices_IndexFunc_int__depend_CheckProof_c2_c1 at h
  refine fi Tryz.func175 rfl (by kernel_rfl) (by kernel_rfl) (by kernel_rfl) ?_
  refine sr ?_
  refine ts (ac rfl rfl) ?_
  refine rn ?_
  refine CWp.seq ?_
  refine sr ?_
  refine ts (mv rfl) ?_
  refine ts (lnD lT48 rfl rfl) ?_
  refine ts (mv rfl) ?_
  refine rn ?_
  obtain ⟨z5, hz5, h⟩ := bnd h
  refine lb (E := fun s1 => [(0, .d (.sl (p0.map dI))), (1, .d (.fn 116)), (7, .d (.int .i64 (p0.length : Int))), (8, .d (.int .i64 s1))]) (M := fun s1 => ⟨[], out, []⟩) (E' := fun y => []) (M' := fun y => ⟨[], out, []⟩) hz5 (by (try simp only [List.length_set, copied_len]); exact trk (by kernel_rfl) (by kernel_rfl) (by kernel_rfl)) ?_ ?_
  · intro s1 ww h
    unfold slices_IndexFunc_int__depend_CheckProof_c2_c1.s1 at h
    refine sr ?_
    refine ts (lss rfl rfl) ?_
    refine rn ?_
    refine CWp.seq ?_
    rcases ite h with ⟨c2, h⟩ | ⟨c2, h⟩
    · refine ct rfl (bt c2) ?_
      refine CWp.skip ?_
      refine CWp.seq ?_
      refine CWp.block ?_
      refine sr ?_
      refine ts (mv rfl) ?_
      refine ts (as_ rfl) ?_
      refine rn ?_
      refine sr ?_
      refine ts (mv rfl) ?_
      refine ts (mv rfl) ?_
      refine ts (mv rfl) ?_
      obtain ⟨x3, hx3, h⟩ := bnd h
      refine ts (ixD lT48 szI rfl rfl hx3) ?_
      refine ts (ldI sT3 rfl rfl) ?_
      refine ts (cln (f := fun _ => false) (kt rfl) rfl (.c rfl le1 .n) (curOf_nil _) (depend_CheckProof_c2_c1_ok (rfl : depend_CheckProof_c2_c1 x3 = _)) rfl) ?_
      refine rn ?_
      rcases ite h with ⟨c4, h⟩ | ⟨c4, h⟩
      · cases h
      · refine cf rfl (vf c4) ?_
        refine CWp.skip ?_
        refine lr ?_
        refine ts (add rfl rfl) ?_
        refine ts (mv rfl) ?_
        refine rn ?_
        obtain rfl := some_inj h
        exact ⟨rfl, (by (try simp only [List.length_set, copied_len]); exact trk (by kernel_rfl) (by kernel_rfl) (by kernel_rfl))⟩
    · refine cf rfl (bf c2) ?_
      refine CWp.exit ?_
      obtain rfl := some_inj h
      exact ⟨rfl, (by (try simp only [List.length_set, copied_len]); exact trk (by kernel_rfl) (by kernel_rfl) (by kernel_rfl))⟩
  · intro e s ht
    refine CWp.trim ht ?_
    refine sr ?_
    refine ts (ac rfl rfl) ?_
    refine rn ?_
    refine CWp.ret ?_
    obtain rfl := some_inj h
    exact ⟨trivial, rt1 (ex := false) (by exact (.t rfl .n)) (by exact (gd (by rfl))) (by rfl) (by rfl)⟩
theorem slices_ContainsFunc_int__depend_CheckProof_c2_c1_ok {p0 : (List Int)} {out : Out} {r : Bool} (h : slices_ContainsFunc_int__depend_CheckProof_c2_c1 p0 = some r) : FunOk PP 115 [.d (.sl (p0.map dI)), .d (.fn 116)] out ⟨.d (.bool r), []⟩ := by
  unfold slices_ContainsFunc_int__depend_CheckProof_c2_c1 at h
  refine fi Tryz.func115 rfl (by kernel_rfl) (by kernel_rfl) (by kernel_rfl) ?_
  refine sr ?_
  refine ts (ac rfl rfl) ?_
  refine rn ?_
  refine sr ?_
  refine ts (mv rfl) ?_
  refine ts (mv rfl) ?_
  obtain ⟨x1, hx1, h⟩ := bnd h
  refine ts (cln (f := fun _ => false) kf rfl (.c rfl le1 (.c rfl le1 .n)) (curOf_nil _) (slices_IndexFunc_int__depend_CheckProof_c2_c1_ok hx1) rfl) ?_
  refine ts (geq rfl rfl) ?_
  refine ts (as_ rfl) ?_
  refine rn ?_
  refine CWp.ret ?_
  obtain rfl := some_inj h
  exact ⟨trivial, rt1 (ex := false) (by exact (.t rfl .n)) (by exact (gd (by rfl))) (by rfl) (by rfl)⟩
theorem slices_Grow_api_LinRow_ok {p1 : Int} {out : Out} {r : (List api_LinRow)} (h : slices_Grow_api_LinRow p1 = some r) : FunOk PP 196 [.d .nilsl, .d (.int .i64 p1)] out ⟨.own 3 (r.map api_LinRow.d), []⟩ := by
  unfold slices_Grow_api_LinRow at h
  split at h
  case isFalse => cases h
  case isTrue hp =>
  cases h
  have w0 : w (0 - 0) = 0 := rfl
  have w1 : w (p1 - w (0 - 0)) = p1 := by rw [w0, Int.sub_zero, w_id (by omega) (by omega)]
  refine fi Tryz.func196 rfl (by kernel_rfl) (by kernel_rfl) (by kernel_rfl) ?_
  refine sr ?_
  refine ts (ak) ?_
  refine rn ?_
  refine CWp.seq ?_
  refine sr ?_
  refine ts (mv rfl) ?_
  refine ts (lss rfl rfl) ?_
  refine rn ?_
  refine cf rfl (decide_eq_false (by omega)) ?_
  refine CWp.skip ?_
  refine CWp.seq ?_
  refine sr ?_
  refine ts (mv rfl) ?_
  refine ts (mv rfl) ?_
  refine ts (capN lT44 rfl rfl) ?_
  refine ts (mv rfl) ?_
  refine ts (lnN lT44 rfl rfl) ?_
  refine ts (sub rfl rfl) ?_
  refine ts (sub rfl rfl) ?_
  refine ts (as_ rfl) ?_
  refine rn ?_
  rw [w1]
  refine sr ?_
  refine ts (mv rfl) ?_
  refine ts (gtr rfl rfl) ?_
  refine rn ?_
  by_cases e : p1 > 0
  · refine ct rfl (decide_eq_true e) ?_
    refine lr ?_
    refine ts (mv rfl) ?_
    refine ts (mv rfl) ?_
    refine ts (capN lT44 rfl rfl) ?_
    refine ts (slN lT44 rfl rfl) ?_
    refine ts (mv rfl) ?_
    refine ta (apMkN (nn := 0) lT44 uT3 rfl rfl rfl ⟨e, hp.2⟩ rfl) ?_
    refine ts (mv rfl) ?_
    refine ts (lnN lT44 rfl rfl) ?_
    refine ts (slG2 lT44 rfl (by simp) (ow rfl) rfl ⟨by omega, by omega, by omega⟩) ?_
    refine ts (as_ rfl) ?_
    refine rn ?_
    refine sr ?_
    refine ts (mv rfl) ?_
    refine ts (as_ rfl) ?_
    refine rn ?_
    refine CWp.trim (Le.shrink (t6 := 4) rfl (by simp) rfl) ?_
    refine CWp.ret ?_
    exact ⟨trivial, rt1 (ex := true) (by exact (.t rfl .n)) (by exact (go (f := api_LinRow.d) (xs := []) rfl rfl)) (by rfl) (by rfl)⟩
  · refine cf rfl (decide_eq_false e) ?_
    refine CWp.skip ?_
    refine sr ?_
    refine ts (mv rfl) ?_
    refine ts (as_ rfl) ?_
    refine rn ?_
    refine CWp.trim (Le.nilOwn (t := 4) (t' := 4) (sz := 3) rfl rfl) ?_
    refine CWp.ret ?_
    exact ⟨trivial, rt1 (ex := true) (by exact (.t rfl .n)) (by exact (go (f := api_LinRow.d) (xs := []) rfl rfl)) (by rfl) (by rfl)⟩
theorem slices_Concat_api_LinRow_ok {p0 : (List (List api_LinRow))} {out : Out} {r : (List api_LinRow)} (h : slices_Concat_api_LinRow p0 = some r) : FunOk PP 193 [.d (.sl (p0.map (dL api_LinRow.d)))] out ⟨.d (.sl (r.map api_LinRow.d)), []⟩ := by
  unfold slices_Concat_api_LinRow at h
  refine fi Tryz.func193 rfl (by kernel_rfl) (by kernel_rfl) (by kernel_rfl) ?_
  refine sr ?_
  refine ts (ak.wk (x' := .sl (([] : List api_LinRow).map api_LinRow.d)) rfl) ?_
  refine rn ?_
  refine sr ?_
  refine ts (ac rfl rfl) ?_
  refine rn ?_
  refine CWp.seq ?_
  refine sr ?_
  refine ts (mv rfl) ?_
  refine ts (lnD lT177 rfl rfl) ?_
  refine ts (mv rfl) ?_
  refine rn ?_
  obtain ⟨z5, hz5, h⟩ := bnd h
  refine lb (E := fun s1 => [(0, .d (.sl (p0.map (dL api_LinRow.d)))), (3, .d (.int .i64 s1.1)), (9, .d (.sl (p0.map (dL api_LinRow.d)))), (10, .d (.int .i64 (p0.length : Int))), (11, .d (.int .i64 s1.2))]) (M := fun s1 => ⟨[], out, []⟩) (E' := fun y => [(0, .d (.sl (p0.map (dL api_LinRow.d)))), (3, .d (.int .i64 y))]) (M' := fun y => ⟨[], out, []⟩) hz5 (by (try simp only [List.length_set, copied_len]); exact trk (by kernel_rfl) (by kernel_rfl) (by kernel_rfl)) ?_ ?_
  · intro s1 ww h
    unfold slices_Concat_api_LinRow.s1 at h
    refine sr ?_
    refine ts (lss rfl rfl) ?_
    refine rn ?_
    refine CWp.seq ?_
    rcases ite h with ⟨c2, h⟩ | ⟨c2, h⟩
    · refine ct rfl (bt c2) ?_
      refine CWp.skip ?_
      refine CWp.seq ?_
      refine CWp.block ?_
      refine sr ?_
      obtain ⟨x3, hx3, h⟩ := bnd h
      refine ts (ixD lT177 szL rfl rfl hx3) ?_
      refine ts (ldI sT44 rfl rfl) ?_
      refine ts (as_ rfl) ?_
      refine rn ?_
      refine sr ?_
      refine ts (mv rfl) ?_
      refine ts (mv rfl) ?_
      refine ts (lnD lT44 rfl rfl) ?_
      refine ts (add rfl rfl) ?_
      refine ts (as_ rfl) ?_
      refine rn ?_
      refine sr ?_
      refine ts (mv rfl) ?_
      refine ts (lss rfl rfl) ?_
      refine rn ?_
      rcases ite h with ⟨c4, h⟩ | ⟨c4, h⟩
      · cases h
      · refine cf rfl (bf c4) ?_
        refine CWp.skip ?_
        refine lr ?_
        refine ts (add rfl rfl) ?_
        refine ts (mv rfl) ?_
        refine rn ?_
        obtain rfl := some_inj h
        exact ⟨rfl, (by (try simp only [List.length_set, copied_len]); exact trk (by kernel_rfl) (by kernel_rfl) (by kernel_rfl))⟩
    · refine cf rfl (bf c2) ?_
      refine CWp.exit ?_
      obtain rfl := some_inj h
      exact ⟨rfl, (by (try simp only [List.length_set, copied_len]); exact trk (by kernel_rfl) (by kernel_rfl) (by kernel_rfl))⟩
  · intro e s ht
    refine CWp.trim ht ?_
    refine sr ?_
    refine ts (mv rfl) ?_
    obtain ⟨x6, hx6, h⟩ := bnd h
    refine ta (chn (f := fun _ => false) (n := 0) (v' := .ref ⟨out.length, 24, 0⟩ 0 x6.length x6.length) (bs := [((24, 0), .arr 3 false (x6.map api_LinRow.d))]) kf rfl (.c rfl le1 (.c rfl le1 .n)) (curOf_nil _) (slices_Grow_api_LinRow_ok hx6) rfl rfl (by simp [homeVal, homeVals])) ?_
    refine ts (as_ rfl) ?_
    refine rn ?_
    refine CWp.seq ?_
    refine sr ?_
    refine ts (mv rfl) ?_
    refine ts (lnD lT177 rfl rfl) ?_
    refine ts (mv rfl) ?_
    refine rn ?_
    obtain ⟨z11, hz11, h⟩ := bnd h
    refine lb (E := fun s7 => [(6, .ref ⟨out.length, 24, 0⟩ 0 s7.2.length s7.2.length), (25, .d (.sl (p0.map (dL api_LinRow.d)))), (26, .d (.int .i64 (p0.length : Int))), (27, .d (.int .i64 s7.1))]) (M := fun s7 => ⟨[((24, 0), .arr 3 false (s7.2.map api_LinRow.d))], out, []⟩) (E' := fun y => [(6, .ref ⟨out.length, 24, 0⟩ 0 y.length y.length)]) (M' := fun y => ⟨[((24, 0), .arr 3 false (y.map api_LinRow.d))], out, []⟩) hz11 (by (try simp only [List.length_set, copied_len]); exact trk (by kernel_rfl) (by kernel_rfl) (by kernel_rfl)) ?_ ?_
    · intro s7 ww h
      unfold slices_Concat_api_LinRow.s2 at h
      refine sr ?_
      refine ts (lss rfl rfl) ?_
      refine rn ?_
      refine CWp.seq ?_
      rcases ite h with ⟨c8, h⟩ | ⟨c8, h⟩
      · refine ct rfl (bt c8) ?_
        refine CWp.skip ?_
        refine CWp.seq ?_
        refine CWp.block ?_
        refine sr ?_
        obtain ⟨x9, hx9, h⟩ := bnd h
        refine ts (ixD lT177 szL rfl rfl hx9) ?_
        refine ts (ldI sT44 rfl rfl) ?_
        refine ts (as_ rfl) ?_
        refine rn ?_
        refine lr ?_
        refine ts (mv rfl) ?_
        refine ts (mv rfl) ?_
        obtain ⟨x10, hx10, h⟩ := bnd h
        refine tp (apG (ys := x9) (xs := s7.2) (f := api_LinRow.d) lT44 uT44 api_LinRow.sz rfl rfl rfl elD (ow rfl) hx10 (so .h)) ?_
        refine ts (as_ rfl) ?_
        refine rn ?_
        refine lr ?_
        refine ts (add rfl rfl) ?_
        refine ts (mv rfl) ?_
        refine rn ?_
        obtain rfl := some_inj h
        exact ⟨rfl, (by (try simp only [List.length_set, copied_len]); exact trk (by kernel_rfl) (by kernel_rfl) (by kernel_rfl))⟩
      · refine cf rfl (bf c8) ?_
        refine CWp.exit ?_
        obtain rfl := some_inj h
        exact ⟨rfl, (by (try simp only [List.length_set, copied_len]); exact trk (by kernel_rfl) (by kernel_rfl) (by kernel_rfl))⟩
    · intro e s ht
      refine CWp.trim ht ?_
      refine sr ?_
      refine ts (mv rfl) ?_
      refine ts (as_ rfl) ?_
      refine rn ?_
      refine CWp.ret ?_
      obtain rfl := some_inj h
      exact ⟨trivial, rt1 (ex := false) (by exact (.t rfl .n)) (by exact (gf rfl rfl)) (by rfl) (by rfl)⟩
theorem depend_checker_added_ok {p1 : Int} {pb0_0 : Int} {pb0_1 : (List api_LinRow)} {pb0_2 : (List api_LinNode)} {b1 : (List (List api_LinRow))} {r : api_LinRow × Bool} (h : depend_checker_added p1 pb0_0 pb0_1 pb0_2 b1 = some r) : FunOk PP 177 [.bptr ⟨0, 0, 0⟩ 0, .d (.int .i64 p1)] [[((0, 0), .box [.d (.int .i64 pb0_0), .d (.sl (pb0_1.map api_LinRow.d)), .d (.sl (pb0_2.map api_LinNode.d)), .ref ⟨0, 1, 0⟩ 0 b1.length b1.length]), ((1, 0), .arr 1 false (b1.map (dL api_LinRow.d)))]] ⟨.tup [.d (api_LinRow.d r.1), .d (.bool r.2)], []⟩ := by
  unfold depend_checker_added at h
  refine fi Tryz.func177 rfl (by kernel_rfl) (by kernel_rfl) (by kernel_rfl) ?_
  refine sr ?_
  refine ta (al (n := 0) zT105 rfl) ?_
  refine ts (ac rfl rfl) ?_
  refine rn ?_
  refine sr ?_
  refine ts (mv rfl) ?_
  refine ts (nc rfl rfl) ?_
  refine ts (fa fT179_1 rfl rfl) ?_
  refine ts (ld sT50 rfl (uw0 rfl) rfl) ?_
  refine ts (mv rfl) ?_
  obtain ⟨x1, hx1, h⟩ := bnd h
  refine ts (ixD lT50 api_LinNode.sz rfl rfl hx1) ?_
  refine ts (ldIW aT77 rfl rfl rfl) ?_
  refine ta (al (n := 0) zT77 rfl) ?_
  refine tt0 (stW aT77 rfl rfl rfl rfl rfl rfl .h) ?_
  refine rn ?_
  refine CWp.trim (Le.fzBox (t := 6) (e := api_LinNode.d x1) (env' := [(0, .bptr ⟨0, 0, 0⟩ 0), (1, .d (.int .i64 p1)), (4, .bptr ⟨1, 4, 0⟩ 0), (5, .d (.bool false)), (13, .bptr ⟨0, 0, 0⟩ 0), (14, .bptr ⟨0, 0, 0⟩ 0), (15, .bptr ⟨0, 0, 0⟩ 2), (16, .d (.sl (pb0_2.map api_LinNode.d))), (17, .d (.int .i64 p1)), (18, .pimm (api_LinNode.d x1) 0), (19, .d (api_LinNode.d x1))]) (loc' := [((4, 0), .box [.d .nilsl, .d (.int .i64 0), .d (.bool false)])]) rfl rfl rfl rfl (by (try simp only [List.length_set, copied_len]); exact trkcT (by kernel_rfl) (by kernel_rfl) (by kernel_rfl))) ?_
  refine sr ?_
  refine ts (mv rfl) ?_
  refine ts (nc rfl rfl) ?_
  refine ts (fa fT179_0 rfl rfl) ?_
  refine ts (fa fT46_0 rfl rfl) ?_
  refine ts (ld sT3 rfl (uw0 rfl) rfl) ?_
  obtain ⟨x2, hx2, h⟩ := bnd h
  refine ta (ms_ (f := dI) (a := 0) (nn := 0) lT48 rfl rfl hx2 rfl) ?_
  refine ts (bld (v := .agg [.ref ⟨1, 25, 0⟩ 0 x2.length x2.length, .d (.int .i64 0), .d (.bool false)]) rfl (by kernel_rfl)) ?_
  refine ta (al (n := 0) zT105 rfl) ?_
  refine gz (Le.nilBox (t := 7) (n := 0) (t' := 1140) (n' := 0) (off := 0) (sz := 1) rfl rfl rfl rfl) ?_
  refine tt0 (stW aT105 rfl rfl rfl rfl rfl rfl (.s rfl .h)) ?_
  refine rn ?_
  refine sd mixed (b := [0, 1, 3, 7, 15, 0, 32, 96, 224, 0, 992, 2016, 4095, 8191, 16383]) (by kernel_rfl) ?_
  refine ds (mv rfl) rfl ?_
  refine ds (nc rfl rfl) rfl ?_
  refine ds (fa fT179_0 rfl rfl) rfl ?_
  refine ds (fa fT46_1 rfl rfl) rfl ?_
  refine dr (ld sT44 rfl (uw0 rfl) rfl) rfl ?_
  refine ds (mv rfl) rfl ?_
  refine ds (nc rfl rfl) rfl ?_
  refine ds (fa fT179_2 rfl rfl) rfl ?_
  refine dr (ld sT177 rfl (uw0 rfl) rfl) rfl ?_
  refine ds (mv rfl) rfl ?_
  obtain ⟨x3, hx3, h⟩ := bnd h
  refine dr (ixR lT177 rfl rfl rfl (uw0 rfl) hx3) rfl ?_
  refine dr (ldE sT44 rfl rfl (uw0 rfl) hx3 rfl) rfl ?_
  refine ds (bsT (l := (([pb0_1, x3] : List (List api_LinRow)).map (dL api_LinRow.d))) lT177 rfl rfl rfl (by kernel_rfl)) rfl ?_
  obtain ⟨x4, hx4, h⟩ := bnd h
  refine dr (cln (f := fun _ => false) kf rfl (.c rfl le2 .n) rfl (slices_Concat_api_LinRow_ok hx4) rfl) rfl ?_
  refine ds (as_ rfl) rfl ?_
  refine dn (by kernel_rfl) ?_
  refine CWp.seq ?_
  refine sr ?_
  refine ts (faI fT77_1 rfl rfl) ?_
  refine ts (ldI sT48 rfl rfl) ?_
  refine ts (lnD lT48 rfl rfl) ?_
  refine ts (mv rfl) ?_
  refine ts (lnD lT44 rfl rfl) ?_
  refine ts (neq rfl rfl) ?_
  refine rn ?_
  rcases ite h with ⟨c5, h⟩ | ⟨c5, h⟩
  · cases h
  · refine cf rfl (nf c5) ?_
    refine CWp.skip ?_
    refine CWp.seq ?_
    refine sr ?_
    refine ts (faI fT77_1 rfl rfl) ?_
    refine ts (ldI sT48 rfl rfl) ?_
    refine ts (lnD lT48 rfl rfl) ?_
    refine ts (mv rfl) ?_
    refine rn ?_
    obtain ⟨z26, hz26, h⟩ := bnd h
    refine lb (E := fun s6 => [(4, .bptr ⟨1, 4, 0⟩ 0), (6, .pimm (api_LinNode.d x1) 0), (7, .bptr ⟨1, 7, 0⟩ 0), (8, .d (.sl (x4.map api_LinRow.d))), (49, .d (.sl (x1.Weights.map dI))), (50, .d (.int .i64 (x1.Weights.length : Int))), (51, .d (.int .i64 s6.1))]) (M := fun s6 => ⟨[((4, 0), .box [.d .nilsl, .d (.int .i64 0), .d (.bool false)]), ((7, 0), .box [.ref ⟨1, 25, 0⟩ 0 s6.2.2.length s6.2.2.length, .d (.int .i64 s6.2.1), .d (.bool false)]), ((25, 0), .arr 1 false (s6.2.2.map dI))], [[((0, 0), .box [.d (.int .i64 pb0_0), .d (.sl (pb0_1.map api_LinRow.d)), .d (.sl (pb0_2.map api_LinNode.d)), .ref ⟨0, 1, 0⟩ 0 b1.length b1.length]), ((1, 0), .arr 1 false (b1.map (dL api_LinRow.d)))]], []⟩) (E' := fun y => [(4, .bptr ⟨1, 4, 0⟩ 0), (7, .bptr ⟨1, 7, 0⟩ 0)]) (M' := fun y => ⟨[((4, 0), .box [.d .nilsl, .d (.int .i64 0), .d (.bool false)]), ((7, 0), .box [.ref ⟨1, 25, 0⟩ 0 y.2.length y.2.length, .d (.int .i64 y.1), .d (.bool false)]), ((25, 0), .arr 1 false (y.2.map dI))], [[((0, 0), .box [.d (.int .i64 pb0_0), .d (.sl (pb0_1.map api_LinRow.d)), .d (.sl (pb0_2.map api_LinNode.d)), .ref ⟨0, 1, 0⟩ 0 b1.length b1.length]), ((1, 0), .arr 1 false (b1.map (dL api_LinRow.d)))]], []⟩) hz26 (by (try simp only [List.length_set, copied_len]); exact trkc (by kernel_rfl) (by kernel_rfl) (by kernel_rfl)) ?_ ?_
    · intro s6 ww h
      unfold depend_checker_added.s1 at h
      refine sr ?_
      refine ts (lss rfl rfl) ?_
      refine rn ?_
      refine CWp.seq ?_
      rcases ite h with ⟨c7, h⟩ | ⟨c7, h⟩
      · refine ct rfl (bt c7) ?_
        refine CWp.skip ?_
        refine CWp.seq ?_
        refine CWp.block ?_
        refine sr ?_
        refine ts (mv rfl) ?_
        obtain ⟨x8, hx8, h⟩ := bnd h
        refine ts (ixD lT48 szI rfl rfl hx8) ?_
        refine ts (ldI sT3 rfl rfl) ?_
        refine ts (as_ rfl) ?_
        refine ts (as_ rfl) ?_
        refine rn ?_
        refine CWp.seq ?_
        refine sr ?_
        refine ts (mv rfl) ?_
        refine ts (mv rfl) ?_
        obtain ⟨x9, hx9, h⟩ := bnd h
        refine ts (ixD lT44 api_LinRow.sz rfl rfl hx9) ?_
        refine ts (faI fT105_2 rfl rfl) ?_
        refine ts (ldI sT4 rfl rfl) ?_
        refine ts (not_ rfl) ?_
        refine ts (mv rfl) ?_
        refine sg 12 [(74, .d (.bool ((!x9.Equal) && ((decide (x8 < 0)) || ((x1.Kind == 1) && (x8 != 0))))))] ?_ ?_
        · rcases bool_or (!x9.Equal) with g10 | g15
          · refine us (gy rfl rfl g10) (mv rfl) ?_
            refine us (gy rfl rfl g10) (lss rfl rfl) ?_
            refine us (gy rfl rfl g10) (mv rfl) ?_
            refine sg 8 [(73, .d (.bool ((decide (x8 < 0)) || ((x1.Kind == 1) && (x8 != 0)))))] ?_ ?_
            · rcases bool_or (decide (x8 < 0)) with g11 | g12
              · refine un (gn rfl rfl g11) ?_
                refine un (gn rfl rfl g11) ?_
                refine un (gn rfl rfl g11) ?_
                refine un (gn rfl rfl g11) ?_
                refine un (gu rfl rfl) ?_
                refine un (gu rfl rfl) ?_
                refine un (gn rfl rfl g11) ?_
                refine us (gy rfl rfl g10) (pt rfl g11 rfl) ?_
                exact rn (trD 8 rfl (.c (bq (or_t g11)) .n) (by kernel_rfl))
              · refine us (gy rfl rfl g12) (faI fT77_0 rfl rfl) ?_
                refine us (gy rfl rfl g12) (ldI sT3 rfl rfl) ?_
                refine us (gy rfl rfl g12) (eql rfl rfl) ?_
                refine us (gy rfl rfl g12) (mv rfl) ?_
                refine sg 3 [(72, .d (.bool ((x1.Kind == 1) && (x8 != 0))))] ?_ ?_
                · rcases bool_or (x1.Kind == 1) with g13 | g14
                  · refine us (gy rfl rfl g13) (mv rfl) ?_
                    refine us (gy rfl rfl g13) (neq rfl rfl) ?_
                    refine us (gy rfl rfl g12) (pt rfl g13 rfl) ?_
                    exact rn (trD 3 rfl (.c (bq (and_t g13)) .n) (by kernel_rfl))
                  · refine un (gn rfl rfl g14) ?_
                    refine un (gn rfl rfl g14) ?_
                    refine us (gy rfl rfl g12) (pf rfl g14 rfl) ?_
                    exact rn (trD 3 rfl (.c (bq (and_f g14)) .n) (by kernel_rfl))
                refine us (gy rfl rfl g10) (pf rfl g12 rfl) ?_
                exact rn (trD 6 rfl (.c (bq (or_f g12)) .n) (by kernel_rfl))
            refine ts (pt rfl g10 rfl) ?_
            exact rn (trD 5 rfl (.c (bq (and_t g10)) .n) (by kernel_rfl))
          · refine un (gn rfl rfl g15) ?_
            refine un (gn rfl rfl g15) ?_
            refine un (gn rfl rfl g15) ?_
            refine un (gu rfl rfl) ?_
            refine un (gu rfl rfl) ?_
            refine un (gu rfl rfl) ?_
            refine un (gu rfl rfl) ?_
            refine un (gu rfl rfl) ?_
            refine un (gu rfl rfl) ?_
            refine un (gu rfl rfl) ?_
            refine un (gn rfl rfl g15) ?_
            refine ts (pf rfl g15 rfl) ?_
            exact rn (trD 12 rfl (.c (bq (and_f g15)) .n) (by kernel_rfl))
        refine rn ?_
        rcases ite h with ⟨c16, h⟩ | ⟨c16, h⟩
        · cases h
        · refine cf rfl (vf c16) ?_
          refine CWp.skip ?_
          refine CWp.seq ?_
          refine sr ?_
          refine ts (mv rfl) ?_
          refine ts (mv rfl) ?_
          obtain ⟨x17, hx17, h⟩ := bnd h
          refine ts (ixD lT44 api_LinRow.sz rfl rfl hx17) ?_
          refine ts (faI fT105_0 rfl rfl) ?_
          refine ts (ldI sT48 rfl rfl) ?_
          refine ts (lnD lT48 rfl rfl) ?_
          refine ts (mv rfl) ?_
          refine rn ?_
          obtain ⟨z23, hz23, h⟩ := bnd h
          refine lb (E := fun s18 => [(4, .bptr ⟨1, 4, 0⟩ 0), (6, .pimm (api_LinNode.d x1) 0), (7, .bptr ⟨1, 7, 0⟩ 0), (8, .d (.sl (x4.map api_LinRow.d))), (9, .d (.int .i64 s6.1)), (10, .d (.int .i64 x8)), (49, .d (.sl (x1.Weights.map dI))), (50, .d (.int .i64 (x1.Weights.length : Int))), (51, .d (.int .i64 s6.1)), (80, .d (.sl (x17.Coefs.map dI))), (81, .d (.int .i64 (x17.Coefs.length : Int))), (82, .d (.int .i64 s18.1))]) (M := fun s18 => ⟨[((4, 0), .box [.d .nilsl, .d (.int .i64 0), .d (.bool false)]), ((7, 0), .box [.ref ⟨1, 25, 0⟩ 0 s18.2.length s18.2.length, .d (.int .i64 s6.2.1), .d (.bool false)]), ((25, 0), .arr 1 false (s18.2.map dI))], [[((0, 0), .box [.d (.int .i64 pb0_0), .d (.sl (pb0_1.map api_LinRow.d)), .d (.sl (pb0_2.map api_LinNode.d)), .ref ⟨0, 1, 0⟩ 0 b1.length b1.length]), ((1, 0), .arr 1 false (b1.map (dL api_LinRow.d)))]], []⟩) (E' := fun y => [(4, .bptr ⟨1, 4, 0⟩ 0), (6, .pimm (api_LinNode.d x1) 0), (7, .bptr ⟨1, 7, 0⟩ 0), (8, .d (.sl (x4.map api_LinRow.d))), (9, .d (.int .i64 s6.1)), (10, .d (.int .i64 x8)), (49, .d (.sl (x1.Weights.map dI))), (50, .d (.int .i64 (x1.Weights.length : Int))), (51, .d (.int .i64 s6.1))]) (M' := fun y => ⟨[((4, 0), .box [.d .nilsl, .d (.int .i64 0), .d (.bool false)]), ((7, 0), .box [.ref ⟨1, 25, 0⟩ 0 y.length y.length, .d (.int .i64 s6.2.1), .d (.bool false)]), ((25, 0), .arr 1 false (y.map dI))], [[((0, 0), .box [.d (.int .i64 pb0_0), .d (.sl (pb0_1.map api_LinRow.d)), .d (.sl (pb0_2.map api_LinNode.d)), .ref ⟨0, 1, 0⟩ 0 b1.length b1.length]), ((1, 0), .arr 1 false (b1.map (dL api_LinRow.d)))]], []⟩) hz23 (by (try simp only [List.length_set, copied_len]); exact trkc (by kernel_rfl) (by kernel_rfl) (by kernel_rfl)) ?_ ?_
          · intro s18 ww h
            unfold depend_checker_added.s2 at h
            refine sr ?_
            refine ts (lss rfl rfl) ?_
            refine rn ?_
            refine CWp.seq ?_
            rcases ite h with ⟨c19, h⟩ | ⟨c19, h⟩
            · refine ct rfl (bt c19) ?_
              refine CWp.skip ?_
              refine CWp.seq ?_
              refine CWp.block ?_
              refine sr ?_
              refine ts (mv rfl) ?_
              obtain ⟨x20, hx20, h⟩ := bnd h
              refine ts (ixD lT48 szI rfl rfl hx20) ?_
              refine ts (ldI sT3 rfl rfl) ?_
              refine ts (as_ rfl) ?_
              refine ts (as_ rfl) ?_
              refine rn ?_
              refine lr ?_
              refine ts (fa fT105_0 rfl rfl) ?_
              refine ts (ld sT48 rfl (ow rfl) rfl) ?_
              refine ts (mv rfl) ?_
              obtain ⟨x21, hx21, h⟩ := bnd h
              refine ts (ixR lT48 rfl rfl rfl (ow rfl) hx21) ?_
              refine ts (ldE sT3 rfl rfl (ow rfl) hx21 rfl) ?_
              refine ts (mv rfl) ?_
              refine ts (mv rfl) ?_
              refine ts (mul rfl rfl) ?_
              refine ts (add rfl rfl) ?_
              obtain ⟨x22, hx22, h⟩ := bnd h
              refine ts (ixR lT48 rfl rfl rfl (ow rfl) hx22) ?_
              refine tt0 (stE (b := (w (x21 + (w (x8 * x20))))) sT3 rfl rfl rfl rfl rfl hx22 rfl rfl (.s rfl (.s rfl .h))) ?_
              refine rn ?_
              refine lr ?_
              refine ts (add rfl rfl) ?_
              refine ts (mv rfl) ?_
              refine rn ?_
              obtain rfl := some_inj h
              exact ⟨rfl, (by (try simp only [List.length_set, copied_len]); exact trkc (by kernel_rfl) (by kernel_rfl) (by kernel_rfl))⟩
            · refine cf rfl (bf c19) ?_
              refine CWp.exit ?_
              obtain rfl := some_inj h
              exact ⟨rfl, (by (try simp only [List.length_set, copied_len]); exact trkc (by kernel_rfl) (by kernel_rfl) (by kernel_rfl))⟩
          · intro e s ht
            refine CWp.trim ht ?_
            refine ld_ mixed (b := [0, 1, 0, 0, 0, 24, 56, 120, 252, 511, 1023, 2047]) (by kernel_rfl) ?_
            refine ds (fa fT105_1 rfl rfl) rfl ?_
            refine dr (ld sT3 rfl (ow rfl) rfl) rfl ?_
            refine ds (mv rfl) rfl ?_
            refine ds (mv rfl) rfl ?_
            refine ds (mv rfl) rfl ?_
            obtain ⟨x24, hx24, h⟩ := bnd h
            refine ds (ixD lT44 api_LinRow.sz rfl rfl hx24) rfl ?_
            refine ds (faI fT105_1 rfl rfl) rfl ?_
            refine ds (ldI sT3 rfl rfl) rfl ?_
            refine ds (mul rfl rfl) rfl ?_
            refine ds (add rfl rfl) rfl ?_
            refine ds (fa fT105_1 rfl rfl) rfl ?_
            refine dt0 (st sT3 rfl rfl rfl rfl (.s .h) (.s rfl .h)) rfl ?_
            refine dn (by kernel_rfl) ?_
            refine lr ?_
            refine ts (add rfl rfl) ?_
            refine ts (mv rfl) ?_
            refine rn ?_
            obtain rfl := some_inj h
            exact ⟨rfl, (by (try simp only [List.length_set, copied_len]); exact trkc (by kernel_rfl) (by kernel_rfl) (by kernel_rfl))⟩
      · refine cf rfl (bf c7) ?_
        refine CWp.exit ?_
        obtain rfl := some_inj h
        exact ⟨rfl, (by (try simp only [List.length_set, copied_len]); exact trkc (by kernel_rfl) (by kernel_rfl) (by kernel_rfl))⟩
    · intro e s ht
      refine CWp.trim ht ?_
      refine sr ?_
      refine ts (ldA (v := .agg [.ref ⟨1, 25, 0⟩ 0 z26.2.length z26.2.length, .d (.int .i64 z26.1), .d (.bool false)]) aT105 rfl (ow rfl) (by kernel_rfl)) ?_
      refine tt0 (stW aT105 rfl rfl rfl rfl rfl rfl .h) ?_
      refine ts (ac rfl rfl) ?_
      refine rn ?_
      refine CWp.ret ?_
      obtain rfl := some_inj h
      exact ⟨trivial, rt2 (ex := false) (by exact (rcA (v := .agg [.ref ⟨1, 25, 0⟩ 0 z26.2.length z26.2.length, .d (.int .i64 z26.1), .d (.bool false)]) aT105 rfl (ow rfl) (by kernel_rfl) (.t rfl .n))) (by exact (sc (ga (sc (gf rfl rfl) (sc (gd (by rfl)) (sc (gd (by rfl)) sn))) rfl) (sc (gd (by rfl)) sn))) (by rfl) (by rfl)⟩
theorem depend_checker_isRight_c1_ok {p0 : Int} {out : Out} {r : Bool} (h : depend_checker_isRight_c1 p0 = r) : FunOk PP 178 [.d (.int .i64 p0)] out ⟨.d (.bool r), []⟩ := by
  unfold depend_checker_isRight_c1 at h
  refine fi Tryz.func178 rfl (by kernel_rfl) (by kernel_rfl) (by kernel_rfl) ?_
  refine sr ?_
  refine ts (ac rfl rfl) ?_
  refine rn ?_
  refine sr ?_
  refine ts (mv rfl) ?_
  refine ts (neq rfl rfl) ?_
  refine ts (as_ rfl) ?_
  refine rn ?_
  refine CWp.ret ?_
  obtain rfl := h
  exact ⟨trivial, rt1 (ex := false) (by exact (.t rfl .n)) (by exact (gd (by rfl))) (by rfl) (by rfl)⟩
theorem slices_IndexFunc_int__depend_checker_isRight_c1_ok {p0 : (List Int)} {out : Out} {r : Int} (h : slices_IndexFunc_int__depend_checker_isRight_c1 p0 = some r) : FunOk PP 175 [.d (.sl (p0.map dI)), .d (.fn 178)] out ⟨.d (.int .i64 r), []⟩ := by
  unfold slices_IndexFunc_int__depend_checker_isRight_c1 at h
  refine fi Tryz.func175 rfl (by kernel_rfl) (by kernel_rfl) (by kernel_rfl) ?_
  refine sr ?_
  refine ts (ac rfl rfl) ?_
  refine rn ?_
  refine CWp.seq ?_
  refine sr ?_
  refine ts (mv rfl) ?_
  refine ts (lnD lT48 rfl rfl) ?_
  refine ts (mv rfl) ?_
  refine rn ?_
  obtain ⟨z5, hz5, h⟩ := bnd h
  refine lb (E := fun s1 => [(0, .d (.sl (p0.map dI))), (1, .d (.fn 178)), (7, .d (.int .i64 (p0.length : Int))), (8, .d (.int .i64 s1))]) (M := fun s1 => ⟨[], out, []⟩) (E' := fun y => []) (M' := fun y => ⟨[], out, []⟩) hz5 (by (try simp only [List.length_set, copied_len]); exact trk (by kernel_rfl) (by kernel_rfl) (by kernel_rfl)) ?_ ?_
  · intro s1 ww h
    unfold slices_IndexFunc_int__depend_checker_isRight_c1.s1 at h
    refine sr ?_
    refine ts (lss rfl rfl) ?_
    refine rn ?_
    refine CWp.seq ?_
    rcases ite h with ⟨c2, h⟩ | ⟨c2, h⟩
    · refine ct rfl (bt c2) ?_
      refine CWp.skip ?_
      refine CWp.seq ?_
      refine CWp.block ?_
      refine sr ?_
      refine ts (mv rfl) ?_
      refine ts (as_ rfl) ?_
      refine rn ?_
      refine sr ?_
      refine ts (mv rfl) ?_
      refine ts (mv rfl) ?_
      refine ts (mv rfl) ?_
      obtain ⟨x3, hx3, h⟩ := bnd h
      refine ts (ixD lT48 szI rfl rfl hx3) ?_
      refine ts (ldI sT3 rfl rfl) ?_
      refine ts (cln (f := fun _ => false) (kt rfl) rfl (.c rfl le1 .n) (curOf_nil _) (depend_checker_isRight_c1_ok (rfl : depend_checker_isRight_c1 x3 = _)) rfl) ?_
      refine rn ?_
      rcases ite h with ⟨c4, h⟩ | ⟨c4, h⟩
      · cases h
      · refine cf rfl (vf c4) ?_
        refine CWp.skip ?_
        refine lr ?_
        refine ts (add rfl rfl) ?_
        refine ts (mv rfl) ?_
        refine rn ?_
        obtain rfl := some_inj h
        exact ⟨rfl, (by (try simp only [List.length_set, copied_len]); exact trk (by kernel_rfl) (by kernel_rfl) (by kernel_rfl))⟩
    · refine cf rfl (bf c2) ?_
      refine CWp.exit ?_
      obtain rfl := some_inj h
      exact ⟨rfl, (by (try simp only [List.length_set, copied_len]); exact trk (by kernel_rfl) (by kernel_rfl) (by kernel_rfl))⟩
  · intro e s ht
    refine CWp.trim ht ?_
    refine sr ?_
    refine ts (ac rfl rfl) ?_
    refine rn ?_
    refine CWp.ret ?_
    obtain rfl := some_inj h
    exact ⟨trivial, rt1 (ex := false) (by exact (.t rfl .n)) (by exact (gd (by rfl))) (by rfl) (by rfl)⟩
theorem slices_ContainsFunc_int__depend_checker_isRight_c1_ok {p0 : (List Int)} {out : Out} {r : Bool} (h : slices_ContainsFunc_int__depend_checker_isRight_c1 p0 = some r) : FunOk PP 115 [.d (.sl (p0.map dI)), .d (.fn 178)] out ⟨.d (.bool r), []⟩ := by
  unfold slices_ContainsFunc_int__depend_checker_isRight_c1 at h
  refine fi Tryz.func115 rfl (by kernel_rfl) (by kernel_rfl) (by kernel_rfl) ?_
  refine sr ?_
  refine ts (ac rfl rfl) ?_
  refine rn ?_
  refine sr ?_
  refine ts (mv rfl) ?_
  refine ts (mv rfl) ?_
  obtain ⟨x1, hx1, h⟩ := bnd h
  refine ts (cln (f := fun _ => false) kf rfl (.c rfl le1 (.c rfl le1 .n)) (curOf_nil _) (slices_IndexFunc_int__depend_checker_isRight_c1_ok hx1) rfl) ?_
  refine ts (geq rfl rfl) ?_
  refine ts (as_ rfl) ?_
  refine rn ?_
  refine CWp.ret ?_
  obtain rfl := some_inj h
  exact ⟨trivial, rt1 (ex := false) (by exact (.t rfl .n)) (by exact (gd (by rfl))) (by rfl) (by rfl)⟩
theorem depend_checker_isRight_ok {p1 : Int} {pb0_0 : Int} {pb0_1 : (List api_LinRow)} {pb0_2 : (List api_LinNode)} {b1 : (List (List api_LinRow))} {r : Bool} (h : depend_checker_isRight p1 pb0_0 pb0_1 pb0_2 b1 = some r) : FunOk PP 117 [.bptr ⟨0, 0, 0⟩ 0, .d (.int .i64 p1)] [[((0, 0), .box [.d (.int .i64 pb0_0), .d (.sl (pb0_1.map api_LinRow.d)), .d (.sl (pb0_2.map api_LinNode.d)), .ref ⟨0, 1, 0⟩ 0 b1.length b1.length]), ((1, 0), .arr 1 false (b1.map (dL api_LinRow.d)))]] ⟨.d (.bool r), []⟩ := by
  unfold depend_checker_isRight at h
  refine fi Tryz.func117 rfl (by kernel_rfl) (by kernel_rfl) (by kernel_rfl) ?_
  refine sr ?_
  refine ts (ac rfl rfl) ?_
  refine rn ?_
  refine sr ?_
  refine ts (mv rfl) ?_
  refine ts (nc rfl rfl) ?_
  refine ts (fa fT179_1 rfl rfl) ?_
  refine ts (ld sT50 rfl (uw0 rfl) rfl) ?_
  refine ts (mv rfl) ?_
  obtain ⟨x1, hx1, h⟩ := bnd h
  refine ts (ixD lT50 api_LinNode.sz rfl rfl hx1) ?_
  refine ts (ldIW aT77 rfl rfl rfl) ?_
  refine ta (al (n := 0) zT77 rfl) ?_
  refine tt0 (stW aT77 rfl rfl rfl rfl rfl rfl .h) ?_
  refine rn ?_
  refine CWp.trim (Le.fzBox (t := 5) (e := api_LinNode.d x1) (env' := [(0, .bptr ⟨0, 0, 0⟩ 0), (1, .d (.int .i64 p1)), (4, .d (.bool false)), (10, .bptr ⟨0, 0, 0⟩ 0), (11, .bptr ⟨0, 0, 0⟩ 0), (12, .bptr ⟨0, 0, 0⟩ 2), (13, .d (.sl (pb0_2.map api_LinNode.d))), (14, .d (.int .i64 p1)), (15, .pimm (api_LinNode.d x1) 0), (16, .d (api_LinNode.d x1))]) (loc' := []) rfl rfl rfl rfl (by (try simp only [List.length_set, copied_len]); exact trkcT (by kernel_rfl) (by kernel_rfl) (by kernel_rfl))) ?_
  refine CWp.seq ?_
  refine sr ?_
  refine ts (faI fT77_0 rfl rfl) ?_
  refine ts (ldI sT3 rfl rfl) ?_
  refine ts (eql rfl rfl) ?_
  refine rn ?_
  rcases ite h with ⟨c2, h⟩ | ⟨c2, h⟩
  · cases h
  · refine cf rfl (ef c2) ?_
    refine CWp.skip ?_
    refine sr ?_
    refine ts (mv rfl) ?_
    refine ts (mv rfl) ?_
    obtain ⟨x3, hx3, h⟩ := bnd h
    refine ts (cln (f := fun _ => false) kf rfl (.c rfl le5 (.c rfl le1 .n)) rfl (fr_ (cc' := []) (ids := [⟨0, 0, 0⟩, ⟨0, 1, 0⟩]) (cbs := [.box [.d (.int .i64 pb0_0), .d (.sl (pb0_1.map api_LinRow.d)), .d (.sl (pb0_2.map api_LinNode.d)), .ref ⟨0, 1, 0⟩ 0 b1.length b1.length], .arr 1 false (b1.map (dL api_LinRow.d))]) (cbs' := [.box [.d (.int .i64 pb0_0), .d (.sl (pb0_1.map api_LinRow.d)), .d (.sl (pb0_2.map api_LinNode.d)), .ref ⟨0, 1, 0⟩ 0 b1.length b1.length], .arr 1 false (b1.map (dL api_LinRow.d))]) (depend_checker_added_ok hx3) (by first | rfl | (simp only [List.length_set, copied_len] <;> rfl)) (.inl ⟨rfl, rfl⟩) (by simp) rfl rfl rfl rfl rfl rfl rfl rfl (.c rfl (.c rfl .n)) (.keep (.keep .nil rfl (by simp)) rfl (by simp))) rfl) ?_
    refine ts (mv rfl) ?_
    refine ts (ex_ rfl rfl) ?_
    refine ts (ex_ rfl rfl) ?_
    refine ta (al (n := 0) zT105 rfl) ?_
    refine tt0 (stW aT105 rfl rfl rfl rfl rfl rfl .h) ?_
    refine ts (as_ rfl) ?_
    refine rn ?_
    refine CWp.trim (Le.fzBox (t := 8) (e := api_LinRow.d x3.1) (env' := [(0, .bptr ⟨0, 0, 0⟩ 0), (1, .d (.int .i64 p1)), (4, .d (.bool false)), (10, .bptr ⟨0, 0, 0⟩ 0), (11, .bptr ⟨0, 0, 0⟩ 0), (12, .bptr ⟨0, 0, 0⟩ 2), (13, .d (.sl (pb0_2.map api_LinNode.d))), (14, .d (.int .i64 p1)), (15, .pimm (api_LinNode.d x1) 0), (16, .d (api_LinNode.d x1)), (5, .pimm (api_LinNode.d x1) 0), (17, .pimm (api_LinNode.d x1) 0), (18, .d (.int .i64 x1.Kind)), (19, .d (.bool (x1.Kind == 2))), (95, .bptr ⟨0, 0, 0⟩ 0), (96, .d (.int .i64 p1)), (98, .d (api_LinRow.d x3.1)), (99, .d (.bool x3.2)), (9, .d (.bool x3.2))]) (loc' := []) rfl rfl rfl rfl (by (try simp only [List.length_set, copied_len]); exact trkcT (by kernel_rfl) (by kernel_rfl) (by kernel_rfl))) ?_
    refine CWp.seq ?_
    refine sr ?_
    refine ts (mv rfl) ?_
    refine ts (not_ rfl) ?_
    refine rn ?_
    rcases ite h with ⟨c4, h⟩ | ⟨c4, h⟩
    · cases h
    · refine cf rfl (not_f (Classical.not_not.1 c4)) ?_
      refine CWp.skip ?_
      refine CWp.seq ?_
      refine sr ?_
      refine ts (faI fT77_0 rfl rfl) ?_
      refine ts (ldI sT3 rfl rfl) ?_
      refine ts (eql rfl rfl) ?_
      refine rn ?_
      rcases ite h with ⟨c5, h⟩ | ⟨c5, h⟩
      · refine ct rfl (et c5) ?_
        refine sr ?_
        refine ts (faI fT105_1 rfl rfl) ?_
        refine ts (ldI sT3 rfl rfl) ?_
        refine ts (lss rfl rfl) ?_
        refine ts (mv rfl) ?_
        rcases ite h with ⟨c6, h⟩ | ⟨c6, h⟩
        · refine us (gy rfl rfl (bt c6)) (faI fT105_0 rfl rfl) ?_
          refine us (gy rfl rfl (bt c6)) (ldI sT48 rfl rfl) ?_
          obtain ⟨x7, hx7, h⟩ := bnd h
          refine us (gy rfl rfl (bt c6)) (cln (f := fun _ => false) kf rfl (.c rfl le1 (.c rfl le1 .n)) rfl (slices_ContainsFunc_int__depend_checker_isRight_c1_ok hx7) rfl) ?_
          refine us (gy rfl rfl (bt c6)) (not_ rfl) ?_
          refine ts (pt rfl (bt c6) rfl) ?_
          refine ts (as_ rfl) ?_
          refine rn ?_
          refine CWp.ret ?_
          obtain rfl := some_inj h
          exact ⟨trivial, rt1 (ex := false) (by exact (.t rfl .n)) (by exact (gd (by rfl))) (by rfl) (by rfl)⟩
        · cases h
      · cases h
end Go.Proofs.YtiidkobbkanciaaGreat
