/- The walks: the program does what the functions in plain form say. Part 2. -/
import Derived.Test.YtndpfldakcdbiaaShapesReshapesWk1
set_option linter.all false
namespace Go.Proofs.Ytndpfldakcdbiaa
open Go.Lx Go.Sh
set_option linter.unusedVariables false
set_option maxRecDepth 100000
set_option maxHeartbeats 2000000
theorem base_Has_ok {p0 : (List Int)} {p1 : Int} {out : Out} {r : Bool} (h : base_Has p0 p1 = some r) : FunOk PP 64 [.d (.sl (p0.map dI)), .d (.int .i64 p1)] out ⟨.d (.bool r), []⟩ := by
  unfold base_Has at h
  refine fi Try.func64 rfl (by kernel_rfl) (by kernel_rfl) (by kernel_rfl) ?_
  refine sr ?_
  refine ts (ac rfl rfl) ?_
  refine rn ?_
  refine sr ?_
  refine ts (ac rfl rfl) ?_
  refine rn ?_
  refine CWp.seq ?_
  refine sr ?_
  refine ts (mv rfl) ?_
  refine ts (lnD lT23 rfl rfl) ?_
  refine ts (mv rfl) ?_
  refine rn ?_
  obtain ⟨z6, hz6, h⟩ := bnd h
  refine lb (E := fun s1 => [(1, .d (.int .i64 p1)), (5, .d (.bool s1.1)), (8, .d (.sl (p0.map dI))), (9, .d (.int .i64 (p0.length : Int))), (10, .d (.int .i64 s1.2))]) (M := fun s1 => ⟨[], out, []⟩) (E' := fun y => [(5, .d (.bool y))]) (M' := fun y => ⟨[], out, []⟩) hz6 (by (try simp only [List.length_set, copied_len]); exact trk (by kernel_rfl) (by kernel_rfl) (by kernel_rfl)) ?_ ?_
  · intro s1 ww h
    unfold base_Has.s1 at h
    refine sr ?_
    refine ts (lss rfl rfl) ?_
    refine rn ?_
    refine CWp.seq ?_
    rcases ite h with ⟨c2, h⟩ | ⟨c2, h⟩
    · refine ct rfl (bt c2) ?_
      refine CWp.skip ?_
      refine CWp.seq ?_
      refine CWp.block ?_
      refine sr ?_
      obtain ⟨x3, hx3, h⟩ := bnd h
      refine ts (ixD lT23 szI rfl rfl hx3) ?_
      refine ts (ldI sT3 rfl rfl) ?_
      refine ts (as_ rfl) ?_
      refine rn ?_
      refine lr ?_
      refine ts (mv rfl) ?_
      refine ts (mv rfl) ?_
      refine sg 4 [(19, .d (.bool (s1.1 || (x3 == p1))))] ?_ ?_
      · rcases bool_or s1.1 with g4 | g5
        · refine un (gn rfl rfl g4) ?_
          refine un (gn rfl rfl g4) ?_
          refine un (gn rfl rfl g4) ?_
          refine ts (pt rfl g4 rfl) ?_
          exact rn (trD 4 rfl (.c (bq (or_t g4)) .n) (by kernel_rfl))
        · refine us (gy rfl rfl g5) (mv rfl) ?_
          refine us (gy rfl rfl g5) (mv rfl) ?_
          refine us (gy rfl rfl g5) (eql rfl rfl) ?_
          refine ts (pf rfl g5 rfl) ?_
          exact rn (trD 4 rfl (.c (bq (or_f g5)) .n) (by kernel_rfl))
      refine ts (as_ rfl) ?_
      refine rn ?_
      refine lr ?_
      refine ts (add rfl rfl) ?_
      refine ts (mv rfl) ?_
      refine rn ?_
      obtain rfl := some_inj h
      exact ⟨rfl, (by (try simp only [List.length_set, copied_len]); exact trk (by kernel_rfl) (by kernel_rfl) (by kernel_rfl))⟩
    · refine cf rfl (bf c2) ?_
      refine CWp.exit ?_
      obtain rfl := some_inj h
      exact ⟨rfl, (by (try simp only [List.length_set, copied_len]); exact trk (by kernel_rfl) (by kernel_rfl) (by kernel_rfl))⟩
  · intro e s ht
    refine CWp.trim ht ?_
    refine sr ?_
    refine ts (mv rfl) ?_
    refine ts (as_ rfl) ?_
    refine rn ?_
    refine CWp.ret ?_
    obtain rfl := some_inj h
    exact ⟨trivial, rt1 (ex := false) (by exact (.t rfl .n)) (by exact (gd (by rfl))) (by rfl) (by rfl)⟩
theorem ref15_IsOrder_ok {p0 : (List Int)} {out : Out} {r : Bool} (h : ref15_IsOrder p0 = some r) : FunOk PP 37 [.d (.sl (p0.map dI))] out ⟨.d (.bool r), []⟩ := by
  unfold ref15_IsOrder at h
  refine fi Try.func37 rfl (by kernel_rfl) (by kernel_rfl) (by kernel_rfl) ?_
  refine sr ?_
  refine ts (ac rfl rfl) ?_
  refine rn ?_
  refine CWp.seq ?_
  refine sr ?_
  refine ts (ac rfl rfl) ?_
  refine rn ?_
  obtain ⟨z5, hz5, h⟩ := bnd h
  refine lbr (E := fun s1 => [(0, .d (.sl (p0.map dI))), (3, .d (.int .i64 s1))]) (M := fun s1 => ⟨[], out, []⟩) (E' := fun y => []) (M' := fun y => ⟨[], out, []⟩) (RT := fun r e s => Lx.Returns PP Try.f37.results.toList e s ⟨.d (.bool r), []⟩) hz5 (by (try simp only [List.length_set, copied_len]); exact trk (by kernel_rfl) (by kernel_rfl) (by kernel_rfl)) ?_ ?_
  · intro s1 ww h
    unfold ref15_IsOrder.s1 at h
    refine CWp.seq ?_
    refine sr ?_
    refine ts (mv rfl) ?_
    refine ts (mv rfl) ?_
    refine ts (lnD lT23 rfl rfl) ?_
    refine ts (leq rfl rfl) ?_
    refine rn ?_
    rcases ite h with ⟨c2, h⟩ | ⟨c2, h⟩
    · refine ct rfl (bt c2) ?_
      refine CWp.skip ?_
      refine CWp.seq ?_
      refine CWp.block ?_
      refine sr ?_
      refine ts (mv rfl) ?_
      refine ts (mv rfl) ?_
      obtain ⟨x3, hx3, h⟩ := bnd h
      refine ts (cln (f := fun _ => false) kf rfl (.c rfl le1 (.c rfl le1 .n)) (curOf_nil _) (base_Has_ok hx3) rfl) ?_
      refine ts (not_ rfl) ?_
      refine rn ?_
      rcases ite h with ⟨c4, h⟩ | ⟨c4, h⟩
      · refine ct rfl (not_t (vf c4)) ?_
        refine sr ?_
        refine ts (ac rfl rfl) ?_
        refine rn ?_
        refine CWp.ret ?_
        obtain rfl := some_inj h
        exact ⟨rfl, rt1 (ex := false) (by exact (.t rfl .n)) (by exact (gd (by rfl))) (by rfl) (by rfl)⟩
      · refine cf rfl (not_f (Classical.not_not.1 c4)) ?_
        refine CWp.skip ?_
        refine lr ?_
        refine ts (mv rfl) ?_
        refine ts (add rfl rfl) ?_
        refine ts (as_ rfl) ?_
        refine rn ?_
        obtain rfl := some_inj h
        exact ⟨rfl, (by (try simp only [List.length_set, copied_len]); exact trk (by kernel_rfl) (by kernel_rfl) (by kernel_rfl))⟩
    · refine cf rfl (bf c2) ?_
      refine CWp.exit ?_
      obtain rfl := some_inj h
      exact ⟨rfl, (by (try simp only [List.length_set, copied_len]); exact trk (by kernel_rfl) (by kernel_rfl) (by kernel_rfl))⟩
  · cases z5 with
    | inl v6 =>
      intro e s ht
      refine CWp.trim ht ?_
      refine sr ?_
      refine ts (ac rfl rfl) ?_
      refine rn ?_
      refine CWp.ret ?_
      obtain rfl := some_inj h
      exact ⟨trivial, rt1 (ex := false) (by exact (.t rfl .n)) (by exact (gd (by rfl))) (by rfl) (by rfl)⟩
    | inr r7 =>
      intro e s hr
      obtain rfl := some_inj h
      exact ⟨trivial, hr⟩
theorem ref15_Indexes_ok {p0 : (List Int)} {p1 : Int} {out : Out} {r : (List Int)} (h : ref15_Indexes p0 p1 = some r) : FunOk PP 39 [.d (.sl (p0.map dI)), .d (.int .i64 p1)] out ⟨.d (.sl (r.map dI)), []⟩ := by
  unfold ref15_Indexes at h
  refine fi Try.func39 rfl (by kernel_rfl) (by kernel_rfl) (by kernel_rfl) ?_
  refine sr ?_
  refine ts (ak.wk (x' := .sl (([] : List Int).map dI)) rfl) ?_
  refine rn ?_
  refine sr ?_
  refine ta (an (n := 0) lT23 rfl) ?_
  refine rn ?_
  refine CWp.seq ?_
  refine sr ?_
  refine ts (ac rfl rfl) ?_
  refine rn ?_
  obtain ⟨z8, hz8, h⟩ := bnd h
  refine lb (E := fun s1 => [(0, .d (.sl (p0.map dI))), (1, .d (.int .i64 s1.1)), (5, .ref ⟨out.length, 5, 0⟩ 0 s1.2.2.length s1.2.2.length), (6, .d (.int .i64 s1.2.1))]) (M := fun s1 => ⟨[((5, 0), .arr 1 false (s1.2.2.map dI))], out, []⟩) (E' := fun y => [(5, .ref ⟨out.length, 5, 0⟩ 0 y.length y.length)]) (M' := fun y => ⟨[((5, 0), .arr 1 false (y.map dI))], out, []⟩) hz8 (by (try simp only [List.length_set, copied_len]); exact trk (by kernel_rfl) (by kernel_rfl) (by kernel_rfl)) ?_ ?_
  · intro s1 ww h
    unfold ref15_Indexes.s1 at h
    refine CWp.seq ?_
    refine sr ?_
    refine ts (mv rfl) ?_
    refine ts (mv rfl) ?_
    refine ts (lnD lT23 rfl rfl) ?_
    refine ts (lss rfl rfl) ?_
    refine rn ?_
    rcases ite h with ⟨c2, h⟩ | ⟨c2, h⟩
    · refine ct rfl (bt c2) ?_
      refine CWp.skip ?_
      refine CWp.seq ?_
      refine CWp.block ?_
      refine sr ?_
      refine ts (mv rfl) ?_
      refine ts (mv rfl) ?_
      refine ts (mv rfl) ?_
      refine ts (mv rfl) ?_
      obtain ⟨x3, hx3, h⟩ := bnd h
      refine ts (ixD lT23 szI rfl rfl hx3) ?_
      refine ts (ldI sT3 rfl rfl) ?_
      obtain ⟨x4, hx4, h⟩ := bnd h
      refine ts (rem_ rfl rfl hx4) ?_
      refine ts (bsT (l := (([x4] : List Int).map dI)) lT23 rfl rfl rfl (by kernel_rfl)) ?_
      obtain ⟨x5, hx5, h⟩ := bnd h
      refine tp (apG (ys := ([x4] : List Int)) (xs := s1.2.2) (f := dI) lT23 uT23 szI rfl rfl rfl elT (ow rfl) hx5 (so .h)) ?_
      refine ts (as_ rfl) ?_
      refine rn ?_
      refine lr ?_
      refine ts (mv rfl) ?_
      refine ts (mv rfl) ?_
      refine ts (mv rfl) ?_
      obtain ⟨x6, hx6, h⟩ := bnd h
      refine ts (ixD lT23 szI rfl rfl hx6) ?_
      refine ts (ldI sT3 rfl rfl) ?_
      obtain ⟨x7, hx7, h⟩ := bnd h
      refine ts (quo_ rfl rfl hx7) ?_
      refine ts (as_ rfl) ?_
      refine rn ?_
      refine lr ?_
      refine ts (mv rfl) ?_
      refine ts (add rfl rfl) ?_
      refine ts (as_ rfl) ?_
      refine rn ?_
      obtain rfl := some_inj h
      exact ⟨rfl, (by (try simp only [List.length_set, copied_len]); exact trk (by kernel_rfl) (by kernel_rfl) (by kernel_rfl))⟩
    · refine cf rfl (bf c2) ?_
      refine CWp.exit ?_
      obtain rfl := some_inj h
      exact ⟨rfl, (by (try simp only [List.length_set, copied_len]); exact trk (by kernel_rfl) (by kernel_rfl) (by kernel_rfl))⟩
  · intro e s ht
    refine CWp.trim ht ?_
    refine sr ?_
    refine ts (mv rfl) ?_
    refine ts (as_ rfl) ?_
    refine rn ?_
    refine CWp.ret ?_
    obtain rfl := some_inj h
    exact ⟨trivial, rt1 (ex := false) (by exact (.t rfl .n)) (by exact (gf rfl rfl)) (by rfl) (by rfl)⟩
theorem ref15_Place_ok {p0 : (List Int)} {p1 : (List Int)} {out : Out} {r : Int} (h : ref15_Place p0 p1 = some r) : FunOk PP 40 [.d (.sl (p0.map dI)), .d (.sl (p1.map dI))] out ⟨.d (.int .i64 r), []⟩ := by
  unfold ref15_Place at h
  refine fi Try.func40 rfl (by kernel_rfl) (by kernel_rfl) (by kernel_rfl) ?_
  refine sr ?_
  refine ts (ac rfl rfl) ?_
  refine rn ?_
  refine sr ?_
  refine ts (ac rfl rfl) ?_
  refine rn ?_
  refine CWp.seq ?_
  refine sr ?_
  refine ts (mv rfl) ?_
  refine ts (lnD lT23 rfl rfl) ?_
  refine ts (sub rfl rfl) ?_
  refine ts (as_ rfl) ?_
  refine rn ?_
  obtain ⟨z5, hz5, h⟩ := bnd h
  refine lb (E := fun s1 => [(0, .d (.sl (p0.map dI))), (1, .d (.sl (p1.map dI))), (5, .d (.int .i64 s1.1)), (6, .d (.int .i64 s1.2))]) (M := fun s1 => ⟨[], out, []⟩) (E' := fun y => [(5, .d (.int .i64 y))]) (M' := fun y => ⟨[], out, []⟩) hz5 (by (try simp only [List.length_set, copied_len]); exact trk (by kernel_rfl) (by kernel_rfl) (by kernel_rfl)) ?_ ?_
  · intro s1 ww h
    unfold ref15_Place.s1 at h
    refine CWp.seq ?_
    refine sr ?_
    refine ts (mv rfl) ?_
    refine ts (geq rfl rfl) ?_
    refine rn ?_
    rcases ite h with ⟨c2, h⟩ | ⟨c2, h⟩
    · refine ct rfl (bt c2) ?_
      refine CWp.skip ?_
      refine CWp.seq ?_
      refine CWp.block ?_
      refine ld_ mixed (b := [0, 0, 0, 6, 14, 31, 0, 0, 192, 448, 1023, 2047]) (by kernel_rfl) ?_
      refine ds (mv rfl) rfl ?_
      refine ds (mv rfl) rfl ?_
      refine ds (mv rfl) rfl ?_
      obtain ⟨x3, hx3, h⟩ := bnd h
      refine ds (ixD lT23 szI rfl rfl hx3) rfl ?_
      refine ds (ldI sT3 rfl rfl) rfl ?_
      refine ds (mul rfl rfl) rfl ?_
      refine ds (mv rfl) rfl ?_
      refine ds (mv rfl) rfl ?_
      obtain ⟨x4, hx4, h⟩ := bnd h
      refine ds (ixD lT23 szI rfl rfl hx4) rfl ?_
      refine ds (ldI sT3 rfl rfl) rfl ?_
      refine ds (add rfl rfl) rfl ?_
      refine ds (as_ rfl) rfl ?_
      refine dn (by kernel_rfl) ?_
      refine lr ?_
      refine ts (mv rfl) ?_
      refine ts (sub rfl rfl) ?_
      refine ts (as_ rfl) ?_
      refine rn ?_
      obtain rfl := some_inj h
      exact ⟨rfl, (by (try simp only [List.length_set, copied_len]); exact trk (by kernel_rfl) (by kernel_rfl) (by kernel_rfl))⟩
    · refine cf rfl (bf c2) ?_
      refine CWp.exit ?_
      obtain rfl := some_inj h
      exact ⟨rfl, (by (try simp only [List.length_set, copied_len]); exact trk (by kernel_rfl) (by kernel_rfl) (by kernel_rfl))⟩
  · intro e s ht
    refine CWp.trim ht ?_
    refine sr ?_
    refine ts (mv rfl) ?_
    refine ts (as_ rfl) ?_
    refine rn ?_
    refine CWp.ret ?_
    obtain rfl := some_inj h
    exact ⟨trivial, rt1 (ex := false) (by exact (.t rfl .n)) (by exact (gd (by rfl))) (by rfl) (by rfl)⟩
theorem ref15_Of_ok {p0 : (List Int)} {p1 : (List Int)} {out : Out} {r : api_Array} (h : ref15_Of p0 p1 = some r) : FunOk PP 41 [.d (.sl (p0.map dI)), .d (.sl (p1.map dI))] out ⟨.d (api_Array.d r), []⟩ := by
  unfold ref15_Of at h
  refine fi Try.func41 rfl (by kernel_rfl) (by kernel_rfl) (by kernel_rfl) ?_
  refine sr ?_
  refine ta (al (n := 0) zT25 rfl) ?_
  refine rn ?_
  refine sr ?_
  refine ts (mv rfl) ?_
  refine ts (bld (v := .d (.agg [.nilsl, .sl (p1.map dI)])) rfl (by kernel_rfl)) ?_
  refine ta (al (n := 0) zT25 rfl) ?_
  refine gz (Le.nilBox (t := 5) (n := 0) (t' := 1100) (n' := 0) (off := 0) (sz := 2) rfl rfl rfl rfl) ?_
  refine tt0 (stW aT25 rfl rfl rfl rfl rfl rfl (.s rfl .h)) ?_
  refine gz (Le.nilBox (t := 5) (n := 0) (t' := 1100) (n' := 1) (off := 0) (sz := 2) rfl rfl rfl rfl) ?_
  refine rn ?_
  refine CWp.seq ?_
  refine sr ?_
  refine ts (ac rfl rfl) ?_
  refine rn ?_
  obtain ⟨z5, hz5, h⟩ := bnd h
  refine lb (E := fun s1 => [(0, .d (.sl (p0.map dI))), (4, .bptr ⟨out.length, 4, 0⟩ 0), (5, .bptr ⟨out.length, 5, 0⟩ 0), (6, .d (.int .i64 s1.1))]) (M := fun s1 => ⟨[((4, 0), .box [.d .nilsl, .d .nilsl]), ((5, 0), .box [.ref ⟨out.length, 1100, 1⟩ 0 s1.2.length s1.2.length, .d (.sl (p1.map dI))]), ((1100, 1), .arr 2 false (s1.2.map api_Bound.d))], out, []⟩) (E' := fun y => [(4, .bptr ⟨out.length, 4, 0⟩ 0), (5, .bptr ⟨out.length, 5, 0⟩ 0)]) (M' := fun y => ⟨[((4, 0), .box [.d .nilsl, .d .nilsl]), ((5, 0), .box [.ref ⟨out.length, 1100, 1⟩ 0 y.length y.length, .d (.sl (p1.map dI))]), ((1100, 1), .arr 2 false (y.map api_Bound.d))], out, []⟩) hz5 (by (try simp only [List.length_set, copied_len]); exact trk (by kernel_rfl) (by kernel_rfl) (by kernel_rfl)) ?_ ?_
  · intro s1 ww h
    unfold ref15_Of.s1 at h
    refine CWp.seq ?_
    refine sr ?_
    refine ts (mv rfl) ?_
    refine ts (mv rfl) ?_
    refine ts (lnD lT23 rfl rfl) ?_
    refine ts (lss rfl rfl) ?_
    refine rn ?_
    rcases ite h with ⟨c2, h⟩ | ⟨c2, h⟩
    · refine ct rfl (bt c2) ?_
      refine CWp.skip ?_
      refine CWp.seq ?_
      refine CWp.block ?_
      refine ld_ mixed (b := [0, 1, 0, 0, 12, 28, 60, 124, 255, 511, 1023]) (by kernel_rfl) ?_
      refine ds (fa fT25_0 rfl rfl) rfl ?_
      refine dr (ld sT22 rfl (ow rfl) rfl) rfl ?_
      refine ds (mv rfl) rfl ?_
      refine ds (mv rfl) rfl ?_
      obtain ⟨x3, hx3, h⟩ := bnd h
      refine ds (ixD lT23 szI rfl rfl hx3) rfl ?_
      refine ds (ldI sT3 rfl rfl) rfl ?_
      refine ds (bld (v := .d (api_Bound.d (api_Bound.mk 1 x3))) rfl (by kernel_rfl)) rfl ?_
      refine ds (bsT (l := (([(api_Bound.mk 1 x3)] : List api_Bound).map api_Bound.d)) lT22 rfl rfl rfl (by kernel_rfl)) rfl ?_
      obtain ⟨x4, hx4, h⟩ := bnd h
      refine dt (apGn (ys := ([(api_Bound.mk 1 x3)] : List api_Bound)) (xs := s1.2) (f := api_Bound.d) lT22 uT22 api_Bound.sz rfl rfl rfl elT (ow rfl) hx4 (so (.s rfl (.s rfl .h))) rfl) rfl ?_
      refine ds (fa fT25_0 rfl rfl) rfl ?_
      refine dt0 (st sT22 rfl rfl rfl rfl .h (.s rfl .h)) rfl ?_
      refine dn (by kernel_rfl) ?_
      refine lr ?_
      refine ts (mv rfl) ?_
      refine ts (add rfl rfl) ?_
      refine ts (as_ rfl) ?_
      refine rn ?_
      obtain rfl := some_inj h
      exact ⟨rfl, (by (try simp only [List.length_set, copied_len]); exact trk (by kernel_rfl) (by kernel_rfl) (by kernel_rfl))⟩
    · refine cf rfl (bf c2) ?_
      refine CWp.exit ?_
      obtain rfl := some_inj h
      exact ⟨rfl, (by (try simp only [List.length_set, copied_len]); exact trk (by kernel_rfl) (by kernel_rfl) (by kernel_rfl))⟩
  · intro e s ht
    refine CWp.trim ht ?_
    refine sr ?_
    refine ts (ldA (v := .agg [.ref ⟨out.length, 1100, 1⟩ 0 z5.length z5.length, .d (.sl (p1.map dI))]) aT25 rfl (ow rfl) (by kernel_rfl)) ?_
    refine tt0 (stW aT25 rfl rfl rfl rfl rfl rfl .h) ?_
    refine rn ?_
    refine CWp.ret ?_
    obtain rfl := some_inj h
    exact ⟨trivial, rt1 (ex := false) (by exact (rcA (v := .agg [.ref ⟨out.length, 1100, 1⟩ 0 z5.length z5.length, .d (.sl (p1.map dI))]) aT25 rfl (ow rfl) (by kernel_rfl) .n)) (by exact (ga (sc (gf rfl rfl) (sc (gd (by rfl)) sn)) rfl)) (by rfl) (by rfl)⟩
theorem ref15_Reshaped_ok {p0 : api_Array} {p1 : api_Reshape} {out : Out} {r : api_Array × Int} (h : ref15_Reshaped p0 p1 = some r) : FunOk PP 10 [.d (api_Array.d p0), .d (api_Reshape.d p1)] out ⟨.tup [.d (api_Array.d r.1), .d (.int .i64 r.2)], []⟩ := by
  unfold ref15_Reshaped at h
  refine fi Try.func10 rfl (by kernel_rfl) (by kernel_rfl) (by kernel_rfl) ?_
  refine sr ?_
  refine ts (bxI rfl) ?_
  refine ts (bxI rfl) ?_
  refine ta (al (n := 0) zT25 rfl) ?_
  refine ts (ac rfl rfl) ?_
  refine rn ?_
  refine CWp.seq ?_
  refine sr ?_
  refine ts (ldIW aT25 rfl rfl rfl) ?_
  obtain ⟨x1, hx1, h⟩ := bnd h
  refine ts (cln (f := fun _ => false) kf rfl (.c rfl le1 .n) (curOf_nil _) (ref15_Err_ok hx1) rfl) ?_
  refine ts (as_ rfl) ?_
  refine rn ?_
  refine sr ?_
  refine ts (mv rfl) ?_
  refine ts (neq rfl rfl) ?_
  refine rn ?_
  rcases ite h with ⟨c2, h⟩ | ⟨c2, h⟩
  · refine ct rfl (nt c2) ?_
    refine sr ?_
    refine ts ((bld (v := .d (.agg [.nilsl, .nilsl])) rfl (by kernel_rfl)).wk (x' := api_Array.d (api_Array.mk [] [])) rfl) ?_
    refine ts (mv rfl) ?_
    refine tt0 (stW aT25 rfl rfl rfl rfl rfl rfl .h) ?_
    refine ts (as_ rfl) ?_
    refine rn ?_
    refine CWp.ret ?_
    obtain rfl := some_inj h
    exact ⟨trivial, rt2 (ex := false) (by exact (rcW aT25 rfl (ow rfl) rfl rfl (.t rfl .n))) (by exact (sc (gd (by rfl)) (sc (gd (by rfl)) sn))) (by rfl) (by rfl)⟩
  · refine cf rfl (nf c2) ?_
    refine CWp.skip ?_
    refine CWp.seq ?_
    refine sr ?_
    refine ts (faI fT27_0 rfl rfl) ?_
    refine ts (ldI sT23 rfl rfl) ?_
    refine ts (lnD lT23 rfl rfl) ?_
    refine ts (gtr rfl rfl) ?_
    refine rn ?_
    rcases ite h with ⟨c3, h⟩ | ⟨c3, h⟩
    · refine ct rfl (bt c3) ?_
      refine sr ?_
      refine ts ((bld (v := .d (.agg [.nilsl, .nilsl])) rfl (by kernel_rfl)).wk (x' := api_Array.d (api_Array.mk [] [])) rfl) ?_
      refine tt0 (stW aT25 rfl rfl rfl rfl rfl rfl .h) ?_
      refine ts (ac rfl rfl) ?_
      refine rn ?_
      refine CWp.ret ?_
      obtain rfl := some_inj h
      exact ⟨trivial, rt2 (ex := false) (by exact (rcW aT25 rfl (ow rfl) rfl rfl (.t rfl .n))) (by exact (sc (gd (by rfl)) (sc (gd (by rfl)) sn))) (by rfl) (by rfl)⟩
    · refine cf rfl (bf c3) ?_
      refine CWp.skip ?_
      refine CWp.seq ?_
      refine sr ?_
      refine ts (ac rfl rfl) ?_
      refine rn ?_
      obtain ⟨z8, hz8, h⟩ := bnd h
      refine lbr (E := fun s4 => [(2, .pimm (api_Array.d p0) 0), (3, .pimm (api_Reshape.d p1) 0), (4, .bptr ⟨out.length, 4, 0⟩ 0), (7, .d (.int .i64 s4))]) (M := fun s4 => ⟨[((4, 0), .box [.d .nilsl, .d .nilsl])], out, []⟩) (E' := fun y => [(2, .pimm (api_Array.d p0) 0), (3, .pimm (api_Reshape.d p1) 0), (4, .bptr ⟨out.length, 4, 0⟩ 0)]) (M' := fun y => ⟨[((4, 0), .box [.d .nilsl, .d .nilsl])], out, []⟩) (RT := fun r e s => Lx.Returns PP Try.f10.results.toList e s ⟨.tup [.d (api_Array.d r.1), .d (.int .i64 r.2)], []⟩) hz8 (by (try simp only [List.length_set, copied_len]); exact trk (by kernel_rfl) (by kernel_rfl) (by kernel_rfl)) ?_ ?_
      · intro s4 ww h
        unfold ref15_Reshaped.s1 at h
        refine CWp.seq ?_
        refine sr ?_
        refine ts (mv rfl) ?_
        refine ts (faI fT27_0 rfl rfl) ?_
        refine ts (ldI sT23 rfl rfl) ?_
        refine ts (lnD lT23 rfl rfl) ?_
        refine ts (lss rfl rfl) ?_
        refine rn ?_
        rcases ite h with ⟨c5, h⟩ | ⟨c5, h⟩
        · refine ct rfl (bt c5) ?_
          refine CWp.skip ?_
          refine CWp.seq ?_
          refine CWp.block ?_
          refine sr ?_
          refine ts (faI fT27_0 rfl rfl) ?_
          refine ts (ldI sT23 rfl rfl) ?_
          refine ts (mv rfl) ?_
          obtain ⟨x6, hx6, h⟩ := bnd h
          refine ts (ixD lT23 szI rfl rfl hx6) ?_
          refine ts (ldI sT3 rfl rfl) ?_
          refine ts (cln (f := fun _ => false) kf rfl (.c rfl le1 (.c rfl le1 (.c rfl le1 .n))) (curOf_nil _) (base_Within_ok (rfl : base_Within x6 0 512 = _)) rfl) ?_
          refine ts (not_ rfl) ?_
          refine rn ?_
          rcases ite h with ⟨c7, h⟩ | ⟨c7, h⟩
          · refine ct rfl (not_t (vf c7)) ?_
            refine sr ?_
            refine ts ((bld (v := .d (.agg [.nilsl, .nilsl])) rfl (by kernel_rfl)).wk (x' := api_Array.d (api_Array.mk [] [])) rfl) ?_
            refine tt0 (stW aT25 rfl rfl rfl rfl rfl rfl .h) ?_
            refine ts (ac rfl rfl) ?_
            refine rn ?_
            refine CWp.ret ?_
            obtain rfl := some_inj h
            exact ⟨rfl, rt2 (ex := false) (by exact (rcW aT25 rfl (ow rfl) rfl rfl (.t rfl .n))) (by exact (sc (gd (by rfl)) (sc (gd (by rfl)) sn))) (by rfl) (by rfl)⟩
          · refine cf rfl (not_f (Classical.not_not.1 c7)) ?_
            refine CWp.skip ?_
            refine lr ?_
            refine ts (mv rfl) ?_
            refine ts (add rfl rfl) ?_
            refine ts (as_ rfl) ?_
            refine rn ?_
            obtain rfl := some_inj h
            exact ⟨rfl, (by (try simp only [List.length_set, copied_len]); exact trk (by kernel_rfl) (by kernel_rfl) (by kernel_rfl))⟩
        · refine cf rfl (bf c5) ?_
          refine CWp.exit ?_
          obtain rfl := some_inj h
          exact ⟨rfl, (by (try simp only [List.length_set, copied_len]); exact trk (by kernel_rfl) (by kernel_rfl) (by kernel_rfl))⟩
      · cases z8 with
        | inl v9 =>
          intro e s ht
          refine CWp.trim ht ?_
          refine sr ?_
          refine ts (faI fT27_0 rfl rfl) ?_
          refine ts (ldI sT23 rfl rfl) ?_
          obtain ⟨x10, hx10, h⟩ := bnd h
          refine ts (cln (f := fun _ => false) kf rfl (.c rfl le1 .n) (curOf_nil _) (ref15_Product_ok hx10) rfl) ?_
          refine ts (as_ rfl) ?_
          refine rn ?_
          refine CWp.seq ?_
          refine sr ?_
          refine ts (mv rfl) ?_
          refine ts (gtr rfl rfl) ?_
          refine rn ?_
          rcases ite h with ⟨c11, h⟩ | ⟨c11, h⟩
          · refine ct rfl (bt c11) ?_
            refine sr ?_
            refine ts ((bld (v := .d (.agg [.nilsl, .nilsl])) rfl (by kernel_rfl)).wk (x' := api_Array.d (api_Array.mk [] [])) rfl) ?_
            refine tt0 (stW aT25 rfl rfl rfl rfl rfl rfl .h) ?_
            refine ts (ac rfl rfl) ?_
            refine rn ?_
            refine CWp.ret ?_
            obtain rfl := some_inj h
            exact ⟨trivial, rt2 (ex := false) (by exact (rcW aT25 rfl (ow rfl) rfl rfl (.t rfl .n))) (by exact (sc (gd (by rfl)) (sc (gd (by rfl)) sn))) (by rfl) (by rfl)⟩
          · refine cf rfl (bf c11) ?_
            refine CWp.skip ?_
            refine jn (E := fun a12 => [(2, .pimm (api_Array.d p0) 0), (3, .pimm (api_Reshape.d p1) 0), (4, .bptr ⟨out.length, 4, 0⟩ 0), (8, .d (.int .i64 x10))]) (M := fun a12 => ⟨[((4, 0), .box [.d .nilsl, .d .nilsl])], out, []⟩) (F := fun a12 => ref15_Reshaped.j2 p0 p1 x10 a12) (r := r) ?_ ?_
            · intro a12 h
              unfold ref15_Reshaped.j2 at h
              refine CWp.seq ?_
              refine sr ?_
              refine ts (faI fT27_2 rfl rfl) ?_
              refine ts (ldI sT23 rfl rfl) ?_
              refine ts (lnD lT23 rfl rfl) ?_
              refine ts (gtr rfl rfl) ?_
              refine rn ?_
              rcases ite h with ⟨c13, h⟩ | ⟨c13, h⟩
              · refine ct rfl (bt c13) ?_
                refine sr ?_
                refine ts ((bld (v := .d (.agg [.nilsl, .nilsl])) rfl (by kernel_rfl)).wk (x' := api_Array.d (api_Array.mk [] [])) rfl) ?_
                refine tt0 (stW aT25 rfl rfl rfl rfl rfl rfl .h) ?_
                refine ts (ac rfl rfl) ?_
                refine rn ?_
                refine CWp.ret ?_
                obtain rfl := some_inj h
                exact ⟨trivial, rt2 (ex := false) (by exact (rcW aT25 rfl (ow rfl) rfl rfl (.t rfl .n))) (by exact (sc (gd (by rfl)) (sc (gd (by rfl)) sn))) (by rfl) (by rfl)⟩
              · refine cf rfl (bf c13) ?_
                refine CWp.skip ?_
                refine CWp.seq ?_
                refine sr ?_
                refine ts (ac rfl rfl) ?_
                refine rn ?_
                obtain ⟨z18, hz18, h⟩ := bnd h
                refine lbr (E := fun s14 => [(2, .pimm (api_Array.d p0) 0), (3, .pimm (api_Reshape.d p1) 0), (4, .bptr ⟨out.length, 4, 0⟩ 0), (8, .d (.int .i64 x10)), (9, .d (.int .i64 s14))]) (M := fun s14 => ⟨[((4, 0), .box [.d .nilsl, .d .nilsl])], out, []⟩) (E' := fun y => [(2, .pimm (api_Array.d p0) 0), (3, .pimm (api_Reshape.d p1) 0), (4, .bptr ⟨out.length, 4, 0⟩ 0), (8, .d (.int .i64 x10))]) (M' := fun y => ⟨[((4, 0), .box [.d .nilsl, .d .nilsl])], out, []⟩) (RT := fun r e s => Lx.Returns PP Try.f10.results.toList e s ⟨.tup [.d (api_Array.d r.1), .d (.int .i64 r.2)], []⟩) hz18 (by (try simp only [List.length_set, copied_len]); exact trk (by kernel_rfl) (by kernel_rfl) (by kernel_rfl)) ?_ ?_
                · intro s14 ww h
                  unfold ref15_Reshaped.s3 at h
                  refine CWp.seq ?_
                  refine sr ?_
                  refine ts (mv rfl) ?_
                  refine ts (faI fT27_2 rfl rfl) ?_
                  refine ts (ldI sT23 rfl rfl) ?_
                  refine ts (lnD lT23 rfl rfl) ?_
                  refine ts (lss rfl rfl) ?_
                  refine rn ?_
                  rcases ite h with ⟨c15, h⟩ | ⟨c15, h⟩
                  · refine ct rfl (bt c15) ?_
                    refine CWp.skip ?_
                    refine CWp.seq ?_
                    refine CWp.block ?_
                    refine sr ?_
                    refine ts (faI fT27_2 rfl rfl) ?_
                    refine ts (ldI sT23 rfl rfl) ?_
                    refine ts (mv rfl) ?_
                    obtain ⟨x16, hx16, h⟩ := bnd h
                    refine ts (ixD lT23 szI rfl rfl hx16) ?_
                    refine ts (ldI sT3 rfl rfl) ?_
                    refine ts (cln (f := fun _ => false) kf rfl (.c rfl le1 .n) (curOf_nil _) (ref15_IsInteger_ok (rfl : ref15_IsInteger x16 = _)) rfl) ?_
                    refine ts (not_ rfl) ?_
                    refine rn ?_
                    rcases ite h with ⟨c17, h⟩ | ⟨c17, h⟩
                    · refine ct rfl (not_t (vf c17)) ?_
                      refine sr ?_
                      refine ts ((bld (v := .d (.agg [.nilsl, .nilsl])) rfl (by kernel_rfl)).wk (x' := api_Array.d (api_Array.mk [] [])) rfl) ?_
                      refine tt0 (stW aT25 rfl rfl rfl rfl rfl rfl .h) ?_
                      refine ts (ac rfl rfl) ?_
                      refine rn ?_
                      refine CWp.ret ?_
                      obtain rfl := some_inj h
                      exact ⟨rfl, rt2 (ex := false) (by exact (rcW aT25 rfl (ow rfl) rfl rfl (.t rfl .n))) (by exact (sc (gd (by rfl)) (sc (gd (by rfl)) sn))) (by rfl) (by rfl)⟩
                    · refine cf rfl (not_f (Classical.not_not.1 c17)) ?_
                      refine CWp.skip ?_
                      refine lr ?_
                      refine ts (mv rfl) ?_
                      refine ts (add rfl rfl) ?_
                      refine ts (as_ rfl) ?_
                      refine rn ?_
                      obtain rfl := some_inj h
                      exact ⟨rfl, (by (try simp only [List.length_set, copied_len]); exact trk (by kernel_rfl) (by kernel_rfl) (by kernel_rfl))⟩
                  · refine cf rfl (bf c15) ?_
                    refine CWp.exit ?_
                    obtain rfl := some_inj h
                    exact ⟨rfl, (by (try simp only [List.length_set, copied_len]); exact trk (by kernel_rfl) (by kernel_rfl) (by kernel_rfl))⟩
                · cases z18 with
                  | inl v19 =>
                    intro e s ht
                    refine CWp.trim ht ?_
                    refine CWp.seq ?_
                    refine sr ?_
                    refine ts (mv rfl) ?_
                    refine ts (faI fT25_1 rfl rfl) ?_
                    refine ts (ldI sT23 rfl rfl) ?_
                    refine ts (lnD lT23 rfl rfl) ?_
                    refine ts (gtr rfl rfl) ?_
                    refine ts (mv rfl) ?_
                    refine sg 5 [(102, .d (.bool ((decide (x10 > (p0.Elements.length : Int))) && ((p1.Pad.length : Int) == 0))))] ?_ ?_
                    · rcases bool_or (decide (x10 > (p0.Elements.length : Int))) with g20 | g21
                      · refine us (gy rfl rfl g20) (faI fT27_2 rfl rfl) ?_
                        refine us (gy rfl rfl g20) (ldI sT23 rfl rfl) ?_
                        refine us (gy rfl rfl g20) (lnD lT23 rfl rfl) ?_
                        refine us (gy rfl rfl g20) (eql rfl rfl) ?_
                        refine ts (pt rfl g20 rfl) ?_
                        exact rn (trD 5 rfl (.c (bq (and_t g20)) .n) (by kernel_rfl))
                      · refine un (gn rfl rfl g21) ?_
                        refine un (gn rfl rfl g21) ?_
                        refine un (gn rfl rfl g21) ?_
                        refine un (gn rfl rfl g21) ?_
                        refine ts (pf rfl g21 rfl) ?_
                        exact rn (trD 5 rfl (.c (bq (and_f g21)) .n) (by kernel_rfl))
                    refine rn ?_
                    rcases ite h with ⟨c22, h⟩ | ⟨c22, h⟩
                    · refine ct rfl c22 ?_
                      refine sr ?_
                      refine ts ((bld (v := .d (.agg [.nilsl, .nilsl])) rfl (by kernel_rfl)).wk (x' := api_Array.d (api_Array.mk [] [])) rfl) ?_
                      refine tt0 (stW aT25 rfl rfl rfl rfl rfl rfl .h) ?_
                      refine ts (ac rfl rfl) ?_
                      refine rn ?_
                      refine CWp.ret ?_
                      obtain rfl := some_inj h
                      exact ⟨trivial, rt2 (ex := false) (by exact (rcW aT25 rfl (ow rfl) rfl rfl (.t rfl .n))) (by exact (sc (gd (by rfl)) (sc (gd (by rfl)) sn))) (by rfl) (by rfl)⟩
                    · refine cf rfl (vf c22) ?_
                      refine CWp.skip ?_
                      refine sr ?_
                      refine ts (faI fT27_1 rfl rfl) ?_
                      refine ts (ldI sT23 rfl rfl) ?_
                      obtain ⟨x23, hx23, h⟩ := bnd h
                      refine ta (chn (f := fun _ => false) (n := 0) (v' := .ref ⟨out.length, 106, 0⟩ 0 x23.length x23.length) (bs := [((106, 0), .arr 1 false (x23.map dI))]) kf rfl (.c rfl le1 .n) (curOf_nil _) (base_CopyInts_ok hx23) rfl rfl (by simp [homeVal, homeVals])) ?_
                      refine ts (as_ rfl) ?_
                      refine rn ?_
                      refine CWp.seq ?_
                      refine sr ?_
                      refine ts (mv rfl) ?_
                      refine ts (lnR lT23 rfl rfl) ?_
                      refine ts (as_ rfl) ?_
                      refine rn ?_
                      obtain ⟨z27, hz27, h⟩ := bnd h
                      refine lb (E := fun s24 => [(2, .pimm (api_Array.d p0) 0), (3, .pimm (api_Reshape.d p1) 0), (4, .bptr ⟨out.length, 4, 0⟩ 0), (8, .d (.int .i64 x10)), (10, .ref ⟨out.length, 106, 0⟩ 0 s24.2.length s24.2.length), (11, .d (.int .i64 s24.1))]) (M := fun s24 => ⟨[((4, 0), .box [.d .nilsl, .d .nilsl]), ((106, 0), .arr 1 false (s24.2.map dI))], out, []⟩) (E' := fun y => [(2, .pimm (api_Array.d p0) 0), (3, .pimm (api_Reshape.d p1) 0), (4, .bptr ⟨out.length, 4, 0⟩ 0), (8, .d (.int .i64 x10)), (10, .ref ⟨out.length, 106, 0⟩ 0 y.length y.length)]) (M' := fun y => ⟨[((4, 0), .box [.d .nilsl, .d .nilsl]), ((106, 0), .arr 1 false (y.map dI))], out, []⟩) hz27 (by (try simp only [List.length_set, copied_len]); exact trk (by kernel_rfl) (by kernel_rfl) (by kernel_rfl)) ?_ ?_
                      · intro s24 ww h
                        unfold ref15_Reshaped.s4 at h
                        refine CWp.seq ?_
                        refine sr ?_
                        refine ts (mv rfl) ?_
                        refine ts (faI fT27_0 rfl rfl) ?_
                        refine ts (ldI sT23 rfl rfl) ?_
                        refine ts (lnD lT23 rfl rfl) ?_
                        refine ts (lss rfl rfl) ?_
                        refine rn ?_
                        rcases ite h with ⟨c25, h⟩ | ⟨c25, h⟩
                        · refine ct rfl (bt c25) ?_
                          refine CWp.skip ?_
                          refine CWp.seq ?_
                          refine CWp.block ?_
                          refine lr ?_
                          refine ts (mv rfl) ?_
                          refine ts (mv rfl) ?_
                          refine ts (add rfl rfl) ?_
                          refine ts (bsT (l := (([(w (s24.1 + 1))] : List Int).map dI)) lT23 rfl rfl rfl (by kernel_rfl)) ?_
                          obtain ⟨x26, hx26, h⟩ := bnd h
                          refine tp (apG (ys := ([(w (s24.1 + 1))] : List Int)) (xs := s24.2) (f := dI) lT23 uT23 szI rfl rfl rfl elT (ow rfl) hx26 (so (.s rfl .h))) ?_
                          refine ts (as_ rfl) ?_
                          refine rn ?_
                          refine lr ?_
                          refine ts (mv rfl) ?_
                          refine ts (add rfl rfl) ?_
                          refine ts (as_ rfl) ?_
                          refine rn ?_
                          obtain rfl := some_inj h
                          exact ⟨rfl, (by (try simp only [List.length_set, copied_len]); exact trk (by kernel_rfl) (by kernel_rfl) (by kernel_rfl))⟩
                        · refine cf rfl (bf c25) ?_
                          refine CWp.exit ?_
                          obtain rfl := some_inj h
                          exact ⟨rfl, (by (try simp only [List.length_set, copied_len]); exact trk (by kernel_rfl) (by kernel_rfl) (by kernel_rfl))⟩
                      · intro e s ht
                        refine CWp.trim ht ?_
                        refine sr ?_
                        refine ta (an (n := 0) lT23 rfl) ?_
                        refine rn ?_
                        refine CWp.seq ?_
                        refine sr ?_
                        refine ts (ac rfl rfl) ?_
                        refine rn ?_
                        obtain ⟨z33, hz33, h⟩ := bnd h
                        refine lb (E := fun s28 => [(2, .pimm (api_Array.d p0) 0), (3, .pimm (api_Reshape.d p1) 0), (4, .bptr ⟨out.length, 4, 0⟩ 0), (8, .d (.int .i64 x10)), (10, .ref ⟨out.length, 106, 0⟩ 0 z27.length z27.length), (12, .ref ⟨out.length, 12, 0⟩ 0 s28.2.length s28.2.length), (13, .d (.int .i64 s28.1))]) (M := fun s28 => ⟨[((4, 0), .box [.d .nilsl, .d .nilsl]), ((106, 0), .arr 1 false (z27.map dI)), ((12, 0), .arr 1 false (s28.2.map dI))], out, []⟩) (E' := fun y => [(2, .pimm (api_Array.d p0) 0), (3, .pimm (api_Reshape.d p1) 0), (4, .bptr ⟨out.length, 4, 0⟩ 0), (8, .d (.int .i64 x10)), (10, .ref ⟨out.length, 106, 0⟩ 0 z27.length z27.length), (12, .ref ⟨out.length, 12, 0⟩ 0 y.length y.length)]) (M' := fun y => ⟨[((4, 0), .box [.d .nilsl, .d .nilsl]), ((106, 0), .arr 1 false (z27.map dI)), ((12, 0), .arr 1 false (y.map dI))], out, []⟩) hz33 (by (try simp only [List.length_set, copied_len]); exact trk (by kernel_rfl) (by kernel_rfl) (by kernel_rfl)) ?_ ?_
                        · intro s28 ww h
                          unfold ref15_Reshaped.s5 at h
                          refine CWp.seq ?_
                          refine sr ?_
                          refine ts (mv rfl) ?_
                          refine ts (mv rfl) ?_
                          refine ts (lnR lT23 rfl rfl) ?_
                          refine ts (lss rfl rfl) ?_
                          refine rn ?_
                          rcases ite h with ⟨c29, h⟩ | ⟨c29, h⟩
                          · refine ct rfl (bt c29) ?_
                            refine CWp.skip ?_
                            refine CWp.seq ?_
                            refine CWp.block ?_
                            refine ld_ mixed (b := [0, 0, 2, 0, 0, 24, 56, 120, 254, 510, 1022, 2047, 4095]) (by kernel_rfl) ?_
                            refine ds (mv rfl) rfl ?_
                            refine ds (faI fT27_0 rfl rfl) rfl ?_
                            refine ds (ldI sT23 rfl rfl) rfl ?_
                            refine ds (mv rfl) rfl ?_
                            refine ds (mv rfl) rfl ?_
                            obtain ⟨x30, hx30, h⟩ := bnd h
                            refine dr (ixR lT23 rfl rfl rfl (ow rfl) hx30) rfl ?_
                            refine dr (ldE sT3 rfl rfl (ow rfl) hx30 rfl) rfl ?_
                            refine ds (sub rfl rfl) rfl ?_
                            obtain ⟨x31, hx31, h⟩ := bnd h
                            refine ds (ixD lT23 szI rfl rfl hx31) rfl ?_
                            refine ds (ldI sT3 rfl rfl) rfl ?_
                            refine ds (bsT (l := (([x31] : List Int).map dI)) lT23 rfl rfl rfl (by kernel_rfl)) rfl ?_
                            obtain ⟨x32, hx32, h⟩ := bnd h
                            refine dt (apGn (ys := ([x31] : List Int)) (xs := s28.2) (f := dI) lT23 uT23 szI rfl rfl rfl elT (ow rfl) hx32 (so (.s rfl (.s rfl .h))) rfl) rfl ?_
                            refine ds (as_ rfl) rfl ?_
                            refine dn (by kernel_rfl) ?_
                            refine lr ?_
                            refine ts (mv rfl) ?_
                            refine ts (add rfl rfl) ?_
                            refine ts (as_ rfl) ?_
                            refine rn ?_
                            obtain rfl := some_inj h
                            exact ⟨rfl, (by (try simp only [List.length_set, copied_len]); exact trk (by kernel_rfl) (by kernel_rfl) (by kernel_rfl))⟩
                          · refine cf rfl (bf c29) ?_
                            refine CWp.exit ?_
                            obtain rfl := some_inj h
                            exact ⟨rfl, (by (try simp only [List.length_set, copied_len]); exact trk (by kernel_rfl) (by kernel_rfl) (by kernel_rfl))⟩
                        · intro e s ht
                          refine CWp.trim ht ?_
                          refine sr ?_
                          refine ts (mv rfl) ?_
                          obtain ⟨x34, hx34, h⟩ := bnd h
                          refine ta (ms_ (f := dI) (a := 0) (nn := 0) lT23 rfl rfl hx34 rfl) ?_
                          refine ts (as_ rfl) ?_
                          refine rn ?_
                          refine CWp.seq ?_
                          refine sr ?_
                          refine ts (ac rfl rfl) ?_
                          refine rn ?_
                          refine CWp.trim (Le.lent (t := 12) (n := 0) rfl (.s rfl (.s rfl (.s rfl .h)))) ?_
                          obtain ⟨z54, hz54, h⟩ := bnd h
                          refine lb (E := fun s35 => [(2, .pimm (api_Array.d p0) 0), (3, .pimm (api_Reshape.d p1) 0), (4, .bptr ⟨out.length, 4, 0⟩ 0), (8, .d (.int .i64 x10)), (10, .ref ⟨out.length, 106, 0⟩ 0 z27.length z27.length), (12, .ref ⟨out.length, 12, 0⟩ 0 z33.length z33.length), (14, .ref ⟨out.length, 140, 0⟩ 0 s35.2.length s35.2.length), (15, .d (.int .i64 s35.1))]) (M := fun s35 => ⟨[((4, 0), .box [.d .nilsl, .d .nilsl]), ((106, 0), .arr 1 false (z27.map dI)), ((12, 0), .arr 1 true (z33.map dI)), ((140, 0), .arr 1 false (s35.2.map dI))], out, []⟩) (E' := fun y => [(3, .pimm (api_Reshape.d p1) 0), (4, .bptr ⟨out.length, 4, 0⟩ 0), (14, .ref ⟨out.length, 140, 0⟩ 0 y.length y.length)]) (M' := fun y => ⟨[((4, 0), .box [.d .nilsl, .d .nilsl]), ((140, 0), .arr 1 false (y.map dI))], out, []⟩) hz54 (by (try simp only [List.length_set, copied_len]); exact trk (by kernel_rfl) (by kernel_rfl) (by kernel_rfl)) ?_ ?_
                          · intro s35 ww h
                            unfold ref15_Reshaped.s6 at h
                            refine CWp.seq ?_
                            refine sr ?_
                            refine ts (mv rfl) ?_
                            refine ts (mv rfl) ?_
                            refine ts (lss rfl rfl) ?_
                            refine rn ?_
                            rcases ite h with ⟨c36, h⟩ | ⟨c36, h⟩
                            · refine ct rfl (bt c36) ?_
                              refine CWp.skip ?_
                              refine CWp.seq ?_
                              refine CWp.block ?_
                              refine sr ?_
                              refine ts (mv rfl) ?_
                              refine ts (mv rfl) ?_
                              obtain ⟨x37, hx37, h⟩ := bnd h
                              refine ts (cln (f := fun _ => false) kf rfl (.c rfl (le3 rfl (ow rfl)) (.c rfl le1 .n)) (curOf_nil _) (ref15_Indexes_ok hx37) rfl) ?_
                              refine ts (as_ rfl) ?_
                              refine rn ?_
                              refine sr ?_
                              refine ts (mv rfl) ?_
                              refine ts (lnD lT23 rfl rfl) ?_
                              obtain ⟨x38, hx38, h⟩ := bnd h
                              refine ta (ms_ (f := dI) (a := 0) (nn := 0) lT23 rfl rfl hx38 rfl) ?_
                              refine ts (as_ rfl) ?_
                              refine rn ?_
                              refine CWp.seq ?_
                              refine sr ?_
                              refine ts (ac rfl rfl) ?_
                              refine rn ?_
                              obtain ⟨z44, hz44, h⟩ := bnd h
                              refine lb (E := fun s39 => [(2, .pimm (api_Array.d p0) 0), (3, .pimm (api_Reshape.d p1) 0), (4, .bptr ⟨out.length, 4, 0⟩ 0), (8, .d (.int .i64 x10)), (10, .ref ⟨out.length, 106, 0⟩ 0 z27.length z27.length), (12, .ref ⟨out.length, 12, 0⟩ 0 z33.length z33.length), (14, .ref ⟨out.length, 140, 0⟩ 0 s35.2.length s35.2.length), (15, .d (.int .i64 s35.1)), (16, .d (.sl (x37.map dI))), (17, .ref ⟨out.length, 151, 0⟩ 0 s39.2.length s39.2.length), (18, .d (.int .i64 s39.1))]) (M := fun s39 => ⟨[((4, 0), .box [.d .nilsl, .d .nilsl]), ((106, 0), .arr 1 false (z27.map dI)), ((12, 0), .arr 1 true (z33.map dI)), ((140, 0), .arr 1 false (s35.2.map dI)), ((151, 0), .arr 1 false (s39.2.map dI))], out, []⟩) (E' := fun y => [(2, .pimm (api_Array.d p0) 0), (3, .pimm (api_Reshape.d p1) 0), (4, .bptr ⟨out.length, 4, 0⟩ 0), (8, .d (.int .i64 x10)), (10, .ref ⟨out.length, 106, 0⟩ 0 z27.length z27.length), (12, .ref ⟨out.length, 12, 0⟩ 0 z33.length z33.length), (14, .ref ⟨out.length, 140, 0⟩ 0 s35.2.length s35.2.length), (15, .d (.int .i64 s35.1)), (17, .ref ⟨out.length, 151, 0⟩ 0 y.length y.length)]) (M' := fun y => ⟨[((4, 0), .box [.d .nilsl, .d .nilsl]), ((106, 0), .arr 1 false (z27.map dI)), ((12, 0), .arr 1 true (z33.map dI)), ((140, 0), .arr 1 false (s35.2.map dI)), ((151, 0), .arr 1 false (y.map dI))], out, []⟩) hz44 (by (try simp only [List.length_set, copied_len]); exact trk (by kernel_rfl) (by kernel_rfl) (by kernel_rfl)) ?_ ?_
                              · intro s39 ww h
                                unfold ref15_Reshaped.s7 at h
                                refine CWp.seq ?_
                                refine sr ?_
                                refine ts (mv rfl) ?_
                                refine ts (mv rfl) ?_
                                refine ts (lnD lT23 rfl rfl) ?_
                                refine ts (lss rfl rfl) ?_
                                refine rn ?_
                                rcases ite h with ⟨c40, h⟩ | ⟨c40, h⟩
                                · refine ct rfl (bt c40) ?_
                                  refine CWp.skip ?_
                                  refine CWp.seq ?_
                                  refine CWp.block ?_
                                  refine ld_ mixed (b := [0, 0, 0, 6, 14, 30, 0, 0, 192, 448, 1023, 2047]) (by kernel_rfl) ?_
                                  refine ds (mv rfl) rfl ?_
                                  refine ds (mv rfl) rfl ?_
                                  refine ds (mv rfl) rfl ?_
                                  obtain ⟨x41, hx41, h⟩ := bnd h
                                  refine dr (ixR lT23 rfl rfl rfl (ow rfl) hx41) rfl ?_
                                  refine dr (ldE sT3 rfl rfl (ow rfl) hx41 rfl) rfl ?_
                                  refine ds (sub rfl rfl) rfl ?_
                                  refine ds (mv rfl) rfl ?_
                                  refine ds (mv rfl) rfl ?_
                                  obtain ⟨x42, hx42, h⟩ := bnd h
                                  refine ds (ixD lT23 szI rfl rfl hx42) rfl ?_
                                  refine ds (ldI sT3 rfl rfl) rfl ?_
                                  obtain ⟨x43, hx43, h⟩ := bnd h
                                  refine dr (ixR lT23 rfl rfl rfl (ow rfl) hx43) rfl ?_
                                  refine dt0 (stE (b := x42) sT3 rfl rfl rfl rfl rfl hx43 rfl rfl (.s rfl (.s rfl (.s rfl (.s rfl .h))))) rfl ?_
                                  refine dn (by kernel_rfl) ?_
                                  refine lr ?_
                                  refine ts (mv rfl) ?_
                                  refine ts (add rfl rfl) ?_
                                  refine ts (as_ rfl) ?_
                                  refine rn ?_
                                  obtain rfl := some_inj h
                                  exact ⟨rfl, (by (try simp only [List.length_set, copied_len]); exact trk (by kernel_rfl) (by kernel_rfl) (by kernel_rfl))⟩
                                · refine cf rfl (bf c40) ?_
                                  refine CWp.exit ?_
                                  obtain rfl := some_inj h
                                  exact ⟨rfl, (by (try simp only [List.length_set, copied_len]); exact trk (by kernel_rfl) (by kernel_rfl) (by kernel_rfl))⟩
                              · intro e s ht
                                refine CWp.trim ht ?_
                                refine sr ?_
                                refine ts (ac rfl rfl) ?_
                                refine rn ?_
                                refine CWp.seq ?_
                                refine sr ?_
                                refine ts (mv rfl) ?_
                                refine ts (faI fT25_1 rfl rfl) ?_
                                refine ts (ldI sT23 rfl rfl) ?_
                                refine ts (lnD lT23 rfl rfl) ?_
                                refine ts (lss rfl rfl) ?_
                                refine rn ?_
                                rcases ite h with ⟨c45, h⟩ | ⟨c45, h⟩
                                · refine ct rfl (bt c45) ?_
                                  refine lr ?_
                                  refine ts (faI fT25_1 rfl rfl) ?_
                                  refine ts (ldI sT23 rfl rfl) ?_
                                  refine ts (mv rfl) ?_
                                  obtain ⟨x46, hx46, h⟩ := bnd h
                                  refine ts (ixD lT23 szI rfl rfl hx46) ?_
                                  refine ts (ldI sT3 rfl rfl) ?_
                                  refine ts (as_ rfl) ?_
                                  refine rn ?_
                                  refine lr ?_
                                  refine ts (mv rfl) ?_
                                  refine ts (faI fT27_0 rfl rfl) ?_
                                  refine ts (ldI sT23 rfl rfl) ?_
                                  refine ts (mv rfl) ?_
                                  obtain ⟨x47, hx47, h⟩ := bnd h
                                  refine tt (cll (f := fun _ => false) kf rfl (.c rfl le1 (.w rfl (leG4 rfl (ow rfl) (so (.s rfl (.s rfl (.s rfl (.s rfl .h)))))) .n)) (curOf_nil _) (ref15_Place_ok hx47) rfl) ?_
                                  refine ts (mv rfl) ?_
                                  obtain ⟨x48, hx48, h⟩ := bnd h
                                  refine ts (ixR lT23 rfl rfl rfl (ow rfl) hx48) ?_
                                  refine tt0 (stE (b := x46) sT3 rfl rfl rfl rfl rfl hx48 rfl rfl (.s rfl (.s rfl (.s rfl .h)))) ?_
                                  refine rn ?_
                                  refine lr ?_
                                  refine ts (mv rfl) ?_
                                  refine ts (add rfl rfl) ?_
                                  refine ts (as_ rfl) ?_
                                  refine rn ?_
                                  obtain rfl := some_inj h
                                  exact ⟨rfl, (by (try simp only [List.length_set, copied_len]); exact trk (by kernel_rfl) (by kernel_rfl) (by kernel_rfl))⟩
                                · refine cf rfl (bf c45) ?_
                                  refine ld_ mixed (b := [0, 1, 0, 0, 8, 24, 60, 0, 128, 384, 1020, 2047, 4095, 8191]) (by kernel_rfl) ?_
                                  refine ds (faI fT27_2 rfl rfl) rfl ?_
                                  refine ds (ldI sT23 rfl rfl) rfl ?_
                                  refine ds (mv rfl) rfl ?_
                                  refine ds (faI fT25_1 rfl rfl) rfl ?_
                                  refine ds (ldI sT23 rfl rfl) rfl ?_
                                  refine ds (lnD lT23 rfl rfl) rfl ?_
                                  refine ds (sub rfl rfl) rfl ?_
                                  refine ds (faI fT27_2 rfl rfl) rfl ?_
                                  refine ds (ldI sT23 rfl rfl) rfl ?_
                                  refine ds (lnD lT23 rfl rfl) rfl ?_
                                  obtain ⟨x49, hx49, h⟩ := bnd h
                                  refine ds (rem_ rfl rfl hx49) rfl ?_
                                  obtain ⟨x50, hx50, h⟩ := bnd h
                                  refine ds (ixD lT23 szI rfl rfl hx50) rfl ?_
                                  refine ds (ldI sT3 rfl rfl) rfl ?_
                                  refine ds (as_ rfl) rfl ?_
                                  refine dn (by kernel_rfl) ?_
                                  refine lr ?_
                                  refine ts (mv rfl) ?_
                                  refine ts (faI fT27_0 rfl rfl) ?_
                                  refine ts (ldI sT23 rfl rfl) ?_
                                  refine ts (mv rfl) ?_
                                  obtain ⟨x51, hx51, h⟩ := bnd h
                                  refine tt (cll (f := fun _ => false) kf rfl (.c rfl le1 (.w rfl (leG4 rfl (ow rfl) (so (.s rfl (.s rfl (.s rfl (.s rfl .h)))))) .n)) (curOf_nil _) (ref15_Place_ok hx51) rfl) ?_
                                  refine ts (mv rfl) ?_
                                  obtain ⟨x52, hx52, h⟩ := bnd h
                                  refine ts (ixR lT23 rfl rfl rfl (ow rfl) hx52) ?_
                                  refine tt0 (stE (b := x50) sT3 rfl rfl rfl rfl rfl hx52 rfl rfl (.s rfl (.s rfl (.s rfl .h)))) ?_
                                  refine rn ?_
                                  refine lr ?_
                                  refine ts (mv rfl) ?_
                                  refine ts (add rfl rfl) ?_
                                  refine ts (as_ rfl) ?_
                                  refine rn ?_
                                  obtain rfl := some_inj h
                                  exact ⟨rfl, (by (try simp only [List.length_set, copied_len]); exact trk (by kernel_rfl) (by kernel_rfl) (by kernel_rfl))⟩
                            · refine cf rfl (bf c36) ?_
                              refine CWp.exit ?_
                              obtain rfl := some_inj h
                              exact ⟨rfl, (by (try simp only [List.length_set, copied_len]); exact trk (by kernel_rfl) (by kernel_rfl) (by kernel_rfl))⟩
                          · intro e s ht
                            refine CWp.trim ht ?_
                            refine sr ?_
                            refine ts (faI fT27_0 rfl rfl) ?_
                            refine ts (ldI sT23 rfl rfl) ?_
                            refine ts (mv rfl) ?_
                            obtain ⟨x55, hx55, h⟩ := bnd h
                            refine tt (cll (f := fun _ => false) kf rfl (.c rfl le1 (.w rfl (leG4 rfl (ow rfl) (so (.s rfl .h))) .n)) (curOf_nil _) (ref15_Of_ok hx55) rfl) ?_
                            refine tt0 (stW aT25 rfl rfl rfl rfl rfl rfl .h) ?_
                            refine ts (ac rfl rfl) ?_
                            refine rn ?_
                            refine CWp.ret ?_
                            obtain rfl := some_inj h
                            exact ⟨trivial, rt2 (ex := false) (by exact (rcW aT25 rfl (ow rfl) rfl rfl (.t rfl .n))) (by exact (sc (gd (by rfl)) (sc (gd (by rfl)) sn))) (by rfl) (by rfl)⟩
                  | inr r59 =>
                    intro e s hr
                    obtain rfl := some_inj h
                    exact ⟨trivial, hr⟩
            · refine sr ?_
              refine ts (faI fT27_1 rfl rfl) ?_
              refine ts (ldI sT23 rfl rfl) ?_
              refine ts (lnD lT23 rfl rfl) ?_
              refine ts (gtr rfl rfl) ?_
              refine ts (mv rfl) ?_
              rcases ite h with ⟨c12, h⟩ | ⟨c12, h⟩
              · refine us (gy rfl rfl (bt c12)) (faI fT27_1 rfl rfl) ?_
                refine us (gy rfl rfl (bt c12)) (ldI sT23 rfl rfl) ?_
                refine us (gy rfl rfl (bt c12)) (lnD lT23 rfl rfl) ?_
                refine us (gy rfl rfl (bt c12)) (faI fT27_0 rfl rfl) ?_
                refine us (gy rfl rfl (bt c12)) (ldI sT23 rfl rfl) ?_
                refine us (gy rfl rfl (bt c12)) (lnD lT23 rfl rfl) ?_
                refine us (gy rfl rfl (bt c12)) (neq rfl rfl) ?_
                refine us (gy rfl rfl (bt c12)) (mv rfl) ?_
                rcases ite h with ⟨c13, h⟩ | ⟨c13, h⟩
                · refine un (gn rfl rfl (nt c13)) ?_
                  refine un (gn rfl rfl (nt c13)) ?_
                  refine un (gn rfl rfl (nt c13)) ?_
                  refine un (gn rfl rfl (nt c13)) ?_
                  refine us (gy rfl rfl (bt c12)) (pt rfl (nt c13) rfl) ?_
                  refine ts (pt rfl (bt c12) rfl) ?_
                  refine rn ?_
                  refine ct rfl rfl ?_
                  refine sr ?_
                  refine ts ((bld (v := .d (.agg [.nilsl, .nilsl])) rfl (by kernel_rfl)).wk (x' := api_Array.d (api_Array.mk [] [])) rfl) ?_
                  refine tt0 (stW aT25 rfl rfl rfl rfl rfl rfl .h) ?_
                  refine ts (ac rfl rfl) ?_
                  refine rn ?_
                  refine CWp.ret ?_
                  obtain rfl := some_inj h
                  exact ⟨trivial, rt2 (ex := false) (by exact (rcW aT25 rfl (ow rfl) rfl rfl (.t rfl .n))) (by exact (sc (gd (by rfl)) (sc (gd (by rfl)) sn))) (by rfl) (by rfl)⟩
                · refine us (gy rfl rfl (nf c13)) (faI fT27_1 rfl rfl) ?_
                  refine us (gy rfl rfl (nf c13)) (ldI sT23 rfl rfl) ?_
                  obtain ⟨x14, hx14, h⟩ := bnd h
                  refine us (gy rfl rfl (nf c13)) (cln (f := fun _ => false) kf rfl (.c rfl le1 .n) (curOf_nil _) (ref15_IsOrder_ok hx14) rfl) ?_
                  refine us (gy rfl rfl (nf c13)) (not_ rfl) ?_
                  refine us (gy rfl rfl (bt c12)) (pf rfl (nf c13) rfl) ?_
                  refine ts (pt rfl (bt c12) rfl) ?_
                  refine rn ?_
                  rcases ite h with ⟨c15, h⟩ | ⟨c15, h⟩
                  · refine ct rfl (not_t (vf c15)) ?_
                    refine sr ?_
                    refine ts ((bld (v := .d (.agg [.nilsl, .nilsl])) rfl (by kernel_rfl)).wk (x' := api_Array.d (api_Array.mk [] [])) rfl) ?_
                    refine tt0 (stW aT25 rfl rfl rfl rfl rfl rfl .h) ?_
                    refine ts (ac rfl rfl) ?_
                    refine rn ?_
                    refine CWp.ret ?_
                    obtain rfl := some_inj h
                    exact ⟨trivial, rt2 (ex := false) (by exact (rcW aT25 rfl (ow rfl) rfl rfl (.t rfl .n))) (by exact (sc (gd (by rfl)) (sc (gd (by rfl)) sn))) (by rfl) (by rfl)⟩
                  · refine cf rfl (not_f (Classical.not_not.1 c15)) ?_
                    refine CWp.skip ?_
                    exact ⟨(), h, (by (try simp only [List.length_set, copied_len]); exact trk (by kernel_rfl) (by kernel_rfl) (by kernel_rfl))⟩
              · refine un (gn rfl rfl (bf c12)) ?_
                refine un (gn rfl rfl (bf c12)) ?_
                refine un (gn rfl rfl (bf c12)) ?_
                refine un (gn rfl rfl (bf c12)) ?_
                refine un (gn rfl rfl (bf c12)) ?_
                refine un (gn rfl rfl (bf c12)) ?_
                refine un (gn rfl rfl (bf c12)) ?_
                refine un (gn rfl rfl (bf c12)) ?_
                refine un (gu rfl rfl) ?_
                refine un (gu rfl rfl) ?_
                refine un (gu rfl rfl) ?_
                refine un (gu rfl rfl) ?_
                refine un (gn rfl rfl (bf c12)) ?_
                refine ts (pf rfl (bf c12) rfl) ?_
                refine rn ?_
                refine cf rfl rfl ?_
                refine CWp.skip ?_
                exact ⟨(), h, (by (try simp only [List.length_set, copied_len]); exact trk (by kernel_rfl) (by kernel_rfl) (by kernel_rfl))⟩
        | inr r60 =>
          intro e s hr
          obtain rfl := some_inj h
          exact ⟨trivial, hr⟩
theorem ref15_Same_ok {p0 : api_Array} {p1 : api_Array} {out : Out} {r : Bool} (h : ref15_Same p0 p1 = some r) : FunOk PP 15 [.d (api_Array.d p0), .d (api_Array.d p1)] out ⟨.d (.bool r), []⟩ := by
  unfold ref15_Same at h
  refine fi Try.func15 rfl (by kernel_rfl) (by kernel_rfl) (by kernel_rfl) ?_
  refine sr ?_
  refine ts (bxI rfl) ?_
  refine ts (bxI rfl) ?_
  refine ts (ac rfl rfl) ?_
  refine rn ?_
  refine CWp.seq ?_
  refine sr ?_
  refine ts (faI fT25_0 rfl rfl) ?_
  refine ts (ldI sT22 rfl rfl) ?_
  refine ts (lnD lT22 rfl rfl) ?_
  refine ts (faI fT25_0 rfl rfl) ?_
  refine ts (ldI sT22 rfl rfl) ?_
  refine ts (lnD lT22 rfl rfl) ?_
  refine ts (neq rfl rfl) ?_
  refine ts (mv rfl) ?_
  rcases ite h with ⟨c1, h⟩ | ⟨c1, h⟩
  · refine un (gn rfl rfl (nt c1)) ?_
    refine un (gn rfl rfl (nt c1)) ?_
    refine un (gn rfl rfl (nt c1)) ?_
    refine un (gn rfl rfl (nt c1)) ?_
    refine un (gn rfl rfl (nt c1)) ?_
    refine un (gn rfl rfl (nt c1)) ?_
    refine ts (pt rfl (nt c1) rfl) ?_
    refine rn ?_
    refine ct rfl rfl ?_
    refine sr ?_
    refine ts (ac rfl rfl) ?_
    refine rn ?_
    refine CWp.ret ?_
    obtain rfl := some_inj h
    exact ⟨trivial, rt1 (ex := false) (by exact (.t rfl .n)) (by exact (gd (by rfl))) (by rfl) (by rfl)⟩
  · refine us (gy rfl rfl (nf c1)) (faI fT25_1 rfl rfl) ?_
    refine us (gy rfl rfl (nf c1)) (ldI sT23 rfl rfl) ?_
    refine us (gy rfl rfl (nf c1)) (faI fT25_1 rfl rfl) ?_
    refine us (gy rfl rfl (nf c1)) (ldI sT23 rfl rfl) ?_
    obtain ⟨x2, hx2, h⟩ := bnd h
    refine us (gy rfl rfl (nf c1)) (cln (f := fun _ => false) kf rfl (.c rfl le1 (.c rfl le1 .n)) (curOf_nil _) (base_Ints_ok hx2) rfl) ?_
    refine us (gy rfl rfl (nf c1)) (not_ rfl) ?_
    refine ts (pf rfl (nf c1) rfl) ?_
    refine rn ?_
    rcases ite h with ⟨c3, h⟩ | ⟨c3, h⟩
    · refine ct rfl (not_t (vf c3)) ?_
      refine sr ?_
      refine ts (ac rfl rfl) ?_
      refine rn ?_
      refine CWp.ret ?_
      obtain rfl := some_inj h
      exact ⟨trivial, rt1 (ex := false) (by exact (.t rfl .n)) (by exact (gd (by rfl))) (by rfl) (by rfl)⟩
    · refine cf rfl (not_f (Classical.not_not.1 c3)) ?_
      refine CWp.skip ?_
      refine CWp.seq ?_
      refine sr ?_
      refine ts (ac rfl rfl) ?_
      refine rn ?_
      obtain ⟨z9, hz9, h⟩ := bnd h
      refine lbr (E := fun s4 => [(2, .pimm (api_Array.d p0) 0), (3, .pimm (api_Array.d p1) 0), (5, .d (.int .i64 s4))]) (M := fun s4 => ⟨[], out, []⟩) (E' := fun y => []) (M' := fun y => ⟨[], out, []⟩) (RT := fun r e s => Lx.Returns PP Try.f15.results.toList e s ⟨.d (.bool r), []⟩) hz9 (by (try simp only [List.length_set, copied_len]); exact trk (by kernel_rfl) (by kernel_rfl) (by kernel_rfl)) ?_ ?_
      · intro s4 ww h
        unfold ref15_Same.s1 at h
        refine CWp.seq ?_
        refine sr ?_
        refine ts (mv rfl) ?_
        refine ts (faI fT25_0 rfl rfl) ?_
        refine ts (ldI sT22 rfl rfl) ?_
        refine ts (lnD lT22 rfl rfl) ?_
        refine ts (lss rfl rfl) ?_
        refine rn ?_
        rcases ite h with ⟨c5, h⟩ | ⟨c5, h⟩
        · refine ct rfl (bt c5) ?_
          refine CWp.skip ?_
          refine CWp.seq ?_
          refine CWp.block ?_
          refine sd mixed (b := [0, 1, 0, 7, 15, 0, 32, 0, 224, 480, 1023]) (by kernel_rfl) ?_
          refine ds (faI fT25_0 rfl rfl) rfl ?_
          refine ds (ldI sT22 rfl rfl) rfl ?_
          refine ds (mv rfl) rfl ?_
          obtain ⟨x6, hx6, h⟩ := bnd h
          refine ds (ixD lT22 api_Bound.sz rfl rfl hx6) rfl ?_
          refine ds (ldIW aT81 rfl rfl rfl) rfl ?_
          refine ds (faI fT25_0 rfl rfl) rfl ?_
          refine ds (ldI sT22 rfl rfl) rfl ?_
          refine ds (mv rfl) rfl ?_
          obtain ⟨x7, hx7, h⟩ := bnd h
          refine ds (ixD lT22 api_Bound.sz rfl rfl hx7) rfl ?_
          refine ds (ldIW aT81 rfl rfl rfl) rfl ?_
          refine ds (sne_ (r := ((x6.Low == x7.Low) && ((x6.High == x7.High) && true))) rfl rfl ffT81 (by kernel_rfl)) rfl ?_
          refine dn (by kernel_rfl) ?_
          rcases ite h with ⟨c8, h⟩ | ⟨c8, h⟩
          · refine ct rfl (not_t (vf c8)) ?_
            refine sr ?_
            refine ts (ac rfl rfl) ?_
            refine rn ?_
            refine CWp.ret ?_
            obtain rfl := some_inj h
            exact ⟨rfl, rt1 (ex := false) (by exact (.t rfl .n)) (by exact (gd (by rfl))) (by rfl) (by rfl)⟩
          · refine cf rfl (not_f (Classical.not_not.1 c8)) ?_
            refine CWp.skip ?_
            refine lr ?_
            refine ts (mv rfl) ?_
            refine ts (add rfl rfl) ?_
            refine ts (as_ rfl) ?_
            refine rn ?_
            obtain rfl := some_inj h
            exact ⟨rfl, (by (try simp only [List.length_set, copied_len]); exact trk (by kernel_rfl) (by kernel_rfl) (by kernel_rfl))⟩
        · refine cf rfl (bf c5) ?_
          refine CWp.exit ?_
          obtain rfl := some_inj h
          exact ⟨rfl, (by (try simp only [List.length_set, copied_len]); exact trk (by kernel_rfl) (by kernel_rfl) (by kernel_rfl))⟩
      · cases z9 with
        | inl v10 =>
          intro e s ht
          refine CWp.trim ht ?_
          refine sr ?_
          refine ts (ac rfl rfl) ?_
          refine rn ?_
          refine CWp.ret ?_
          obtain rfl := some_inj h
          exact ⟨trivial, rt1 (ex := false) (by exact (.t rfl .n)) (by exact (gd (by rfl))) (by rfl) (by rfl)⟩
        | inr r11 =>
          intro e s hr
          obtain rfl := some_inj h
          exact ⟨trivial, hr⟩
theorem law15_is_ok {p0 : api_Array} {p1 : Int} {p2 : api_Array} {p3 : Int} {out : Out} {r : Bool} (h : law15_is p0 p1 p2 p3 = some r) : FunOk PP 11 [.d (api_Array.d p0), .d (.int .i64 p1), .d (api_Array.d p2), .d (.int .i64 p3)] out ⟨.d (.bool r), []⟩ := by
  unfold law15_is at h
  refine fi Try.func11 rfl (by kernel_rfl) (by kernel_rfl) (by kernel_rfl) ?_
  refine sr ?_
  refine ts (bxI rfl) ?_
  refine ts (bxI rfl) ?_
  refine ts (ac rfl rfl) ?_
  refine rn ?_
  refine sr ?_
  refine ts (mv rfl) ?_
  refine ts (mv rfl) ?_
  refine ts (eql rfl rfl) ?_
  refine ts (mv rfl) ?_
  rcases ite h with ⟨c1, h⟩ | ⟨c1, h⟩
  · refine us (gy rfl rfl (et c1)) (ldIW aT25 rfl rfl rfl) ?_
    refine us (gy rfl rfl (et c1)) (ldIW aT25 rfl rfl rfl) ?_
    obtain ⟨x2, hx2, h⟩ := bnd h
    refine us (gy rfl rfl (et c1)) (cln (f := fun _ => false) kf rfl (.c rfl le1 (.c rfl le1 .n)) (curOf_nil _) (ref15_Same_ok hx2) rfl) ?_
    refine ts (pt rfl (et c1) rfl) ?_
    refine ts (as_ rfl) ?_
    refine rn ?_
    refine CWp.ret ?_
    obtain rfl := some_inj h
    exact ⟨trivial, rt1 (ex := false) (by exact (.t rfl .n)) (by exact (gd (by rfl))) (by rfl) (by rfl)⟩
  · refine un (gn rfl rfl (ef c1)) ?_
    refine un (gn rfl rfl (ef c1)) ?_
    refine un (gn rfl rfl (ef c1)) ?_
    refine ts (pf rfl (ef c1) rfl) ?_
    refine ts (as_ rfl) ?_
    refine rn ?_
    refine CWp.ret ?_
    obtain rfl := some_inj h
    exact ⟨trivial, rt1 (ex := false) (by exact (.t rfl .n)) (by exact (gd (by rfl))) (by rfl) (by rfl)⟩
theorem law15_ShapesReshapes_ok {p0 : api_Array} {p1 : api_Reshape} {out : Out} {r : Bool} (h : law15_ShapesReshapes p0 p1 = some r) : FunOk PP 3 [.d (api_Array.d p0), .d (api_Reshape.d p1)] out ⟨.d (.bool r), []⟩ := by
  unfold law15_ShapesReshapes at h
  refine fi Try.func3 rfl (by kernel_rfl) (by kernel_rfl) (by kernel_rfl) ?_
  refine sr ?_
  refine ts (bxI rfl) ?_
  refine ts (bxI rfl) ?_
  refine ts (ac rfl rfl) ?_
  refine rn ?_
  refine CWp.seq ?_
  refine sr ?_
  obtain ⟨x1, hx1, h⟩ := bnd h
  refine ts (cln (f := fun _ => false) kf rfl .n (curOf_nil _) (law15_awake_ok hx1) rfl) ?_
  refine ts (not_ rfl) ?_
  refine rn ?_
  rcases ite h with ⟨c2, h⟩ | ⟨c2, h⟩
  · refine ct rfl (not_t (vf c2)) ?_
    refine sr ?_
    refine ts (ac rfl rfl) ?_
    refine rn ?_
    refine CWp.ret ?_
    obtain rfl := some_inj h
    exact ⟨trivial, rt1 (ex := false) (by exact (.t rfl .n)) (by exact (gd (by rfl))) (by rfl) (by rfl)⟩
  · refine cf rfl (not_f (Classical.not_not.1 c2)) ?_
    refine CWp.skip ?_
    refine CWp.seq ?_
    refine sr ?_
    refine ts (ldIW aT25 rfl rfl rfl) ?_
    refine ts (cln (f := fun _ => false) kf rfl (.c rfl le1 .n) (curOf_nil _) (law15_few_ok (rfl : law15_few p0 = _)) rfl) ?_
    refine ts (not_ rfl) ?_
    refine ts (mv rfl) ?_
    refine sg 5 [(19, .d (.bool ((!(law15_few p0)) || (decide ((p1.Shape.length : Int) > 9)))))] ?_ ?_
    · rcases bool_or (!(law15_few p0)) with g3 | g4
      · refine un (gn rfl rfl g3) ?_
        refine un (gn rfl rfl g3) ?_
        refine un (gn rfl rfl g3) ?_
        refine un (gn rfl rfl g3) ?_
        refine ts (pt rfl g3 rfl) ?_
        exact rn (trD 5 rfl (.c (bq (or_t g3)) .n) (by kernel_rfl))
      · refine us (gy rfl rfl g4) (faI fT27_0 rfl rfl) ?_
        refine us (gy rfl rfl g4) (ldI sT23 rfl rfl) ?_
        refine us (gy rfl rfl g4) (lnD lT23 rfl rfl) ?_
        refine us (gy rfl rfl g4) (gtr rfl rfl) ?_
        refine ts (pf rfl g4 rfl) ?_
        exact rn (trD 5 rfl (.c (bq (or_f g4)) .n) (by kernel_rfl))
    refine ts (mv rfl) ?_
    refine sg 5 [(25, .d (.bool (((!(law15_few p0)) || (decide ((p1.Shape.length : Int) > 9))) || (decide ((p1.Order.length : Int) > 9)))))] ?_ ?_
    · rcases bool_or ((!(law15_few p0)) || (decide ((p1.Shape.length : Int) > 9))) with g5 | g6
      · refine un (gn rfl rfl g5) ?_
        refine un (gn rfl rfl g5) ?_
        refine un (gn rfl rfl g5) ?_
        refine un (gn rfl rfl g5) ?_
        refine ts (pt rfl g5 rfl) ?_
        exact rn (trD 5 rfl (.c (bq (or_t g5)) .n) (by kernel_rfl))
      · refine us (gy rfl rfl g6) (faI fT27_1 rfl rfl) ?_
        refine us (gy rfl rfl g6) (ldI sT23 rfl rfl) ?_
        refine us (gy rfl rfl g6) (lnD lT23 rfl rfl) ?_
        refine us (gy rfl rfl g6) (gtr rfl rfl) ?_
        refine ts (pf rfl g6 rfl) ?_
        exact rn (trD 5 rfl (.c (bq (or_f g6)) .n) (by kernel_rfl))
    refine ts (mv rfl) ?_
    refine sg 5 [(31, .d (.bool ((((!(law15_few p0)) || (decide ((p1.Shape.length : Int) > 9))) || (decide ((p1.Order.length : Int) > 9))) || (decide ((p1.Pad.length : Int) > 80)))))] ?_ ?_
    · rcases bool_or (((!(law15_few p0)) || (decide ((p1.Shape.length : Int) > 9))) || (decide ((p1.Order.length : Int) > 9))) with g7 | g8
      · refine un (gn rfl rfl g7) ?_
        refine un (gn rfl rfl g7) ?_
        refine un (gn rfl rfl g7) ?_
        refine un (gn rfl rfl g7) ?_
        refine ts (pt rfl g7 rfl) ?_
        exact rn (trD 5 rfl (.c (bq (or_t g7)) .n) (by kernel_rfl))
      · refine us (gy rfl rfl g8) (faI fT27_2 rfl rfl) ?_
        refine us (gy rfl rfl g8) (ldI sT23 rfl rfl) ?_
        refine us (gy rfl rfl g8) (lnD lT23 rfl rfl) ?_
        refine us (gy rfl rfl g8) (gtr rfl rfl) ?_
        refine ts (pf rfl g8 rfl) ?_
        exact rn (trD 5 rfl (.c (bq (or_f g8)) .n) (by kernel_rfl))
    refine rn ?_
    rcases ite h with ⟨c9, h⟩ | ⟨c9, h⟩
    · refine ct rfl c9 ?_
      refine sr ?_
      refine ts (ac rfl rfl) ?_
      refine rn ?_
      refine CWp.ret ?_
      obtain rfl := some_inj h
      exact ⟨trivial, rt1 (ex := false) (by exact (.t rfl .n)) (by exact (gd (by rfl))) (by rfl) (by rfl)⟩
    · refine cf rfl (vf c9) ?_
      refine CWp.skip ?_
      refine sd mixed (b := [0, 1, 0, 4, 15, 0, 32, 127, 0, 256, 1023, 2047, 4095, 8191, 16383, 16383, 0, 98303, 262143]) (by kernel_rfl) ?_
      refine ds (ldIW aT25 rfl rfl rfl) rfl ?_
      obtain ⟨x10, hx10, h⟩ := bnd h
      refine dr (cln (f := fun _ => false) kf rfl (.c rfl le1 .n) (curOf_nil _) (ref15_Copy_ok hx10) rfl) rfl ?_
      refine ds (faI fT27_0 rfl rfl) rfl ?_
      refine ds (ldI sT23 rfl rfl) rfl ?_
      obtain ⟨x11, hx11, h⟩ := bnd h
      refine dr (czn (f := fun _ => false) (v' := .d (.sl (x11.map dI))) kf rfl (.c rfl le1 .n) (curOf_nil _) (base_CopyInts_ok hx11) rfl rfl) rfl ?_
      refine ds (faI fT27_1 rfl rfl) rfl ?_
      refine ds (ldI sT23 rfl rfl) rfl ?_
      obtain ⟨x12, hx12, h⟩ := bnd h
      refine dr (czn (f := fun _ => false) (v' := .d (.sl (x12.map dI))) kf rfl (.c rfl le1 .n) (curOf_nil _) (base_CopyInts_ok hx12) rfl rfl) rfl ?_
      refine ds (faI fT27_2 rfl rfl) rfl ?_
      refine ds (ldI sT23 rfl rfl) rfl ?_
      obtain ⟨x13, hx13, h⟩ := bnd h
      refine dr (czn (f := fun _ => false) (v' := .d (.sl (x13.map dI))) kf rfl (.c rfl le1 .n) (curOf_nil _) (base_CopyInts_ok hx13) rfl rfl) rfl ?_
      refine ds (bld (v := .d (api_Reshape.d (api_Reshape.mk x11 x12 x13))) rfl (by kernel_rfl)) rfl ?_
      obtain ⟨x14, hx14, h⟩ := bnd h
      refine dr (cln (f := fun _ => false) kf rfl (.c rfl le1 (.c rfl le1 .n)) (curOf_nil _) (shapes_Reshape_ok hx14) rfl) rfl ?_
      refine ds (mv rfl) rfl ?_
      refine ds (ex_ rfl rfl) rfl ?_
      refine ds (ex_ rfl rfl) rfl ?_
      refine da (al (n := 0) zT25 rfl) rfl ?_
      refine et0 rfl (stW aT25 rfl rfl rfl rfl rfl rfl .h) (by kernel_rfl) rfl ?_
      refine ds (as_ rfl) rfl ?_
      refine dn (by kernel_rfl) ?_
      refine CWp.trim (Le.fzBox (t := 5) (e := api_Array.d x14.1) (env' := [(0, .d (api_Array.d p0)), (1, .d (api_Reshape.d p1)), (2, .pimm (api_Array.d p0) 0), (3, .pimm (api_Reshape.d p1) 0), (4, .d (.bool false)), (9, .d (.bool x1)), (10, .d (.bool (!x1))), (11, .d (api_Array.d p0)), (12, .d (.bool (law15_few p0))), (13, .d (.bool (!(law15_few p0)))), (14, .d (.bool (!(law15_few p0)))), (19, .d (.bool ((!(law15_few p0)) || (decide ((p1.Shape.length : Int) > 9))))), (20, .d (.bool ((!(law15_few p0)) || (decide ((p1.Shape.length : Int) > 9))))), (25, .d (.bool (((!(law15_few p0)) || (decide ((p1.Shape.length : Int) > 9))) || (decide ((p1.Order.length : Int) > 9))))), (26, .d (.bool (((!(law15_few p0)) || (decide ((p1.Shape.length : Int) > 9))) || (decide ((p1.Order.length : Int) > 9))))), (31, .d (.bool ((((!(law15_few p0)) || (decide ((p1.Shape.length : Int) > 9))) || (decide ((p1.Order.length : Int) > 9))) || (decide ((p1.Pad.length : Int) > 80))))), (33, .d (api_Array.d p0)), (34, .d (api_Array.d x10)), (35, .pimm (api_Reshape.d p1) 0), (36, .d (.sl (p1.Shape.map dI))), (37, .d (.sl (x11.map dI))), (38, .pimm (api_Reshape.d p1) 1), (39, .d (.sl (p1.Order.map dI))), (40, .d (.sl (x12.map dI))), (41, .pimm (api_Reshape.d p1) 2), (42, .d (.sl (p1.Pad.map dI))), (43, .d (.sl (x13.map dI))), (44, .d (api_Reshape.d (api_Reshape.mk x11 x12 x13))), (46, .d (api_Array.d x14.1)), (47, .d (.int .i64 x14.2)), (6, .d (.int .i64 x14.2))]) (loc' := []) rfl rfl rfl rfl (by (try simp only [List.length_set, copied_len]); exact trkT (by kernel_rfl) (by kernel_rfl) (by kernel_rfl))) ?_
      refine sr ?_
      refine ts (ldIW aT25 rfl rfl rfl) ?_
      refine ts (ldIW aT27 rfl rfl rfl) ?_
      obtain ⟨x15, hx15, h⟩ := bnd h
      refine ts (cln (f := fun _ => false) kf rfl (.c rfl le1 (.c rfl le1 .n)) (curOf_nil _) (ref15_Reshaped_ok hx15) rfl) ?_
      refine ts (mv rfl) ?_
      refine ts (ex_ rfl rfl) ?_
      refine ts (ex_ rfl rfl) ?_
      refine ta (al (n := 0) zT25 rfl) ?_
      refine tt0 (stW aT25 rfl rfl rfl rfl rfl rfl .h) ?_
      refine ts (as_ rfl) ?_
      refine rn ?_
      refine CWp.trim (Le.fzBox (t := 7) (e := api_Array.d x15.1) (env' := [(0, .d (api_Array.d p0)), (1, .d (api_Reshape.d p1)), (2, .pimm (api_Array.d p0) 0), (3, .pimm (api_Reshape.d p1) 0), (4, .d (.bool false)), (9, .d (.bool x1)), (10, .d (.bool (!x1))), (11, .d (api_Array.d p0)), (12, .d (.bool (law15_few p0))), (13, .d (.bool (!(law15_few p0)))), (14, .d (.bool (!(law15_few p0)))), (19, .d (.bool ((!(law15_few p0)) || (decide ((p1.Shape.length : Int) > 9))))), (20, .d (.bool ((!(law15_few p0)) || (decide ((p1.Shape.length : Int) > 9))))), (25, .d (.bool (((!(law15_few p0)) || (decide ((p1.Shape.length : Int) > 9))) || (decide ((p1.Order.length : Int) > 9))))), (26, .d (.bool (((!(law15_few p0)) || (decide ((p1.Shape.length : Int) > 9))) || (decide ((p1.Order.length : Int) > 9))))), (31, .d (.bool ((((!(law15_few p0)) || (decide ((p1.Shape.length : Int) > 9))) || (decide ((p1.Order.length : Int) > 9))) || (decide ((p1.Pad.length : Int) > 80))))), (33, .d (api_Array.d p0)), (34, .d (api_Array.d x10)), (35, .pimm (api_Reshape.d p1) 0), (36, .d (.sl (p1.Shape.map dI))), (37, .d (.sl (x11.map dI))), (38, .pimm (api_Reshape.d p1) 1), (39, .d (.sl (p1.Order.map dI))), (40, .d (.sl (x12.map dI))), (41, .pimm (api_Reshape.d p1) 2), (42, .d (.sl (p1.Pad.map dI))), (43, .d (.sl (x13.map dI))), (44, .d (api_Reshape.d (api_Reshape.mk x11 x12 x13))), (46, .d (api_Array.d x14.1)), (47, .d (.int .i64 x14.2)), (6, .d (.int .i64 x14.2)), (5, .pimm (api_Array.d x14.1) 0), (49, .d (api_Array.d p0)), (50, .d (api_Reshape.d p1)), (52, .d (api_Array.d x15.1)), (53, .d (.int .i64 x15.2)), (8, .d (.int .i64 x15.2))]) (loc' := []) rfl rfl rfl rfl (by (try simp only [List.length_set, copied_len]); exact trkT (by kernel_rfl) (by kernel_rfl) (by kernel_rfl))) ?_
      refine sr ?_
      refine ts (ldIW aT25 rfl rfl rfl) ?_
      refine ts (mv rfl) ?_
      refine ts (ldIW aT25 rfl rfl rfl) ?_
      refine ts (mv rfl) ?_
      obtain ⟨x16, hx16, h⟩ := bnd h
      refine ts (cln (f := fun _ => false) kf rfl (.c rfl le1 (.c rfl le1 (.c rfl le1 (.c rfl le1 .n)))) (curOf_nil _) (law15_is_ok hx16) rfl) ?_
      refine ts (as_ rfl) ?_
      refine rn ?_
      refine CWp.ret ?_
      obtain rfl := some_inj h
      exact ⟨trivial, rt1 (ex := false) (by exact (.t rfl .n)) (by exact (gd (by rfl))) (by rfl) (by rfl)⟩
end Go.Proofs.Ytndpfldakcdbiaa
