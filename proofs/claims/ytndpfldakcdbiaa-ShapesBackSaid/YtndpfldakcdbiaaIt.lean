/- The sort of a slice at this program, and the iterator over a slice: contracts. -/
import Derived.Test.YtndpfldakcdbiaaKit4
import Derived.RangeFuncBox
import Derived.RangeFuncLeaves
import Derived.Shelf.Abstract
import Derived.WalkKit
import Derived.OwnWalkIn
import Derived.TacticsInMore
import Derived.LoopNIn
import Derived.LoopIn
import Derived.Test.YtndpfldakcdbiaaProg
set_option linter.all false
namespace Go.Proofs.Ytndpfldakcdbiaa
open Go.RowKit Go.Shelf Go.Lx
def sortedA_ren : Go.Shelf.Ren := ⟨fun | 6 => 62 | 8 => 80 | 9 => 81 | 11 => 88 | 13 => 90 | 12 => 89 | 23 => 100 | 24 => 101 | 14 => 91 | 15 => 92 | 16 => 93 | 17 => 94 | 18 => 95 | 19 => 96 | 20 => 97 | 21 => 98 | 22 => 99 | 25 => 102 | 26 => 103 | 27 => 104 | 28 => 105 | 29 => 106 | 30 => 107 | 31 => 108 | n => n, fun | 26 => 3 | 28 => 98 | 24 => 23 | 0 => 0 | 3 => 3 | 37 => 119 | 48 => 129 | 50 => 131 | 4 => 4 | 40 => 122 | 39 => 121 | 45 => 88 | 5 => 5 | 9 => 9 | 51 => 132 | 55 => 136 | 57 => 138 | 58 => 74 | 33 => 71 | n => n, fun | n => n⟩
theorem sortedA : Go.Proofs.SlLaysZI.n6 Try.prog sortedA_ren := {
  mixed := by kernel_rfl,
  f6 := ⟨Try.f62.name, by decide, Try.func62.trans (congrArg some (by kernel_rfl))⟩,
  f8 := ⟨Try.f80.name, by decide, Try.func80.trans (congrArg some (by kernel_rfl))⟩,
  f11 := ⟨Try.f88.name, by decide, Try.func88.trans (congrArg some (by kernel_rfl))⟩,
  t0 := Try.underlying0,
  a0 := Try.isAgg0,
  z0 := Try.sizeOf0,
  v0 := Try.zeroValue0,
  t24 := Try.underlying23,
  a24 := Try.isAgg23,
  z24 := Try.sizeOf23,
  v24 := Try.zeroValue23,
  t26 := Try.underlying3,
  a26 := Try.isAgg3,
  z26 := Try.sizeOf3,
  v26 := Try.zeroValue3,
  t28 := Try.underlying98,
  a28 := Try.isAgg98,
  z28 := Try.sizeOf98,
  v28 := Try.zeroValue98,
  i26 := by kernel_rfl }
def sortA_ren : Go.Shelf.Ren := ⟨fun | 5 => 81 | 8 => 90 | 7 => 89 | 19 => 100 | 20 => 101 | 10 => 91 | 11 => 92 | 12 => 93 | 13 => 94 | 14 => 95 | 15 => 96 | 16 => 97 | 17 => 98 | 18 => 99 | 30 => 102 | 31 => 103 | 32 => 104 | 33 => 105 | 34 => 106 | 35 => 107 | 40 => 108 | n => n, fun | 23 => 23 | 25 => 3 | 3 => 3 | 32 => 119 | 22 => 23 | 0 => 0 | 44 => 129 | 46 => 131 | 4 => 4 | 36 => 122 | 35 => 121 | 41 => 88 | 5 => 5 | 9 => 9 | 53 => 132 | 57 => 136 | 63 => 138 | 64 => 74 | n => n, fun | n => n⟩
theorem sortA : Go.Proofs.SlLaysM.n5 Try.prog sortA_ren := {
  mixed := by kernel_rfl,
  f5 := ⟨Try.f81.name, by decide, Try.func81.trans (congrArg some (by kernel_rfl))⟩,
  f7 := ⟨Try.f89.name, by decide, Try.func89.trans (congrArg some (by kernel_rfl))⟩,
  f8 := Try.func90.trans (congrArg some (by kernel_rfl)),
  f10 := ⟨Try.f91.name, by decide, Try.func91.trans (congrArg some (by kernel_rfl))⟩,
  f11 := ⟨Try.f92.name, by decide, Try.func92.trans (congrArg some (by kernel_rfl))⟩,
  f12 := ⟨Try.f93.name, by decide, Try.func93.trans (congrArg some (by kernel_rfl))⟩,
  f13 := ⟨Try.f94.name, by decide, Try.func94.trans (congrArg some (by kernel_rfl))⟩,
  f14 := ⟨Try.f95.name, by decide, Try.func95.trans (congrArg some (by kernel_rfl))⟩,
  f15 := ⟨Try.f96.name, by decide, Try.func96.trans (congrArg some (by kernel_rfl))⟩,
  f16 := ⟨Try.f97.name, by decide, Try.func97.trans (congrArg some (by kernel_rfl))⟩,
  f17 := ⟨Try.f98.name, by decide, Try.func98.trans (congrArg some (by kernel_rfl))⟩,
  f18 := ⟨Try.f99.name, by decide, Try.func99.trans (congrArg some (by kernel_rfl))⟩,
  f19 := Try.func100.trans (congrArg some (by kernel_rfl)),
  f20 := Try.func101.trans (congrArg some (by kernel_rfl)),
  f30 := ⟨Try.f102.name, by decide, Try.func102.trans (congrArg some (by kernel_rfl))⟩,
  f31 := Try.func103.trans (congrArg some (by kernel_rfl)),
  f32 := Try.func104.trans (congrArg some (by kernel_rfl)),
  f33 := ⟨Try.f105.name, by decide, Try.func105.trans (congrArg some (by kernel_rfl))⟩,
  f34 := ⟨Try.f106.name, by decide, Try.func106.trans (congrArg some (by kernel_rfl))⟩,
  f35 := ⟨Try.f107.name, by decide, Try.func107.trans (congrArg some (by kernel_rfl))⟩,
  f40 := ⟨Try.f108.name, by decide, Try.func108.trans (congrArg some (by kernel_rfl))⟩,
  t0 := Try.underlying0,
  a0 := Try.isAgg0,
  z0 := Try.sizeOf0,
  v0 := Try.zeroValue0,
  t3 := Try.underlying3,
  a3 := Try.isAgg3,
  z3 := Try.sizeOf3,
  v3 := Try.zeroValue3,
  t4 := Try.underlying4,
  a4 := Try.isAgg4,
  z4 := Try.sizeOf4,
  v4 := Try.zeroValue4,
  t5 := Try.underlying5,
  a5 := Try.isAgg5,
  z5 := Try.sizeOf5,
  v5 := Try.zeroValue5,
  t9 := Try.underlying9,
  a9 := Try.isAgg9,
  z9 := Try.sizeOf9,
  v9 := Try.zeroValue9,
  t22 := Try.underlying23,
  a22 := Try.isAgg23,
  z22 := Try.sizeOf23,
  v22 := Try.zeroValue23,
  t23 := Try.underlying23,
  a23 := Try.isAgg23,
  z23 := Try.sizeOf23,
  v23 := Try.zeroValue23,
  t25 := Try.underlying3,
  a25 := Try.isAgg3,
  z25 := Try.sizeOf3,
  v25 := Try.zeroValue3,
  t32 := Try.underlying119,
  a32 := Try.isAgg119,
  z32 := Try.sizeOf119,
  v32 := Try.zeroValue119,
  t35 := Try.underlying121,
  a35 := Try.isAgg121,
  z35 := Try.sizeOf121,
  v35 := Try.zeroValue121,
  t36 := Try.underlying122,
  a36 := Try.isAgg122,
  z36 := Try.sizeOf122,
  v36 := Try.zeroValue122,
  t41 := Try.underlying88,
  a41 := Try.isAgg88,
  z41 := Try.sizeOf88,
  v41 := Try.zeroValue88,
  t44 := Try.underlying129,
  a44 := Try.isAgg129,
  z44 := Try.sizeOf129,
  v44 := Try.zeroValue129,
  t46 := Try.underlying131,
  a46 := Try.isAgg131,
  z46 := Try.sizeOf131,
  v46 := Try.zeroValue131,
  t53 := Try.underlying132,
  a53 := Try.isAgg132,
  z53 := Try.sizeOf132,
  v53 := Try.zeroValue132,
  t57 := Try.underlying136,
  a57 := Try.isAgg136,
  z57 := Try.sizeOf136,
  v57 := Try.zeroValue136,
  t63 := Try.underlying138,
  a63 := Try.isAgg138,
  z63 := Try.sizeOf138,
  v63 := Try.zeroValue138,
  t64 := Try.underlying74,
  a64 := Try.isAgg74,
  z64 := Try.sizeOf74,
  v64 := Try.zeroValue74 }
theorem sortsA (m : Nat) : AnyZI.SortsIn Try.prog sortedA_ren Fence.wide m :=
  ⟨fun blk off cap ss W hH hblk hsz => callsIn_wide.2 (AnyM.slices_Sort_int sortA blk off cap ss W hH hblk hsz),
   fun p cap W => callsIn_wide.2 (AnyM.slices_Sort_int_none sortA p cap W)⟩
section
attribute [local go_sem] Oper.semAt_some
set_option maxRecDepth 100000
set_option maxHeartbeats 2000000
theorem values_it : ValuesIt Try.prog 82 := by
  intro n hn Bs o sv zs w hlen hBs hcell hI l J W hW hJ hJB hY h0
  have hreach : zs.length * 8 ≤ 140737488351232 := by omega
  have hBs' := (hW.cell (p := ⟨Bs, o, none⟩) hBs).trans hcell
  obtain ⟨a, cap, rfl, hc⟩ := hI
  have hro : Fence.wide.round = none := rfl
  have h7 : Fence.wide.fn 82 := trivial
  show CallsIn Fence.wide n Try.prog 82 #[.func (.yield l) #[] #[], .pointer (some ⟨Bs, o, none⟩)] W fun e W' => (∃ v, e = .returned v) ∧ ∃ ys, ys = zs ∧ J ys W'
  rcases hc with rfl | ⟨b, off, rfl, hb, hcs⟩
  · refine callsIn_of_wp Try.func82 rfl h7 ?_ hro
    simp only [Try.ntmps82, List.size_toArray, List.length_cons, List.length_nil, Nat.reduceAdd, Nat.reduceSub, Array.replicate_succ, Array.replicate_zero, List.push_toArray, List.append_toArray, List.nil_append, List.cons_append]
    gi_wp2
    gi_loopw [7] (fun i wr => i = .int .i64 0 ∧ J [] wr) (fun _ _ => 0)
    case atStart => exact ⟨rfl, h0⟩
    case round =>
      obtain ⟨rfl, hJs⟩ := hrel
      gi_wp2
      go_end0
      exact ⟨⟨_, rfl⟩, _, rfl, hJs⟩
  · obtain ⟨len, hl⟩ : ∃ len, zs.length = len := ⟨_, rfl⟩
    have hall : upto (fun j => zs[j]?.getD 0) len = zs := by rw [← hl]; exact upto_all zs
    rw [hl] at hBs' hreach hcs hY
    clear hcell
    clear hl
    refine callsIn_of_wp Try.func82 rfl h7 ?_ hro
    simp only [Try.ntmps82, List.size_toArray, List.length_cons, List.length_nil, Nat.reduceAdd, Nat.reduceSub, Array.replicate_succ, Array.replicate_zero, List.push_toArray, List.append_toArray, List.nil_append, List.cons_append]
    gi_wp2
    gi_loopw [7] (fun i wr => ∃ k : Nat, k ≤ len ∧ i = .int .i64 k ∧ J (upto (fun j => zs[j]?.getD 0) k) wr)
      (fun i _ => len - (intOf i).toNat)
    case atStart => exact ⟨0, Nat.zero_le _, rfl, h0⟩
    case round =>
      obtain ⟨k, hk, rfl, hJs⟩ := hrel
      have hnx := hJB _ _ hJs
      have hcx : k < len → wr.cell? ⟨b, off + k, none⟩ = some (.int .i64 (zs[k]?.getD 0)) := fun h => (hnx.cell (p := ⟨b, off + k, none⟩) hb).trans (hcs k h)
      by_cases hlt : k < len
      · obtain ⟨fn, tmps, assign, body, hy, hR⟩ := hY _ (zs[k]?.getD 0) wr hJs (by rw [upto_length]; exact hlt)
        have hcx' := hcx hlt
        clear hcs hall hBs' hnx hJB
        gi_wp2
        refine hR.mono ?_
        rintro e W3 ⟨rfl, hJ3, hk3⟩
        gi_wp2
        go_roundw
        case rel => exact ⟨k + 1, by omega, by simp, by rw [upto_succ]; exact hJ3⟩
        case measure => simp [intOf]; omega
      · obtain rfl : k = len := by omega
        clear hcs hBs' hnx hJB
        gi_wp2
        go_end0
        exact ⟨⟨_, rfl⟩, _, hall, hJs⟩
end
theorem it_sorted {xs r : List Int} {out : Out} (h : sortedO xs = some r) : FunOk Try.prog 62 [.clo 82 [.pimm (.sl (xs.map dI)) 0]] out ⟨.d (.sl (r.map dI)), []⟩ :=
  sorted_ok (ρ := sortedA_ren) rfl sortedA sortsA (enters_of Try.func81 (by kernel_rfl) rfl) ⟨_, Try.func62, by decide, by intro h; cases h⟩ (enters_of Try.func82 (by kernel_rfl) rfl) values_it h
end Go.Proofs.Ytndpfldakcdbiaa
