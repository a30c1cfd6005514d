/- ChainTells, part 6: what the claim needs of Base10, ChainP, ChainW, ChainF, ChainN, Base11, ChainL, ChainK, OpenCal, OpenCon. -/
import Derived.Test.YtepkbadgpoploaaChainTells5
import Derived.Test.YtepkbadgpoploaaProg
import Derived.Below
import Derived.Deep.Draws
import Derived.Deep.AppendLies
import Derived.Maps.AppendAt
import Derived.OwnWalk
import Derived.Laws.BytesArg
import Derived.Laws.MakeOwn
import Derived.Laws.OwnMore
import Derived.Deep.OwnRows
import Derived.Tactics
import Derived.Lib.ConvBytes
import Derived.Laws.Slices
import Derived.WalkKit
import Derived.KernelRfl
import Derived.RowKit3
import Derived.Deep.LoopGhost
import Derived.Deep.QuietTactic
import Derived.BigQuiet
import Derived.WideLaws
import Derived.Deep.DeepCutAuto
import Derived.Deep.CutBlock
import Derived.Deep.RegionHeld3
import Derived.Laws.Rows
import Derived.Lib.AppendStr
import Derived.ArgAppend
import Derived.Laws.IdiomCopy
import Derived.OrdersHeld
import Derived.Laws.BitsLemmas
import Derived.RowKit
import Derived.Laws.StructEq
import Derived.Tactics2
import Derived.Defers
import Derived.Laws.Pointers
import Derived.Laws.LoneSync
import Derived.Laws.NewBlocks
import Derived.RegionTactic
import Derived.RegionCalls
import Derived.ChangeAlike
import Derived.StillTailTactics
import Derived.Outline
import Derived.Handy
import Derived.SizedLaws
import Derived.ChangeSlices
import Derived.Laws.EntriesVeiled
import Derived.WalkSpells
import Derived.RangeFuncNested
import Derived.RangeFuncBound
import Derived.RangeFuncCalls
import Derived.RangeFuncLeaves
import Derived.Shelf.Abstract
import Derived.Shelf.RegionOpen
import Derived.OwnWalkIn
import Derived.TacticsInMore
import Derived.LoopNIn
import Derived.LoopIn
import Derived.OrdersIn
import Derived.Test.YtepkbadgpoploaaRows
import Derived.ProofKit
import Derived.OpenShut
import Derived.ShutString
import Derived.ChangeOld
import Derived.Lib.SmallJoins
import Derived.Deep.SlicePairs
set_option linter.unusedVariables false
set_option linter.unusedSimpArgs false
namespace Go.Proofs.Ytepkbadgpoploaa.Base
open Go.RowKit Go.Proofs.YtepkbadgpoploaaW.PrintWords Go.Proofs.YtepkbadgpoploaaW.PrintLast Go.Proofs.YtepkbadgpoploaaW.PrintMore
attribute [local go_sem] max2_int min2_int max_two min_two max_three min_three max_four min_four   -- for this text's walks alone
def curfewref15_Next.j0 : Nat → Int → Bool → Int → List (S78) → List (S78) → Int → List (S75) → Int → Int → Int → Int → Int → Int → Option (Int × Int × Int × Int × Bool × Int)
  | 0, _, _, _, _, _, _, _, _, _, _, _, _, _ => none
  | k + 1, x3, x28, x223000, x223001, x223002, x224000, x224001, x224002, x224003, x225000, x225001, x225002, x225003 => if x28 = true then (some (0, 0, 0, 0, false, 2)) else (if x225000 = (wrap64 ((x224001.length : Int) - 1)) then (some (0, 0, 0, 0, false, 0)) else (if 0 ≤ (wrap64 (x225000 + 1)) then (if (wrap64 (x225000 + 1)) < (x224001.length : Int) then ((curfewref15_begin.f k x223000 x223001 x223002 (wrap64 (x225000 + 1)) ((rd_T75 x224001 (wrap64 (x225000 + 1))).f0) x3).bind fun bt228 => (some (bt228.1, bt228.2.1, bt228.2.2.1, bt228.2.2.2.1, (bt228.2.2.2.2 == 0), bt228.2.2.2.2))) else (none)) else (none)))
def curfewref15_Next.f (k : Nat) (a0_0 : Int) (l0_1 : List (S78)) (l0_2 : List (S78)) (a1_0 : Int) (l1_1 : List (S75)) (a1_2 : Int) (a1_3 : Int) (a2_0 : Int) (a2_1 : Int) (a2_2 : Int) (a2_3 : Int) (a3 : Int) : Option (Int × Int × Int × Int × Bool × Int) := (curfewref14_Good.f k a1_0 l1_1 a1_2 a1_3).bind fun t226 => (if t226 = true then (if a2_0 < 0 then (curfewref15_Next.j0 k a3 true a0_0 l0_1 l0_2 a1_0 l1_1 a1_2 a1_3 a2_0 a2_1 a2_2 a2_3) else (curfewref15_Next.j0 k a3 (decide (a2_0 ≥ (l1_1.length : Int))) a0_0 l0_1 l0_2 a1_0 l1_1 a1_2 a1_3 a2_0 a2_1 a2_2 a2_3)) else (curfewref15_Next.j0 k a3 true a0_0 l0_1 l0_2 a1_0 l1_1 a1_2 a1_3 a2_0 a2_1 a2_2 a2_3))
def curfewref15_Next.T5 : Bool × List (List Nat × List Nat) := (true, [([], []), ([], []), ([1], [1]), ([2], [2]), ([], []), ([4], [4]), ([], []), ([6], [6]), ([7], [7]), ([5, 8], [5, 8]), ([9], [9]), ([10], [10]), ([], []), ([0, 3, 11, 12], [0, 3, 11, 12]), ([13], [13]), ([14], [14]), ([14], [14]), ([], []), ([17, 15, 13, 0, 1, 2, 3, 4, 5, 6, 7, 8, 9, 10, 11, 12, 13, 14, 15, 17], [15, 17]), ([16, 18, 0, 1, 2, 3, 4, 5, 6, 7, 8, 9, 10, 11, 12, 13, 14, 15, 16, 17, 18], [16])])
def curfewref15_Next.B5 : List Nat := [0, 0, 2, 6, 0, 16, 0, 64, 192, 496, 1008, 2032, 0, 8191, 16383, 32767, 32767, 0, 196607, 524287]
theorem curfewref15_Next.tab5 : rtab .any (opsOf Try.f19 5) = curfewref15_Next.T5 := by kernel_rfl
theorem curfewref15_Next.bits5 : waitsOk curfewref15_Next.T5.2 curfewref15_Next.B5 = true := by kernel_rfl
set_option maxHeartbeats 8000000 in
set_option maxRecDepth 100000 in
theorem curfewref15_Next.calls (k : Nat) (a0_0 : Int) (A0_1 : Option Addr) (c0_1 : Nat) (l0_1 : List (S78)) (A0_2 : Option Addr) (c0_2 : Nat) (l0_2 : List (S78)) (a1_0 : Int) (A1_1 : Option Addr) (c1_1 : Nat) (l1_1 : List (S75)) (a1_2 : Int) (a1_3 : Int) (a2_0 : Int) (a2_1 : Int) (a2_2 : Int) (a2_3 : Int) (a3 : Int) (r1 : Int) (r2 : Int) (r3 : Int) (r4 : Int) (r5 : Bool) (r6 : Int) (w : World) (hr0_1 : Kd.C k78 w A0_1 l0_1.length l0_1) (hc0_1 : l0_1.length ≤ c0_1) (hr0_2 : Kd.C k78 w A0_2 l0_2.length l0_2) (hc0_2 : l0_2.length ≤ c0_2) (hr1_1 : Kd.C k75 w A1_1 l1_1.length l1_1) (hc1_1 : l1_1.length ≤ c1_1) (h : curfewref15_Next.f k a0_0 l0_1 l0_2 a1_0 l1_1 a1_2 a1_3 a2_0 a2_1 a2_2 a2_3 a3 = some (r1, r2, r3, r4, r5, r6)) :
    Calls Try.prog 19 #[.agg #[.int .i64 a0_0, .slice A0_1 l0_1.length c0_1, .slice A0_2 l0_2.length c0_2], .agg #[.int .i64 a1_0, .slice A1_1 l1_1.length c1_1, .int .i64 a1_2, .int .i64 a1_3], .agg #[.int .i64 a2_0, .int .i64 a2_1, .int .i64 a2_2, .int .i64 a2_3], .int .i64 a3] w fun e w' => e = .returned (.tuple #[.agg #[.int .i64 r1, .int .i64 r2, .int .i64 r3, .int .i64 r4], .bool r5, .int .i64 r6]) ∧ Below w.heap.size w w' := by
  have hu24 := Try.underlying24
  have hu30 := Try.underlying30
  have hu39 := Try.underlying39
  have HR0_1 := Aside0.mk hr0_1
  have HC0_1 := Aside0.mk hc0_1
  clear hr0_1 hc0_1
  have HR0_2 := Aside0.mk hr0_2
  have HC0_2 := Aside0.mk hc0_2
  clear hr0_2 hc0_2
  have HR1_1 := Aside0.mk hr1_1
  have HC1_1 := Aside0.mk hc1_1
  clear hr1_1 hc1_1
  have HB := Aside0.mk (Below.refl w.heap.size w)
  have H : ((curfewref14_Good.f k a1_0 l1_1 a1_2 a1_3).bind fun t226 => (if t226 = true then (if a2_0 < 0 then (curfewref15_Next.j0 k a3 true a0_0 l0_1 l0_2 a1_0 l1_1 a1_2 a1_3 a2_0 a2_1 a2_2 a2_3) else (curfewref15_Next.j0 k a3 (decide (a2_0 ≥ (l1_1.length : Int))) a0_0 l0_1 l0_2 a1_0 l1_1 a1_2 a1_3 a2_0 a2_1 a2_2 a2_3)) else (curfewref15_Next.j0 k a3 true a0_0 l0_1 l0_2 a1_0 l1_1 a1_2 a1_3 a2_0 a2_1 a2_2 a2_3))) = some (r1, r2, r3, r4, r5, r6) := h
  clear h
  have HC5 := Aside0.mk H
  clear H
  go_enter Try.func19, Try.ntmps19
  go_upto_region 1 with (first | ((with_reducible refine gate_dst (N := 4) rfl ?_); (try (refine gate_guard (by rfl) ?_; dsimp only)); refine box_event ?hg (N := 4) ?hd (cs := #[.int .i64 a0_0, .slice A0_1 l0_1.length c0_1, .slice A0_2 l0_2.length c0_2]) (t := 24) ?hr ?_; (case hd => rfl); (case hg => rfl); (case hr => first | (go_simp; done) | (go_simp; rfl)); intro gb222 hg w6 hbox hb; have n0_ := Aside0.mk (below_step (by repeat (first | (with_reducible first | exact HB.out | apply below_alloc | apply pw_below_drewN | apply below_drew1) | exact HB.out)) hb); have n1_ := Aside0.mk (hbox); have n2_ := Aside0.mk ((by rw [hg]; exact (below_size (by repeat (first | (with_reducible first | exact HB.out | apply below_alloc | apply pw_below_drewN | apply below_drew1) | exact HB.out))) : w.heap.size ≤ gb222)); have n3_ := Aside0.mk ((by rw [hg]; exact (below_size (by repeat (first | (with_reducible first | exact HB.out | apply below_alloc | apply pw_below_drewN | apply below_drew1) | exact HB.out))) : w.heap.size ≤ gb222)); clear HB; have HB := n0_; have BK222 := n1_; have GW222 := n2_; have GE222 := n3_; clear n0_ n1_ n2_ n3_; clear hb hbox hg) | ((with_reducible refine gate_dst (N := 5) rfl ?_); (try (refine gate_guard (by rfl) ?_; dsimp only)); refine box_event ?hg (N := 5) ?hd (cs := #[.int .i64 a1_0, .slice A1_1 l1_1.length c1_1, .int .i64 a1_2, .int .i64 a1_3]) (t := 30) ?hr ?_; (case hd => rfl); (case hg => rfl); (case hr => first | (go_simp; done) | (go_simp; rfl)); intro gb223 hg w7 hbox hb; have n0_ := Aside0.mk (blk_below (g := gb222) (o := .cells #[.int .i64 a0_0, .slice A0_1 l0_1.length c0_1, .slice A0_2 l0_2.length c0_2] 24 (0, 0)) (by (with_reducible repeat (first | refine blk_drewN ?_ _ | refine blk_drew ?_ | refine blk_alloc ?_ _)); exact BK222.out) hb); have n1_ := Aside0.mk (below_step (by repeat (first | (with_reducible first | exact HB.out | apply below_alloc | apply pw_below_drewN | apply below_drew1 | refine below_set ?_ GE222.out) | exact HB.out)) hb); have n2_ := Aside0.mk (hbox); have n3_ := Aside0.mk ((by rw [hg]; exact (below_size (by repeat (first | (with_reducible first | exact HB.out | apply below_alloc | apply pw_below_drewN | apply below_drew1 | refine below_set ?_ GE222.out) | exact HB.out))) : w.heap.size ≤ gb223)); have n4_ := Aside0.mk ((by rw [hg]; exact (below_size (by repeat (first | (with_reducible first | exact HB.out | apply below_alloc | apply pw_below_drewN | apply below_drew1 | refine below_set ?_ GE222.out) | exact HB.out))) : w.heap.size ≤ gb223)); have n5_ := Aside0.mk ((by rw [hg]; exact Nat.ne_of_lt (blk_lt (g := gb222) (o := .cells #[.int .i64 a0_0, .slice A0_1 l0_1.length c0_1, .slice A0_2 l0_2.length c0_2] 24 (0, 0)) (by (with_reducible repeat (first | refine blk_drewN ?_ _ | refine blk_drew ?_ | refine blk_alloc ?_ _)); exact BK222.out)) : gb222 ≠ gb223)); have n6_ := Aside0.mk ((by rw [hg]; exact Nat.ne_of_gt (blk_lt (g := gb222) (o := .cells #[.int .i64 a0_0, .slice A0_1 l0_1.length c0_1, .slice A0_2 l0_2.length c0_2] 24 (0, 0)) (by (with_reducible repeat (first | refine blk_drewN ?_ _ | refine blk_drew ?_ | refine blk_alloc ?_ _)); exact BK222.out)) : gb223 ≠ gb222)); clear BK222; clear HB; have BK222 := n0_; have HB := n1_; have BK223 := n2_; have GW223 := n3_; have GE223 := n4_; have NB222_223 := n5_; have NB223_222 := n6_; clear n0_ n1_ n2_ n3_ n4_ n5_ n6_; clear hb hbox hg) | ((with_reducible refine gate_dst (N := 6) rfl ?_); (try (refine gate_guard (by rfl) ?_; dsimp only)); refine box_event ?hg (N := 6) ?hd (cs := #[.int .i64 a2_0, .int .i64 a2_1, .int .i64 a2_2, .int .i64 a2_3]) (t := 39) ?hr ?_; (case hd => rfl); (case hg => rfl); (case hr => first | (go_simp; done) | (go_simp; rfl)); intro gb224 hg w8 hbox hb; have n0_ := Aside0.mk (blk_below (g := gb222) (o := .cells #[.int .i64 a0_0, .slice A0_1 l0_1.length c0_1, .slice A0_2 l0_2.length c0_2] 24 (0, 0)) (by (with_reducible repeat (first | refine blk_drewN ?_ _ | refine blk_drew ?_ | refine blk_alloc ?_ _)); exact BK222.out) hb); have n1_ := Aside0.mk (blk_below (g := gb223) (o := .cells #[.int .i64 a1_0, .slice A1_1 l1_1.length c1_1, .int .i64 a1_2, .int .i64 a1_3] 30 (0, 0)) (by (with_reducible repeat (first | refine blk_drewN ?_ _ | refine blk_drew ?_ | refine blk_alloc ?_ _)); exact BK223.out) hb); have n2_ := Aside0.mk (below_step (by repeat (first | (with_reducible first | exact HB.out | apply below_alloc | apply pw_below_drewN | apply below_drew1 | refine below_set ?_ GE222.out | refine below_set ?_ GE223.out) | exact HB.out)) hb); have n3_ := Aside0.mk (hbox); have n4_ := Aside0.mk ((by rw [hg]; exact (below_size (by repeat (first | (with_reducible first | exact HB.out | apply below_alloc | apply pw_below_drewN | apply below_drew1 | refine below_set ?_ GE222.out | refine below_set ?_ GE223.out) | exact HB.out))) : w.heap.size ≤ gb224)); have n5_ := Aside0.mk ((by rw [hg]; exact (below_size (by repeat (first | (with_reducible first | exact HB.out | apply below_alloc | apply pw_below_drewN | apply below_drew1 | refine below_set ?_ GE222.out | refine below_set ?_ GE223.out) | exact HB.out))) : w.heap.size ≤ gb224)); have n6_ := Aside0.mk ((by rw [hg]; exact Nat.ne_of_lt (blk_lt (g := gb222) (o := .cells #[.int .i64 a0_0, .slice A0_1 l0_1.length c0_1, .slice A0_2 l0_2.length c0_2] 24 (0, 0)) (by (with_reducible repeat (first | refine blk_drewN ?_ _ | refine blk_drew ?_ | refine blk_alloc ?_ _)); exact BK222.out)) : gb222 ≠ gb224)); have n7_ := Aside0.mk ((by rw [hg]; exact Nat.ne_of_gt (blk_lt (g := gb222) (o := .cells #[.int .i64 a0_0, .slice A0_1 l0_1.length c0_1, .slice A0_2 l0_2.length c0_2] 24 (0, 0)) (by (with_reducible repeat (first | refine blk_drewN ?_ _ | refine blk_drew ?_ | refine blk_alloc ?_ _)); exact BK222.out)) : gb224 ≠ gb222)); have n8_ := Aside0.mk ((by rw [hg]; exact Nat.ne_of_lt (blk_lt (g := gb223) (o := .cells #[.int .i64 a1_0, .slice A1_1 l1_1.length c1_1, .int .i64 a1_2, .int .i64 a1_3] 30 (0, 0)) (by (with_reducible repeat (first | refine blk_drewN ?_ _ | refine blk_drew ?_ | refine blk_alloc ?_ _)); exact BK223.out)) : gb223 ≠ gb224)); have n9_ := Aside0.mk ((by rw [hg]; exact Nat.ne_of_gt (blk_lt (g := gb223) (o := .cells #[.int .i64 a1_0, .slice A1_1 l1_1.length c1_1, .int .i64 a1_2, .int .i64 a1_3] 30 (0, 0)) (by (with_reducible repeat (first | refine blk_drewN ?_ _ | refine blk_drew ?_ | refine blk_alloc ?_ _)); exact BK223.out)) : gb224 ≠ gb223)); clear BK222; clear BK223; clear HB; have BK222 := n0_; have BK223 := n1_; have HB := n2_; have BK224 := n3_; have GW224 := n4_; have GE224 := n5_; have NB222_224 := n6_; have NB224_222 := n7_; have NB223_224 := n8_; have NB224_223 := n9_; clear n0_ n1_ n2_ n3_ n4_ n5_ n6_ n7_ n8_ n9_; clear hb hbox hg) | ((with_reducible refine gate_dst (N := 8) rfl ?_); (try (refine gate_guard (by rfl) ?_; dsimp only)); refine box_event ?hg (N := 8) ?hd (cs := #[.int .i64 0, .int .i64 0, .int .i64 0, .int .i64 0]) (t := 39) ?hr ?_; (case hd => rfl); (case hg => rfl); (case hr => first | (go_simp; done) | (go_simp; rfl)); intro gb225 hg w9 hbox hb; have n0_ := Aside0.mk (blk_below (g := gb222) (o := .cells #[.int .i64 a0_0, .slice A0_1 l0_1.length c0_1, .slice A0_2 l0_2.length c0_2] 24 (0, 0)) (by (with_reducible repeat (first | refine blk_drewN ?_ _ | refine blk_drew ?_ | refine blk_alloc ?_ _)); exact BK222.out) hb); have n1_ := Aside0.mk (blk_below (g := gb223) (o := .cells #[.int .i64 a1_0, .slice A1_1 l1_1.length c1_1, .int .i64 a1_2, .int .i64 a1_3] 30 (0, 0)) (by (with_reducible repeat (first | refine blk_drewN ?_ _ | refine blk_drew ?_ | refine blk_alloc ?_ _)); exact BK223.out) hb); have n2_ := Aside0.mk (blk_below (g := gb224) (o := .cells #[.int .i64 a2_0, .int .i64 a2_1, .int .i64 a2_2, .int .i64 a2_3] 39 (0, 0)) (by (with_reducible repeat (first | refine blk_drewN ?_ _ | refine blk_drew ?_ | refine blk_alloc ?_ _)); exact BK224.out) hb); have n3_ := Aside0.mk (below_step (by repeat (first | (with_reducible first | exact HB.out | apply below_alloc | apply pw_below_drewN | apply below_drew1 | refine below_set ?_ GE222.out | refine below_set ?_ GE223.out | refine below_set ?_ GE224.out) | exact HB.out)) hb); have n4_ := Aside0.mk (hbox); have n5_ := Aside0.mk ((by rw [hg]; exact (below_size (by repeat (first | (with_reducible first | exact HB.out | apply below_alloc | apply pw_below_drewN | apply below_drew1 | refine below_set ?_ GE222.out | refine below_set ?_ GE223.out | refine below_set ?_ GE224.out) | exact HB.out))) : w.heap.size ≤ gb225)); have n6_ := Aside0.mk ((by rw [hg]; exact (below_size (by repeat (first | (with_reducible first | exact HB.out | apply below_alloc | apply pw_below_drewN | apply below_drew1 | refine below_set ?_ GE222.out | refine below_set ?_ GE223.out | refine below_set ?_ GE224.out) | exact HB.out))) : w.heap.size ≤ gb225)); have n7_ := Aside0.mk ((by rw [hg]; exact Nat.ne_of_lt (blk_lt (g := gb222) (o := .cells #[.int .i64 a0_0, .slice A0_1 l0_1.length c0_1, .slice A0_2 l0_2.length c0_2] 24 (0, 0)) (by (with_reducible repeat (first | refine blk_drewN ?_ _ | refine blk_drew ?_ | refine blk_alloc ?_ _)); exact BK222.out)) : gb222 ≠ gb225)); have n8_ := Aside0.mk ((by rw [hg]; exact Nat.ne_of_gt (blk_lt (g := gb222) (o := .cells #[.int .i64 a0_0, .slice A0_1 l0_1.length c0_1, .slice A0_2 l0_2.length c0_2] 24 (0, 0)) (by (with_reducible repeat (first | refine blk_drewN ?_ _ | refine blk_drew ?_ | refine blk_alloc ?_ _)); exact BK222.out)) : gb225 ≠ gb222)); have n9_ := Aside0.mk ((by rw [hg]; exact Nat.ne_of_lt (blk_lt (g := gb223) (o := .cells #[.int .i64 a1_0, .slice A1_1 l1_1.length c1_1, .int .i64 a1_2, .int .i64 a1_3] 30 (0, 0)) (by (with_reducible repeat (first | refine blk_drewN ?_ _ | refine blk_drew ?_ | refine blk_alloc ?_ _)); exact BK223.out)) : gb223 ≠ gb225)); have n10_ := Aside0.mk ((by rw [hg]; exact Nat.ne_of_gt (blk_lt (g := gb223) (o := .cells #[.int .i64 a1_0, .slice A1_1 l1_1.length c1_1, .int .i64 a1_2, .int .i64 a1_3] 30 (0, 0)) (by (with_reducible repeat (first | refine blk_drewN ?_ _ | refine blk_drew ?_ | refine blk_alloc ?_ _)); exact BK223.out)) : gb225 ≠ gb223)); have n11_ := Aside0.mk ((by rw [hg]; exact Nat.ne_of_lt (blk_lt (g := gb224) (o := .cells #[.int .i64 a2_0, .int .i64 a2_1, .int .i64 a2_2, .int .i64 a2_3] 39 (0, 0)) (by (with_reducible repeat (first | refine blk_drewN ?_ _ | refine blk_drew ?_ | refine blk_alloc ?_ _)); exact BK224.out)) : gb224 ≠ gb225)); have n12_ := Aside0.mk ((by rw [hg]; exact Nat.ne_of_gt (blk_lt (g := gb224) (o := .cells #[.int .i64 a2_0, .int .i64 a2_1, .int .i64 a2_2, .int .i64 a2_3] 39 (0, 0)) (by (with_reducible repeat (first | refine blk_drewN ?_ _ | refine blk_drew ?_ | refine blk_alloc ?_ _)); exact BK224.out)) : gb225 ≠ gb224)); clear BK222; clear BK223; clear BK224; clear HB; have BK222 := n0_; have BK223 := n1_; have BK224 := n2_; have HB := n3_; have BK225 := n4_; have GW225 := n5_; have GE225 := n6_; have NB222_225 := n7_; have NB225_222 := n8_; have NB223_225 := n9_; have NB225_223 := n10_; have NB224_225 := n11_; have NB225_224 := n12_; clear n0_ n1_ n2_ n3_ n4_ n5_ n6_ n7_ n8_ n9_ n10_ n11_ n12_; clear hb hbox hg))
  (try simp only [Act.put, List.setIfInBounds_toArray, List.set_cons_zero, List.set_cons_succ])
  go_cut [28] (fun v28 wc => ∃ (kq : Nat) (x28_4 : Bool), v28 = .bool x28_4 ∧ Aside0 (curfewref15_Next.j0 kq a3 x28_4 a0_0 l0_1 l0_2 a1_0 l1_1 a1_2 a1_3 a2_0 a2_1 a2_2 a2_3 = some (r1, r2, r3, r4, r5, r6)) ∧ Aside0 (kq ≤ k) ∧ Aside0 (wc.heap[gb222]? = some (.cells #[.int .i64 a0_0, (.slice A0_1 l0_1.length c0_1), (.slice A0_2 l0_2.length c0_2)] 24 (0, 0))) ∧ Aside0 (wc.heap[gb223]? = some (.cells #[.int .i64 a1_0, (.slice A1_1 l1_1.length c1_1), .int .i64 a1_2, .int .i64 a1_3] 30 (0, 0))) ∧ Aside0 (wc.heap[gb224]? = some (.cells #[.int .i64 a2_0, .int .i64 a2_1, .int .i64 a2_2, .int .i64 a2_3] 39 (0, 0))) ∧ Aside0 (wc.heap[gb225]? = some (.cells #[.int .i64 0, .int .i64 0, .int .i64 0, .int .i64 0] 39 (0, 0))) ∧ Aside0 (Below w.heap.size w wc))
  case first =>
    have H := HC5.out
    clear HC5
    replace H := Option.bind_eq_some_iff.mp H
    obtain ⟨t226, A100, H⟩ := H
    replace H : (if t226 = true then (if a2_0 < 0 then (curfewref15_Next.j0 k a3 true a0_0 l0_1 l0_2 a1_0 l1_1 a1_2 a1_3 a2_0 a2_1 a2_2 a2_3) else (curfewref15_Next.j0 k a3 (decide (a2_0 ≥ (l1_1.length : Int))) a0_0 l0_1 l0_2 a1_0 l1_1 a1_2 a1_3 a2_0 a2_1 a2_2 a2_3)) else (curfewref15_Next.j0 k a3 true a0_0 l0_1 l0_2 a1_0 l1_1 a1_2 a1_3 a2_0 a2_1 a2_2 a2_3)) = some (r1, r2, r3, r4, r5, r6) := H
    have A10 := Aside0.mk A100
    clear A100
    by_cases c11 : t226 = true
    · subst c11
      have H1 : (if a2_0 < 0 then (curfewref15_Next.j0 k a3 true a0_0 l0_1 l0_2 a1_0 l1_1 a1_2 a1_3 a2_0 a2_1 a2_2 a2_3) else (curfewref15_Next.j0 k a3 (decide (a2_0 ≥ (l1_1.length : Int))) a0_0 l0_1 l0_2 a1_0 l1_1 a1_2 a1_3 a2_0 a2_1 a2_2 a2_3)) = some (r1, r2, r3, r4, r5, r6) := by rw [if_pos rfl] at H; exact H
      clear H
      have H := H1
      clear H1
      by_cases c12 : a2_0 < 0
      · rw [if_pos c12] at H
        have c12b0 : decide (a2_0 < 0) = true := decide_eq_true c12
        clear c12
        (first | rw [c12b0] | (simp only [i64_w, i32_w]; rw [c12b0]) | skip)
        have H' := Aside0.mk H
        clear H
        have hnb13 := NB223_222.out
        have hnc13 := NB222_223.out
        have hnb14 := NB223_224.out
        have hnc14 := NB224_223.out
        have hnb15 := NB223_225.out
        have hnc15 := NB225_223.out
        have hcz16_0 : w9.cell? ⟨gb223, 0, none⟩ = some (.int .i64 a1_0) := (blk_cell BK223.out 0).trans rfl
        have hcz16_1 : w9.cell? ⟨gb223, 1, none⟩ = some (.slice A1_1 l1_1.length c1_1) := (blk_cell BK223.out 1).trans rfl
        have hcz16_2 : w9.cell? ⟨gb223, 2, none⟩ = some (.int .i64 a1_2) := (blk_cell BK223.out 2).trans rfl
        have hcz16_3 : w9.cell? ⟨gb223, 3, none⟩ = some (.int .i64 a1_3) := (blk_cell BK223.out 3).trans rfl
        have hfz16_0 := blk_frozen BK223.out 0
        have hfz16_1 := blk_frozen BK223.out 1
        have hfz16_2 := blk_frozen BK223.out 2
        have hfz16_3 := blk_frozen BK223.out 3
        go_wp2_with (first | ((with_reducible refine gate_callee (f := 15) rfl ?_); refine goesL_ (some 14) rfl rfl Try.func15 (by kernel_rfl) rfl #[.agg #[.int .i64 a1_0, .slice A1_1 l1_1.length c1_1, .int .i64 a1_2, .int .i64 a1_3]] rfl (by (try simp only [List.map_toArray, List.map_cons, List.map_nil]); first | done | rfl | (simp only [List.length_drop, List.length_take]; rfl)) ?_; (with_reducible refine (curfewref14_Good.calls k a1_0 _ _ l1_1 a1_2 a1_3 true _ ?side1 ?side2 A10.out).mono ?_); (case side1 => repeat (first | exact (Kd.C_below HR1_1.out HB.out) | (with_reducible refine Kd.C_alloc ?_ _) | (with_reducible refine Kd.C_drewN ?_ _) | (with_reducible refine Kd.C_drew ?_))); (case side2 => exact HC1_1.out); rintro e w17 ⟨rfl, hb⟩; refine ⟨_, rfl, ?_⟩; have n0_ := Aside0.mk (blk_below (g := gb222) (o := .cells #[.int .i64 a0_0, .slice A0_1 l0_1.length c0_1, .slice A0_2 l0_2.length c0_2] 24 (0, 0)) (by (with_reducible repeat (first | refine blk_drewN ?_ _ | refine blk_drew ?_ | refine blk_alloc ?_ _)); exact BK222.out) hb); have n1_ := Aside0.mk (blk_below (g := gb223) (o := .cells #[.int .i64 a1_0, .slice A1_1 l1_1.length c1_1, .int .i64 a1_2, .int .i64 a1_3] 30 (0, 0)) (by (with_reducible repeat (first | refine blk_drewN ?_ _ | refine blk_drew ?_ | refine blk_alloc ?_ _)); exact BK223.out) hb); have n2_ := Aside0.mk (blk_below (g := gb224) (o := .cells #[.int .i64 a2_0, .int .i64 a2_1, .int .i64 a2_2, .int .i64 a2_3] 39 (0, 0)) (by (with_reducible repeat (first | refine blk_drewN ?_ _ | refine blk_drew ?_ | refine blk_alloc ?_ _)); exact BK224.out) hb); have n3_ := Aside0.mk (blk_below (g := gb225) (o := .cells #[.int .i64 0, .int .i64 0, .int .i64 0, .int .i64 0] 39 (0, 0)) (by (with_reducible repeat (first | refine blk_drewN ?_ _ | refine blk_drew ?_ | refine blk_alloc ?_ _)); exact BK225.out) hb); have n4_ := Aside0.mk (below_step (by repeat (first | (with_reducible first | exact HB.out | apply below_alloc | apply pw_below_drewN | apply below_drew1 | refine below_set ?_ GE222.out | refine below_set ?_ GE223.out | refine below_set ?_ GE224.out | refine below_set ?_ GE225.out) | exact HB.out)) hb); clear BK222; clear BK223; clear BK224; clear BK225; clear HB; have BK222 := n0_; have BK223 := n1_; have BK224 := n2_; have BK225 := n3_; have HB := n4_; clear n0_ n1_ n2_ n3_ n4_; (try clear hb); (try clear hb2); (try clear hk); (try clear hi); have hnb18 := NB224_222.out; have hnc18 := NB222_224.out; have hnb19 := NB224_225.out; have hnc19 := NB225_224.out; have hcz20_0 : w17.cell? ⟨gb224, 0, none⟩ = some (.int .i64 a2_0) := (blk_cell BK224.out 0).trans rfl; have hcz20_1 : w17.cell? ⟨gb224, 1, none⟩ = some (.int .i64 a2_1) := (blk_cell BK224.out 1).trans rfl; have hcz20_2 : w17.cell? ⟨gb224, 2, none⟩ = some (.int .i64 a2_2) := (blk_cell BK224.out 2).trans rfl; have hcz20_3 : w17.cell? ⟨gb224, 3, none⟩ = some (.int .i64 a2_3) := (blk_cell BK224.out 3).trans rfl; have hfz20_0 := blk_frozen BK224.out 0; have hfz20_1 := blk_frozen BK224.out 1; have hfz20_2 := blk_frozen BK224.out 2; have hfz20_3 := blk_frozen BK224.out 3))
        go_meet
        case rel => exact ⟨_, (true), (by first | rfl | (simp; done) | (simp [*]; done)), H', ⟨by first | omega | exact Nat.le_refl _⟩, ⟨by (with_reducible repeat (first | refine blk_drewN ?_ _ | refine blk_drew ?_ | refine blk_alloc ?_ _)); exact BK222.out⟩, ⟨by (with_reducible repeat (first | refine blk_drewN ?_ _ | refine blk_drew ?_ | refine blk_alloc ?_ _)); exact BK223.out⟩, ⟨by (with_reducible repeat (first | refine blk_drewN ?_ _ | refine blk_drew ?_ | refine blk_alloc ?_ _)); exact BK224.out⟩, ⟨by (with_reducible repeat (first | refine blk_drewN ?_ _ | refine blk_drew ?_ | refine blk_alloc ?_ _)); exact BK225.out⟩, ⟨by repeat (first | (with_reducible first | exact HB.out | apply below_alloc | apply pw_below_drewN | apply below_drew1 | refine below_set ?_ GE222.out | refine below_set ?_ GE223.out | refine below_set ?_ GE224.out | refine below_set ?_ GE225.out) | exact HB.out)⟩⟩
      · rw [if_neg c12] at H
        have c12b0 : decide (a2_0 < 0) = false := decide_eq_false c12
        clear c12
        (first | rw [c12b0] | (simp only [i64_w, i32_w]; rw [c12b0]) | skip)
        have H' := Aside0.mk H
        clear H
        have hnb21 := NB223_222.out
        have hnc21 := NB222_223.out
        have hnb22 := NB223_224.out
        have hnc22 := NB224_223.out
        have hnb23 := NB223_225.out
        have hnc23 := NB225_223.out
        have hcz24_0 : w9.cell? ⟨gb223, 0, none⟩ = some (.int .i64 a1_0) := (blk_cell BK223.out 0).trans rfl
        have hcz24_1 : w9.cell? ⟨gb223, 1, none⟩ = some (.slice A1_1 l1_1.length c1_1) := (blk_cell BK223.out 1).trans rfl
        have hcz24_2 : w9.cell? ⟨gb223, 2, none⟩ = some (.int .i64 a1_2) := (blk_cell BK223.out 2).trans rfl
        have hcz24_3 : w9.cell? ⟨gb223, 3, none⟩ = some (.int .i64 a1_3) := (blk_cell BK223.out 3).trans rfl
        have hfz24_0 := blk_frozen BK223.out 0
        have hfz24_1 := blk_frozen BK223.out 1
        have hfz24_2 := blk_frozen BK223.out 2
        have hfz24_3 := blk_frozen BK223.out 3
        go_wp2_with (first | ((with_reducible refine gate_callee (f := 15) rfl ?_); refine goesL_ (some 14) rfl rfl Try.func15 (by kernel_rfl) rfl #[.agg #[.int .i64 a1_0, .slice A1_1 l1_1.length c1_1, .int .i64 a1_2, .int .i64 a1_3]] rfl (by (try simp only [List.map_toArray, List.map_cons, List.map_nil]); first | done | rfl | (simp only [List.length_drop, List.length_take]; rfl)) ?_; (with_reducible refine (curfewref14_Good.calls k a1_0 _ _ l1_1 a1_2 a1_3 true _ ?side1 ?side2 A10.out).mono ?_); (case side1 => repeat (first | exact (Kd.C_below HR1_1.out HB.out) | (with_reducible refine Kd.C_alloc ?_ _) | (with_reducible refine Kd.C_drewN ?_ _) | (with_reducible refine Kd.C_drew ?_))); (case side2 => exact HC1_1.out); rintro e w25 ⟨rfl, hb⟩; refine ⟨_, rfl, ?_⟩; have n0_ := Aside0.mk (blk_below (g := gb222) (o := .cells #[.int .i64 a0_0, .slice A0_1 l0_1.length c0_1, .slice A0_2 l0_2.length c0_2] 24 (0, 0)) (by (with_reducible repeat (first | refine blk_drewN ?_ _ | refine blk_drew ?_ | refine blk_alloc ?_ _)); exact BK222.out) hb); have n1_ := Aside0.mk (blk_below (g := gb223) (o := .cells #[.int .i64 a1_0, .slice A1_1 l1_1.length c1_1, .int .i64 a1_2, .int .i64 a1_3] 30 (0, 0)) (by (with_reducible repeat (first | refine blk_drewN ?_ _ | refine blk_drew ?_ | refine blk_alloc ?_ _)); exact BK223.out) hb); have n2_ := Aside0.mk (blk_below (g := gb224) (o := .cells #[.int .i64 a2_0, .int .i64 a2_1, .int .i64 a2_2, .int .i64 a2_3] 39 (0, 0)) (by (with_reducible repeat (first | refine blk_drewN ?_ _ | refine blk_drew ?_ | refine blk_alloc ?_ _)); exact BK224.out) hb); have n3_ := Aside0.mk (blk_below (g := gb225) (o := .cells #[.int .i64 0, .int .i64 0, .int .i64 0, .int .i64 0] 39 (0, 0)) (by (with_reducible repeat (first | refine blk_drewN ?_ _ | refine blk_drew ?_ | refine blk_alloc ?_ _)); exact BK225.out) hb); have n4_ := Aside0.mk (below_step (by repeat (first | (with_reducible first | exact HB.out | apply below_alloc | apply pw_below_drewN | apply below_drew1 | refine below_set ?_ GE222.out | refine below_set ?_ GE223.out | refine below_set ?_ GE224.out | refine below_set ?_ GE225.out) | exact HB.out)) hb); clear BK222; clear BK223; clear BK224; clear BK225; clear HB; have BK222 := n0_; have BK223 := n1_; have BK224 := n2_; have BK225 := n3_; have HB := n4_; clear n0_ n1_ n2_ n3_ n4_; (try clear hb); (try clear hb2); (try clear hk); (try clear hi); have hnb26 := NB224_222.out; have hnc26 := NB222_224.out; have hnb27 := NB224_225.out; have hnc27 := NB225_224.out; have hcz28_0 : w25.cell? ⟨gb224, 0, none⟩ = some (.int .i64 a2_0) := (blk_cell BK224.out 0).trans rfl; have hcz28_1 : w25.cell? ⟨gb224, 1, none⟩ = some (.int .i64 a2_1) := (blk_cell BK224.out 1).trans rfl; have hcz28_2 : w25.cell? ⟨gb224, 2, none⟩ = some (.int .i64 a2_2) := (blk_cell BK224.out 2).trans rfl; have hcz28_3 : w25.cell? ⟨gb224, 3, none⟩ = some (.int .i64 a2_3) := (blk_cell BK224.out 3).trans rfl; have hfz28_0 := blk_frozen BK224.out 0; have hfz28_1 := blk_frozen BK224.out 1; have hfz28_2 := blk_frozen BK224.out 2; have hfz28_3 := blk_frozen BK224.out 3; have hcz29_0 : w25.cell? ⟨gb223, 0, none⟩ = some (.int .i64 a1_0) := (blk_cell BK223.out 0).trans rfl; have hcz29_1 : w25.cell? ⟨gb223, 1, none⟩ = some (.slice A1_1 l1_1.length c1_1) := (blk_cell BK223.out 1).trans rfl; have hcz29_2 : w25.cell? ⟨gb223, 2, none⟩ = some (.int .i64 a1_2) := (blk_cell BK223.out 2).trans rfl; have hcz29_3 : w25.cell? ⟨gb223, 3, none⟩ = some (.int .i64 a1_3) := (blk_cell BK223.out 3).trans rfl; have hfz29_0 := blk_frozen BK223.out 0; have hfz29_1 := blk_frozen BK223.out 1; have hfz29_2 := blk_frozen BK223.out 2; have hfz29_3 := blk_frozen BK223.out 3))
        go_meet
        case rel => exact ⟨_, (decide (a2_0 ≥ (l1_1.length : Int))), (by first | rfl | (simp; done) | (simp [*]; done)), H', ⟨by first | omega | exact Nat.le_refl _⟩, ⟨by (with_reducible repeat (first | refine blk_drewN ?_ _ | refine blk_drew ?_ | refine blk_alloc ?_ _)); exact BK222.out⟩, ⟨by (with_reducible repeat (first | refine blk_drewN ?_ _ | refine blk_drew ?_ | refine blk_alloc ?_ _)); exact BK223.out⟩, ⟨by (with_reducible repeat (first | refine blk_drewN ?_ _ | refine blk_drew ?_ | refine blk_alloc ?_ _)); exact BK224.out⟩, ⟨by (with_reducible repeat (first | refine blk_drewN ?_ _ | refine blk_drew ?_ | refine blk_alloc ?_ _)); exact BK225.out⟩, ⟨by repeat (first | (with_reducible first | exact HB.out | apply below_alloc | apply pw_below_drewN | apply below_drew1 | refine below_set ?_ GE222.out | refine below_set ?_ GE223.out | refine below_set ?_ GE224.out | refine below_set ?_ GE225.out) | exact HB.out)⟩⟩
    · replace c11 := Bool.eq_false_iff.mpr c11
      subst c11
      have H1 : (curfewref15_Next.j0 k a3 true a0_0 l0_1 l0_2 a1_0 l1_1 a1_2 a1_3 a2_0 a2_1 a2_2 a2_3) = some (r1, r2, r3, r4, r5, r6) := by rw [if_neg (show ¬ (false = true) by decide)] at H; exact H
      clear H
      have H := H1
      clear H1
      have H' := Aside0.mk H
      clear H
      have hnb30 := NB223_222.out
      have hnc30 := NB222_223.out
      have hnb31 := NB223_224.out
      have hnc31 := NB224_223.out
      have hnb32 := NB223_225.out
      have hnc32 := NB225_223.out
      have hcz33_0 : w9.cell? ⟨gb223, 0, none⟩ = some (.int .i64 a1_0) := (blk_cell BK223.out 0).trans rfl
      have hcz33_1 : w9.cell? ⟨gb223, 1, none⟩ = some (.slice A1_1 l1_1.length c1_1) := (blk_cell BK223.out 1).trans rfl
      have hcz33_2 : w9.cell? ⟨gb223, 2, none⟩ = some (.int .i64 a1_2) := (blk_cell BK223.out 2).trans rfl
      have hcz33_3 : w9.cell? ⟨gb223, 3, none⟩ = some (.int .i64 a1_3) := (blk_cell BK223.out 3).trans rfl
      have hfz33_0 := blk_frozen BK223.out 0
      have hfz33_1 := blk_frozen BK223.out 1
      have hfz33_2 := blk_frozen BK223.out 2
      have hfz33_3 := blk_frozen BK223.out 3
      go_wp2_with (first | ((with_reducible refine gate_callee (f := 15) rfl ?_); refine goesL_ (some 14) rfl rfl Try.func15 (by kernel_rfl) rfl #[.agg #[.int .i64 a1_0, .slice A1_1 l1_1.length c1_1, .int .i64 a1_2, .int .i64 a1_3]] rfl (by (try simp only [List.map_toArray, List.map_cons, List.map_nil]); first | done | rfl | (simp only [List.length_drop, List.length_take]; rfl)) ?_; (with_reducible refine (curfewref14_Good.calls k a1_0 _ _ l1_1 a1_2 a1_3 false _ ?side1 ?side2 A10.out).mono ?_); (case side1 => repeat (first | exact (Kd.C_below HR1_1.out HB.out) | (with_reducible refine Kd.C_alloc ?_ _) | (with_reducible refine Kd.C_drewN ?_ _) | (with_reducible refine Kd.C_drew ?_))); (case side2 => exact HC1_1.out); rintro e w34 ⟨rfl, hb⟩; refine ⟨_, rfl, ?_⟩; have n0_ := Aside0.mk (blk_below (g := gb222) (o := .cells #[.int .i64 a0_0, .slice A0_1 l0_1.length c0_1, .slice A0_2 l0_2.length c0_2] 24 (0, 0)) (by (with_reducible repeat (first | refine blk_drewN ?_ _ | refine blk_drew ?_ | refine blk_alloc ?_ _)); exact BK222.out) hb); have n1_ := Aside0.mk (blk_below (g := gb223) (o := .cells #[.int .i64 a1_0, .slice A1_1 l1_1.length c1_1, .int .i64 a1_2, .int .i64 a1_3] 30 (0, 0)) (by (with_reducible repeat (first | refine blk_drewN ?_ _ | refine blk_drew ?_ | refine blk_alloc ?_ _)); exact BK223.out) hb); have n2_ := Aside0.mk (blk_below (g := gb224) (o := .cells #[.int .i64 a2_0, .int .i64 a2_1, .int .i64 a2_2, .int .i64 a2_3] 39 (0, 0)) (by (with_reducible repeat (first | refine blk_drewN ?_ _ | refine blk_drew ?_ | refine blk_alloc ?_ _)); exact BK224.out) hb); have n3_ := Aside0.mk (blk_below (g := gb225) (o := .cells #[.int .i64 0, .int .i64 0, .int .i64 0, .int .i64 0] 39 (0, 0)) (by (with_reducible repeat (first | refine blk_drewN ?_ _ | refine blk_drew ?_ | refine blk_alloc ?_ _)); exact BK225.out) hb); have n4_ := Aside0.mk (below_step (by repeat (first | (with_reducible first | exact HB.out | apply below_alloc | apply pw_below_drewN | apply below_drew1 | refine below_set ?_ GE222.out | refine below_set ?_ GE223.out | refine below_set ?_ GE224.out | refine below_set ?_ GE225.out) | exact HB.out)) hb); clear BK222; clear BK223; clear BK224; clear BK225; clear HB; have BK222 := n0_; have BK223 := n1_; have BK224 := n2_; have BK225 := n3_; have HB := n4_; clear n0_ n1_ n2_ n3_ n4_; (try clear hb); (try clear hb2); (try clear hk); (try clear hi)))
      go_meet
      case rel => exact ⟨_, (true), (by first | rfl | (simp; done) | (simp [*]; done)), H', ⟨by first | omega | exact Nat.le_refl _⟩, ⟨by (with_reducible repeat (first | refine blk_drewN ?_ _ | refine blk_drew ?_ | refine blk_alloc ?_ _)); exact BK222.out⟩, ⟨by (with_reducible repeat (first | refine blk_drewN ?_ _ | refine blk_drew ?_ | refine blk_alloc ?_ _)); exact BK223.out⟩, ⟨by (with_reducible repeat (first | refine blk_drewN ?_ _ | refine blk_drew ?_ | refine blk_alloc ?_ _)); exact BK224.out⟩, ⟨by (with_reducible repeat (first | refine blk_drewN ?_ _ | refine blk_drew ?_ | refine blk_alloc ?_ _)); exact BK225.out⟩, ⟨by repeat (first | (with_reducible first | exact HB.out | apply below_alloc | apply pw_below_drewN | apply below_drew1 | refine below_set ?_ GE222.out | refine below_set ?_ GE223.out | refine below_set ?_ GE224.out | refine below_set ?_ GE225.out) | exact HB.out)⟩⟩
  case rest =>
    clear HC5
    try clear c1
    try clear c2
    try clear p2
    try clear c3
    try clear c11
    try clear c12
    try clear c12b0
    try clear c13
    try clear c14
    try clear c15
    try clear c18
    try clear c19
    try clear c21
    try clear c22
    try clear c23
    try clear c26
    try clear c27
    try clear c30
    try clear c31
    try clear c32
    try clear hcz16_0
    try clear hcz16_1
    try clear hcz16_2
    try clear hcz16_3
    try clear hcz20_0
    try clear hcz20_1
    try clear hcz20_2
    try clear hcz20_3
    try clear hcz24_0
    try clear hcz24_1
    try clear hcz24_2
    try clear hcz24_3
    try clear hcz28_0
    try clear hcz28_1
    try clear hcz28_2
    try clear hcz28_3
    try clear hcz29_0
    try clear hcz29_1
    try clear hcz29_2
    try clear hcz29_3
    try clear hcz33_0
    try clear hcz33_1
    try clear hcz33_2
    try clear hcz33_3
    try clear hfz16_0
    try clear hfz16_1
    try clear hfz16_2
    try clear hfz16_3
    try clear hfz20_0
    try clear hfz20_1
    try clear hfz20_2
    try clear hfz20_3
    try clear hfz24_0
    try clear hfz24_1
    try clear hfz24_2
    try clear hfz24_3
    try clear hfz28_0
    try clear hfz28_1
    try clear hfz28_2
    try clear hfz28_3
    try clear hfz29_0
    try clear hfz29_1
    try clear hfz29_2
    try clear hfz29_3
    try clear hfz33_0
    try clear hfz33_1
    try clear hfz33_2
    try clear hfz33_3
    obtain ⟨kq, x28_4, rfl, HA, HJ4, BK222, BK223, BK224, BK225, HB⟩ := hcut
    cases kq with
    | zero => exact absurd HA.out (by simp [curfewref15_Next.j0])
    | succ kj4 =>
      have H := HA.out
      clear HA
      simp only [curfewref15_Next.j0] at H
      by_cases c35 : x28_4 = true
      · subst c35
        have H1 : (some (0, 0, 0, 0, false, 2)) = some (r1, r2, r3, r4, r5, r6) := by rw [if_pos rfl] at H; exact H
        clear H
        have H := H1
        clear H1
        simp only [Option.some.injEq, Prod.mk.injEq] at H
        obtain ⟨rfl, rfl, rfl, rfl, rfl, rfl⟩ := H
        have hnb36 := NB225_222.out
        have hnc36 := NB222_225.out
        have hnb37 := NB225_223.out
        have hnc37 := NB223_225.out
        have hnb38 := NB225_224.out
        have hnc38 := NB224_225.out
        have hcz39_0 : wc.cell? ⟨gb225, 0, none⟩ = some (.int .i64 0) := (blk_cell BK225.out 0).trans rfl
        have hcz39_1 : wc.cell? ⟨gb225, 1, none⟩ = some (.int .i64 0) := (blk_cell BK225.out 1).trans rfl
        have hcz39_2 : wc.cell? ⟨gb225, 2, none⟩ = some (.int .i64 0) := (blk_cell BK225.out 2).trans rfl
        have hcz39_3 : wc.cell? ⟨gb225, 3, none⟩ = some (.int .i64 0) := (blk_cell BK225.out 3).trans rfl
        have hfz39_0 := blk_frozen BK225.out 0
        have hfz39_1 := blk_frozen BK225.out 1
        have hfz39_2 := blk_frozen BK225.out 2
        have hfz39_3 := blk_frozen BK225.out 3
        go_wp2
        refine bodyPost_ret (results_ctt rfl _ _ gb225 39 #[.int .i64 0, .int .i64 0, .int .i64 0, .int .i64 0] (0, 0) _ rfl (by (with_reducible repeat (first | refine blk_drewN ?_ _ | refine blk_drew ?_ | refine blk_alloc ?_ _)); refine blk_put (cs := #[.int .i64 0, .int .i64 0, .int .i64 0, .int .i64 0]) ?_ 3 _ rfl; (with_reducible repeat (first | refine blk_drewN ?_ _ | refine blk_drew ?_ | refine blk_alloc ?_ _)); refine blk_put (cs := #[.int .i64 0, .int .i64 0, .int .i64 0, .int .i64 0]) ?_ 2 _ rfl; (with_reducible repeat (first | refine blk_drewN ?_ _ | refine blk_drew ?_ | refine blk_alloc ?_ _)); refine blk_put (cs := #[.int .i64 0, .int .i64 0, .int .i64 0, .int .i64 0]) ?_ 1 _ rfl; (with_reducible repeat (first | refine blk_drewN ?_ _ | refine blk_drew ?_ | refine blk_alloc ?_ _)); refine blk_put (cs := #[.int .i64 0, .int .i64 0, .int .i64 0, .int .i64 0]) ?_ 0 _ rfl; (with_reducible repeat (first | refine blk_drewN ?_ _ | refine blk_drew ?_ | refine blk_alloc ?_ _)); exact BK225.out) Try.underlying39 rfl (by kernel_rfl)) rfl ?_
        exact ⟨by first | rfl | (simp [errW_none, errW_some] <;> rfl) | (simp [*, errW_none, errW_some] <;> rfl), by repeat (first | (with_reducible first | exact HB.out | apply below_alloc | apply pw_below_drewN | apply below_drew1 | refine below_set ?_ GE222.out | refine below_set ?_ GE223.out | refine below_set ?_ GE224.out | refine below_set ?_ GE225.out) | exact HB.out)⟩
      · replace c35 := Bool.eq_false_iff.mpr c35
        subst c35
        have H1 : (if a2_0 = (wrap64 ((l1_1.length : Int) - 1)) then (some (0, 0, 0, 0, false, 0)) else (if 0 ≤ (wrap64 (a2_0 + 1)) then (if (wrap64 (a2_0 + 1)) < (l1_1.length : Int) then ((curfewref15_begin.f kj4 a0_0 l0_1 l0_2 (wrap64 (a2_0 + 1)) ((rd_T75 l1_1 (wrap64 (a2_0 + 1))).f0) a3).bind fun bt228 => (some (bt228.1, bt228.2.1, bt228.2.2.1, bt228.2.2.2.1, (bt228.2.2.2.2 == 0), bt228.2.2.2.2))) else (none)) else (none))) = some (r1, r2, r3, r4, r5, r6) := by rw [if_neg (show ¬ (false = true) by decide)] at H; exact H
        clear H
        have H := H1
        clear H1
        by_cases c40 : a2_0 = (wrap64 ((l1_1.length : Int) - 1))
        · rw [if_pos c40] at H
          have c40b0 : (a2_0 == (wrap64 ((l1_1.length : Int) - 1))) = true := beq_iff_eq.mpr c40
          have c40b1 : (a2_0 != (wrap64 ((l1_1.length : Int) - 1))) = false := bne_eq_false_iff_eq.mpr c40
          clear c40
          simp only [Option.some.injEq, Prod.mk.injEq] at H
          obtain ⟨rfl, rfl, rfl, rfl, rfl, rfl⟩ := H
          have hnb41 := NB224_222.out
          have hnc41 := NB222_224.out
          have hnb42 := NB224_223.out
          have hnc42 := NB223_224.out
          have hnb43 := NB224_225.out
          have hnc43 := NB225_224.out
          have hcz44_0 : wc.cell? ⟨gb224, 0, none⟩ = some (.int .i64 a2_0) := (blk_cell BK224.out 0).trans rfl
          have hcz44_1 : wc.cell? ⟨gb224, 1, none⟩ = some (.int .i64 a2_1) := (blk_cell BK224.out 1).trans rfl
          have hcz44_2 : wc.cell? ⟨gb224, 2, none⟩ = some (.int .i64 a2_2) := (blk_cell BK224.out 2).trans rfl
          have hcz44_3 : wc.cell? ⟨gb224, 3, none⟩ = some (.int .i64 a2_3) := (blk_cell BK224.out 3).trans rfl
          have hfz44_0 := blk_frozen BK224.out 0
          have hfz44_1 := blk_frozen BK224.out 1
          have hfz44_2 := blk_frozen BK224.out 2
          have hfz44_3 := blk_frozen BK224.out 3
          have hnb45 := NB223_222.out
          have hnc45 := NB222_223.out
          have hnb46 := NB223_225.out
          have hnc46 := NB225_223.out
          have hcz47_0 : wc.cell? ⟨gb223, 0, none⟩ = some (.int .i64 a1_0) := (blk_cell BK223.out 0).trans rfl
          have hcz47_1 : wc.cell? ⟨gb223, 1, none⟩ = some (.slice A1_1 l1_1.length c1_1) := (blk_cell BK223.out 1).trans rfl
          have hcz47_2 : wc.cell? ⟨gb223, 2, none⟩ = some (.int .i64 a1_2) := (blk_cell BK223.out 2).trans rfl
          have hcz47_3 : wc.cell? ⟨gb223, 3, none⟩ = some (.int .i64 a1_3) := (blk_cell BK223.out 3).trans rfl
          have hfz47_0 := blk_frozen BK223.out 0
          have hfz47_1 := blk_frozen BK223.out 1
          have hfz47_2 := blk_frozen BK223.out 2
          have hfz47_3 := blk_frozen BK223.out 3
          have hnb48 := NB225_222.out
          have hnc48 := NB222_225.out
          have hcz49_0 : wc.cell? ⟨gb225, 0, none⟩ = some (.int .i64 0) := (blk_cell BK225.out 0).trans rfl
          have hcz49_1 : wc.cell? ⟨gb225, 1, none⟩ = some (.int .i64 0) := (blk_cell BK225.out 1).trans rfl
          have hcz49_2 : wc.cell? ⟨gb225, 2, none⟩ = some (.int .i64 0) := (blk_cell BK225.out 2).trans rfl
          have hcz49_3 : wc.cell? ⟨gb225, 3, none⟩ = some (.int .i64 0) := (blk_cell BK225.out 3).trans rfl
          have hfz49_0 := blk_frozen BK225.out 0
          have hfz49_1 := blk_frozen BK225.out 1
          have hfz49_2 := blk_frozen BK225.out 2
          have hfz49_3 := blk_frozen BK225.out 3
          go_wp2
          refine bodyPost_ret (results_ctt rfl _ _ gb225 39 #[.int .i64 0, .int .i64 0, .int .i64 0, .int .i64 0] (0, 0) _ rfl (by (with_reducible repeat (first | refine blk_drewN ?_ _ | refine blk_drew ?_ | refine blk_alloc ?_ _)); refine blk_put (cs := #[.int .i64 0, .int .i64 0, .int .i64 0, .int .i64 0]) ?_ 3 _ rfl; (with_reducible repeat (first | refine blk_drewN ?_ _ | refine blk_drew ?_ | refine blk_alloc ?_ _)); refine blk_put (cs := #[.int .i64 0, .int .i64 0, .int .i64 0, .int .i64 0]) ?_ 2 _ rfl; (with_reducible repeat (first | refine blk_drewN ?_ _ | refine blk_drew ?_ | refine blk_alloc ?_ _)); refine blk_put (cs := #[.int .i64 0, .int .i64 0, .int .i64 0, .int .i64 0]) ?_ 1 _ rfl; (with_reducible repeat (first | refine blk_drewN ?_ _ | refine blk_drew ?_ | refine blk_alloc ?_ _)); refine blk_put (cs := #[.int .i64 0, .int .i64 0, .int .i64 0, .int .i64 0]) ?_ 0 _ rfl; (with_reducible repeat (first | refine blk_drewN ?_ _ | refine blk_drew ?_ | refine blk_alloc ?_ _)); exact BK225.out) Try.underlying39 rfl (by kernel_rfl)) rfl ?_
          exact ⟨by first | rfl | (simp [errW_none, errW_some] <;> rfl) | (simp [*, errW_none, errW_some] <;> rfl), by repeat (first | (with_reducible first | exact HB.out | apply below_alloc | apply pw_below_drewN | apply below_drew1 | refine below_set ?_ GE222.out | refine below_set ?_ GE223.out | refine below_set ?_ GE224.out | refine below_set ?_ GE225.out) | exact HB.out)⟩
        · rw [if_neg c40] at H
          have c40b0 : (a2_0 == (wrap64 ((l1_1.length : Int) - 1))) = false := beq_eq_false_iff_ne.mpr c40
          have c40b1 : (a2_0 != (wrap64 ((l1_1.length : Int) - 1))) = true := bne_iff_ne.mpr c40
          obtain ⟨ji50, hji50⟩ : ∃ j_ : Int, (wrap64 (a2_0 + 1)) = j_ := ⟨_, rfl⟩
          replace H : (if 0 ≤ (ji50) then (if (ji50) < (l1_1.length : Int) then ((curfewref15_begin.f kj4 a0_0 l0_1 l0_2 (ji50) ((rd_T75 l1_1 (ji50)).f0) a3).bind fun bt228 => (some (bt228.1, bt228.2.1, bt228.2.2.1, bt228.2.2.2.1, (bt228.2.2.2.2 == 0), bt228.2.2.2.2))) else (none)) else (none)) = some (r1, r2, r3, r4, r5, r6) := by first | (rw [hji50] at H; exact H) | (simp only [hji50] at H ⊢; exact H)
          have hji50w : (IntKind.i64.wrap (a2_0 + 1)) = ji50 := (i64_w _).trans hji50
          by_cases c51 : 0 ≤ (ji50)
          · rw [if_pos c51] at H
            have c51b0 : decide (0 ≤ (ji50)) = true := decide_eq_true c51
            clear c51
            by_cases c52 : (ji50) < (l1_1.length : Int)
            · rw [if_pos c52] at H
              have c52b0 : decide ((ji50) < (l1_1.length : Int)) = true := decide_eq_true c52
              clear c52
              replace H := Option.bind_eq_some_iff.mp H
              obtain ⟨⟨t228, t229, t230, t231, t232⟩, A530, H⟩ := H
              replace H : (some (t228, t229, t230, t231, (t232 == 0), t232)) = some (r1, r2, r3, r4, r5, r6) := H
              have A53 := Aside0.mk A530
              clear A530
              simp only [Option.some.injEq, Prod.mk.injEq] at H
              obtain ⟨rfl, rfl, rfl, rfl, rfl, rfl⟩ := H
              have hnb54 := NB224_222.out
              have hnc54 := NB222_224.out
              have hnb55 := NB224_223.out
              have hnc55 := NB223_224.out
              have hnb56 := NB224_225.out
              have hnc56 := NB225_224.out
              have hcz57_0 : wc.cell? ⟨gb224, 0, none⟩ = some (.int .i64 a2_0) := (blk_cell BK224.out 0).trans rfl
              have hcz57_1 : wc.cell? ⟨gb224, 1, none⟩ = some (.int .i64 a2_1) := (blk_cell BK224.out 1).trans rfl
              have hcz57_2 : wc.cell? ⟨gb224, 2, none⟩ = some (.int .i64 a2_2) := (blk_cell BK224.out 2).trans rfl
              have hcz57_3 : wc.cell? ⟨gb224, 3, none⟩ = some (.int .i64 a2_3) := (blk_cell BK224.out 3).trans rfl
              have hfz57_0 := blk_frozen BK224.out 0
              have hfz57_1 := blk_frozen BK224.out 1
              have hfz57_2 := blk_frozen BK224.out 2
              have hfz57_3 := blk_frozen BK224.out 3
              have hnb58 := NB223_222.out
              have hnc58 := NB222_223.out
              have hnb59 := NB223_225.out
              have hnc59 := NB225_223.out
              have hcz60_0 : wc.cell? ⟨gb223, 0, none⟩ = some (.int .i64 a1_0) := (blk_cell BK223.out 0).trans rfl
              have hcz60_1 : wc.cell? ⟨gb223, 1, none⟩ = some (.slice A1_1 l1_1.length c1_1) := (blk_cell BK223.out 1).trans rfl
              have hcz60_2 : wc.cell? ⟨gb223, 2, none⟩ = some (.int .i64 a1_2) := (blk_cell BK223.out 2).trans rfl
              have hcz60_3 : wc.cell? ⟨gb223, 3, none⟩ = some (.int .i64 a1_3) := (blk_cell BK223.out 3).trans rfl
              have hfz60_0 := blk_frozen BK223.out 0
              have hfz60_1 := blk_frozen BK223.out 1
              have hfz60_2 := blk_frozen BK223.out 2
              have hfz60_3 := blk_frozen BK223.out 3
              try go_wp2
              have n0_ := Aside0.mk (blk_drew BK222.out)
              have n1_ := Aside0.mk (blk_drew BK223.out)
              have n2_ := Aside0.mk (blk_drew BK224.out)
              have n3_ := Aside0.mk (blk_drew BK225.out)
              have n4_ := Aside0.mk (below_drew1 HB.out)
              clear BK222
              clear BK223
              clear BK224
              clear BK225
              clear HB
              have BK222 := n0_
              have BK223 := n1_
              have BK224 := n2_
              have BK225 := n3_
              have HB := n4_
              clear n0_ n1_ n2_ n3_ n4_
              have p227 : 0 ≤ ((ji50) : Int) := of_decide_eq_true (by first | (with_reducible assumption) | assumption)
              have q227 : (ji50) < (l1_1.length : Int) := of_decide_eq_true (by first | (with_reducible assumption) | assumption)
              obtain ⟨ad227, e227, hx227_0, hx227_1⟩ := at_T75 HR1_1.out (ji50) p227 q227
              have hw227_1 := hx227_1
              have hw227_0 := hx227_0
              cases e227
              replace hx227_0 := (HB.out.cell (World.block_lt_of_cell? w _ hx227_0)).trans hx227_0
              replace hx227_1 := (HB.out.cell (World.block_lt_of_cell? w _ hx227_1)).trans hx227_1
              replace p227 := eq_true p227
              replace q227 := eq_true q227
              refine start_ (n := 20) (S := fun w' => w'.cell? ⟨gb222, 0, none⟩ = some (.int .i64 a0_0) ∧ w'.cell? ⟨gb222, 1, none⟩ = some (.slice A0_1 l0_1.length c0_1) ∧ w'.cell? ⟨gb222, 2, none⟩ = some (.slice A0_2 l0_2.length c0_2) ∧ w'.cell? ⟨gb224, 0, none⟩ = some (.int .i64 a2_0) ∧ w'.cell? ⟨gb224, 1, none⟩ = some (.int .i64 a2_1) ∧ w'.cell? ⟨gb224, 2, none⟩ = some (.int .i64 a2_2) ∧ w'.cell? ⟨gb224, 3, none⟩ = some (.int .i64 a2_3) ∧ w'.cell? ⟨gb223, 0, none⟩ = some (.int .i64 a1_0) ∧ w'.cell? ⟨gb223, 1, none⟩ = some (.slice (some ad227) l1_1.length c1_1) ∧ w'.cell? ⟨gb223, 2, none⟩ = some (.int .i64 a1_2) ∧ w'.cell? ⟨gb223, 3, none⟩ = some (.int .i64 a1_3) ∧ w'.cell? (ad227.add (((ji50)).toNat * 2)) = some (.int .i64 ((rd_T75 l1_1 (ji50)).f0)) ∧ w'.cell? ⟨(ad227.add (((ji50)).toNat * 2)).block, (ad227.add (((ji50)).toNat * 2)).off + 1, none⟩ = some (.int .i64 ((rd_T75 l1_1 (ji50)).f1))) (ds := []) #[false, false, false, false, false, false, false, false, false, false, false, false, false, false, false, false, false, false, false, false] (by kernel_rfl) rfl rfl ⟨(blk_cell BK222.out 0).trans rfl, (blk_cell BK222.out 1).trans rfl, (blk_cell BK222.out 2).trans rfl, (blk_cell BK224.out 0).trans rfl, (blk_cell BK224.out 1).trans rfl, (blk_cell BK224.out 2).trans rfl, (blk_cell BK224.out 3).trans rfl, (blk_cell BK223.out 0).trans rfl, (blk_cell BK223.out 1).trans rfl, (blk_cell BK223.out 2).trans rfl, (blk_cell BK223.out 3).trans rfl, ((HB.out.cell (World.block_lt_of_cell? w _ hw227_0)).trans hw227_0), ((HB.out.cell (World.block_lt_of_cell? w _ hw227_1)).trans hw227_1)⟩ (fun hHeld => ?_); refine with_tabW curfewref15_Next.tab5 curfewref15_Next.bits5 (fun HT_ HW_ => ?_)
              generalize wc.drew = w61 at BK222 BK223 BK224 BK225 HB hx227_0 hx227_1 hHeld ⊢
              refine pure_ (i := 1) (N := some 40) (v := ?_) (a' := ?_) #[false, true, false, false, false, false, false, false, false, false, false, false, false, false, false, false, false, false, false, false] rfl rfl (any_of HT_.out (by kernel_rfl)) (fun _ _ _ h => h) (Or.inl ⟨by rfl, ?_⟩) ?_ ?_
              rotate_left
              · intro w'
                go_simp
                with_reducible rfl
              rotate_left
              · simp only [Act.put, List.setIfInBounds_toArray, List.set_cons_zero, List.set_cons_succ, i64_w, i32_w]
                rfl
              refine pure_ (i := 4) (N := some 43) (v := ?_) (a' := ?_) #[false, true, false, false, true, false, false, false, false, false, false, false, false, false, false, false, false, false, false, false] rfl rfl (any_of HT_.out (by kernel_rfl)) (fun _ _ _ h => h) (Or.inl ⟨by rfl, ?_⟩) ?_ ?_
              rotate_left
              · intro w'
                go_simp
                with_reducible rfl
              rotate_left
              · simp only [Act.put, List.setIfInBounds_toArray, List.set_cons_zero, List.set_cons_succ, i64_w, i32_w]
                rfl
              refine pure_ (i := 6) (N := some 45) (v := ?_) (a' := ?_) #[false, true, false, false, true, false, true, false, false, false, false, false, false, false, false, false, false, false, false, false] rfl rfl (any_of HT_.out (by kernel_rfl)) (fun _ _ _ h => h) (Or.inl ⟨by rfl, ?_⟩) ?_ ?_
              rotate_left
              · intro w'
                go_simp
                with_reducible rfl
              rotate_left
              · simp only [Act.put, List.setIfInBounds_toArray, List.set_cons_zero, List.set_cons_succ, i64_w, i32_w]
                rfl
              refine pure_ (i := 12) (N := some 51) (v := ?_) (a' := ?_) #[false, true, false, false, true, false, true, false, false, false, false, false, true, false, false, false, false, false, false, false] rfl rfl (any_of HT_.out (by kernel_rfl)) (fun _ _ _ h => h) (Or.inl ⟨by rfl, ?_⟩) ?_ ?_
              rotate_left
              · intro w'
                go_simp
                with_reducible rfl
              rotate_left
              · simp only [Act.put, List.setIfInBounds_toArray, List.set_cons_zero, List.set_cons_succ, i64_w, i32_w]
                rfl
              refine take_ (i := 0) (N := some 39) (v := ?_) (a' := ?_) #[true, true, false, false, true, false, true, false, false, false, false, false, true, false, false, false, false, false, false, false] rfl rfl (take_ofW HT_.out HW_.out (by kernel_rfl)) (fun _ _ _ h => h) (Or.inl ⟨by rfl, ?_⟩) hHeld ?_ ?_
              rotate_left
              · rintro w' ⟨s0, s1, s2, s3, s4, s5, s6, s7, s8, s9, s10, s11, s12⟩
                go_simp
                with_reducible rfl
              rotate_left
              · simp only [Act.put, List.setIfInBounds_toArray, List.set_cons_zero, List.set_cons_succ, i64_w, i32_w]
                rfl
              refine take_ (i := 2) (N := some 41) (v := ?_) (a' := ?_) #[true, true, true, false, true, false, true, false, false, false, false, false, true, false, false, false, false, false, false, false] rfl rfl (take_ofW HT_.out HW_.out (by kernel_rfl)) (fun _ _ _ h => h) (Or.inl ⟨by rfl, ?_⟩) hHeld ?_ ?_
              rotate_left
              · rintro w' ⟨s0, s1, s2, s3, s4, s5, s6, s7, s8, s9, s10, s11, s12⟩
                go_simp
                with_reducible rfl
              rotate_left
              · simp only [Act.put, List.setIfInBounds_toArray, List.set_cons_zero, List.set_cons_succ, i64_w, i32_w]
                rfl
              refine pure_ (i := 3) (N := some 42) (v := ?_) (a' := ?_) #[true, true, true, true, true, false, true, false, false, false, false, false, true, false, false, false, false, false, false, false] rfl rfl (any_of HT_.out (by kernel_rfl)) (fun _ _ _ h => h) (Or.inl ⟨by rfl, ?_⟩) ?_ ?_
              rotate_left
              · intro w'
                go_simp
                with_reducible rfl
              rotate_left
              · simp only [Act.put, List.setIfInBounds_toArray, List.set_cons_zero, List.set_cons_succ, i64_w, i32_w]
                rfl
              refine take_ (i := 5) (N := some 44) (v := ?_) (a' := ?_) #[true, true, true, true, true, true, true, false, false, false, false, false, true, false, false, false, false, false, false, false] rfl rfl (take_ofW HT_.out HW_.out (by kernel_rfl)) (fun _ _ _ h => h) (Or.inl ⟨by rfl, ?_⟩) hHeld ?_ ?_
              rotate_left
              · rintro w' ⟨s0, s1, s2, s3, s4, s5, s6, s7, s8, s9, s10, s11, s12⟩
                go_simp
                with_reducible rfl
              rotate_left
              · simp only [Act.put, List.setIfInBounds_toArray, List.set_cons_zero, List.set_cons_succ, i64_w, i32_w]
                rfl
              refine take_ (i := 7) (N := some 46) (v := ?_) (a' := ?_) #[true, true, true, true, true, true, true, true, false, false, false, false, true, false, false, false, false, false, false, false] rfl rfl (take_ofW HT_.out HW_.out (by kernel_rfl)) (fun _ _ _ h => h) (Or.inl ⟨by rfl, ?_⟩) hHeld ?_ ?_
              rotate_left
              · rintro w' ⟨s0, s1, s2, s3, s4, s5, s6, s7, s8, s9, s10, s11, s12⟩
                go_simp
                with_reducible rfl
              rotate_left
              · simp only [Act.put, List.setIfInBounds_toArray, List.set_cons_zero, List.set_cons_succ, i64_w, i32_w]
                rfl
              refine pure_ (i := 8) (N := some 47) (v := ?_) (a' := ?_) #[true, true, true, true, true, true, true, true, true, false, false, false, true, false, false, false, false, false, false, false] rfl rfl (any_of HT_.out (by kernel_rfl)) (fun _ _ _ h => h) (Or.inl ⟨by rfl, ?_⟩) ?_ ?_
              rotate_left
              · intro w'
                go_simp
                with_reducible rfl
              rotate_left
              · simp only [Act.put, List.setIfInBounds_toArray, List.set_cons_zero, List.set_cons_succ, i64_w, i32_w]
                rfl
              refine pure_ (i := 9) (N := some 48) (v := ?_) (a' := ?_) #[true, true, true, true, true, true, true, true, true, true, false, false, true, false, false, false, false, false, false, false] rfl rfl (any_of HT_.out (by kernel_rfl)) (fun _ _ _ h => h) (Or.inl ⟨by rfl, ?_⟩) ?_ ?_
              rotate_left
              · intro w'
                go_simp
                with_reducible rfl
              rotate_left
              · simp only [Act.put, List.setIfInBounds_toArray, List.set_cons_zero, List.set_cons_succ, i64_w, i32_w]
                rfl
              refine pure_ (i := 10) (N := some 49) (v := ?_) (a' := ?_) #[true, true, true, true, true, true, true, true, true, true, true, false, true, false, false, false, false, false, false, false] rfl rfl (any_of HT_.out (by kernel_rfl)) (fun _ _ _ h => h) (Or.inl ⟨by rfl, ?_⟩) ?_ ?_
              rotate_left
              · intro w'
                go_simp
                with_reducible rfl
              rotate_left
              · simp only [Act.put, List.setIfInBounds_toArray, List.set_cons_zero, List.set_cons_succ, i64_w, i32_w]
                rfl
              refine take_ (i := 11) (N := some 50) (v := ?_) (a' := ?_) #[true, true, true, true, true, true, true, true, true, true, true, true, true, false, false, false, false, false, false, false] rfl rfl (take_ofW HT_.out HW_.out (by kernel_rfl)) (fun _ _ _ h => h) (Or.inl ⟨by rfl, ?_⟩) hHeld ?_ ?_
              rotate_left
              · rintro w' ⟨s0, s1, s2, s3, s4, s5, s6, s7, s8, s9, s10, s11, s12⟩
                go_simp
                with_reducible rfl
              rotate_left
              · simp only [Act.put, List.setIfInBounds_toArray, List.set_cons_zero, List.set_cons_succ, i64_w, i32_w]
                rfl
              refine join_ (σ := Nat) 2 #[true, true, true, true, true, true, true, true, true, true, true, true, true, true, true, true, true, true, false, false] (fun s_ => [(52, .tuple #[.agg #[.int .i64 t228, .int .i64 t229, .int .i64 t230, .int .i64 t231], .int .i64 t232]), (11, .pointer (some ⟨s_, 0, none⟩)), (38, .tuple #[.agg #[.int .i64 t228, .int .i64 t229, .int .i64 t230, .int .i64 t231], .int .i64 t232]), (53, .agg #[.int .i64 t228, .int .i64 t229, .int .i64 t230, .int .i64 t231]), (54, .int .i64 t232)]) (fun s_ w' => (w'.cell? ⟨gb222, 0, none⟩ = some (.int .i64 a0_0) ∧ w'.cell? ⟨gb222, 1, none⟩ = some (.slice A0_1 l0_1.length c0_1) ∧ w'.cell? ⟨gb222, 2, none⟩ = some (.slice A0_2 l0_2.length c0_2) ∧ w'.cell? ⟨gb224, 0, none⟩ = some (.int .i64 a2_0) ∧ w'.cell? ⟨gb224, 1, none⟩ = some (.int .i64 a2_1) ∧ w'.cell? ⟨gb224, 2, none⟩ = some (.int .i64 a2_2) ∧ w'.cell? ⟨gb224, 3, none⟩ = some (.int .i64 a2_3) ∧ w'.cell? ⟨gb223, 0, none⟩ = some (.int .i64 a1_0) ∧ w'.cell? ⟨gb223, 1, none⟩ = some (.slice (some ad227) l1_1.length c1_1) ∧ w'.cell? ⟨gb223, 2, none⟩ = some (.int .i64 a1_2) ∧ w'.cell? ⟨gb223, 3, none⟩ = some (.int .i64 a1_3) ∧ w'.cell? (ad227.add (((ji50)).toNat * 2)) = some (.int .i64 ((rd_T75 l1_1 (ji50)).f0)) ∧ w'.cell? ⟨(ad227.add (((ji50)).toNat * 2)).block, (ad227.add (((ji50)).toNat * 2)).off + 1, none⟩ = some (.int .i64 ((rd_T75 l1_1 (ji50)).f1))) ∧ (w'.heap[gb222]? = some (.cells #[.int .i64 a0_0, .slice A0_1 l0_1.length c0_1, .slice A0_2 l0_2.length c0_2] 24 (0, 0))) ∧ (w'.heap[gb223]? = some (.cells #[.int .i64 a1_0, .slice (some ad227) l1_1.length c1_1, .int .i64 a1_2, .int .i64 a1_3] 30 (0, 0))) ∧ (w'.heap[gb224]? = some (.cells #[.int .i64 a2_0, .int .i64 a2_1, .int .i64 a2_2, .int .i64 a2_3] 39 (0, 0))) ∧ (w'.heap[gb225]? = some (.cells #[.int .i64 0, .int .i64 0, .int .i64 0, .int .i64 0] 39 (0, 0))) ∧ (w'.heap[s_]? = some (.cells #[.int .i64 0, .int .i64 0, .int .i64 0, .int .i64 0] 39 (0, 0))) ∧ (w.heap.size ≤ s_) ∧ (w.heap.size ≤ s_) ∧ (gb222 ≠ s_) ∧ (s_ ≠ gb222) ∧ (gb223 ≠ s_) ∧ (s_ ≠ gb223) ∧ (gb224 ≠ s_) ∧ (s_ ≠ gb224) ∧ (gb225 ≠ s_) ∧ (s_ ≠ gb225) ∧ (Below w.heap.size w w')) ?_ ?_
              rotate_left
              · intro hCont
                refine two_ (i := 13) (j := 17) (Ni := some 52) (Nj := some 11) #[true, true, true, true, true, true, true, true, true, true, true, true, true, true, false, false, false, false, false, false] #[true, true, true, true, true, true, true, true, true, true, true, true, true, false, false, false, false, true, false, false] rfl rfl rfl rfl (two_of HT_.out (by kernel_rfl)) (by decide) (by decide) (fun K hK => ?_) (fun K hK => ?_)
                · skip
                  refine goes_ Try.func32 (by kernel_rfl) rfl #[.agg #[.int .i64 a0_0, .slice A0_1 l0_1.length c0_1, .slice A0_2 l0_2.length c0_2], .int .i64 ji50, .int .i64 ((rd_T75 l1_1 (ji50)).f0), .int .i64 a3] (by rfl) rfl rfl (by (try simp only [List.map_toArray, List.map_cons, List.map_nil]); first | done | (simp only [hji50]; rfl) | rfl | (simp only [List.length_drop, List.length_take]; rfl)) ?_
                  with_reducible refine (curfewref15_begin.calls kj4 a0_0 _ _ l0_1 _ _ l0_2 ji50 ((rd_T75 l1_1 (ji50)).f0) a3 t228 t229 t230 t231 t232 _ ?side1 ?side2 ?side3 ?side4 A53.out).mono ?_
                  (case side1 => repeat (first | exact (Kd.C_below HR0_1.out HB.out) | (with_reducible refine Kd.C_alloc ?_ _) | (with_reducible refine Kd.C_drewN ?_ _) | (with_reducible refine Kd.C_drew ?_)))
                  (case side2 => exact HC0_1.out)
                  (case side3 => repeat (first | exact (Kd.C_below HR0_2.out HB.out) | (with_reducible refine Kd.C_alloc ?_ _) | (with_reducible refine Kd.C_drewN ?_ _) | (with_reducible refine Kd.C_drew ?_)))
                  (case side4 => exact HC0_2.out)
                  rintro e w62 ⟨rfl, hb⟩
                  refine ⟨_, rfl, ?_⟩
                  have n0_ := Aside0.mk (blk_below (g := gb222) (o := .cells #[.int .i64 a0_0, .slice A0_1 l0_1.length c0_1, .slice A0_2 l0_2.length c0_2] 24 (0, 0)) (by (with_reducible repeat (first | refine blk_drewN ?_ _ | refine blk_drew ?_ | refine blk_alloc ?_ _)); exact BK222.out) hb)
                  have n1_ := Aside0.mk (blk_below (g := gb223) (o := .cells #[.int .i64 a1_0, .slice (some ad227) l1_1.length c1_1, .int .i64 a1_2, .int .i64 a1_3] 30 (0, 0)) (by (with_reducible repeat (first | refine blk_drewN ?_ _ | refine blk_drew ?_ | refine blk_alloc ?_ _)); exact BK223.out) hb)
                  have n2_ := Aside0.mk (blk_below (g := gb224) (o := .cells #[.int .i64 a2_0, .int .i64 a2_1, .int .i64 a2_2, .int .i64 a2_3] 39 (0, 0)) (by (with_reducible repeat (first | refine blk_drewN ?_ _ | refine blk_drew ?_ | refine blk_alloc ?_ _)); exact BK224.out) hb)
                  have n3_ := Aside0.mk (blk_below (g := gb225) (o := .cells #[.int .i64 0, .int .i64 0, .int .i64 0, .int .i64 0] 39 (0, 0)) (by (with_reducible repeat (first | refine blk_drewN ?_ _ | refine blk_drew ?_ | refine blk_alloc ?_ _)); exact BK225.out) hb)
                  have n4_ := Aside0.mk (below_step (by repeat (first | (with_reducible first | exact HB.out | apply below_alloc | apply pw_below_drewN | apply below_drew1 | refine below_set ?_ GE222.out | refine below_set ?_ GE223.out | refine below_set ?_ GE224.out | refine below_set ?_ GE225.out) | exact HB.out)) hb)
                  clear BK222
                  clear BK223
                  clear BK224
                  clear BK225
                  clear HB
                  have BK222 := n0_
                  have BK223 := n1_
                  have BK224 := n2_
                  have BK225 := n3_
                  have HB := n4_
                  clear n0_ n1_ n2_ n3_ n4_
                  (try clear hb)
                  (try clear hb2)
                  (try clear hk)
                  (try clear hi)
                  refine hK.out _ _ ⟨(blk_cell BK222.out 0).trans rfl, (blk_cell BK222.out 1).trans rfl, (blk_cell BK222.out 2).trans rfl, (blk_cell BK224.out 0).trans rfl, (blk_cell BK224.out 1).trans rfl, (blk_cell BK224.out 2).trans rfl, (blk_cell BK224.out 3).trans rfl, (blk_cell BK223.out 0).trans rfl, (blk_cell BK223.out 1).trans rfl, (blk_cell BK223.out 2).trans rfl, (blk_cell BK223.out 3).trans rfl, ((HB.out.cell (World.block_lt_of_cell? w _ hw227_0)).trans hw227_0), ((HB.out.cell (World.block_lt_of_cell? w _ hw227_1)).trans hw227_1)⟩ (fun hHeld => ?_)
                  clear hK K
                  refine norm_ (a' := ?_) ?_ ?_
                  rotate_left
                  · show Act.put _ (some 52) _ = _
                    simp only [Act.put, List.setIfInBounds_toArray, List.set_cons_zero, List.set_cons_succ, i64_w, i32_w]
                    rfl
                  refine pure_ (i := 14) (N := some 38) (v := ?_) (a' := ?_) #[true, true, true, true, true, true, true, true, true, true, true, true, true, true, true, false, false, false, false, false] rfl rfl (any_of HT_.out (by kernel_rfl)) (fun _ _ _ h => h) (Or.inl ⟨by rfl, ?_⟩) ?_ ?_
                  rotate_left
                  · intro w'
                    go_simp
                    with_reducible rfl
                  rotate_left
                  · simp only [Act.put, List.setIfInBounds_toArray, List.set_cons_zero, List.set_cons_succ, i64_w, i32_w]
                    rfl
                  refine pure_ (i := 15) (N := some 53) (v := ?_) (a' := ?_) #[true, true, true, true, true, true, true, true, true, true, true, true, true, true, true, true, false, false, false, false] rfl rfl (any_of HT_.out (by kernel_rfl)) (fun _ _ _ h => h) (Or.inl ⟨by rfl, ?_⟩) ?_ ?_
                  rotate_left
                  · intro w'
                    go_simp
                    with_reducible rfl
                  rotate_left
                  · simp only [Act.put, List.setIfInBounds_toArray, List.set_cons_zero, List.set_cons_succ, i64_w, i32_w]
                    rfl
                  refine pure_ (i := 16) (N := some 54) (v := ?_) (a' := ?_) #[true, true, true, true, true, true, true, true, true, true, true, true, true, true, true, true, true, false, false, false] rfl rfl (any_of HT_.out (by kernel_rfl)) (fun _ _ _ h => h) (Or.inl ⟨by rfl, ?_⟩) ?_ ?_
                  rotate_left
                  · intro w'
                    go_simp
                    with_reducible rfl
                  rotate_left
                  · simp only [Act.put, List.setIfInBounds_toArray, List.set_cons_zero, List.set_cons_succ, i64_w, i32_w]
                    rfl
                  refine one_ (i := 17) (N := some 11) #[true, true, true, true, true, true, true, true, true, true, true, true, true, true, true, true, true, true, false, false] rfl rfl (one_of HT_.out (by kernel_rfl)) (by decide) (fun K hK => ?_)
                  refine box_step ?hg (N := 11) ?hd (cs := #[.int .i64 0, .int .i64 0, .int .i64 0, .int .i64 0]) (t := 39) ?hr ?_; (case hd => rfl); (case hg => rfl); (case hr => first | (go_simp; done) | (go_simp; rfl))
                  intro gb233 hg w63 hbox hb
                  have n0_ := Aside0.mk (blk_below (g := gb222) (o := .cells #[.int .i64 a0_0, .slice A0_1 l0_1.length c0_1, .slice A0_2 l0_2.length c0_2] 24 (0, 0)) (by (with_reducible repeat (first | refine blk_drewN ?_ _ | refine blk_drew ?_ | refine blk_alloc ?_ _)); exact BK222.out) hb)
                  have n1_ := Aside0.mk (blk_below (g := gb223) (o := .cells #[.int .i64 a1_0, .slice (some ad227) l1_1.length c1_1, .int .i64 a1_2, .int .i64 a1_3] 30 (0, 0)) (by (with_reducible repeat (first | refine blk_drewN ?_ _ | refine blk_drew ?_ | refine blk_alloc ?_ _)); exact BK223.out) hb)
                  have n2_ := Aside0.mk (blk_below (g := gb224) (o := .cells #[.int .i64 a2_0, .int .i64 a2_1, .int .i64 a2_2, .int .i64 a2_3] 39 (0, 0)) (by (with_reducible repeat (first | refine blk_drewN ?_ _ | refine blk_drew ?_ | refine blk_alloc ?_ _)); exact BK224.out) hb)
                  have n3_ := Aside0.mk (blk_below (g := gb225) (o := .cells #[.int .i64 0, .int .i64 0, .int .i64 0, .int .i64 0] 39 (0, 0)) (by (with_reducible repeat (first | refine blk_drewN ?_ _ | refine blk_drew ?_ | refine blk_alloc ?_ _)); exact BK225.out) hb)
                  have n4_ := Aside0.mk (below_step (by repeat (first | (with_reducible first | exact HB.out | apply below_alloc | apply pw_below_drewN | apply below_drew1 | refine below_set ?_ GE222.out | refine below_set ?_ GE223.out | refine below_set ?_ GE224.out | refine below_set ?_ GE225.out) | exact HB.out)) hb)
                  have n5_ := Aside0.mk (hbox)
                  have n6_ := Aside0.mk ((by rw [hg]; exact (below_size (by repeat (first | (with_reducible first | exact HB.out | apply below_alloc | apply pw_below_drewN | apply below_drew1 | refine below_set ?_ GE222.out | refine below_set ?_ GE223.out | refine below_set ?_ GE224.out | refine below_set ?_ GE225.out) | exact HB.out))) : w.heap.size ≤ gb233))
                  have n7_ := Aside0.mk ((by rw [hg]; exact (below_size (by repeat (first | (with_reducible first | exact HB.out | apply below_alloc | apply pw_below_drewN | apply below_drew1 | refine below_set ?_ GE222.out | refine below_set ?_ GE223.out | refine below_set ?_ GE224.out | refine below_set ?_ GE225.out) | exact HB.out))) : w.heap.size ≤ gb233))
                  have n8_ := Aside0.mk ((by rw [hg]; exact Nat.ne_of_lt (blk_lt (g := gb222) (o := .cells #[.int .i64 a0_0, .slice A0_1 l0_1.length c0_1, .slice A0_2 l0_2.length c0_2] 24 (0, 0)) (by (with_reducible repeat (first | refine blk_drewN ?_ _ | refine blk_drew ?_ | refine blk_alloc ?_ _)); exact BK222.out)) : gb222 ≠ gb233))
                  have n9_ := Aside0.mk ((by rw [hg]; exact Nat.ne_of_gt (blk_lt (g := gb222) (o := .cells #[.int .i64 a0_0, .slice A0_1 l0_1.length c0_1, .slice A0_2 l0_2.length c0_2] 24 (0, 0)) (by (with_reducible repeat (first | refine blk_drewN ?_ _ | refine blk_drew ?_ | refine blk_alloc ?_ _)); exact BK222.out)) : gb233 ≠ gb222))
                  have n10_ := Aside0.mk ((by rw [hg]; exact Nat.ne_of_lt (blk_lt (g := gb223) (o := .cells #[.int .i64 a1_0, .slice (some ad227) l1_1.length c1_1, .int .i64 a1_2, .int .i64 a1_3] 30 (0, 0)) (by (with_reducible repeat (first | refine blk_drewN ?_ _ | refine blk_drew ?_ | refine blk_alloc ?_ _)); exact BK223.out)) : gb223 ≠ gb233))
                  have n11_ := Aside0.mk ((by rw [hg]; exact Nat.ne_of_gt (blk_lt (g := gb223) (o := .cells #[.int .i64 a1_0, .slice (some ad227) l1_1.length c1_1, .int .i64 a1_2, .int .i64 a1_3] 30 (0, 0)) (by (with_reducible repeat (first | refine blk_drewN ?_ _ | refine blk_drew ?_ | refine blk_alloc ?_ _)); exact BK223.out)) : gb233 ≠ gb223))
                  have n12_ := Aside0.mk ((by rw [hg]; exact Nat.ne_of_lt (blk_lt (g := gb224) (o := .cells #[.int .i64 a2_0, .int .i64 a2_1, .int .i64 a2_2, .int .i64 a2_3] 39 (0, 0)) (by (with_reducible repeat (first | refine blk_drewN ?_ _ | refine blk_drew ?_ | refine blk_alloc ?_ _)); exact BK224.out)) : gb224 ≠ gb233))
                  have n13_ := Aside0.mk ((by rw [hg]; exact Nat.ne_of_gt (blk_lt (g := gb224) (o := .cells #[.int .i64 a2_0, .int .i64 a2_1, .int .i64 a2_2, .int .i64 a2_3] 39 (0, 0)) (by (with_reducible repeat (first | refine blk_drewN ?_ _ | refine blk_drew ?_ | refine blk_alloc ?_ _)); exact BK224.out)) : gb233 ≠ gb224))
                  have n14_ := Aside0.mk ((by rw [hg]; exact Nat.ne_of_lt (blk_lt (g := gb225) (o := .cells #[.int .i64 0, .int .i64 0, .int .i64 0, .int .i64 0] 39 (0, 0)) (by (with_reducible repeat (first | refine blk_drewN ?_ _ | refine blk_drew ?_ | refine blk_alloc ?_ _)); exact BK225.out)) : gb225 ≠ gb233))
                  have n15_ := Aside0.mk ((by rw [hg]; exact Nat.ne_of_gt (blk_lt (g := gb225) (o := .cells #[.int .i64 0, .int .i64 0, .int .i64 0, .int .i64 0] 39 (0, 0)) (by (with_reducible repeat (first | refine blk_drewN ?_ _ | refine blk_drew ?_ | refine blk_alloc ?_ _)); exact BK225.out)) : gb233 ≠ gb225))
                  clear BK222
                  clear BK223
                  clear BK224
                  clear BK225
                  clear HB
                  have BK222 := n0_
                  have BK223 := n1_
                  have BK224 := n2_
                  have BK225 := n3_
                  have HB := n4_
                  have BK233 := n5_
                  have GW233 := n6_
                  have GE233 := n7_
                  have NB222_233 := n8_
                  have NB233_222 := n9_
                  have NB223_233 := n10_
                  have NB233_223 := n11_
                  have NB224_233 := n12_
                  have NB233_224 := n13_
                  have NB225_233 := n14_
                  have NB233_225 := n15_
                  clear n0_ n1_ n2_ n3_ n4_ n5_ n6_ n7_ n8_ n9_ n10_ n11_ n12_ n13_ n14_ n15_
                  clear hb hbox hg
                  refine hK.out _ _ ⟨(blk_cell BK222.out 0).trans rfl, (blk_cell BK222.out 1).trans rfl, (blk_cell BK222.out 2).trans rfl, (blk_cell BK224.out 0).trans rfl, (blk_cell BK224.out 1).trans rfl, (blk_cell BK224.out 2).trans rfl, (blk_cell BK224.out 3).trans rfl, (blk_cell BK223.out 0).trans rfl, (blk_cell BK223.out 1).trans rfl, (blk_cell BK223.out 2).trans rfl, (blk_cell BK223.out 3).trans rfl, ((HB.out.cell (World.block_lt_of_cell? w _ hw227_0)).trans hw227_0), ((HB.out.cell (World.block_lt_of_cell? w _ hw227_1)).trans hw227_1)⟩ (fun hHeld => ?_)
                  clear hK K
                  refine norm_ (a' := ?_) ?_ ?_
                  rotate_left
                  · show Act.put _ (some 11) _ = _
                    simp only [Act.put, List.setIfInBounds_toArray, List.set_cons_zero, List.set_cons_succ, i64_w, i32_w]
                    rfl
                  exact norm_ (by simp only [putAll, Act.put, List.setIfInBounds_toArray, List.set_cons_zero, List.set_cons_succ]) (hCont (gb233) _ ⟨hHeld, (by (with_reducible repeat (first | refine blk_drewN ?_ _ | refine blk_drew ?_ | refine blk_alloc ?_ _)); exact BK222.out), (by (with_reducible repeat (first | refine blk_drewN ?_ _ | refine blk_drew ?_ | refine blk_alloc ?_ _)); exact BK223.out), (by (with_reducible repeat (first | refine blk_drewN ?_ _ | refine blk_drew ?_ | refine blk_alloc ?_ _)); exact BK224.out), (by (with_reducible repeat (first | refine blk_drewN ?_ _ | refine blk_drew ?_ | refine blk_alloc ?_ _)); exact BK225.out), (by (with_reducible repeat (first | refine blk_drewN ?_ _ | refine blk_drew ?_ | refine blk_alloc ?_ _)); exact BK233.out), GW233.out, GE233.out, NB222_233.out, NB233_222.out, NB223_233.out, NB233_223.out, NB224_233.out, NB233_224.out, NB225_233.out, NB233_225.out, (by repeat (first | (with_reducible first | exact HB.out | apply below_alloc | apply pw_below_drewN | apply below_drew1 | refine below_set ?_ GE222.out | refine below_set ?_ GE223.out | refine below_set ?_ GE224.out | refine below_set ?_ GE225.out | refine below_set ?_ GE233.out) | exact HB.out))⟩)
                · skip
                  refine box_step ?hg (N := 11) ?hd (cs := #[.int .i64 0, .int .i64 0, .int .i64 0, .int .i64 0]) (t := 39) ?hr ?_; (case hd => rfl); (case hg => rfl); (case hr => first | (go_simp; done) | (go_simp; rfl))
                  intro gb233 hg w62 hbox hb
                  have n0_ := Aside0.mk (blk_below (g := gb222) (o := .cells #[.int .i64 a0_0, .slice A0_1 l0_1.length c0_1, .slice A0_2 l0_2.length c0_2] 24 (0, 0)) (by (with_reducible repeat (first | refine blk_drewN ?_ _ | refine blk_drew ?_ | refine blk_alloc ?_ _)); exact BK222.out) hb)
                  have n1_ := Aside0.mk (blk_below (g := gb223) (o := .cells #[.int .i64 a1_0, .slice (some ad227) l1_1.length c1_1, .int .i64 a1_2, .int .i64 a1_3] 30 (0, 0)) (by (with_reducible repeat (first | refine blk_drewN ?_ _ | refine blk_drew ?_ | refine blk_alloc ?_ _)); exact BK223.out) hb)
                  have n2_ := Aside0.mk (blk_below (g := gb224) (o := .cells #[.int .i64 a2_0, .int .i64 a2_1, .int .i64 a2_2, .int .i64 a2_3] 39 (0, 0)) (by (with_reducible repeat (first | refine blk_drewN ?_ _ | refine blk_drew ?_ | refine blk_alloc ?_ _)); exact BK224.out) hb)
                  have n3_ := Aside0.mk (blk_below (g := gb225) (o := .cells #[.int .i64 0, .int .i64 0, .int .i64 0, .int .i64 0] 39 (0, 0)) (by (with_reducible repeat (first | refine blk_drewN ?_ _ | refine blk_drew ?_ | refine blk_alloc ?_ _)); exact BK225.out) hb)
                  have n4_ := Aside0.mk (below_step (by repeat (first | (with_reducible first | exact HB.out | apply below_alloc | apply pw_below_drewN | apply below_drew1 | refine below_set ?_ GE222.out | refine below_set ?_ GE223.out | refine below_set ?_ GE224.out | refine below_set ?_ GE225.out) | exact HB.out)) hb)
                  have n5_ := Aside0.mk (hbox)
                  have n6_ := Aside0.mk ((by rw [hg]; exact (below_size (by repeat (first | (with_reducible first | exact HB.out | apply below_alloc | apply pw_below_drewN | apply below_drew1 | refine below_set ?_ GE222.out | refine below_set ?_ GE223.out | refine below_set ?_ GE224.out | refine below_set ?_ GE225.out) | exact HB.out))) : w.heap.size ≤ gb233))
                  have n7_ := Aside0.mk ((by rw [hg]; exact (below_size (by repeat (first | (with_reducible first | exact HB.out | apply below_alloc | apply pw_below_drewN | apply below_drew1 | refine below_set ?_ GE222.out | refine below_set ?_ GE223.out | refine below_set ?_ GE224.out | refine below_set ?_ GE225.out) | exact HB.out))) : w.heap.size ≤ gb233))
                  have n8_ := Aside0.mk ((by rw [hg]; exact Nat.ne_of_lt (blk_lt (g := gb222) (o := .cells #[.int .i64 a0_0, .slice A0_1 l0_1.length c0_1, .slice A0_2 l0_2.length c0_2] 24 (0, 0)) (by (with_reducible repeat (first | refine blk_drewN ?_ _ | refine blk_drew ?_ | refine blk_alloc ?_ _)); exact BK222.out)) : gb222 ≠ gb233))
                  have n9_ := Aside0.mk ((by rw [hg]; exact Nat.ne_of_gt (blk_lt (g := gb222) (o := .cells #[.int .i64 a0_0, .slice A0_1 l0_1.length c0_1, .slice A0_2 l0_2.length c0_2] 24 (0, 0)) (by (with_reducible repeat (first | refine blk_drewN ?_ _ | refine blk_drew ?_ | refine blk_alloc ?_ _)); exact BK222.out)) : gb233 ≠ gb222))
                  have n10_ := Aside0.mk ((by rw [hg]; exact Nat.ne_of_lt (blk_lt (g := gb223) (o := .cells #[.int .i64 a1_0, .slice (some ad227) l1_1.length c1_1, .int .i64 a1_2, .int .i64 a1_3] 30 (0, 0)) (by (with_reducible repeat (first | refine blk_drewN ?_ _ | refine blk_drew ?_ | refine blk_alloc ?_ _)); exact BK223.out)) : gb223 ≠ gb233))
                  have n11_ := Aside0.mk ((by rw [hg]; exact Nat.ne_of_gt (blk_lt (g := gb223) (o := .cells #[.int .i64 a1_0, .slice (some ad227) l1_1.length c1_1, .int .i64 a1_2, .int .i64 a1_3] 30 (0, 0)) (by (with_reducible repeat (first | refine blk_drewN ?_ _ | refine blk_drew ?_ | refine blk_alloc ?_ _)); exact BK223.out)) : gb233 ≠ gb223))
                  have n12_ := Aside0.mk ((by rw [hg]; exact Nat.ne_of_lt (blk_lt (g := gb224) (o := .cells #[.int .i64 a2_0, .int .i64 a2_1, .int .i64 a2_2, .int .i64 a2_3] 39 (0, 0)) (by (with_reducible repeat (first | refine blk_drewN ?_ _ | refine blk_drew ?_ | refine blk_alloc ?_ _)); exact BK224.out)) : gb224 ≠ gb233))
                  have n13_ := Aside0.mk ((by rw [hg]; exact Nat.ne_of_gt (blk_lt (g := gb224) (o := .cells #[.int .i64 a2_0, .int .i64 a2_1, .int .i64 a2_2, .int .i64 a2_3] 39 (0, 0)) (by (with_reducible repeat (first | refine blk_drewN ?_ _ | refine blk_drew ?_ | refine blk_alloc ?_ _)); exact BK224.out)) : gb233 ≠ gb224))
                  have n14_ := Aside0.mk ((by rw [hg]; exact Nat.ne_of_lt (blk_lt (g := gb225) (o := .cells #[.int .i64 0, .int .i64 0, .int .i64 0, .int .i64 0] 39 (0, 0)) (by (with_reducible repeat (first | refine blk_drewN ?_ _ | refine blk_drew ?_ | refine blk_alloc ?_ _)); exact BK225.out)) : gb225 ≠ gb233))
                  have n15_ := Aside0.mk ((by rw [hg]; exact Nat.ne_of_gt (blk_lt (g := gb225) (o := .cells #[.int .i64 0, .int .i64 0, .int .i64 0, .int .i64 0] 39 (0, 0)) (by (with_reducible repeat (first | refine blk_drewN ?_ _ | refine blk_drew ?_ | refine blk_alloc ?_ _)); exact BK225.out)) : gb233 ≠ gb225))
                  clear BK222
                  clear BK223
                  clear BK224
                  clear BK225
                  clear HB
                  have BK222 := n0_
                  have BK223 := n1_
                  have BK224 := n2_
                  have BK225 := n3_
                  have HB := n4_
                  have BK233 := n5_
                  have GW233 := n6_
                  have GE233 := n7_
                  have NB222_233 := n8_
                  have NB233_222 := n9_
                  have NB223_233 := n10_
                  have NB233_223 := n11_
                  have NB224_233 := n12_
                  have NB233_224 := n13_
                  have NB225_233 := n14_
                  have NB233_225 := n15_
                  clear n0_ n1_ n2_ n3_ n4_ n5_ n6_ n7_ n8_ n9_ n10_ n11_ n12_ n13_ n14_ n15_
                  clear hb hbox hg
                  refine hK.out _ _ ⟨(blk_cell BK222.out 0).trans rfl, (blk_cell BK222.out 1).trans rfl, (blk_cell BK222.out 2).trans rfl, (blk_cell BK224.out 0).trans rfl, (blk_cell BK224.out 1).trans rfl, (blk_cell BK224.out 2).trans rfl, (blk_cell BK224.out 3).trans rfl, (blk_cell BK223.out 0).trans rfl, (blk_cell BK223.out 1).trans rfl, (blk_cell BK223.out 2).trans rfl, (blk_cell BK223.out 3).trans rfl, ((HB.out.cell (World.block_lt_of_cell? w _ hw227_0)).trans hw227_0), ((HB.out.cell (World.block_lt_of_cell? w _ hw227_1)).trans hw227_1)⟩ (fun hHeld => ?_)
                  clear hK K
                  refine norm_ (a' := ?_) ?_ ?_
                  rotate_left
                  · show Act.put _ (some 11) _ = _
                    simp only [Act.put, List.setIfInBounds_toArray, List.set_cons_zero, List.set_cons_succ, i64_w, i32_w]
                    rfl
                  refine one_ (i := 13) (N := some 52) #[true, true, true, true, true, true, true, true, true, true, true, true, true, true, false, false, false, true, false, false] rfl rfl (one_of HT_.out (by kernel_rfl)) (by decide) (fun K hK => ?_)
                  refine goes_ Try.func32 (by kernel_rfl) rfl #[.agg #[.int .i64 a0_0, .slice A0_1 l0_1.length c0_1, .slice A0_2 l0_2.length c0_2], .int .i64 ji50, .int .i64 ((rd_T75 l1_1 (ji50)).f0), .int .i64 a3] (by rfl) rfl rfl (by (try simp only [List.map_toArray, List.map_cons, List.map_nil]); first | done | (simp only [hji50]; rfl) | rfl | (simp only [List.length_drop, List.length_take]; rfl)) ?_
                  with_reducible refine (curfewref15_begin.calls kj4 a0_0 _ _ l0_1 _ _ l0_2 ji50 ((rd_T75 l1_1 (ji50)).f0) a3 t228 t229 t230 t231 t232 _ ?side1 ?side2 ?side3 ?side4 A53.out).mono ?_
                  (case side1 => repeat (first | exact (Kd.C_below HR0_1.out HB.out) | (with_reducible refine Kd.C_alloc ?_ _) | (with_reducible refine Kd.C_drewN ?_ _) | (with_reducible refine Kd.C_drew ?_)))
                  (case side2 => exact HC0_1.out)
                  (case side3 => repeat (first | exact (Kd.C_below HR0_2.out HB.out) | (with_reducible refine Kd.C_alloc ?_ _) | (with_reducible refine Kd.C_drewN ?_ _) | (with_reducible refine Kd.C_drew ?_)))
                  (case side4 => exact HC0_2.out)
                  rintro e w63 ⟨rfl, hb⟩
                  refine ⟨_, rfl, ?_⟩
                  have n0_ := Aside0.mk (blk_below (g := gb222) (o := .cells #[.int .i64 a0_0, .slice A0_1 l0_1.length c0_1, .slice A0_2 l0_2.length c0_2] 24 (0, 0)) (by (with_reducible repeat (first | refine blk_drewN ?_ _ | refine blk_drew ?_ | refine blk_alloc ?_ _)); exact BK222.out) hb)
                  have n1_ := Aside0.mk (blk_below (g := gb223) (o := .cells #[.int .i64 a1_0, .slice (some ad227) l1_1.length c1_1, .int .i64 a1_2, .int .i64 a1_3] 30 (0, 0)) (by (with_reducible repeat (first | refine blk_drewN ?_ _ | refine blk_drew ?_ | refine blk_alloc ?_ _)); exact BK223.out) hb)
                  have n2_ := Aside0.mk (blk_below (g := gb224) (o := .cells #[.int .i64 a2_0, .int .i64 a2_1, .int .i64 a2_2, .int .i64 a2_3] 39 (0, 0)) (by (with_reducible repeat (first | refine blk_drewN ?_ _ | refine blk_drew ?_ | refine blk_alloc ?_ _)); exact BK224.out) hb)
                  have n3_ := Aside0.mk (blk_below (g := gb225) (o := .cells #[.int .i64 0, .int .i64 0, .int .i64 0, .int .i64 0] 39 (0, 0)) (by (with_reducible repeat (first | refine blk_drewN ?_ _ | refine blk_drew ?_ | refine blk_alloc ?_ _)); exact BK225.out) hb)
                  have n4_ := Aside0.mk (blk_below (g := gb233) (o := .cells #[.int .i64 0, .int .i64 0, .int .i64 0, .int .i64 0] 39 (0, 0)) (by (with_reducible repeat (first | refine blk_drewN ?_ _ | refine blk_drew ?_ | refine blk_alloc ?_ _)); exact BK233.out) hb)
                  have n5_ := Aside0.mk (below_step (by repeat (first | (with_reducible first | exact HB.out | apply below_alloc | apply pw_below_drewN | apply below_drew1 | refine below_set ?_ GE222.out | refine below_set ?_ GE223.out | refine below_set ?_ GE224.out | refine below_set ?_ GE225.out | refine below_set ?_ GE233.out) | exact HB.out)) hb)
                  clear BK222
                  clear BK223
                  clear BK224
                  clear BK225
                  clear BK233
                  clear HB
                  have BK222 := n0_
                  have BK223 := n1_
                  have BK224 := n2_
                  have BK225 := n3_
                  have BK233 := n4_
                  have HB := n5_
                  clear n0_ n1_ n2_ n3_ n4_ n5_
                  (try clear hb)
                  (try clear hb2)
                  (try clear hk)
                  (try clear hi)
                  refine hK.out _ _ ⟨(blk_cell BK222.out 0).trans rfl, (blk_cell BK222.out 1).trans rfl, (blk_cell BK222.out 2).trans rfl, (blk_cell BK224.out 0).trans rfl, (blk_cell BK224.out 1).trans rfl, (blk_cell BK224.out 2).trans rfl, (blk_cell BK224.out 3).trans rfl, (blk_cell BK223.out 0).trans rfl, (blk_cell BK223.out 1).trans rfl, (blk_cell BK223.out 2).trans rfl, (blk_cell BK223.out 3).trans rfl, ((HB.out.cell (World.block_lt_of_cell? w _ hw227_0)).trans hw227_0), ((HB.out.cell (World.block_lt_of_cell? w _ hw227_1)).trans hw227_1)⟩ (fun hHeld => ?_)
                  clear hK K
                  refine norm_ (a' := ?_) ?_ ?_
                  rotate_left
                  · show Act.put _ (some 52) _ = _
                    simp only [Act.put, List.setIfInBounds_toArray, List.set_cons_zero, List.set_cons_succ, i64_w, i32_w]
                    rfl
                  refine pure_ (i := 14) (N := some 38) (v := ?_) (a' := ?_) #[true, true, true, true, true, true, true, true, true, true, true, true, true, true, true, false, false, true, false, false] rfl rfl (any_of HT_.out (by kernel_rfl)) (fun _ _ _ h => h) (Or.inl ⟨by rfl, ?_⟩) ?_ ?_
                  rotate_left
                  · intro w'
                    go_simp
                    with_reducible rfl
                  rotate_left
                  · simp only [Act.put, List.setIfInBounds_toArray, List.set_cons_zero, List.set_cons_succ, i64_w, i32_w]
                    rfl
                  refine pure_ (i := 15) (N := some 53) (v := ?_) (a' := ?_) #[true, true, true, true, true, true, true, true, true, true, true, true, true, true, true, true, false, true, false, false] rfl rfl (any_of HT_.out (by kernel_rfl)) (fun _ _ _ h => h) (Or.inl ⟨by rfl, ?_⟩) ?_ ?_
                  rotate_left
                  · intro w'
                    go_simp
                    with_reducible rfl
                  rotate_left
                  · simp only [Act.put, List.setIfInBounds_toArray, List.set_cons_zero, List.set_cons_succ, i64_w, i32_w]
                    rfl
                  refine pure_ (i := 16) (N := some 54) (v := ?_) (a' := ?_) #[true, true, true, true, true, true, true, true, true, true, true, true, true, true, true, true, true, true, false, false] rfl rfl (any_of HT_.out (by kernel_rfl)) (fun _ _ _ h => h) (Or.inl ⟨by rfl, ?_⟩) ?_ ?_
                  rotate_left
                  · intro w'
                    go_simp
                    with_reducible rfl
                  rotate_left
                  · simp only [Act.put, List.setIfInBounds_toArray, List.set_cons_zero, List.set_cons_succ, i64_w, i32_w]
                    rfl
                  exact norm_ (by simp only [putAll, Act.put, List.setIfInBounds_toArray, List.set_cons_zero, List.set_cons_succ]) (hCont (gb233) _ ⟨hHeld, (by (with_reducible repeat (first | refine blk_drewN ?_ _ | refine blk_drew ?_ | refine blk_alloc ?_ _)); exact BK222.out), (by (with_reducible repeat (first | refine blk_drewN ?_ _ | refine blk_drew ?_ | refine blk_alloc ?_ _)); exact BK223.out), (by (with_reducible repeat (first | refine blk_drewN ?_ _ | refine blk_drew ?_ | refine blk_alloc ?_ _)); exact BK224.out), (by (with_reducible repeat (first | refine blk_drewN ?_ _ | refine blk_drew ?_ | refine blk_alloc ?_ _)); exact BK225.out), (by (with_reducible repeat (first | refine blk_drewN ?_ _ | refine blk_drew ?_ | refine blk_alloc ?_ _)); exact BK233.out), GW233.out, GE233.out, NB222_233.out, NB233_222.out, NB223_233.out, NB233_223.out, NB224_233.out, NB233_224.out, NB225_233.out, NB233_225.out, (by repeat (first | (with_reducible first | exact HB.out | apply below_alloc | apply pw_below_drewN | apply below_drew1 | refine below_set ?_ GE222.out | refine below_set ?_ GE223.out | refine below_set ?_ GE224.out | refine below_set ?_ GE225.out | refine below_set ?_ GE233.out) | exact HB.out))⟩)
              rintro gb233 w64 ⟨hS_, h0_, h1_, h2_, h3_, h4_, h5_, h6_, h7_, h8_, h9_, h10_, h11_, h12_, h13_, h14_, h15_⟩
              have n0_ : Aside0 (w64.heap[gb222]? = some (.cells #[.int .i64 a0_0, .slice A0_1 l0_1.length c0_1, .slice A0_2 l0_2.length c0_2] 24 (0, 0))) := ⟨h0_⟩
              have n1_ : Aside0 (w64.heap[gb223]? = some (.cells #[.int .i64 a1_0, .slice (some ad227) l1_1.length c1_1, .int .i64 a1_2, .int .i64 a1_3] 30 (0, 0))) := ⟨h1_⟩
              have n2_ : Aside0 (w64.heap[gb224]? = some (.cells #[.int .i64 a2_0, .int .i64 a2_1, .int .i64 a2_2, .int .i64 a2_3] 39 (0, 0))) := ⟨h2_⟩
              have n3_ : Aside0 (w64.heap[gb225]? = some (.cells #[.int .i64 0, .int .i64 0, .int .i64 0, .int .i64 0] 39 (0, 0))) := ⟨h3_⟩
              have n4_ : Aside0 (w64.heap[gb233]? = some (.cells #[.int .i64 0, .int .i64 0, .int .i64 0, .int .i64 0] 39 (0, 0))) := ⟨h4_⟩
              have n5_ : Aside0 (w.heap.size ≤ gb233) := ⟨h5_⟩
              have n6_ : Aside0 (w.heap.size ≤ gb233) := ⟨h6_⟩
              have n7_ : Aside0 (gb222 ≠ gb233) := ⟨h7_⟩
              have n8_ : Aside0 (gb233 ≠ gb222) := ⟨h8_⟩
              have n9_ : Aside0 (gb223 ≠ gb233) := ⟨h9_⟩
              have n10_ : Aside0 (gb233 ≠ gb223) := ⟨h10_⟩
              have n11_ : Aside0 (gb224 ≠ gb233) := ⟨h11_⟩
              have n12_ : Aside0 (gb233 ≠ gb224) := ⟨h12_⟩
              have n13_ : Aside0 (gb225 ≠ gb233) := ⟨h13_⟩
              have n14_ : Aside0 (gb233 ≠ gb225) := ⟨h14_⟩
              have n15_ : Aside0 (Below w.heap.size w w64) := ⟨h15_⟩
              clear BK222
              clear BK223
              clear BK224
              clear BK225
              clear HB
              clear h0_ h1_ h2_ h3_ h4_ h5_ h6_ h7_ h8_ h9_ h10_ h11_ h12_ h13_ h14_ h15_
              have BK222 := n0_
              have BK223 := n1_
              have BK224 := n2_
              have BK225 := n3_
              have BK233 := n4_
              have GW233 := n5_
              have GE233 := n6_
              have NB222_233 := n7_
              have NB233_222 := n8_
              have NB223_233 := n9_
              have NB233_223 := n10_
              have NB224_233 := n11_
              have NB233_224 := n12_
              have NB225_233 := n13_
              have NB233_225 := n14_
              have HB := n15_
              clear n0_ n1_ n2_ n3_ n4_ n5_ n6_ n7_ n8_ n9_ n10_ n11_ n12_ n13_ n14_ n15_
              have hHeld : w64.cell? ⟨gb222, 0, none⟩ = some (.int .i64 a0_0) ∧ w64.cell? ⟨gb222, 1, none⟩ = some (.slice A0_1 l0_1.length c0_1) ∧ w64.cell? ⟨gb222, 2, none⟩ = some (.slice A0_2 l0_2.length c0_2) ∧ w64.cell? ⟨gb224, 0, none⟩ = some (.int .i64 a2_0) ∧ w64.cell? ⟨gb224, 1, none⟩ = some (.int .i64 a2_1) ∧ w64.cell? ⟨gb224, 2, none⟩ = some (.int .i64 a2_2) ∧ w64.cell? ⟨gb224, 3, none⟩ = some (.int .i64 a2_3) ∧ w64.cell? ⟨gb223, 0, none⟩ = some (.int .i64 a1_0) ∧ w64.cell? ⟨gb223, 1, none⟩ = some (.slice (some ad227) l1_1.length c1_1) ∧ w64.cell? ⟨gb223, 2, none⟩ = some (.int .i64 a1_2) ∧ w64.cell? ⟨gb223, 3, none⟩ = some (.int .i64 a1_3) ∧ w64.cell? (ad227.add (((ji50)).toNat * 2)) = some (.int .i64 ((rd_T75 l1_1 (ji50)).f0)) ∧ w64.cell? ⟨(ad227.add (((ji50)).toNat * 2)).block, (ad227.add (((ji50)).toNat * 2)).off + 1, none⟩ = some (.int .i64 ((rd_T75 l1_1 (ji50)).f1)) := hS_
              refine norm_ (a' := ?_) ?_ ?_
              rotate_left
              · simp only [putAll, Act.put, List.setIfInBounds_toArray, List.set_cons_zero, List.set_cons_succ]
                rfl
              refine one_ (i := 18) (N := none) #[true, true, true, true, true, true, true, true, true, true, true, true, true, true, true, true, true, true, true, false] rfl rfl (one_of HT_.out (by kernel_rfl)) (by decide) (fun K hK => ?_)
              have hs65 : w64.cell? ⟨gb233, 0, none⟩ = some (.int .i64 0) := (blk_cell BK233.out 0).trans rfl
              have hfs65 := blk_frozen BK233.out 0
              have hns65_0 := NB222_233.out
              have hns65_1 := NB223_233.out
              have hns65_2 := NB224_233.out
              have hns65_3 := NB225_233.out
              have hms65_0 := NB233_222.out
              have hms65_1 := NB233_223.out
              have hms65_2 := NB233_224.out
              have hms65_3 := NB233_225.out
              have hs66 : w64.cell? ⟨gb233, 1, none⟩ = some (.int .i64 0) := (blk_cell BK233.out 1).trans rfl
              have hfs66 := blk_frozen BK233.out 1
              have hns66_0 := NB222_233.out
              have hns66_1 := NB223_233.out
              have hns66_2 := NB224_233.out
              have hns66_3 := NB225_233.out
              have hms66_0 := NB233_222.out
              have hms66_1 := NB233_223.out
              have hms66_2 := NB233_224.out
              have hms66_3 := NB233_225.out
              have hs67 : w64.cell? ⟨gb233, 2, none⟩ = some (.int .i64 0) := (blk_cell BK233.out 2).trans rfl
              have hfs67 := blk_frozen BK233.out 2
              have hns67_0 := NB222_233.out
              have hns67_1 := NB223_233.out
              have hns67_2 := NB224_233.out
              have hns67_3 := NB225_233.out
              have hms67_0 := NB233_222.out
              have hms67_1 := NB233_223.out
              have hms67_2 := NB233_224.out
              have hms67_3 := NB233_225.out
              have hs68 : w64.cell? ⟨gb233, 3, none⟩ = some (.int .i64 0) := (blk_cell BK233.out 3).trans rfl
              have hfs68 := blk_frozen BK233.out 3
              have hns68_0 := NB222_233.out
              have hns68_1 := NB223_233.out
              have hns68_2 := NB224_233.out
              have hns68_3 := NB225_233.out
              have hms68_0 := NB233_222.out
              have hms68_1 := NB233_223.out
              have hms68_2 := NB233_224.out
              have hms68_3 := NB233_225.out
              refine skip_ (w1 := ?_) (by rfl) rfl ?_ ?_
              rotate_left
              · go_simp
                rfl
              refine hK.out _ _ ⟨((cell_far (p := ⟨gb233, _, none⟩) NB222_233.out _).trans (((cell_far (p := ⟨gb233, _, none⟩) NB222_233.out _).trans (((cell_far (p := ⟨gb233, _, none⟩) NB222_233.out _).trans (((cell_far (p := ⟨gb233, _, none⟩) NB222_233.out _).trans (hHeld.1)))))))), ((cell_far (p := ⟨gb233, _, none⟩) NB222_233.out _).trans (((cell_far (p := ⟨gb233, _, none⟩) NB222_233.out _).trans (((cell_far (p := ⟨gb233, _, none⟩) NB222_233.out _).trans (((cell_far (p := ⟨gb233, _, none⟩) NB222_233.out _).trans (hHeld.2.1)))))))), ((cell_far (p := ⟨gb233, _, none⟩) NB222_233.out _).trans (((cell_far (p := ⟨gb233, _, none⟩) NB222_233.out _).trans (((cell_far (p := ⟨gb233, _, none⟩) NB222_233.out _).trans (((cell_far (p := ⟨gb233, _, none⟩) NB222_233.out _).trans (hHeld.2.2.1)))))))), ((cell_far (p := ⟨gb233, _, none⟩) NB224_233.out _).trans (((cell_far (p := ⟨gb233, _, none⟩) NB224_233.out _).trans (((cell_far (p := ⟨gb233, _, none⟩) NB224_233.out _).trans (((cell_far (p := ⟨gb233, _, none⟩) NB224_233.out _).trans (hHeld.2.2.2.1)))))))), ((cell_far (p := ⟨gb233, _, none⟩) NB224_233.out _).trans (((cell_far (p := ⟨gb233, _, none⟩) NB224_233.out _).trans (((cell_far (p := ⟨gb233, _, none⟩) NB224_233.out _).trans (((cell_far (p := ⟨gb233, _, none⟩) NB224_233.out _).trans (hHeld.2.2.2.2.1)))))))), ((cell_far (p := ⟨gb233, _, none⟩) NB224_233.out _).trans (((cell_far (p := ⟨gb233, _, none⟩) NB224_233.out _).trans (((cell_far (p := ⟨gb233, _, none⟩) NB224_233.out _).trans (((cell_far (p := ⟨gb233, _, none⟩) NB224_233.out _).trans (hHeld.2.2.2.2.2.1)))))))), ((cell_far (p := ⟨gb233, _, none⟩) NB224_233.out _).trans (((cell_far (p := ⟨gb233, _, none⟩) NB224_233.out _).trans (((cell_far (p := ⟨gb233, _, none⟩) NB224_233.out _).trans (((cell_far (p := ⟨gb233, _, none⟩) NB224_233.out _).trans (hHeld.2.2.2.2.2.2.1)))))))), ((cell_far (p := ⟨gb233, _, none⟩) NB223_233.out _).trans (((cell_far (p := ⟨gb233, _, none⟩) NB223_233.out _).trans (((cell_far (p := ⟨gb233, _, none⟩) NB223_233.out _).trans (((cell_far (p := ⟨gb233, _, none⟩) NB223_233.out _).trans (hHeld.2.2.2.2.2.2.2.1)))))))), ((cell_far (p := ⟨gb233, _, none⟩) NB223_233.out _).trans (((cell_far (p := ⟨gb233, _, none⟩) NB223_233.out _).trans (((cell_far (p := ⟨gb233, _, none⟩) NB223_233.out _).trans (((cell_far (p := ⟨gb233, _, none⟩) NB223_233.out _).trans (hHeld.2.2.2.2.2.2.2.2.1)))))))), ((cell_far (p := ⟨gb233, _, none⟩) NB223_233.out _).trans (((cell_far (p := ⟨gb233, _, none⟩) NB223_233.out _).trans (((cell_far (p := ⟨gb233, _, none⟩) NB223_233.out _).trans (((cell_far (p := ⟨gb233, _, none⟩) NB223_233.out _).trans (hHeld.2.2.2.2.2.2.2.2.2.1)))))))), ((cell_far (p := ⟨gb233, _, none⟩) NB223_233.out _).trans (((cell_far (p := ⟨gb233, _, none⟩) NB223_233.out _).trans (((cell_far (p := ⟨gb233, _, none⟩) NB223_233.out _).trans (((cell_far (p := ⟨gb233, _, none⟩) NB223_233.out _).trans (hHeld.2.2.2.2.2.2.2.2.2.2.1)))))))), ((cell_far (p := ⟨gb233, _, none⟩) (by first | exact Nat.ne_of_lt (Nat.lt_of_lt_of_le (by have := World.block_lt_of_cell? _ _ hw227_0; first | rwa [add_block] at this | exact this) GW233.out) | (rw [add_block]; exact Nat.ne_of_lt (Nat.lt_of_lt_of_le (by have := World.block_lt_of_cell? _ _ hw227_0; first | rwa [add_block] at this | exact this) GW233.out)) | (show (Addr.add _ _).block ≠ _; rw [add_block]; exact Nat.ne_of_lt (Nat.lt_of_lt_of_le (by have := World.block_lt_of_cell? _ _ hw227_0; first | rwa [add_block] at this | exact this) GW233.out)) | (dsimp only; exact Nat.ne_of_lt (Nat.lt_of_lt_of_le (by have := World.block_lt_of_cell? _ _ hw227_0; first | rwa [add_block] at this | exact this) GW233.out))) _).trans (((cell_far (p := ⟨gb233, _, none⟩) (by first | exact Nat.ne_of_lt (Nat.lt_of_lt_of_le (by have := World.block_lt_of_cell? _ _ hw227_0; first | rwa [add_block] at this | exact this) GW233.out) | (rw [add_block]; exact Nat.ne_of_lt (Nat.lt_of_lt_of_le (by have := World.block_lt_of_cell? _ _ hw227_0; first | rwa [add_block] at this | exact this) GW233.out)) | (show (Addr.add _ _).block ≠ _; rw [add_block]; exact Nat.ne_of_lt (Nat.lt_of_lt_of_le (by have := World.block_lt_of_cell? _ _ hw227_0; first | rwa [add_block] at this | exact this) GW233.out)) | (dsimp only; exact Nat.ne_of_lt (Nat.lt_of_lt_of_le (by have := World.block_lt_of_cell? _ _ hw227_0; first | rwa [add_block] at this | exact this) GW233.out))) _).trans (((cell_far (p := ⟨gb233, _, none⟩) (by first | exact Nat.ne_of_lt (Nat.lt_of_lt_of_le (by have := World.block_lt_of_cell? _ _ hw227_0; first | rwa [add_block] at this | exact this) GW233.out) | (rw [add_block]; exact Nat.ne_of_lt (Nat.lt_of_lt_of_le (by have := World.block_lt_of_cell? _ _ hw227_0; first | rwa [add_block] at this | exact this) GW233.out)) | (show (Addr.add _ _).block ≠ _; rw [add_block]; exact Nat.ne_of_lt (Nat.lt_of_lt_of_le (by have := World.block_lt_of_cell? _ _ hw227_0; first | rwa [add_block] at this | exact this) GW233.out)) | (dsimp only; exact Nat.ne_of_lt (Nat.lt_of_lt_of_le (by have := World.block_lt_of_cell? _ _ hw227_0; first | rwa [add_block] at this | exact this) GW233.out))) _).trans (((cell_far (p := ⟨gb233, _, none⟩) (by first | exact Nat.ne_of_lt (Nat.lt_of_lt_of_le (by have := World.block_lt_of_cell? _ _ hw227_0; first | rwa [add_block] at this | exact this) GW233.out) | (rw [add_block]; exact Nat.ne_of_lt (Nat.lt_of_lt_of_le (by have := World.block_lt_of_cell? _ _ hw227_0; first | rwa [add_block] at this | exact this) GW233.out)) | (show (Addr.add _ _).block ≠ _; rw [add_block]; exact Nat.ne_of_lt (Nat.lt_of_lt_of_le (by have := World.block_lt_of_cell? _ _ hw227_0; first | rwa [add_block] at this | exact this) GW233.out)) | (dsimp only; exact Nat.ne_of_lt (Nat.lt_of_lt_of_le (by have := World.block_lt_of_cell? _ _ hw227_0; first | rwa [add_block] at this | exact this) GW233.out))) _).trans (hHeld.2.2.2.2.2.2.2.2.2.2.2.1)))))))), ((cell_far (p := ⟨gb233, _, none⟩) (by first | exact Nat.ne_of_lt (Nat.lt_of_lt_of_le (by have := World.block_lt_of_cell? _ _ hw227_1; first | rwa [add_block] at this | exact this) GW233.out) | (rw [add_block]; exact Nat.ne_of_lt (Nat.lt_of_lt_of_le (by have := World.block_lt_of_cell? _ _ hw227_1; first | rwa [add_block] at this | exact this) GW233.out)) | (show (Addr.add _ _).block ≠ _; rw [add_block]; exact Nat.ne_of_lt (Nat.lt_of_lt_of_le (by have := World.block_lt_of_cell? _ _ hw227_1; first | rwa [add_block] at this | exact this) GW233.out)) | (dsimp only; exact Nat.ne_of_lt (Nat.lt_of_lt_of_le (by have := World.block_lt_of_cell? _ _ hw227_1; first | rwa [add_block] at this | exact this) GW233.out))) _).trans (((cell_far (p := ⟨gb233, _, none⟩) (by first | exact Nat.ne_of_lt (Nat.lt_of_lt_of_le (by have := World.block_lt_of_cell? _ _ hw227_1; first | rwa [add_block] at this | exact this) GW233.out) | (rw [add_block]; exact Nat.ne_of_lt (Nat.lt_of_lt_of_le (by have := World.block_lt_of_cell? _ _ hw227_1; first | rwa [add_block] at this | exact this) GW233.out)) | (show (Addr.add _ _).block ≠ _; rw [add_block]; exact Nat.ne_of_lt (Nat.lt_of_lt_of_le (by have := World.block_lt_of_cell? _ _ hw227_1; first | rwa [add_block] at this | exact this) GW233.out)) | (dsimp only; exact Nat.ne_of_lt (Nat.lt_of_lt_of_le (by have := World.block_lt_of_cell? _ _ hw227_1; first | rwa [add_block] at this | exact this) GW233.out))) _).trans (((cell_far (p := ⟨gb233, _, none⟩) (by first | exact Nat.ne_of_lt (Nat.lt_of_lt_of_le (by have := World.block_lt_of_cell? _ _ hw227_1; first | rwa [add_block] at this | exact this) GW233.out) | (rw [add_block]; exact Nat.ne_of_lt (Nat.lt_of_lt_of_le (by have := World.block_lt_of_cell? _ _ hw227_1; first | rwa [add_block] at this | exact this) GW233.out)) | (show (Addr.add _ _).block ≠ _; rw [add_block]; exact Nat.ne_of_lt (Nat.lt_of_lt_of_le (by have := World.block_lt_of_cell? _ _ hw227_1; first | rwa [add_block] at this | exact this) GW233.out)) | (dsimp only; exact Nat.ne_of_lt (Nat.lt_of_lt_of_le (by have := World.block_lt_of_cell? _ _ hw227_1; first | rwa [add_block] at this | exact this) GW233.out))) _).trans (((cell_far (p := ⟨gb233, _, none⟩) (by first | exact Nat.ne_of_lt (Nat.lt_of_lt_of_le (by have := World.block_lt_of_cell? _ _ hw227_1; first | rwa [add_block] at this | exact this) GW233.out) | (rw [add_block]; exact Nat.ne_of_lt (Nat.lt_of_lt_of_le (by have := World.block_lt_of_cell? _ _ hw227_1; first | rwa [add_block] at this | exact this) GW233.out)) | (show (Addr.add _ _).block ≠ _; rw [add_block]; exact Nat.ne_of_lt (Nat.lt_of_lt_of_le (by have := World.block_lt_of_cell? _ _ hw227_1; first | rwa [add_block] at this | exact this) GW233.out)) | (dsimp only; exact Nat.ne_of_lt (Nat.lt_of_lt_of_le (by have := World.block_lt_of_cell? _ _ hw227_1; first | rwa [add_block] at this | exact this) GW233.out))) _).trans (hHeld.2.2.2.2.2.2.2.2.2.2.2.2))))))))⟩ (fun hHeld => ?_)
              clear hK K
              refine pure_ (i := 19) (N := some 12) (v := ?_) (a' := ?_) #[true, true, true, true, true, true, true, true, true, true, true, true, true, true, true, true, true, true, true, true] rfl rfl (any_of HT_.out (by kernel_rfl)) (fun _ _ _ h => h) (Or.inl ⟨by rfl, ?_⟩) ?_ ?_
              rotate_left
              · intro w'
                go_simp
                with_reducible rfl
              rotate_left
              · simp only [Act.put, List.setIfInBounds_toArray, List.set_cons_zero, List.set_cons_succ, i64_w, i32_w]
                rfl
              refine done_ (done_of HT_.out (by kernel_rfl)) ?_
              have hnb69 := NB233_222.out
              have hnc69 := NB222_233.out
              have hnb70 := NB233_223.out
              have hnc70 := NB223_233.out
              have hnb71 := NB233_224.out
              have hnc71 := NB224_233.out
              have hnb72 := NB233_225.out
              have hnc72 := NB225_233.out
              have hcz73_0 : w64.cell? ⟨gb233, 0, none⟩ = some (.int .i64 0) := (blk_cell BK233.out 0).trans rfl
              have hcz73_1 : w64.cell? ⟨gb233, 1, none⟩ = some (.int .i64 0) := (blk_cell BK233.out 1).trans rfl
              have hcz73_2 : w64.cell? ⟨gb233, 2, none⟩ = some (.int .i64 0) := (blk_cell BK233.out 2).trans rfl
              have hcz73_3 : w64.cell? ⟨gb233, 3, none⟩ = some (.int .i64 0) := (blk_cell BK233.out 3).trans rfl
              have hfz73_0 := blk_frozen BK233.out 0
              have hfz73_1 := blk_frozen BK233.out 1
              have hfz73_2 := blk_frozen BK233.out 2
              have hfz73_3 := blk_frozen BK233.out 3
              have hnb74 := NB225_222.out
              have hnc74 := NB222_225.out
              have hcz75_0 : w64.cell? ⟨gb225, 0, none⟩ = some (.int .i64 0) := (blk_cell BK225.out 0).trans rfl
              have hcz75_1 : w64.cell? ⟨gb225, 1, none⟩ = some (.int .i64 0) := (blk_cell BK225.out 1).trans rfl
              have hcz75_2 : w64.cell? ⟨gb225, 2, none⟩ = some (.int .i64 0) := (blk_cell BK225.out 2).trans rfl
              have hcz75_3 : w64.cell? ⟨gb225, 3, none⟩ = some (.int .i64 0) := (blk_cell BK225.out 3).trans rfl
              have hfz75_0 := blk_frozen BK225.out 0
              have hfz75_1 := blk_frozen BK225.out 1
              have hfz75_2 := blk_frozen BK225.out 2
              have hfz75_3 := blk_frozen BK225.out 3
              try go_wp2
              refine bodyPost_ret (results_ctt rfl _ _ gb225 39 #[.int .i64 t228, .int .i64 t229, .int .i64 t230, .int .i64 t231] (0, 0) _ rfl (by (with_reducible repeat (first | refine blk_drewN ?_ _ | refine blk_drew ?_ | refine blk_alloc ?_ _)); refine blk_put (cs := #[.int .i64 t228, .int .i64 t229, .int .i64 t230, .int .i64 0]) ?_ 3 _ rfl; (with_reducible repeat (first | refine blk_drewN ?_ _ | refine blk_drew ?_ | refine blk_alloc ?_ _)); refine blk_put (cs := #[.int .i64 t228, .int .i64 t229, .int .i64 0, .int .i64 0]) ?_ 2 _ rfl; (with_reducible repeat (first | refine blk_drewN ?_ _ | refine blk_drew ?_ | refine blk_alloc ?_ _)); refine blk_put (cs := #[.int .i64 t228, .int .i64 0, .int .i64 0, .int .i64 0]) ?_ 1 _ rfl; (with_reducible repeat (first | refine blk_drewN ?_ _ | refine blk_drew ?_ | refine blk_alloc ?_ _)); refine blk_put (cs := #[.int .i64 0, .int .i64 0, .int .i64 0, .int .i64 0]) ?_ 0 _ rfl; (with_reducible repeat (first | refine blk_drewN ?_ _ | refine blk_drew ?_ | refine blk_alloc ?_ _)); refine blk_far ?_ NB225_233.out _; (with_reducible repeat (first | refine blk_drewN ?_ _ | refine blk_drew ?_ | refine blk_alloc ?_ _)); refine blk_far ?_ NB225_233.out _; (with_reducible repeat (first | refine blk_drewN ?_ _ | refine blk_drew ?_ | refine blk_alloc ?_ _)); refine blk_far ?_ NB225_233.out _; (with_reducible repeat (first | refine blk_drewN ?_ _ | refine blk_drew ?_ | refine blk_alloc ?_ _)); refine blk_far ?_ NB225_233.out _; (with_reducible repeat (first | refine blk_drewN ?_ _ | refine blk_drew ?_ | refine blk_alloc ?_ _)); exact BK225.out) Try.underlying39 rfl (by kernel_rfl)) rfl ?_
              exact ⟨by first | rfl | (simp [errW_none, errW_some] <;> rfl) | (simp only [← hji50]; first | rfl | (simp [errW_none, errW_some] <;> rfl)) | (simp [*, errW_none, errW_some] <;> rfl), by repeat (first | (with_reducible first | exact HB.out | apply below_alloc | apply pw_below_drewN | apply below_drew1 | refine below_set ?_ GE222.out | refine below_set ?_ GE223.out | refine below_set ?_ GE224.out | refine below_set ?_ GE225.out | refine below_set ?_ GE233.out) | exact HB.out)⟩
            · rw [if_neg c52] at H
              exact absurd H (by simp)
          · rw [if_neg c51] at H
            exact absurd H (by simp)
def chain_Step_going.f (a0_0 : Int) (a0_1 : Int) (a0_2 : Int) (a0_3 : Int) : Option (Bool) := some (a0_3 != 0)
set_option maxHeartbeats 8000000 in
set_option maxRecDepth 100000 in
theorem chain_Step_going.calls (a0_0 : Int) (a0_1 : Int) (a0_2 : Int) (a0_3 : Int) (r : Bool) (w : World) (h : chain_Step_going.f a0_0 a0_1 a0_2 a0_3 = some r) :
    Calls Try.prog 28 #[.agg #[.int .i64 a0_0, .int .i64 a0_1, .int .i64 a0_2, .int .i64 a0_3]] w fun e w' => e = .returned (.bool r) ∧ Below w.heap.size w w' := by
  have hu26 := Try.underlying26
  have HB := Aside0.mk (Below.refl w.heap.size w)
  have H : (some (a0_3 != 0)) = some r := h
  clear h
  obtain rfl := Option.some.inj H
  go_enter Try.func28, Try.ntmps28
  go_wp2_with (first | ((with_reducible refine gate_dst (N := 1) rfl ?_); refine box_event ?hg (N := 1) ?hd (cs := #[.int .i64 a0_0, .int .i64 a0_1, .int .i64 a0_2, .int .i64 a0_3]) (t := 26) ?hr ?_; (case hd => rfl); (case hg => rfl); (case hr => first | (go_simp; done) | (go_simp; rfl)); intro gb234 hg w2 hbox hb; have n0_ := Aside0.mk (below_step (by repeat (first | (with_reducible first | exact HB.out | apply below_alloc | apply pw_below_drewN | apply below_drew1) | exact HB.out)) hb); have n1_ := Aside0.mk (hbox); have n2_ := Aside0.mk ((by rw [hg]; exact (below_size (by repeat (first | (with_reducible first | exact HB.out | apply below_alloc | apply pw_below_drewN | apply below_drew1) | exact HB.out))) : w.heap.size ≤ gb234)); have n3_ := Aside0.mk ((by rw [hg]; exact (below_size (by repeat (first | (with_reducible first | exact HB.out | apply below_alloc | apply pw_below_drewN | apply below_drew1) | exact HB.out))) : w.heap.size ≤ gb234)); clear HB; have HB := n0_; have BK234 := n1_; have GW234 := n2_; have GE234 := n3_; clear n0_ n1_ n2_ n3_; clear hb hbox hg; have hcz3_0 : w2.cell? ⟨gb234, 0, none⟩ = some (.int .i64 a0_0) := (blk_cell BK234.out 0).trans rfl; have hcz3_1 : w2.cell? ⟨gb234, 1, none⟩ = some (.int .i64 a0_1) := (blk_cell BK234.out 1).trans rfl; have hcz3_2 : w2.cell? ⟨gb234, 2, none⟩ = some (.int .i64 a0_2) := (blk_cell BK234.out 2).trans rfl; have hcz3_3 : w2.cell? ⟨gb234, 3, none⟩ = some (.int .i64 a0_3) := (blk_cell BK234.out 3).trans rfl; have hfz3_0 := blk_frozen BK234.out 0; have hfz3_1 := blk_frozen BK234.out 1; have hfz3_2 := blk_frozen BK234.out 2; have hfz3_3 := blk_frozen BK234.out 3))
  go_ret
  exact ⟨by first | rfl | (simp [errW_none, errW_some] <;> rfl) | (simp [*, errW_none, errW_some] <;> rfl), by repeat (first | (with_reducible first | exact HB.out | apply below_alloc | apply pw_below_drewN | apply below_drew1 | refine below_set ?_ GE234.out) | exact HB.out)⟩
def curfewlaw15_Always.f  : Option (Int × (List (S78)) × (List (S78))) := some (0, (([(⟨0, 604800⟩ : S78)] : List (S78))), ([] : List (S78)))
set_option maxHeartbeats 8000000 in
set_option maxRecDepth 100000 in
theorem curfewlaw15_Always.calls  (r1 : Int) (r2 : List (S78)) (r3 : List (S78)) (w : World) (h : curfewlaw15_Always.f  = some (r1, r2, r3)) :
    Calls Try.prog 24 #[] w fun e w' => ∃ v1_ v2_ : Value, e = .returned (.agg #[.int .i64 r1, v1_, v2_]) ∧ Kd.R k78 78 w' w.heap.size (fun k_ => some k_ ≠ (v2_ : Value).ownBlock) v1_ r2 ∧ Kd.R k78 78 w' w.heap.size (fun k_ => some k_ ≠ (v1_ : Value).ownBlock) v2_ r3 ∧ Below w.heap.size w w' := by
  have hu24 := Try.underlying24
  have hu78 := Try.underlying78
  have HB := Aside0.mk (Below.refl w.heap.size w)
  have H : (some (0, (([(⟨0, 604800⟩ : S78)] : List (S78))), ([] : List (S78)))) = some (r1, r2, r3) := h
  clear h
  obtain ⟨y236, hy236⟩ : ∃ y_ : List (S78), y_ = (([(⟨0, 604800⟩ : S78)] : List (S78))) := ⟨_, rfl⟩
  replace H : (some (0, y236, ([] : List (S78)))) = some (r1, r2, r3) := by first | (rw [hy236]; with_reducible exact H) | (have H2_ := (Option.bind_some _ _).symm.trans H; rw [hy236]; with_reducible exact H2_) | (have H2_ := (Option.bind_some _ _).symm.trans H; with_reducible exact H2_) | with_reducible exact H | (rw [hy236]; exact H) | exact H
  have Ny236 := Aside0.mk hy236
  clear hy236
  simp only [Option.some.injEq, Prod.mk.injEq] at H
  obtain ⟨rfl, rfl, rfl⟩ := H
  go_enter Try.func24, Try.ntmps24
  go_wp2_with (first | ((with_reducible refine gate_dst (N := 0) rfl ?_); refine box_event ?hg (N := 0) ?hd (cs := #[.int .i64 0, .slice none 0 0, .slice none 0 0]) (t := 24) ?hr ?_; (case hd => rfl); (case hg => rfl); (case hr => first | (go_simp; done) | (go_simp; rfl)); intro gb235 hg w1 hbox hb; have n0_ := Aside0.mk (below_step (by repeat (first | (with_reducible first | exact HB.out | apply below_alloc | apply pw_below_drewN | apply below_drew1) | exact HB.out)) hb); have n1_ := Aside0.mk (hbox); have n2_ := Aside0.mk ((by rw [hg]; exact (below_size (by repeat (first | (with_reducible first | exact HB.out | apply below_alloc | apply pw_below_drewN | apply below_drew1) | exact HB.out))) : w.heap.size ≤ gb235)); have n3_ := Aside0.mk ((by rw [hg]; exact (below_size (by repeat (first | (with_reducible first | exact HB.out | apply below_alloc | apply pw_below_drewN | apply below_drew1) | exact HB.out))) : w.heap.size ≤ gb235)); clear HB; have HB := n0_; have BK235 := n1_; have GW235 := n2_; have GE235 := n3_; clear n0_ n1_ n2_ n3_; clear hb hbox hg) | ((with_reducible refine gate_dst (N := 2) rfl ?_); refine Kd.R_lit k78 _ 78 ?hg (N := 2) ?hd (xs := ([(⟨0, 604800⟩ : S78)] : List (S78))) (inner := [.int .i64 0, .int .i64 604800]) (ok := fun _ => True) (okp := fun _ => True) ?hr ?hp (fun _ hk => hk) trivial (Below.refl _ _) (Nat.le_refl _) (by simp) ?_; (case hd => rfl); (case hg => rfl); (case hr => first | (go_simp; done) | (go_simp; rfl)); (case hp => exact (Reps.c2 (show Kd.M k78 _ _ _ (⟨0, 604800⟩ : S78) [.int .i64 0, .int .i64 604800] from (k78_mkM _ _ _ (⟨0, 604800⟩ : S78) )) (Reps.none _ _))); intro v237 w2 ho3 hb hg_ hnew_; clear hg_ hnew_; (first | rw [← Ny236.out] at ho3 | (simp only [Int.reduceToNat] at ho3; rw [← Ny236.out] at ho3)); have n0_ := Aside0.mk (Kd.R_lower ho3 (below_size (by repeat (first | (with_reducible first | exact HB.out | apply below_alloc | apply pw_below_drewN | apply below_drew1 | refine below_set ?_ GE235.out) | exact HB.out)))); have n1_ := Aside0.mk (blk_below (g := gb235) (o := .cells #[.int .i64 0, .slice none 0 0, .slice none 0 0] 24 (0, 0)) (by (with_reducible repeat (first | refine blk_drewN ?_ _ | refine blk_drew ?_ | refine blk_alloc ?_ _)); exact BK235.out) hb); have n2_ := Aside0.mk (below_step (by repeat (first | (with_reducible first | exact HB.out | apply below_alloc | apply pw_below_drewN | apply below_drew1 | refine below_set ?_ GE235.out) | exact HB.out)) hb); clear BK235; clear HB; have HO238 := n0_; have BK235 := n1_; have HB := n2_; clear n0_ n1_ n2_; clear hb ho3; obtain ⟨Ao4, co4, eo4⟩ := Kd.R_slice HO238.out; subst eo4; have hcz5_0 : w2.cell? ⟨gb235, 0, none⟩ = some (.int .i64 0) := (blk_cell BK235.out 0).trans rfl; have hcz5_1 : w2.cell? ⟨gb235, 1, none⟩ = some (.slice none 0 0) := (blk_cell BK235.out 1).trans rfl; have hcz5_2 : w2.cell? ⟨gb235, 2, none⟩ = some (.slice none 0 0) := (blk_cell BK235.out 2).trans rfl; have hfz5_0 := blk_frozen BK235.out 0; have hfz5_1 := blk_frozen BK235.out 1; have hfz5_2 := blk_frozen BK235.out 2))
  refine bodyPost_ret (results_cell_row rfl _ _ gb235 24 #[.int .i64 0, .slice Ao4 y236.length co4, .slice none 0 0] (0, 0) _ rfl (by (with_reducible repeat (first | refine blk_drewN ?_ _ | refine blk_drew ?_ | refine blk_alloc ?_ _)); refine blk_put (cs := #[.int .i64 0, .slice Ao4 y236.length co4, .slice none 0 0]) ?_ 2 _ rfl; (with_reducible repeat (first | refine blk_drewN ?_ _ | refine blk_drew ?_ | refine blk_alloc ?_ _)); refine blk_put (cs := #[.int .i64 0, .slice none 0 0, .slice none 0 0]) ?_ 1 _ rfl; (with_reducible repeat (first | refine blk_drewN ?_ _ | refine blk_drew ?_ | refine blk_alloc ?_ _)); refine blk_put (cs := #[.int .i64 0, .slice none 0 0, .slice none 0 0]) ?_ 0 _ rfl; (with_reducible repeat (first | refine blk_drewN ?_ _ | refine blk_drew ?_ | refine blk_alloc ?_ _)); exact BK235.out) Try.underlying24 rfl (by kernel_rfl)) rfl ?_
  exact ⟨_, _, by first | rfl | (simp [errW_none, errW_some] <;> rfl) | (simp [*, errW_none, errW_some] <;> rfl), by (with_reducible repeat (first | apply Kd.R_alloc | apply Kd.R_drewN | apply Kd.R_drew)); exact Kd.R_mono (Kd.R_far (p := ⟨gb235, 2, none⟩) (Kd.R_far (p := ⟨gb235, 1, none⟩) (Kd.R_far (p := ⟨gb235, 0, none⟩) (Kd.R_types HO238.out BK235.out (by decide)) (fun _ hk => hk.2) (.int .i64 0)) (fun _ hk => hk.2) (.slice Ao4 y236.length co4)) (fun _ hk => hk.2) (.slice none 0 0)) (fun _ hk => (by simp [Value.ownBlock])), by first | exact Kd.R_nil _ _ _ _ _ | exact Kd.N_nil _ _ _ _ _ | exact Kd.V_nil _ _ _ _ _ | exact Kd.Q_nil _ _ _ _ _ | exact Kd.S_nil _ _ _ _ _, by repeat (first | (with_reducible first | exact HB.out | apply below_alloc | apply pw_below_drewN | apply below_drew1 | refine below_set ?_ GE235.out) | exact HB.out)⟩
end Go.Proofs.Ytepkbadgpoploaa.Base
namespace Go.Proofs.Ytepkbadgpoploaa.Own
open Go.RowKit Go.Proofs Go.Proofs.YtepkbadgpoploaaW.PrintWords Go.Proofs.YtepkbadgpoploaaW.PrintLast Go.Proofs.YtepkbadgpoploaaW.PrintMore Go.Proofs.Ytepkbadgpoploaa.Base
variable {w w' : World} {n kb ab pb cb : Nat} {off : Int} {week closed : List S78}
theorem dueP_zero {a B : Int} (h : (dueP off week closed a B).2 ≠ 0) : (dueP off week closed a B).1 = 0 := by
  unfold dueP at h ⊢
  split
  · rfl
  · rename_i h1
    rw [if_neg h1] at h
    split
    · rename_i h2; rw [if_pos h2] at h; exact absurd rfl h
    · rename_i h2
      rw [if_neg h2] at h
      split
      · rfl
      · rename_i h3
        rw [if_neg h3] at h
        cases hd : dueL off week B (freeL closed a 1125899906842624) with
        | none => rfl
        | some d => rw [hd] at h; exact absurd rfl h
def firstP (off : Int) (week closed : List S78) (cal : Int) (ls : List S75) (re ba now : Int) : Int × Int × Int × Int × Int :=
  if goodP cal ls re ba = true then atS off week closed 0 (rd_T75 ls 0).f0 now else (0, 0, 0, 0, 2)
def nextP (off : Int) (week closed : List S78) (cal : Int) (ls : List S75) (re ba lv now : Int) : Int × Int × Int × Int × Int :=
  if goodP cal ls re ba = true ∧ 0 ≤ lv ∧ lv < (ls.length : Int) then if lv = (ls.length : Int) - 1 then (0, 0, 0, 0, 0) else atS off week closed (lv + 1) (rd_T75 ls (lv + 1)).f0 now else (0, 0, 0, 0, 2)
def moreP (off : Int) (week closed : List S78) (cal : Int) (ls : List S75) (re ba lv now : Int) : Bool :=
  decide ((nextP off week closed cal ls re ba lv now).2.2.2.2 = 0) && decide (lv ≠ (ls.length : Int) - 1)
def standP (off : Int) (week closed : List S78) (lv fr l du now : Int) : Int × Int × Int × Int × Int :=
  if du = 0 then (0, 0, 0, 0, 33) else if du ≤ now then (0, 0, 0, 0, 34) else if (restR off week closed fr l now).2 = 0 then (lv, now, (restR off week closed fr l now).1, 0, 0) else (0, 0, 0, 0, (restR off week closed fr l now).2)
def goP (off : Int) (week closed : List S78) (lv l du now : Int) : Int × Int × Int × Int × Int :=
  if du ≠ 0 then (0, 0, 0, 0, 33) else if l < 1 then (0, 0, 0, 0, 2) else atS off week closed lv l now
theorem rbegin_eq (h : CalOk off week closed) (lv l now : Int) : curfewref15_begin.f 200 off week closed lv l now = some (atS off week closed lv l now) := by
  unfold curfewref15_begin.f atS
  rw [rdue_eq h now l]
  simp only [Option.bind_some]
  split <;> rfl
theorem rfirst_eq (h : CalOk off week closed) (cal : Int) (ls : List S75) (re ba now : Int) : curfewref15_First.f 200 off week closed cal ls re ba now = some (firstP off week closed cal ls re ba now) := by
  unfold curfewref15_First.f firstP
  rw [good14_eq _ _ _ _ 200 (by omega)]
  simp only [Option.bind_some]
  by_cases h1 : goodP cal ls re ba = true
  · rw [if_pos h1, if_pos h1, if_pos (by have := (goodP_iff.1 h1).1; omega), rbegin_eq h]
    rfl
  · rw [if_neg h1, if_neg h1]
theorem rnext_eq (h : CalOk off week closed) (cal : Int) (ls : List S75) (re ba lv fr l du now : Int) :
    curfewref15_Next.f 201 off week closed cal ls re ba lv fr l du now = some ((nextP off week closed cal ls re ba lv now).1, (nextP off week closed cal ls re ba lv now).2.1, (nextP off week closed cal ls re ba lv now).2.2.1, (nextP off week closed cal ls re ba lv now).2.2.2.1, moreP off week closed cal ls re ba lv now, (nextP off week closed cal ls re ba lv now).2.2.2.2) := by
  unfold curfewref15_Next.f
  rw [good14_eq _ _ _ _ 201 (by omega)]
  simp only [Option.bind_some]
  by_cases h1 : goodP cal ls re ba = true ∧ 0 ≤ lv ∧ lv < (ls.length : Int)
  · have hg := (goodP_iff.1 h1.1).1
    rw [if_pos h1.1, if_neg (by omega), decide_eq_false (show ¬ lv ≥ (ls.length : Int) by omega)]
    simp only [curfewref15_Next.j0, Bool.false_eq_true, if_false]
    rw [wrap_id (x := (ls.length : Int) - 1) (by omega) (by omega), wrap_id (x := lv + 1) (by omega) (by omega), rbegin_eq h]
    by_cases h2 : lv = (ls.length : Int) - 1
    · have e : nextP off week closed cal ls re ba lv now = (0, 0, 0, 0, 0) := by unfold nextP; rw [if_pos h1, if_pos h2]
      unfold moreP
      rw [if_pos h2, e, decide_eq_false (p := lv ≠ _) (by simpa using h2), Bool.and_false]
    · have e : nextP off week closed cal ls re ba lv now = atS off week closed (lv + 1) (rd_T75 ls (lv + 1)).f0 now := by unfold nextP; rw [if_pos h1, if_neg h2]
      unfold moreP
      rw [if_neg h2, if_pos (by omega), if_pos (by omega), e, decide_eq_true (p := lv ≠ _) h2, Bool.and_true]
      rfl
  · have e : nextP off week closed cal ls re ba lv now = (0, 0, 0, 0, 2) := by unfold nextP; rw [if_neg h1]
    have em : moreP off week closed cal ls re ba lv now = false := by unfold moreP; rw [e]; rfl
    rw [em, e]
    by_cases h2 : goodP cal ls re ba = true
    · rw [if_pos h2]
      by_cases h3 : lv < 0
      · rw [if_pos h3]; rfl
      · rw [if_neg h3, decide_eq_true (show lv ≥ (ls.length : Int) from Int.not_lt.1 (fun hh => h1 ⟨h2, by omega, hh⟩))]; rfl
    · rw [if_neg h2]; rfl
end Go.Proofs.Ytepkbadgpoploaa.Own
namespace Go.Proofs.Ytepkbadgpoploaa.Own
open Go.RowKit Go.Proofs Go.Proofs.YtepkbadgpoploaaW.PrintWords Go.Proofs.YtepkbadgpoploaaW.PrintLast Go.Proofs.YtepkbadgpoploaaW.PrintMore Go.Proofs.Ytepkbadgpoploaa.Base
variable {w w' : World} {n kb ab pb cb : Nat} {off : Int} {week closed : List S78}
theorem stepat_any (lv fr l du now a b c d e : Int) (w : World) (h : ClkAt w n kb ab pb cb off week closed) (hn : n ≤ w.heap.size) (hl : l ≤ 9223372036854775807) (hd : atS off week closed lv l now = (a, b, c, d, e)) :
    Calls Try.prog 31 #[.agg #[.int .i64 lv, .int .i64 fr, .int .i64 l, .int .i64 du], .pointer (some ⟨kb, 0, none⟩), .int .i64 now] w fun r w' => r = .returned (.tuple #[.agg #[.int .i64 a, .int .i64 b, .int .i64 c, .int .i64 d], .int .i64 e]) ∧ ClkAt w' n kb ab pb cb off week closed ∧ Upd cb w w' := by
  unfold atS at hd
  by_cases h0 : (dueP off week closed now l).2 = 0
  · rw [if_pos h0] at hd
    cases hd
    exact at_ok lv fr l du now _ w h hn hl (Prod.ext rfl h0)
  · rw [if_neg h0] at hd
    cases hd
    exact at_no lv fr l du now _ w h hn hl (Prod.ext (dueP_zero h0) rfl) h0
theorem rest2 (hk : CalOk off week closed) (a u b : Int) (w : World) (h : ClkAt w n kb ab pb cb off week closed) (hn : n ≤ w.heap.size) (hu : u ≤ 9223372036854775807) :
    Calls Try.prog 29 #[.pointer (some ⟨kb, 0, none⟩), .int .i64 a, .int .i64 u, .int .i64 b] w fun e w' => e = .returned (.tuple #[.int .i64 (restR off week closed a u b).1, .int .i64 (restR off week closed a u b).2]) ∧ ClkAt w' n kb ab pb cb off week closed ∧ Upd cb w w' := by
  unfold restR
  by_cases hu0 : u < 0
  · rw [if_pos hu0]; exact (rest_neg a u b w h hu0).mono fun e w' ⟨he, hb⟩ => by subst hb; exact ⟨he, h, Upd.refl _ _⟩
  · rw [if_neg hu0]
    by_cases hx : 0 ≤ a ∧ a ≤ b ∧ b ≤ 1125899906842624
    · rw [if_pos hx]; exact rest_any a u b w h hn hx.1 hx.2.1 hx.2.2 (by omega) hu (elap_nonneg hk.week hk.closed hk.lo hk.hi hx.1 hx.2.1 hx.2.2)
    · rw [if_neg hx]; exact (rest_arg a u b w h (by omega) hx).mono fun e w' ⟨he, hb⟩ => ⟨he, h.below hb, Upd.of_below hb⟩
theorem put4 {w W : World} {b : Nat} {x0 x1 x2 x3 : Value} (E : W.heap[b]? = some (.cells #[x0, x1, x2, x3] 26 (0, 0))) (C : ClkAt W n kb ab pb cb off week closed) (U : Upd cb w W) (hge : w.heap.size ≤ b) (v0 v1 v2 v3 : Value) :
    ClkAt ((((W.setCell ⟨b, 0, none⟩ v0).setCell ⟨b, 1, none⟩ v1).setCell ⟨b, 2, none⟩ v2).setCell ⟨b, 3, none⟩ v3) n kb ab pb cb off week closed ∧ Upd cb w ((((W.setCell ⟨b, 0, none⟩ v0).setCell ⟨b, 1, none⟩ v1).setCell ⟨b, 2, none⟩ v2).setCell ⟨b, 3, none⟩ v3) ∧
      ((((W.setCell ⟨b, 0, none⟩ v0).setCell ⟨b, 1, none⟩ v1).setCell ⟨b, 2, none⟩ v2).setCell ⟨b, 3, none⟩ v3).heap[b]? = some (.cells #[v0, v1, v2, v3] 26 (0, 0)) := by
  have F : FarT 26 := ⟨by decide, by decide, by decide, by decide, by decide, by decide⟩
  have E2 := blk_put E 0 v0 rfl
  have S2 := step_set C U E F hge 0 v0
  have E3 := blk_put E2 1 v1 rfl
  have S3 := step_set S2.1 S2.2 E2 F hge 1 v1
  have E4 := blk_put E3 2 v2 rfl
  have S4 := step_set S3.1 S3.2 E3 F hge 2 v2
  have E5 := blk_put E4 3 v3 rfl
  have S5 := step_set S4.1 S4.2 E4 F hge 3 v3
  exact ⟨S5.1, S5.2, E5⟩
set_option maxHeartbeats 4000000 in
set_option maxRecDepth 100000 in
theorem stand_state (lv fr l du now : Int) (w : World) (h : ClkAt w n kb ab pb cb off week closed) (hn : n ≤ w.heap.size) (hx : du = 0) :
    Calls Try.prog 11 #[.pointer (some ⟨kb, 0, none⟩), .agg #[.int .i64 lv, .int .i64 fr, .int .i64 l, .int .i64 du], .int .i64 now] w fun r w' => r = .returned (.tuple #[.agg #[.int .i64 0, .int .i64 0, .int .i64 0, .int .i64 0], .int .i64 33]) ∧ ClkAt w' n kb ab pb cb off week closed ∧ Upd cb w w' := by
  have hcb := h.lt
  have hnot : ∀ (x : Bool) (w : World), (Op.unary .not (.bool x)).run Try.prog w = .ok (.bool (!x)) w := fun _ _ => rfl
  have hmf : ∀ (fn : Fn) (first cap : Array Value) (w : World), (Instr.makeFunc fn first cap).run Try.prog w = .ok (.func fn first cap) w := fun _ _ _ _ => rfl
  have C0 : Aside0 (((w.alloc (.cells #[.int .i64 lv, .int .i64 fr, .int .i64 l, .int .i64 du] 26)).alloc (.cells #[.int .i64 0, .int .i64 0, .int .i64 0, .int .i64 0] 26)).heap[w.heap.size]? = some (.cells #[.int .i64 lv, .int .i64 fr, .int .i64 l, .int .i64 du] 26 (0, 0))) := ⟨blk_alloc (blk_new w _) _⟩
  have C1 : Aside0 (((w.alloc (.cells #[.int .i64 lv, .int .i64 fr, .int .i64 l, .int .i64 du] 26)).alloc (.cells #[.int .i64 0, .int .i64 0, .int .i64 0, .int .i64 0] 26)).heap[w.heap.size + 1]? = some (.cells #[.int .i64 0, .int .i64 0, .int .i64 0, .int .i64 0] 26 (0, 0))) := ⟨by simpa using blk_new (w.alloc (.cells #[.int .i64 lv, .int .i64 fr, .int .i64 l, .int .i64 du] 26)) (.cells #[.int .i64 0, .int .i64 0, .int .i64 0, .int .i64 0] 26)⟩
  have HB := below_alloc (below_alloc (Below.refl w.heap.size w) (.cells #[.int .i64 lv, .int .i64 fr, .int .i64 l, .int .i64 du] 26)) (.cells #[.int .i64 0, .int .i64 0, .int .i64 0, .int .i64 0] 26)
  have HC := Aside0.mk (h.below HB)
  have HU := Aside0.mk (Upd.of_below (b := cb) HB)
  have HN := Aside0.mk (Nat.le_trans hn HB.size)
  clear h HB
  have hd : (du != 0) = false := by simp [hx]
  clear hx
  go_enter Try.func11, Try.ntmps11
  go_wp2_with fail
  generalize ((w.alloc (.cells #[.int .i64 lv, .int .i64 fr, .int .i64 l, .int .i64 du] 26)).alloc (.cells #[.int .i64 0, .int .i64 0, .int .i64 0, .int .i64 0] 26)) = w2 at C0 C1 HC HU HN ⊢
  have c0 : w2.cell? ⟨w.heap.size, 0, none⟩ = some (.int .i64 lv) := (blk_cell C0.out 0).trans rfl
  have c1 : w2.cell? ⟨w.heap.size, 1, none⟩ = some (.int .i64 fr) := (blk_cell C0.out 1).trans rfl
  have c2 : w2.cell? ⟨w.heap.size, 2, none⟩ = some (.int .i64 l) := (blk_cell C0.out 2).trans rfl
  have c3 : w2.cell? ⟨w.heap.size, 3, none⟩ = some (.int .i64 du) := (blk_cell C0.out 3).trans rfl
  have r0 : w2.cell? ⟨w.heap.size + 1, 0, none⟩ = some (.int .i64 0) := (blk_cell C1.out 0).trans rfl
  have r1 : w2.cell? ⟨w.heap.size + 1, 1, none⟩ = some (.int .i64 0) := (blk_cell C1.out 1).trans rfl
  have r2 : w2.cell? ⟨w.heap.size + 1, 2, none⟩ = some (.int .i64 0) := (blk_cell C1.out 2).trans rfl
  have r3 : w2.cell? ⟨w.heap.size + 1, 3, none⟩ = some (.int .i64 0) := (blk_cell C1.out 3).trans rfl
  have g0 : w2.frozen? ⟨w.heap.size + 1, 0, none⟩ = false := blk_frozen C1.out 0
  have g1 : w2.frozen? ⟨w.heap.size + 1, 1, none⟩ = false := blk_frozen C1.out 1
  have g2 : w2.frozen? ⟨w.heap.size + 1, 2, none⟩ = false := blk_frozen C1.out 2
  have g3 : w2.frozen? ⟨w.heap.size + 1, 3, none⟩ = false := blk_frozen C1.out 3
  go_wp2_with (go_at_call 28; refine (chain_Step_going.calls lv fr l du _ w2 rfl).mono ?_; rintro e w3 ⟨rfl, hb⟩; have HC3 := Aside0.mk (HC.out.below hb); have HU3 := Aside0.mk (HU.out.then hb); have HN3 := Aside0.mk (Nat.le_trans HN.out hb.size); have n0 := Aside0.mk (blk_below C0.out hb); have n1 := Aside0.mk (blk_below C1.out hb); clear hb C0 C1 c0 c1 c2 c3 r0 r1 r2 r3 g0 g1 g2 g3; have C0 := n0; have C1 := n1; clear n0 n1; have c0 : w3.cell? ⟨w.heap.size, 0, none⟩ = some (.int .i64 lv) := (blk_cell C0.out 0).trans rfl; have c1 : w3.cell? ⟨w.heap.size, 1, none⟩ = some (.int .i64 fr) := (blk_cell C0.out 1).trans rfl; have c2 : w3.cell? ⟨w.heap.size, 2, none⟩ = some (.int .i64 l) := (blk_cell C0.out 2).trans rfl; have c3 : w3.cell? ⟨w.heap.size, 3, none⟩ = some (.int .i64 du) := (blk_cell C0.out 3).trans rfl; have r0 : w3.cell? ⟨w.heap.size + 1, 0, none⟩ = some (.int .i64 0) := (blk_cell C1.out 0).trans rfl; have r1 : w3.cell? ⟨w.heap.size + 1, 1, none⟩ = some (.int .i64 0) := (blk_cell C1.out 1).trans rfl; have r2 : w3.cell? ⟨w.heap.size + 1, 2, none⟩ = some (.int .i64 0) := (blk_cell C1.out 2).trans rfl; have r3 : w3.cell? ⟨w.heap.size + 1, 3, none⟩ = some (.int .i64 0) := (blk_cell C1.out 3).trans rfl; have g0 : w3.frozen? ⟨w.heap.size + 1, 0, none⟩ = false := blk_frozen C1.out 0; have g1 : w3.frozen? ⟨w.heap.size + 1, 1, none⟩ = false := blk_frozen C1.out 1; have g2 : w3.frozen? ⟨w.heap.size + 1, 2, none⟩ = false := blk_frozen C1.out 2; have g3 : w3.frozen? ⟨w.heap.size + 1, 3, none⟩ = false := blk_frozen C1.out 3)
  obtain ⟨C9, U9, E9⟩ := put4 C1.out HC3.out HU3.out (by omega) (.int .i64 0) (.int .i64 0) (.int .i64 0) (.int .i64 0)
  have k0 := (blk_cell E9 0).trans (rfl : _ = some (Value.int .i64 0))
  have k1 := (blk_cell E9 1).trans (rfl : _ = some (Value.int .i64 0))
  have k2 := (blk_cell E9 2).trans (rfl : _ = some (Value.int .i64 0))
  have k3 := (blk_cell E9 3).trans (rfl : _ = some (Value.int .i64 0))
  refine bodyPost_ret (v := .tuple #[.agg #[.int .i64 0, .int .i64 0, .int .i64 0, .int .i64 0], .int .i64 33]) (by simp [results, Try.results11, go_sem, k0, k1, k2, k3]) rfl ⟨rfl, C9, U9⟩
set_option maxHeartbeats 4000000 in
set_option maxRecDepth 100000 in
theorem stand_old (lv fr l du now : Int) (w : World) (h : ClkAt w n kb ab pb cb off week closed) (hn : n ≤ w.heap.size) (hx : du ≠ 0) (hy : du ≤ now) :
    Calls Try.prog 11 #[.pointer (some ⟨kb, 0, none⟩), .agg #[.int .i64 lv, .int .i64 fr, .int .i64 l, .int .i64 du], .int .i64 now] w fun r w' => r = .returned (.tuple #[.agg #[.int .i64 0, .int .i64 0, .int .i64 0, .int .i64 0], .int .i64 34]) ∧ ClkAt w' n kb ab pb cb off week closed ∧ Upd cb w w' := by
  have hcb := h.lt
  have hnot : ∀ (x : Bool) (w : World), (Op.unary .not (.bool x)).run Try.prog w = .ok (.bool (!x)) w := fun _ _ => rfl
  have hmf : ∀ (fn : Fn) (first cap : Array Value) (w : World), (Instr.makeFunc fn first cap).run Try.prog w = .ok (.func fn first cap) w := fun _ _ _ _ => rfl
  have C0 : Aside0 (((w.alloc (.cells #[.int .i64 lv, .int .i64 fr, .int .i64 l, .int .i64 du] 26)).alloc (.cells #[.int .i64 0, .int .i64 0, .int .i64 0, .int .i64 0] 26)).heap[w.heap.size]? = some (.cells #[.int .i64 lv, .int .i64 fr, .int .i64 l, .int .i64 du] 26 (0, 0))) := ⟨blk_alloc (blk_new w _) _⟩
  have C1 : Aside0 (((w.alloc (.cells #[.int .i64 lv, .int .i64 fr, .int .i64 l, .int .i64 du] 26)).alloc (.cells #[.int .i64 0, .int .i64 0, .int .i64 0, .int .i64 0] 26)).heap[w.heap.size + 1]? = some (.cells #[.int .i64 0, .int .i64 0, .int .i64 0, .int .i64 0] 26 (0, 0))) := ⟨by simpa using blk_new (w.alloc (.cells #[.int .i64 lv, .int .i64 fr, .int .i64 l, .int .i64 du] 26)) (.cells #[.int .i64 0, .int .i64 0, .int .i64 0, .int .i64 0] 26)⟩
  have HB := below_alloc (below_alloc (Below.refl w.heap.size w) (.cells #[.int .i64 lv, .int .i64 fr, .int .i64 l, .int .i64 du] 26)) (.cells #[.int .i64 0, .int .i64 0, .int .i64 0, .int .i64 0] 26)
  have HC := Aside0.mk (h.below HB)
  have HU := Aside0.mk (Upd.of_below (b := cb) HB)
  have HN := Aside0.mk (Nat.le_trans hn HB.size)
  clear h HB
  have hd : (du != 0) = true := by simp [hx]
  clear hx
  go_enter Try.func11, Try.ntmps11
  go_wp2_with fail
  generalize ((w.alloc (.cells #[.int .i64 lv, .int .i64 fr, .int .i64 l, .int .i64 du] 26)).alloc (.cells #[.int .i64 0, .int .i64 0, .int .i64 0, .int .i64 0] 26)) = w2 at C0 C1 HC HU HN ⊢
  have c0 : w2.cell? ⟨w.heap.size, 0, none⟩ = some (.int .i64 lv) := (blk_cell C0.out 0).trans rfl
  have c1 : w2.cell? ⟨w.heap.size, 1, none⟩ = some (.int .i64 fr) := (blk_cell C0.out 1).trans rfl
  have c2 : w2.cell? ⟨w.heap.size, 2, none⟩ = some (.int .i64 l) := (blk_cell C0.out 2).trans rfl
  have c3 : w2.cell? ⟨w.heap.size, 3, none⟩ = some (.int .i64 du) := (blk_cell C0.out 3).trans rfl
  have r0 : w2.cell? ⟨w.heap.size + 1, 0, none⟩ = some (.int .i64 0) := (blk_cell C1.out 0).trans rfl
  have r1 : w2.cell? ⟨w.heap.size + 1, 1, none⟩ = some (.int .i64 0) := (blk_cell C1.out 1).trans rfl
  have r2 : w2.cell? ⟨w.heap.size + 1, 2, none⟩ = some (.int .i64 0) := (blk_cell C1.out 2).trans rfl
  have r3 : w2.cell? ⟨w.heap.size + 1, 3, none⟩ = some (.int .i64 0) := (blk_cell C1.out 3).trans rfl
  have g0 : w2.frozen? ⟨w.heap.size + 1, 0, none⟩ = false := blk_frozen C1.out 0
  have g1 : w2.frozen? ⟨w.heap.size + 1, 1, none⟩ = false := blk_frozen C1.out 1
  have g2 : w2.frozen? ⟨w.heap.size + 1, 2, none⟩ = false := blk_frozen C1.out 2
  have g3 : w2.frozen? ⟨w.heap.size + 1, 3, none⟩ = false := blk_frozen C1.out 3
  go_wp2_with (go_at_call 28; refine (chain_Step_going.calls lv fr l du _ w2 rfl).mono ?_; rintro e w3 ⟨rfl, hb⟩; have HC3 := Aside0.mk (HC.out.below hb); have HU3 := Aside0.mk (HU.out.then hb); have HN3 := Aside0.mk (Nat.le_trans HN.out hb.size); have n0 := Aside0.mk (blk_below C0.out hb); have n1 := Aside0.mk (blk_below C1.out hb); clear hb C0 C1 c0 c1 c2 c3 r0 r1 r2 r3 g0 g1 g2 g3; have C0 := n0; have C1 := n1; clear n0 n1; have c0 : w3.cell? ⟨w.heap.size, 0, none⟩ = some (.int .i64 lv) := (blk_cell C0.out 0).trans rfl; have c1 : w3.cell? ⟨w.heap.size, 1, none⟩ = some (.int .i64 fr) := (blk_cell C0.out 1).trans rfl; have c2 : w3.cell? ⟨w.heap.size, 2, none⟩ = some (.int .i64 l) := (blk_cell C0.out 2).trans rfl; have c3 : w3.cell? ⟨w.heap.size, 3, none⟩ = some (.int .i64 du) := (blk_cell C0.out 3).trans rfl; have r0 : w3.cell? ⟨w.heap.size + 1, 0, none⟩ = some (.int .i64 0) := (blk_cell C1.out 0).trans rfl; have r1 : w3.cell? ⟨w.heap.size + 1, 1, none⟩ = some (.int .i64 0) := (blk_cell C1.out 1).trans rfl; have r2 : w3.cell? ⟨w.heap.size + 1, 2, none⟩ = some (.int .i64 0) := (blk_cell C1.out 2).trans rfl; have r3 : w3.cell? ⟨w.heap.size + 1, 3, none⟩ = some (.int .i64 0) := (blk_cell C1.out 3).trans rfl; have g0 : w3.frozen? ⟨w.heap.size + 1, 0, none⟩ = false := blk_frozen C1.out 0; have g1 : w3.frozen? ⟨w.heap.size + 1, 1, none⟩ = false := blk_frozen C1.out 1; have g2 : w3.frozen? ⟨w.heap.size + 1, 2, none⟩ = false := blk_frozen C1.out 2; have g3 : w3.frozen? ⟨w.heap.size + 1, 3, none⟩ = false := blk_frozen C1.out 3)
  obtain ⟨C9, U9, E9⟩ := put4 C1.out HC3.out HU3.out (by omega) (.int .i64 0) (.int .i64 0) (.int .i64 0) (.int .i64 0)
  have k0 := (blk_cell E9 0).trans (rfl : _ = some (Value.int .i64 0))
  have k1 := (blk_cell E9 1).trans (rfl : _ = some (Value.int .i64 0))
  have k2 := (blk_cell E9 2).trans (rfl : _ = some (Value.int .i64 0))
  have k3 := (blk_cell E9 3).trans (rfl : _ = some (Value.int .i64 0))
  refine bodyPost_ret (v := .tuple #[.agg #[.int .i64 0, .int .i64 0, .int .i64 0, .int .i64 0], .int .i64 34]) (by simp [results, Try.results11, go_sem, k0, k1, k2, k3]) rfl ⟨rfl, C9, U9⟩
set_option maxHeartbeats 4000000 in
set_option maxRecDepth 100000 in
theorem stand_no (lv fr l du now : Int) (w : World) (h : ClkAt w n kb ab pb cb off week closed) (hn : n ≤ w.heap.size) (hk : CalOk off week closed) (hl : l ≤ 9223372036854775807) (hx : du ≠ 0) (hy : ¬ du ≤ now) (x e : Int) (hr : restR off week closed fr l now = (x, e)) (he : e ≠ 0) :
    Calls Try.prog 11 #[.pointer (some ⟨kb, 0, none⟩), .agg #[.int .i64 lv, .int .i64 fr, .int .i64 l, .int .i64 du], .int .i64 now] w fun r w' => r = .returned (.tuple #[.agg #[.int .i64 0, .int .i64 0, .int .i64 0, .int .i64 0], .int .i64 e]) ∧ ClkAt w' n kb ab pb cb off week closed ∧ Upd cb w w' := by
  have hcb := h.lt
  have hnot : ∀ (x : Bool) (w : World), (Op.unary .not (.bool x)).run Try.prog w = .ok (.bool (!x)) w := fun _ _ => rfl
  have hmf : ∀ (fn : Fn) (first cap : Array Value) (w : World), (Instr.makeFunc fn first cap).run Try.prog w = .ok (.func fn first cap) w := fun _ _ _ _ => rfl
  have C0 : Aside0 (((w.alloc (.cells #[.int .i64 lv, .int .i64 fr, .int .i64 l, .int .i64 du] 26)).alloc (.cells #[.int .i64 0, .int .i64 0, .int .i64 0, .int .i64 0] 26)).heap[w.heap.size]? = some (.cells #[.int .i64 lv, .int .i64 fr, .int .i64 l, .int .i64 du] 26 (0, 0))) := ⟨blk_alloc (blk_new w _) _⟩
  have C1 : Aside0 (((w.alloc (.cells #[.int .i64 lv, .int .i64 fr, .int .i64 l, .int .i64 du] 26)).alloc (.cells #[.int .i64 0, .int .i64 0, .int .i64 0, .int .i64 0] 26)).heap[w.heap.size + 1]? = some (.cells #[.int .i64 0, .int .i64 0, .int .i64 0, .int .i64 0] 26 (0, 0))) := ⟨by simpa using blk_new (w.alloc (.cells #[.int .i64 lv, .int .i64 fr, .int .i64 l, .int .i64 du] 26)) (.cells #[.int .i64 0, .int .i64 0, .int .i64 0, .int .i64 0] 26)⟩
  have HB := below_alloc (below_alloc (Below.refl w.heap.size w) (.cells #[.int .i64 lv, .int .i64 fr, .int .i64 l, .int .i64 du] 26)) (.cells #[.int .i64 0, .int .i64 0, .int .i64 0, .int .i64 0] 26)
  have HC := Aside0.mk (h.below HB)
  have HU := Aside0.mk (Upd.of_below (b := cb) HB)
  have HN := Aside0.mk (Nat.le_trans hn HB.size)
  clear h HB
  have HK := Aside0.mk hk
  have HR := Aside0.mk hr
  have hd : (du != 0) = true := by simp [hx]
  have he2 : (e != 0) = true := bne_iff_ne.mpr he
  clear hx hr hk he
  go_enter Try.func11, Try.ntmps11
  go_wp2_with fail
  generalize ((w.alloc (.cells #[.int .i64 lv, .int .i64 fr, .int .i64 l, .int .i64 du] 26)).alloc (.cells #[.int .i64 0, .int .i64 0, .int .i64 0, .int .i64 0] 26)) = w2 at C0 C1 HC HU HN ⊢
  have c0 : w2.cell? ⟨w.heap.size, 0, none⟩ = some (.int .i64 lv) := (blk_cell C0.out 0).trans rfl
  have c1 : w2.cell? ⟨w.heap.size, 1, none⟩ = some (.int .i64 fr) := (blk_cell C0.out 1).trans rfl
  have c2 : w2.cell? ⟨w.heap.size, 2, none⟩ = some (.int .i64 l) := (blk_cell C0.out 2).trans rfl
  have c3 : w2.cell? ⟨w.heap.size, 3, none⟩ = some (.int .i64 du) := (blk_cell C0.out 3).trans rfl
  have r0 : w2.cell? ⟨w.heap.size + 1, 0, none⟩ = some (.int .i64 0) := (blk_cell C1.out 0).trans rfl
  have r1 : w2.cell? ⟨w.heap.size + 1, 1, none⟩ = some (.int .i64 0) := (blk_cell C1.out 1).trans rfl
  have r2 : w2.cell? ⟨w.heap.size + 1, 2, none⟩ = some (.int .i64 0) := (blk_cell C1.out 2).trans rfl
  have r3 : w2.cell? ⟨w.heap.size + 1, 3, none⟩ = some (.int .i64 0) := (blk_cell C1.out 3).trans rfl
  have g0 : w2.frozen? ⟨w.heap.size + 1, 0, none⟩ = false := blk_frozen C1.out 0
  have g1 : w2.frozen? ⟨w.heap.size + 1, 1, none⟩ = false := blk_frozen C1.out 1
  have g2 : w2.frozen? ⟨w.heap.size + 1, 2, none⟩ = false := blk_frozen C1.out 2
  have g3 : w2.frozen? ⟨w.heap.size + 1, 3, none⟩ = false := blk_frozen C1.out 3
  go_wp2_with (first | (go_at_call 28; refine (chain_Step_going.calls lv fr l du _ w2 rfl).mono ?_; rintro e w3 ⟨rfl, hb⟩; have HC3 := Aside0.mk (HC.out.below hb); have HU3 := Aside0.mk (HU.out.then hb); have HN3 := Aside0.mk (Nat.le_trans HN.out hb.size); have n0 := Aside0.mk (blk_below C0.out hb); have n1 := Aside0.mk (blk_below C1.out hb); clear hb C0 C1 c0 c1 c2 c3 r0 r1 r2 r3 g0 g1 g2 g3; have C0 := n0; have C1 := n1; clear n0 n1; have c0 : w3.cell? ⟨w.heap.size, 0, none⟩ = some (.int .i64 lv) := (blk_cell C0.out 0).trans rfl; have c1 : w3.cell? ⟨w.heap.size, 1, none⟩ = some (.int .i64 fr) := (blk_cell C0.out 1).trans rfl; have c2 : w3.cell? ⟨w.heap.size, 2, none⟩ = some (.int .i64 l) := (blk_cell C0.out 2).trans rfl; have c3 : w3.cell? ⟨w.heap.size, 3, none⟩ = some (.int .i64 du) := (blk_cell C0.out 3).trans rfl; have r0 : w3.cell? ⟨w.heap.size + 1, 0, none⟩ = some (.int .i64 0) := (blk_cell C1.out 0).trans rfl; have r1 : w3.cell? ⟨w.heap.size + 1, 1, none⟩ = some (.int .i64 0) := (blk_cell C1.out 1).trans rfl; have r2 : w3.cell? ⟨w.heap.size + 1, 2, none⟩ = some (.int .i64 0) := (blk_cell C1.out 2).trans rfl; have r3 : w3.cell? ⟨w.heap.size + 1, 3, none⟩ = some (.int .i64 0) := (blk_cell C1.out 3).trans rfl; have g0 : w3.frozen? ⟨w.heap.size + 1, 0, none⟩ = false := blk_frozen C1.out 0; have g1 : w3.frozen? ⟨w.heap.size + 1, 1, none⟩ = false := blk_frozen C1.out 1; have g2 : w3.frozen? ⟨w.heap.size + 1, 2, none⟩ = false := blk_frozen C1.out 2; have g3 : w3.frozen? ⟨w.heap.size + 1, 3, none⟩ = false := blk_frozen C1.out 3) | (go_at_call 29; refine (rest2 HK.out fr l now w3 HC3.out HN3.out hl).mono ?_; rintro e w4 ⟨rfl, CK, UK⟩; rw [HR.out]; have n0 := Aside0.mk (UK.blk C0.out (by omega)); have n1 := Aside0.mk (UK.blk C1.out (by omega)); have HC4 := Aside0.mk CK; have HU4 := Aside0.mk (HU3.out.trans UK); clear CK UK C0 C1 c0 c1 c2 c3 r0 r1 r2 r3 g0 g1 g2 g3; have C0 := n0; have C1 := n1; clear n0 n1; have c0 : w4.cell? ⟨w.heap.size, 0, none⟩ = some (.int .i64 lv) := (blk_cell C0.out 0).trans rfl; have c1 : w4.cell? ⟨w.heap.size, 1, none⟩ = some (.int .i64 fr) := (blk_cell C0.out 1).trans rfl; have c2 : w4.cell? ⟨w.heap.size, 2, none⟩ = some (.int .i64 l) := (blk_cell C0.out 2).trans rfl; have c3 : w4.cell? ⟨w.heap.size, 3, none⟩ = some (.int .i64 du) := (blk_cell C0.out 3).trans rfl; have r0 : w4.cell? ⟨w.heap.size + 1, 0, none⟩ = some (.int .i64 0) := (blk_cell C1.out 0).trans rfl; have r1 : w4.cell? ⟨w.heap.size + 1, 1, none⟩ = some (.int .i64 0) := (blk_cell C1.out 1).trans rfl; have r2 : w4.cell? ⟨w.heap.size + 1, 2, none⟩ = some (.int .i64 0) := (blk_cell C1.out 2).trans rfl; have r3 : w4.cell? ⟨w.heap.size + 1, 3, none⟩ = some (.int .i64 0) := (blk_cell C1.out 3).trans rfl; have g0 : w4.frozen? ⟨w.heap.size + 1, 0, none⟩ = false := blk_frozen C1.out 0; have g1 : w4.frozen? ⟨w.heap.size + 1, 1, none⟩ = false := blk_frozen C1.out 1; have g2 : w4.frozen? ⟨w.heap.size + 1, 2, none⟩ = false := blk_frozen C1.out 2; have g3 : w4.frozen? ⟨w.heap.size + 1, 3, none⟩ = false := blk_frozen C1.out 3))
  obtain ⟨C9, U9, E9⟩ := put4 C1.out HC4.out HU4.out (by omega) (.int .i64 0) (.int .i64 0) (.int .i64 0) (.int .i64 0)
  have k0 := (blk_cell E9 0).trans (rfl : _ = some (Value.int .i64 0))
  have k1 := (blk_cell E9 1).trans (rfl : _ = some (Value.int .i64 0))
  have k2 := (blk_cell E9 2).trans (rfl : _ = some (Value.int .i64 0))
  have k3 := (blk_cell E9 3).trans (rfl : _ = some (Value.int .i64 0))
  refine bodyPost_ret (v := .tuple #[.agg #[.int .i64 0, .int .i64 0, .int .i64 0, .int .i64 0], .int .i64 e]) (by simp [results, Try.results11, go_sem, k0, k1, k2, k3]) rfl ⟨rfl, C9, U9⟩
set_option maxHeartbeats 4000000 in
set_option maxRecDepth 100000 in
theorem stand_ok (lv fr l du now : Int) (w : World) (h : ClkAt w n kb ab pb cb off week closed) (hn : n ≤ w.heap.size) (hk : CalOk off week closed) (hl : l ≤ 9223372036854775807) (hx : du ≠ 0) (hy : ¬ du ≤ now) (x : Int) (hr : restR off week closed fr l now = (x, 0)) :
    Calls Try.prog 11 #[.pointer (some ⟨kb, 0, none⟩), .agg #[.int .i64 lv, .int .i64 fr, .int .i64 l, .int .i64 du], .int .i64 now] w fun r w' => r = .returned (.tuple #[.agg #[.int .i64 lv, .int .i64 now, .int .i64 x, .int .i64 0], .int .i64 0]) ∧ ClkAt w' n kb ab pb cb off week closed ∧ Upd cb w w' := by
  have hcb := h.lt
  have hnot : ∀ (x : Bool) (w : World), (Op.unary .not (.bool x)).run Try.prog w = .ok (.bool (!x)) w := fun _ _ => rfl
  have hmf : ∀ (fn : Fn) (first cap : Array Value) (w : World), (Instr.makeFunc fn first cap).run Try.prog w = .ok (.func fn first cap) w := fun _ _ _ _ => rfl
  have C0 : Aside0 (((w.alloc (.cells #[.int .i64 lv, .int .i64 fr, .int .i64 l, .int .i64 du] 26)).alloc (.cells #[.int .i64 0, .int .i64 0, .int .i64 0, .int .i64 0] 26)).heap[w.heap.size]? = some (.cells #[.int .i64 lv, .int .i64 fr, .int .i64 l, .int .i64 du] 26 (0, 0))) := ⟨blk_alloc (blk_new w _) _⟩
  have C1 : Aside0 (((w.alloc (.cells #[.int .i64 lv, .int .i64 fr, .int .i64 l, .int .i64 du] 26)).alloc (.cells #[.int .i64 0, .int .i64 0, .int .i64 0, .int .i64 0] 26)).heap[w.heap.size + 1]? = some (.cells #[.int .i64 0, .int .i64 0, .int .i64 0, .int .i64 0] 26 (0, 0))) := ⟨by simpa using blk_new (w.alloc (.cells #[.int .i64 lv, .int .i64 fr, .int .i64 l, .int .i64 du] 26)) (.cells #[.int .i64 0, .int .i64 0, .int .i64 0, .int .i64 0] 26)⟩
  have HB := below_alloc (below_alloc (Below.refl w.heap.size w) (.cells #[.int .i64 lv, .int .i64 fr, .int .i64 l, .int .i64 du] 26)) (.cells #[.int .i64 0, .int .i64 0, .int .i64 0, .int .i64 0] 26)
  have HC := Aside0.mk (h.below HB)
  have HU := Aside0.mk (Upd.of_below (b := cb) HB)
  have HN := Aside0.mk (Nat.le_trans hn HB.size)
  clear h HB
  have HK := Aside0.mk hk
  have HR := Aside0.mk hr
  have hd : (du != 0) = true := by simp [hx]
  clear hx hr hk
  go_enter Try.func11, Try.ntmps11
  go_wp2_with fail
  generalize ((w.alloc (.cells #[.int .i64 lv, .int .i64 fr, .int .i64 l, .int .i64 du] 26)).alloc (.cells #[.int .i64 0, .int .i64 0, .int .i64 0, .int .i64 0] 26)) = w2 at C0 C1 HC HU HN ⊢
  have c0 : w2.cell? ⟨w.heap.size, 0, none⟩ = some (.int .i64 lv) := (blk_cell C0.out 0).trans rfl
  have c1 : w2.cell? ⟨w.heap.size, 1, none⟩ = some (.int .i64 fr) := (blk_cell C0.out 1).trans rfl
  have c2 : w2.cell? ⟨w.heap.size, 2, none⟩ = some (.int .i64 l) := (blk_cell C0.out 2).trans rfl
  have c3 : w2.cell? ⟨w.heap.size, 3, none⟩ = some (.int .i64 du) := (blk_cell C0.out 3).trans rfl
  have r0 : w2.cell? ⟨w.heap.size + 1, 0, none⟩ = some (.int .i64 0) := (blk_cell C1.out 0).trans rfl
  have r1 : w2.cell? ⟨w.heap.size + 1, 1, none⟩ = some (.int .i64 0) := (blk_cell C1.out 1).trans rfl
  have r2 : w2.cell? ⟨w.heap.size + 1, 2, none⟩ = some (.int .i64 0) := (blk_cell C1.out 2).trans rfl
  have r3 : w2.cell? ⟨w.heap.size + 1, 3, none⟩ = some (.int .i64 0) := (blk_cell C1.out 3).trans rfl
  have g0 : w2.frozen? ⟨w.heap.size + 1, 0, none⟩ = false := blk_frozen C1.out 0
  have g1 : w2.frozen? ⟨w.heap.size + 1, 1, none⟩ = false := blk_frozen C1.out 1
  have g2 : w2.frozen? ⟨w.heap.size + 1, 2, none⟩ = false := blk_frozen C1.out 2
  have g3 : w2.frozen? ⟨w.heap.size + 1, 3, none⟩ = false := blk_frozen C1.out 3
  go_wp2_with (first | (go_at_call 28; refine (chain_Step_going.calls lv fr l du _ w2 rfl).mono ?_; rintro e w3 ⟨rfl, hb⟩; have HC3 := Aside0.mk (HC.out.below hb); have HU3 := Aside0.mk (HU.out.then hb); have HN3 := Aside0.mk (Nat.le_trans HN.out hb.size); have n0 := Aside0.mk (blk_below C0.out hb); have n1 := Aside0.mk (blk_below C1.out hb); clear hb C0 C1 c0 c1 c2 c3 r0 r1 r2 r3 g0 g1 g2 g3; have C0 := n0; have C1 := n1; clear n0 n1; have c0 : w3.cell? ⟨w.heap.size, 0, none⟩ = some (.int .i64 lv) := (blk_cell C0.out 0).trans rfl; have c1 : w3.cell? ⟨w.heap.size, 1, none⟩ = some (.int .i64 fr) := (blk_cell C0.out 1).trans rfl; have c2 : w3.cell? ⟨w.heap.size, 2, none⟩ = some (.int .i64 l) := (blk_cell C0.out 2).trans rfl; have c3 : w3.cell? ⟨w.heap.size, 3, none⟩ = some (.int .i64 du) := (blk_cell C0.out 3).trans rfl; have r0 : w3.cell? ⟨w.heap.size + 1, 0, none⟩ = some (.int .i64 0) := (blk_cell C1.out 0).trans rfl; have r1 : w3.cell? ⟨w.heap.size + 1, 1, none⟩ = some (.int .i64 0) := (blk_cell C1.out 1).trans rfl; have r2 : w3.cell? ⟨w.heap.size + 1, 2, none⟩ = some (.int .i64 0) := (blk_cell C1.out 2).trans rfl; have r3 : w3.cell? ⟨w.heap.size + 1, 3, none⟩ = some (.int .i64 0) := (blk_cell C1.out 3).trans rfl; have g0 : w3.frozen? ⟨w.heap.size + 1, 0, none⟩ = false := blk_frozen C1.out 0; have g1 : w3.frozen? ⟨w.heap.size + 1, 1, none⟩ = false := blk_frozen C1.out 1; have g2 : w3.frozen? ⟨w.heap.size + 1, 2, none⟩ = false := blk_frozen C1.out 2; have g3 : w3.frozen? ⟨w.heap.size + 1, 3, none⟩ = false := blk_frozen C1.out 3) | (go_at_call 29; refine (rest2 HK.out fr l now w3 HC3.out HN3.out hl).mono ?_; rintro e w4 ⟨rfl, CK, UK⟩; rw [HR.out]; have n0 := Aside0.mk (UK.blk C0.out (by omega)); have n1 := Aside0.mk (UK.blk C1.out (by omega)); have HC4 := Aside0.mk CK; have HU4 := Aside0.mk (HU3.out.trans UK); clear CK UK C0 C1 c0 c1 c2 c3 r0 r1 r2 r3 g0 g1 g2 g3; have C0 := n0; have C1 := n1; clear n0 n1; have c0 : w4.cell? ⟨w.heap.size, 0, none⟩ = some (.int .i64 lv) := (blk_cell C0.out 0).trans rfl; have c1 : w4.cell? ⟨w.heap.size, 1, none⟩ = some (.int .i64 fr) := (blk_cell C0.out 1).trans rfl; have c2 : w4.cell? ⟨w.heap.size, 2, none⟩ = some (.int .i64 l) := (blk_cell C0.out 2).trans rfl; have c3 : w4.cell? ⟨w.heap.size, 3, none⟩ = some (.int .i64 du) := (blk_cell C0.out 3).trans rfl; have r0 : w4.cell? ⟨w.heap.size + 1, 0, none⟩ = some (.int .i64 0) := (blk_cell C1.out 0).trans rfl; have r1 : w4.cell? ⟨w.heap.size + 1, 1, none⟩ = some (.int .i64 0) := (blk_cell C1.out 1).trans rfl; have r2 : w4.cell? ⟨w.heap.size + 1, 2, none⟩ = some (.int .i64 0) := (blk_cell C1.out 2).trans rfl; have r3 : w4.cell? ⟨w.heap.size + 1, 3, none⟩ = some (.int .i64 0) := (blk_cell C1.out 3).trans rfl; have g0 : w4.frozen? ⟨w.heap.size + 1, 0, none⟩ = false := blk_frozen C1.out 0; have g1 : w4.frozen? ⟨w.heap.size + 1, 1, none⟩ = false := blk_frozen C1.out 1; have g2 : w4.frozen? ⟨w.heap.size + 1, 2, none⟩ = false := blk_frozen C1.out 2; have g3 : w4.frozen? ⟨w.heap.size + 1, 3, none⟩ = false := blk_frozen C1.out 3))
  obtain ⟨C9, U9, E9⟩ := put4 C1.out HC4.out HU4.out (by omega) (.int .i64 lv) (.int .i64 now) (.int .i64 x) (.int .i64 0)
  have k0 := (blk_cell E9 0).trans (rfl : _ = some (Value.int .i64 lv))
  have k1 := (blk_cell E9 1).trans (rfl : _ = some (Value.int .i64 now))
  have k2 := (blk_cell E9 2).trans (rfl : _ = some (Value.int .i64 x))
  have k3 := (blk_cell E9 3).trans (rfl : _ = some (Value.int .i64 0))
  refine bodyPost_ret (v := .tuple #[.agg #[.int .i64 lv, .int .i64 now, .int .i64 x, .int .i64 0], .int .i64 0]) (by simp [results, Try.results11, go_sem, k0, k1, k2, k3]) rfl ⟨rfl, C9, U9⟩
set_option maxHeartbeats 4000000 in
set_option maxRecDepth 100000 in
theorem go_state (lv fr l du now : Int) (w : World) (h : ClkAt w n kb ab pb cb off week closed) (hn : n ≤ w.heap.size) (hx : du ≠ 0) :
    Calls Try.prog 13 #[.pointer (some ⟨kb, 0, none⟩), .agg #[.int .i64 lv, .int .i64 fr, .int .i64 l, .int .i64 du], .int .i64 now] w fun r w' => r = .returned (.tuple #[.agg #[.int .i64 0, .int .i64 0, .int .i64 0, .int .i64 0], .int .i64 33]) ∧ ClkAt w' n kb ab pb cb off week closed ∧ Upd cb w w' := by
  have hcb := h.lt
  have hnot : ∀ (x : Bool) (w : World), (Op.unary .not (.bool x)).run Try.prog w = .ok (.bool (!x)) w := fun _ _ => rfl
  have hmf : ∀ (fn : Fn) (first cap : Array Value) (w : World), (Instr.makeFunc fn first cap).run Try.prog w = .ok (.func fn first cap) w := fun _ _ _ _ => rfl
  have C0 : Aside0 (((w.alloc (.cells #[.int .i64 lv, .int .i64 fr, .int .i64 l, .int .i64 du] 26)).alloc (.cells #[.int .i64 0, .int .i64 0, .int .i64 0, .int .i64 0] 26)).heap[w.heap.size]? = some (.cells #[.int .i64 lv, .int .i64 fr, .int .i64 l, .int .i64 du] 26 (0, 0))) := ⟨blk_alloc (blk_new w _) _⟩
  have C1 : Aside0 (((w.alloc (.cells #[.int .i64 lv, .int .i64 fr, .int .i64 l, .int .i64 du] 26)).alloc (.cells #[.int .i64 0, .int .i64 0, .int .i64 0, .int .i64 0] 26)).heap[w.heap.size + 1]? = some (.cells #[.int .i64 0, .int .i64 0, .int .i64 0, .int .i64 0] 26 (0, 0))) := ⟨by simpa using blk_new (w.alloc (.cells #[.int .i64 lv, .int .i64 fr, .int .i64 l, .int .i64 du] 26)) (.cells #[.int .i64 0, .int .i64 0, .int .i64 0, .int .i64 0] 26)⟩
  have HB := below_alloc (below_alloc (Below.refl w.heap.size w) (.cells #[.int .i64 lv, .int .i64 fr, .int .i64 l, .int .i64 du] 26)) (.cells #[.int .i64 0, .int .i64 0, .int .i64 0, .int .i64 0] 26)
  have HC := Aside0.mk (h.below HB)
  have HU := Aside0.mk (Upd.of_below (b := cb) HB)
  have HN := Aside0.mk (Nat.le_trans hn HB.size)
  clear h HB
  have hd : (du != 0) = true := by simp [hx]
  clear hx
  go_enter Try.func13, Try.ntmps13
  go_wp2_with fail
  generalize ((w.alloc (.cells #[.int .i64 lv, .int .i64 fr, .int .i64 l, .int .i64 du] 26)).alloc (.cells #[.int .i64 0, .int .i64 0, .int .i64 0, .int .i64 0] 26)) = w2 at C0 C1 HC HU HN ⊢
  have c0 : w2.cell? ⟨w.heap.size, 0, none⟩ = some (.int .i64 lv) := (blk_cell C0.out 0).trans rfl
  have c1 : w2.cell? ⟨w.heap.size, 1, none⟩ = some (.int .i64 fr) := (blk_cell C0.out 1).trans rfl
  have c2 : w2.cell? ⟨w.heap.size, 2, none⟩ = some (.int .i64 l) := (blk_cell C0.out 2).trans rfl
  have c3 : w2.cell? ⟨w.heap.size, 3, none⟩ = some (.int .i64 du) := (blk_cell C0.out 3).trans rfl
  have r0 : w2.cell? ⟨w.heap.size + 1, 0, none⟩ = some (.int .i64 0) := (blk_cell C1.out 0).trans rfl
  have r1 : w2.cell? ⟨w.heap.size + 1, 1, none⟩ = some (.int .i64 0) := (blk_cell C1.out 1).trans rfl
  have r2 : w2.cell? ⟨w.heap.size + 1, 2, none⟩ = some (.int .i64 0) := (blk_cell C1.out 2).trans rfl
  have r3 : w2.cell? ⟨w.heap.size + 1, 3, none⟩ = some (.int .i64 0) := (blk_cell C1.out 3).trans rfl
  have g0 : w2.frozen? ⟨w.heap.size + 1, 0, none⟩ = false := blk_frozen C1.out 0
  have g1 : w2.frozen? ⟨w.heap.size + 1, 1, none⟩ = false := blk_frozen C1.out 1
  have g2 : w2.frozen? ⟨w.heap.size + 1, 2, none⟩ = false := blk_frozen C1.out 2
  have g3 : w2.frozen? ⟨w.heap.size + 1, 3, none⟩ = false := blk_frozen C1.out 3
  go_wp2_with (go_at_call 28; refine (chain_Step_going.calls lv fr l du _ w2 rfl).mono ?_; rintro e w3 ⟨rfl, hb⟩; have HC3 := Aside0.mk (HC.out.below hb); have HU3 := Aside0.mk (HU.out.then hb); have HN3 := Aside0.mk (Nat.le_trans HN.out hb.size); have n0 := Aside0.mk (blk_below C0.out hb); have n1 := Aside0.mk (blk_below C1.out hb); clear hb C0 C1 c0 c1 c2 c3 r0 r1 r2 r3 g0 g1 g2 g3; have C0 := n0; have C1 := n1; clear n0 n1; have c0 : w3.cell? ⟨w.heap.size, 0, none⟩ = some (.int .i64 lv) := (blk_cell C0.out 0).trans rfl; have c1 : w3.cell? ⟨w.heap.size, 1, none⟩ = some (.int .i64 fr) := (blk_cell C0.out 1).trans rfl; have c2 : w3.cell? ⟨w.heap.size, 2, none⟩ = some (.int .i64 l) := (blk_cell C0.out 2).trans rfl; have c3 : w3.cell? ⟨w.heap.size, 3, none⟩ = some (.int .i64 du) := (blk_cell C0.out 3).trans rfl; have r0 : w3.cell? ⟨w.heap.size + 1, 0, none⟩ = some (.int .i64 0) := (blk_cell C1.out 0).trans rfl; have r1 : w3.cell? ⟨w.heap.size + 1, 1, none⟩ = some (.int .i64 0) := (blk_cell C1.out 1).trans rfl; have r2 : w3.cell? ⟨w.heap.size + 1, 2, none⟩ = some (.int .i64 0) := (blk_cell C1.out 2).trans rfl; have r3 : w3.cell? ⟨w.heap.size + 1, 3, none⟩ = some (.int .i64 0) := (blk_cell C1.out 3).trans rfl; have g0 : w3.frozen? ⟨w.heap.size + 1, 0, none⟩ = false := blk_frozen C1.out 0; have g1 : w3.frozen? ⟨w.heap.size + 1, 1, none⟩ = false := blk_frozen C1.out 1; have g2 : w3.frozen? ⟨w.heap.size + 1, 2, none⟩ = false := blk_frozen C1.out 2; have g3 : w3.frozen? ⟨w.heap.size + 1, 3, none⟩ = false := blk_frozen C1.out 3)
  obtain ⟨C9, U9, E9⟩ := put4 C1.out HC3.out HU3.out (by omega) (.int .i64 0) (.int .i64 0) (.int .i64 0) (.int .i64 0)
  have k0 := (blk_cell E9 0).trans (rfl : _ = some (Value.int .i64 0))
  have k1 := (blk_cell E9 1).trans (rfl : _ = some (Value.int .i64 0))
  have k2 := (blk_cell E9 2).trans (rfl : _ = some (Value.int .i64 0))
  have k3 := (blk_cell E9 3).trans (rfl : _ = some (Value.int .i64 0))
  refine bodyPost_ret (v := .tuple #[.agg #[.int .i64 0, .int .i64 0, .int .i64 0, .int .i64 0], .int .i64 33]) (by simp [results, Try.results13, go_sem, k0, k1, k2, k3]) rfl ⟨rfl, C9, U9⟩
set_option maxHeartbeats 4000000 in
set_option maxRecDepth 100000 in
theorem go_arg (lv fr l du now : Int) (w : World) (h : ClkAt w n kb ab pb cb off week closed) (hn : n ≤ w.heap.size) (hx : du = 0) (hy : l < 1) :
    Calls Try.prog 13 #[.pointer (some ⟨kb, 0, none⟩), .agg #[.int .i64 lv, .int .i64 fr, .int .i64 l, .int .i64 du], .int .i64 now] w fun r w' => r = .returned (.tuple #[.agg #[.int .i64 0, .int .i64 0, .int .i64 0, .int .i64 0], .int .i64 2]) ∧ ClkAt w' n kb ab pb cb off week closed ∧ Upd cb w w' := by
  have hcb := h.lt
  have hnot : ∀ (x : Bool) (w : World), (Op.unary .not (.bool x)).run Try.prog w = .ok (.bool (!x)) w := fun _ _ => rfl
  have hmf : ∀ (fn : Fn) (first cap : Array Value) (w : World), (Instr.makeFunc fn first cap).run Try.prog w = .ok (.func fn first cap) w := fun _ _ _ _ => rfl
  have C0 : Aside0 (((w.alloc (.cells #[.int .i64 lv, .int .i64 fr, .int .i64 l, .int .i64 du] 26)).alloc (.cells #[.int .i64 0, .int .i64 0, .int .i64 0, .int .i64 0] 26)).heap[w.heap.size]? = some (.cells #[.int .i64 lv, .int .i64 fr, .int .i64 l, .int .i64 du] 26 (0, 0))) := ⟨blk_alloc (blk_new w _) _⟩
  have C1 : Aside0 (((w.alloc (.cells #[.int .i64 lv, .int .i64 fr, .int .i64 l, .int .i64 du] 26)).alloc (.cells #[.int .i64 0, .int .i64 0, .int .i64 0, .int .i64 0] 26)).heap[w.heap.size + 1]? = some (.cells #[.int .i64 0, .int .i64 0, .int .i64 0, .int .i64 0] 26 (0, 0))) := ⟨by simpa using blk_new (w.alloc (.cells #[.int .i64 lv, .int .i64 fr, .int .i64 l, .int .i64 du] 26)) (.cells #[.int .i64 0, .int .i64 0, .int .i64 0, .int .i64 0] 26)⟩
  have HB := below_alloc (below_alloc (Below.refl w.heap.size w) (.cells #[.int .i64 lv, .int .i64 fr, .int .i64 l, .int .i64 du] 26)) (.cells #[.int .i64 0, .int .i64 0, .int .i64 0, .int .i64 0] 26)
  have HC := Aside0.mk (h.below HB)
  have HU := Aside0.mk (Upd.of_below (b := cb) HB)
  have HN := Aside0.mk (Nat.le_trans hn HB.size)
  clear h HB
  have hd : (du != 0) = false := by simp [hx]
  clear hx
  go_enter Try.func13, Try.ntmps13
  go_wp2_with fail
  generalize ((w.alloc (.cells #[.int .i64 lv, .int .i64 fr, .int .i64 l, .int .i64 du] 26)).alloc (.cells #[.int .i64 0, .int .i64 0, .int .i64 0, .int .i64 0] 26)) = w2 at C0 C1 HC HU HN ⊢
  have c0 : w2.cell? ⟨w.heap.size, 0, none⟩ = some (.int .i64 lv) := (blk_cell C0.out 0).trans rfl
  have c1 : w2.cell? ⟨w.heap.size, 1, none⟩ = some (.int .i64 fr) := (blk_cell C0.out 1).trans rfl
  have c2 : w2.cell? ⟨w.heap.size, 2, none⟩ = some (.int .i64 l) := (blk_cell C0.out 2).trans rfl
  have c3 : w2.cell? ⟨w.heap.size, 3, none⟩ = some (.int .i64 du) := (blk_cell C0.out 3).trans rfl
  have r0 : w2.cell? ⟨w.heap.size + 1, 0, none⟩ = some (.int .i64 0) := (blk_cell C1.out 0).trans rfl
  have r1 : w2.cell? ⟨w.heap.size + 1, 1, none⟩ = some (.int .i64 0) := (blk_cell C1.out 1).trans rfl
  have r2 : w2.cell? ⟨w.heap.size + 1, 2, none⟩ = some (.int .i64 0) := (blk_cell C1.out 2).trans rfl
  have r3 : w2.cell? ⟨w.heap.size + 1, 3, none⟩ = some (.int .i64 0) := (blk_cell C1.out 3).trans rfl
  have g0 : w2.frozen? ⟨w.heap.size + 1, 0, none⟩ = false := blk_frozen C1.out 0
  have g1 : w2.frozen? ⟨w.heap.size + 1, 1, none⟩ = false := blk_frozen C1.out 1
  have g2 : w2.frozen? ⟨w.heap.size + 1, 2, none⟩ = false := blk_frozen C1.out 2
  have g3 : w2.frozen? ⟨w.heap.size + 1, 3, none⟩ = false := blk_frozen C1.out 3
  go_wp2_with (go_at_call 28; refine (chain_Step_going.calls lv fr l du _ w2 rfl).mono ?_; rintro e w3 ⟨rfl, hb⟩; have HC3 := Aside0.mk (HC.out.below hb); have HU3 := Aside0.mk (HU.out.then hb); have HN3 := Aside0.mk (Nat.le_trans HN.out hb.size); have n0 := Aside0.mk (blk_below C0.out hb); have n1 := Aside0.mk (blk_below C1.out hb); clear hb C0 C1 c0 c1 c2 c3 r0 r1 r2 r3 g0 g1 g2 g3; have C0 := n0; have C1 := n1; clear n0 n1; have c0 : w3.cell? ⟨w.heap.size, 0, none⟩ = some (.int .i64 lv) := (blk_cell C0.out 0).trans rfl; have c1 : w3.cell? ⟨w.heap.size, 1, none⟩ = some (.int .i64 fr) := (blk_cell C0.out 1).trans rfl; have c2 : w3.cell? ⟨w.heap.size, 2, none⟩ = some (.int .i64 l) := (blk_cell C0.out 2).trans rfl; have c3 : w3.cell? ⟨w.heap.size, 3, none⟩ = some (.int .i64 du) := (blk_cell C0.out 3).trans rfl; have r0 : w3.cell? ⟨w.heap.size + 1, 0, none⟩ = some (.int .i64 0) := (blk_cell C1.out 0).trans rfl; have r1 : w3.cell? ⟨w.heap.size + 1, 1, none⟩ = some (.int .i64 0) := (blk_cell C1.out 1).trans rfl; have r2 : w3.cell? ⟨w.heap.size + 1, 2, none⟩ = some (.int .i64 0) := (blk_cell C1.out 2).trans rfl; have r3 : w3.cell? ⟨w.heap.size + 1, 3, none⟩ = some (.int .i64 0) := (blk_cell C1.out 3).trans rfl; have g0 : w3.frozen? ⟨w.heap.size + 1, 0, none⟩ = false := blk_frozen C1.out 0; have g1 : w3.frozen? ⟨w.heap.size + 1, 1, none⟩ = false := blk_frozen C1.out 1; have g2 : w3.frozen? ⟨w.heap.size + 1, 2, none⟩ = false := blk_frozen C1.out 2; have g3 : w3.frozen? ⟨w.heap.size + 1, 3, none⟩ = false := blk_frozen C1.out 3)
  obtain ⟨C9, U9, E9⟩ := put4 C1.out HC3.out HU3.out (by omega) (.int .i64 0) (.int .i64 0) (.int .i64 0) (.int .i64 0)
  have k0 := (blk_cell E9 0).trans (rfl : _ = some (Value.int .i64 0))
  have k1 := (blk_cell E9 1).trans (rfl : _ = some (Value.int .i64 0))
  have k2 := (blk_cell E9 2).trans (rfl : _ = some (Value.int .i64 0))
  have k3 := (blk_cell E9 3).trans (rfl : _ = some (Value.int .i64 0))
  refine bodyPost_ret (v := .tuple #[.agg #[.int .i64 0, .int .i64 0, .int .i64 0, .int .i64 0], .int .i64 2]) (by simp [results, Try.results13, go_sem, k0, k1, k2, k3]) rfl ⟨rfl, C9, U9⟩
set_option maxHeartbeats 4000000 in
set_option maxRecDepth 100000 in
theorem go_ok (lv fr l du now : Int) (w : World) (h : ClkAt w n kb ab pb cb off week closed) (hn : n ≤ w.heap.size) (hl : l ≤ 9223372036854775807) (hx : du = 0) (hy : ¬ l < 1) (a b c d e : Int) (ha : atS off week closed lv l now = (a, b, c, d, e)) :
    Calls Try.prog 13 #[.pointer (some ⟨kb, 0, none⟩), .agg #[.int .i64 lv, .int .i64 fr, .int .i64 l, .int .i64 du], .int .i64 now] w fun r w' => r = .returned (.tuple #[.agg #[.int .i64 a, .int .i64 b, .int .i64 c, .int .i64 d], .int .i64 e]) ∧ ClkAt w' n kb ab pb cb off week closed ∧ Upd cb w w' := by
  have hcb := h.lt
  have hnot : ∀ (x : Bool) (w : World), (Op.unary .not (.bool x)).run Try.prog w = .ok (.bool (!x)) w := fun _ _ => rfl
  have hmf : ∀ (fn : Fn) (first cap : Array Value) (w : World), (Instr.makeFunc fn first cap).run Try.prog w = .ok (.func fn first cap) w := fun _ _ _ _ => rfl
  have C0 : Aside0 (((w.alloc (.cells #[.int .i64 lv, .int .i64 fr, .int .i64 l, .int .i64 du] 26)).alloc (.cells #[.int .i64 0, .int .i64 0, .int .i64 0, .int .i64 0] 26)).heap[w.heap.size]? = some (.cells #[.int .i64 lv, .int .i64 fr, .int .i64 l, .int .i64 du] 26 (0, 0))) := ⟨blk_alloc (blk_new w _) _⟩
  have C1 : Aside0 (((w.alloc (.cells #[.int .i64 lv, .int .i64 fr, .int .i64 l, .int .i64 du] 26)).alloc (.cells #[.int .i64 0, .int .i64 0, .int .i64 0, .int .i64 0] 26)).heap[w.heap.size + 1]? = some (.cells #[.int .i64 0, .int .i64 0, .int .i64 0, .int .i64 0] 26 (0, 0))) := ⟨by simpa using blk_new (w.alloc (.cells #[.int .i64 lv, .int .i64 fr, .int .i64 l, .int .i64 du] 26)) (.cells #[.int .i64 0, .int .i64 0, .int .i64 0, .int .i64 0] 26)⟩
  have HB := below_alloc (below_alloc (Below.refl w.heap.size w) (.cells #[.int .i64 lv, .int .i64 fr, .int .i64 l, .int .i64 du] 26)) (.cells #[.int .i64 0, .int .i64 0, .int .i64 0, .int .i64 0] 26)
  have HC := Aside0.mk (h.below HB)
  have HU := Aside0.mk (Upd.of_below (b := cb) HB)
  have HN := Aside0.mk (Nat.le_trans hn HB.size)
  clear h HB
  have HA := Aside0.mk ha
  have hd : (du != 0) = false := by simp [hx]
  clear hx ha
  go_enter Try.func13, Try.ntmps13
  go_wp2_with fail
  generalize ((w.alloc (.cells #[.int .i64 lv, .int .i64 fr, .int .i64 l, .int .i64 du] 26)).alloc (.cells #[.int .i64 0, .int .i64 0, .int .i64 0, .int .i64 0] 26)) = w2 at C0 C1 HC HU HN ⊢
  have c0 : w2.cell? ⟨w.heap.size, 0, none⟩ = some (.int .i64 lv) := (blk_cell C0.out 0).trans rfl
  have c1 : w2.cell? ⟨w.heap.size, 1, none⟩ = some (.int .i64 fr) := (blk_cell C0.out 1).trans rfl
  have c2 : w2.cell? ⟨w.heap.size, 2, none⟩ = some (.int .i64 l) := (blk_cell C0.out 2).trans rfl
  have c3 : w2.cell? ⟨w.heap.size, 3, none⟩ = some (.int .i64 du) := (blk_cell C0.out 3).trans rfl
  have r0 : w2.cell? ⟨w.heap.size + 1, 0, none⟩ = some (.int .i64 0) := (blk_cell C1.out 0).trans rfl
  have r1 : w2.cell? ⟨w.heap.size + 1, 1, none⟩ = some (.int .i64 0) := (blk_cell C1.out 1).trans rfl
  have r2 : w2.cell? ⟨w.heap.size + 1, 2, none⟩ = some (.int .i64 0) := (blk_cell C1.out 2).trans rfl
  have r3 : w2.cell? ⟨w.heap.size + 1, 3, none⟩ = some (.int .i64 0) := (blk_cell C1.out 3).trans rfl
  have g0 : w2.frozen? ⟨w.heap.size + 1, 0, none⟩ = false := blk_frozen C1.out 0
  have g1 : w2.frozen? ⟨w.heap.size + 1, 1, none⟩ = false := blk_frozen C1.out 1
  have g2 : w2.frozen? ⟨w.heap.size + 1, 2, none⟩ = false := blk_frozen C1.out 2
  have g3 : w2.frozen? ⟨w.heap.size + 1, 3, none⟩ = false := blk_frozen C1.out 3
  go_wp2_with (first | (go_at_call 28; refine (chain_Step_going.calls lv fr l du _ w2 rfl).mono ?_; rintro e w3 ⟨rfl, hb⟩; have HC3 := Aside0.mk (HC.out.below hb); have HU3 := Aside0.mk (HU.out.then hb); have HN3 := Aside0.mk (Nat.le_trans HN.out hb.size); have n0 := Aside0.mk (blk_below C0.out hb); have n1 := Aside0.mk (blk_below C1.out hb); clear hb C0 C1 c0 c1 c2 c3 r0 r1 r2 r3 g0 g1 g2 g3; have C0 := n0; have C1 := n1; clear n0 n1; have c0 : w3.cell? ⟨w.heap.size, 0, none⟩ = some (.int .i64 lv) := (blk_cell C0.out 0).trans rfl; have c1 : w3.cell? ⟨w.heap.size, 1, none⟩ = some (.int .i64 fr) := (blk_cell C0.out 1).trans rfl; have c2 : w3.cell? ⟨w.heap.size, 2, none⟩ = some (.int .i64 l) := (blk_cell C0.out 2).trans rfl; have c3 : w3.cell? ⟨w.heap.size, 3, none⟩ = some (.int .i64 du) := (blk_cell C0.out 3).trans rfl; have r0 : w3.cell? ⟨w.heap.size + 1, 0, none⟩ = some (.int .i64 0) := (blk_cell C1.out 0).trans rfl; have r1 : w3.cell? ⟨w.heap.size + 1, 1, none⟩ = some (.int .i64 0) := (blk_cell C1.out 1).trans rfl; have r2 : w3.cell? ⟨w.heap.size + 1, 2, none⟩ = some (.int .i64 0) := (blk_cell C1.out 2).trans rfl; have r3 : w3.cell? ⟨w.heap.size + 1, 3, none⟩ = some (.int .i64 0) := (blk_cell C1.out 3).trans rfl; have g0 : w3.frozen? ⟨w.heap.size + 1, 0, none⟩ = false := blk_frozen C1.out 0; have g1 : w3.frozen? ⟨w.heap.size + 1, 1, none⟩ = false := blk_frozen C1.out 1; have g2 : w3.frozen? ⟨w.heap.size + 1, 2, none⟩ = false := blk_frozen C1.out 2; have g3 : w3.frozen? ⟨w.heap.size + 1, 3, none⟩ = false := blk_frozen C1.out 3) | (go_at_call 31; refine (stepat_any lv fr l du now a b c d e w3 HC3.out HN3.out hl HA.out).mono ?_; rintro r w4 ⟨rfl, CK, UK⟩; have n0 := Aside0.mk (UK.blk C0.out (by omega)); have n1 := Aside0.mk (UK.blk C1.out (by omega)); have HC4 := Aside0.mk CK; have HU4 := Aside0.mk (HU3.out.trans UK); clear CK UK C0 C1 c0 c1 c2 c3 r0 r1 r2 r3 g0 g1 g2 g3; have C0 := n0; have C1 := n1; clear n0 n1; have c0 : w4.cell? ⟨w.heap.size, 0, none⟩ = some (.int .i64 lv) := (blk_cell C0.out 0).trans rfl; have c1 : w4.cell? ⟨w.heap.size, 1, none⟩ = some (.int .i64 fr) := (blk_cell C0.out 1).trans rfl; have c2 : w4.cell? ⟨w.heap.size, 2, none⟩ = some (.int .i64 l) := (blk_cell C0.out 2).trans rfl; have c3 : w4.cell? ⟨w.heap.size, 3, none⟩ = some (.int .i64 du) := (blk_cell C0.out 3).trans rfl; have r0 : w4.cell? ⟨w.heap.size + 1, 0, none⟩ = some (.int .i64 0) := (blk_cell C1.out 0).trans rfl; have r1 : w4.cell? ⟨w.heap.size + 1, 1, none⟩ = some (.int .i64 0) := (blk_cell C1.out 1).trans rfl; have r2 : w4.cell? ⟨w.heap.size + 1, 2, none⟩ = some (.int .i64 0) := (blk_cell C1.out 2).trans rfl; have r3 : w4.cell? ⟨w.heap.size + 1, 3, none⟩ = some (.int .i64 0) := (blk_cell C1.out 3).trans rfl; have g0 : w4.frozen? ⟨w.heap.size + 1, 0, none⟩ = false := blk_frozen C1.out 0; have g1 : w4.frozen? ⟨w.heap.size + 1, 1, none⟩ = false := blk_frozen C1.out 1; have g2 : w4.frozen? ⟨w.heap.size + 1, 2, none⟩ = false := blk_frozen C1.out 2; have g3 : w4.frozen? ⟨w.heap.size + 1, 3, none⟩ = false := blk_frozen C1.out 3))
  obtain ⟨C9, U9, E9⟩ := put4 C1.out HC4.out HU4.out (by omega) (.int .i64 a) (.int .i64 b) (.int .i64 c) (.int .i64 d)
  have k0 := (blk_cell E9 0).trans (rfl : _ = some (Value.int .i64 a))
  have k1 := (blk_cell E9 1).trans (rfl : _ = some (Value.int .i64 b))
  have k2 := (blk_cell E9 2).trans (rfl : _ = some (Value.int .i64 c))
  have k3 := (blk_cell E9 3).trans (rfl : _ = some (Value.int .i64 d))
  refine bodyPost_ret (v := .tuple #[.agg #[.int .i64 a, .int .i64 b, .int .i64 c, .int .i64 d], .int .i64 e]) (by simp [results, Try.results13, go_sem, k0, k1, k2, k3]) rfl ⟨rfl, C9, U9⟩
theorem stand_any (hk : CalOk off week closed) (lv fr l du now a b c d e : Int) (w : World) (h : ClkAt w n kb ab pb cb off week closed) (hn : n ≤ w.heap.size) (hl : l ≤ 9223372036854775807) (hd : standP off week closed lv fr l du now = (a, b, c, d, e)) :
    Calls Try.prog 11 #[.pointer (some ⟨kb, 0, none⟩), .agg #[.int .i64 lv, .int .i64 fr, .int .i64 l, .int .i64 du], .int .i64 now] w fun r w' => r = .returned (.tuple #[.agg #[.int .i64 a, .int .i64 b, .int .i64 c, .int .i64 d], .int .i64 e]) ∧ ClkAt w' n kb ab pb cb off week closed ∧ Upd cb w w' := by
  unfold standP at hd
  by_cases h1 : du = 0
  · rw [if_pos h1] at hd; cases hd; exact stand_state lv fr l du now w h hn h1
  · rw [if_neg h1] at hd
    by_cases h2 : du ≤ now
    · rw [if_pos h2] at hd; cases hd; exact stand_old lv fr l du now w h hn h1 h2
    · rw [if_neg h2] at hd
      by_cases h3 : (restR off week closed fr l now).2 = 0
      · rw [if_pos h3] at hd; cases hd; exact stand_ok lv fr l du now w h hn hk hl h1 h2 _ (Prod.ext rfl h3)
      · rw [if_neg h3] at hd; cases hd; exact stand_no lv fr l du now w h hn hk hl h1 h2 _ _ rfl h3
theorem go_any (lv fr l du now a b c d e : Int) (w : World) (h : ClkAt w n kb ab pb cb off week closed) (hn : n ≤ w.heap.size) (hl : l ≤ 9223372036854775807) (hd : goP off week closed lv l du now = (a, b, c, d, e)) :
    Calls Try.prog 13 #[.pointer (some ⟨kb, 0, none⟩), .agg #[.int .i64 lv, .int .i64 fr, .int .i64 l, .int .i64 du], .int .i64 now] w fun r w' => r = .returned (.tuple #[.agg #[.int .i64 a, .int .i64 b, .int .i64 c, .int .i64 d], .int .i64 e]) ∧ ClkAt w' n kb ab pb cb off week closed ∧ Upd cb w w' := by
  unfold goP at hd
  by_cases h1 : du = 0
  · rw [if_neg (show ¬ du ≠ 0 by simpa using h1)] at hd
    by_cases h2 : l < 1
    · rw [if_pos h2] at hd; cases hd; exact go_arg lv fr l du now w h hn h1 h2
    · rw [if_neg h2] at hd; exact go_ok lv fr l du now w h hn hl h1 h2 a b c d e hd
  · rw [if_pos h1] at hd; cases hd; exact go_state lv fr l du now w h hn h1
end Go.Proofs.Ytepkbadgpoploaa.Own
namespace Go.Proofs.Ytepkbadgpoploaa.Own
open Go.RowKit Go.Proofs Go.Proofs.YtepkbadgpoploaaW.PrintWords Go.Proofs.YtepkbadgpoploaaW.PrintLast Go.Proofs.YtepkbadgpoploaaW.PrintMore Go.Proofs.Ytepkbadgpoploaa.Base
variable {w w' : World} {n kb ab pb cb : Nat} {off : Int} {week closed : List S78} {A : Option Addr} {k : Nat} {ls : List S75}
set_option maxHeartbeats 4000000 in
set_option maxRecDepth 100000 in
theorem first_no (cal re ba now : Int) (w : World) (h : ClkAt w n kb ab pb cb off week closed) (hn : n ≤ w.heap.size) (h1 : Kd.C k75 w A ls.length ls ∧ ls.length ≤ k) (hg : goodP cal ls re ba = false) :
    Calls Try.prog 16 #[.pointer (some ⟨kb, 0, none⟩), .agg #[.int .i64 cal, .slice A ls.length k, .int .i64 re, .int .i64 ba], .int .i64 now] w fun r w' => r = .returned (.tuple #[.agg #[.int .i64 0, .int .i64 0, .int .i64 0, .int .i64 0], .int .i64 2]) ∧ ClkAt w' n kb ab pb cb off week closed ∧ Upd cb w w' := by
  have HG := Aside0.mk (show (if goodP cal ls re ba = true then (0 : Int) else 2) = 2 by rw [hg]; rfl)
  clear hg
  have hcb := h.lt
  have C0 : Aside0 (((w.alloc (.cells #[.int .i64 cal, .slice A ls.length k, .int .i64 re, .int .i64 ba] 30)).alloc (.cells #[.int .i64 0, .int .i64 0, .int .i64 0, .int .i64 0] 26)).heap[w.heap.size]? = some (.cells #[.int .i64 cal, .slice A ls.length k, .int .i64 re, .int .i64 ba] 30 (0, 0))) := ⟨blk_alloc (blk_new w _) _⟩
  have C1 : Aside0 (((w.alloc (.cells #[.int .i64 cal, .slice A ls.length k, .int .i64 re, .int .i64 ba] 30)).alloc (.cells #[.int .i64 0, .int .i64 0, .int .i64 0, .int .i64 0] 26)).heap[w.heap.size + 1]? = some (.cells #[.int .i64 0, .int .i64 0, .int .i64 0, .int .i64 0] 26 (0, 0))) := ⟨by simpa using blk_new (w.alloc (.cells #[.int .i64 cal, .slice A ls.length k, .int .i64 re, .int .i64 ba] 30)) (.cells #[.int .i64 0, .int .i64 0, .int .i64 0, .int .i64 0] 26)⟩
  have HB := below_alloc (below_alloc (Below.refl w.heap.size w) (.cells #[.int .i64 cal, .slice A ls.length k, .int .i64 re, .int .i64 ba] 30)) (.cells #[.int .i64 0, .int .i64 0, .int .i64 0, .int .i64 0] 26)
  have HC := Aside0.mk (h.below HB)
  have HU := Aside0.mk (Upd.of_below (b := cb) HB)
  have HN := Aside0.mk (Nat.le_trans hn HB.size)
  have HL : Aside0 (Kd.C k75 _ A ls.length ls ∧ ls.length ≤ k) := ⟨⟨Kd.C_below h1.1 HB, h1.2⟩⟩
  clear h HB h1
  go_enter Try.func16, Try.ntmps16
  go_wp2_with fail
  generalize ((w.alloc (.cells #[.int .i64 cal, .slice A ls.length k, .int .i64 re, .int .i64 ba] 30)).alloc (.cells #[.int .i64 0, .int .i64 0, .int .i64 0, .int .i64 0] 26)) = w2 at C0 C1 HC HU HN HL ⊢
  have c0 : w2.cell? ⟨w.heap.size, 0, none⟩ = some (.int .i64 cal) := (blk_cell C0.out 0).trans rfl
  have c1 : w2.cell? ⟨w.heap.size, 1, none⟩ = some (.slice A ls.length k) := (blk_cell C0.out 1).trans rfl
  have c2 : w2.cell? ⟨w.heap.size, 2, none⟩ = some (.int .i64 re) := (blk_cell C0.out 2).trans rfl
  have c3 : w2.cell? ⟨w.heap.size, 3, none⟩ = some (.int .i64 ba) := (blk_cell C0.out 3).trans rfl
  have r0 : w2.cell? ⟨w.heap.size + 1, 0, none⟩ = some (.int .i64 0) := (blk_cell C1.out 0).trans rfl
  have r1 : w2.cell? ⟨w.heap.size + 1, 1, none⟩ = some (.int .i64 0) := (blk_cell C1.out 1).trans rfl
  have r2 : w2.cell? ⟨w.heap.size + 1, 2, none⟩ = some (.int .i64 0) := (blk_cell C1.out 2).trans rfl
  have r3 : w2.cell? ⟨w.heap.size + 1, 3, none⟩ = some (.int .i64 0) := (blk_cell C1.out 3).trans rfl
  have g0 : w2.frozen? ⟨w.heap.size + 1, 0, none⟩ = false := blk_frozen C1.out 0
  have g1 : w2.frozen? ⟨w.heap.size + 1, 1, none⟩ = false := blk_frozen C1.out 1
  have g2 : w2.frozen? ⟨w.heap.size + 1, 2, none⟩ = false := blk_frozen C1.out 2
  have g3 : w2.frozen? ⟨w.heap.size + 1, 3, none⟩ = false := blk_frozen C1.out 3
  go_wp2_with (go_at_call 33; refine (check14_any w2 HL.out).mono ?_; rintro e w3 ⟨rfl, hb⟩; rw [HG.out]; have HC3 := Aside0.mk (HC.out.below hb); have HU3 := Aside0.mk (HU.out.then hb); have HN3 := Aside0.mk (Nat.le_trans HN.out hb.size); have HL3 : Aside0 (Kd.C k75 w3 A ls.length ls ∧ ls.length ≤ k) := ⟨⟨Kd.C_below HL.out.1 hb, HL.out.2⟩⟩; have n0 := Aside0.mk (blk_below C0.out hb); have n1 := Aside0.mk (blk_below C1.out hb); clear hb; clear C0 C1 c0 c1 c2 c3 r0 r1 r2 r3 g0 g1 g2 g3; have C0 := n0; have C1 := n1; clear n0 n1; have c0 : w3.cell? ⟨w.heap.size, 0, none⟩ = some (.int .i64 cal) := (blk_cell C0.out 0).trans rfl; have c1 : w3.cell? ⟨w.heap.size, 1, none⟩ = some (.slice A ls.length k) := (blk_cell C0.out 1).trans rfl; have c2 : w3.cell? ⟨w.heap.size, 2, none⟩ = some (.int .i64 re) := (blk_cell C0.out 2).trans rfl; have c3 : w3.cell? ⟨w.heap.size, 3, none⟩ = some (.int .i64 ba) := (blk_cell C0.out 3).trans rfl; have r0 : w3.cell? ⟨w.heap.size + 1, 0, none⟩ = some (.int .i64 0) := (blk_cell C1.out 0).trans rfl; have r1 : w3.cell? ⟨w.heap.size + 1, 1, none⟩ = some (.int .i64 0) := (blk_cell C1.out 1).trans rfl; have r2 : w3.cell? ⟨w.heap.size + 1, 2, none⟩ = some (.int .i64 0) := (blk_cell C1.out 2).trans rfl; have r3 : w3.cell? ⟨w.heap.size + 1, 3, none⟩ = some (.int .i64 0) := (blk_cell C1.out 3).trans rfl; have g0 : w3.frozen? ⟨w.heap.size + 1, 0, none⟩ = false := blk_frozen C1.out 0; have g1 : w3.frozen? ⟨w.heap.size + 1, 1, none⟩ = false := blk_frozen C1.out 1; have g2 : w3.frozen? ⟨w.heap.size + 1, 2, none⟩ = false := blk_frozen C1.out 2; have g3 : w3.frozen? ⟨w.heap.size + 1, 3, none⟩ = false := blk_frozen C1.out 3)
  obtain ⟨C9, U9, E9⟩ := put4 C1.out HC3.out HU3.out (by omega) (.int .i64 0) (.int .i64 0) (.int .i64 0) (.int .i64 0)
  have k0 := (blk_cell E9 0).trans (rfl : _ = some (Value.int .i64 0))
  have k1 := (blk_cell E9 1).trans (rfl : _ = some (Value.int .i64 0))
  have k2 := (blk_cell E9 2).trans (rfl : _ = some (Value.int .i64 0))
  have k3 := (blk_cell E9 3).trans (rfl : _ = some (Value.int .i64 0))
  refine bodyPost_ret (v := .tuple #[.agg #[.int .i64 0, .int .i64 0, .int .i64 0, .int .i64 0], .int .i64 2]) (by simp [results, Try.results16, go_sem, k0, k1, k2, k3]) rfl ⟨rfl, C9, U9⟩
set_option maxHeartbeats 4000000 in
set_option maxRecDepth 100000 in
theorem first_ok (cal re ba now : Int) (w : World) (h : ClkAt w n kb ab pb cb off week closed) (hn : n ≤ w.heap.size) (h1 : Kd.C k75 w A ls.length ls ∧ ls.length ≤ k) (hg : goodP cal ls re ba = true) (a b c d e : Int) (ha : atS off week closed 0 (rd_T75 ls 0).f0 now = (a, b, c, d, e)) :
    Calls Try.prog 16 #[.pointer (some ⟨kb, 0, none⟩), .agg #[.int .i64 cal, .slice A ls.length k, .int .i64 re, .int .i64 ba], .int .i64 now] w fun r w' => r = .returned (.tuple #[.agg #[.int .i64 a, .int .i64 b, .int .i64 c, .int .i64 d], .int .i64 e]) ∧ ClkAt w' n kb ab pb cb off week closed ∧ Upd cb w w' := by
  have HG := Aside0.mk (show (if goodP cal ls re ba = true then (0 : Int) else 2) = 0 by rw [hg]; rfl)
  obtain ⟨gg, gl⟩ := goodP_iff.1 hg
  have p0 : (0 : Int) < ls.length := by omega
  have p1 : 0 < ls.length := by omega
  have hm := gl (rd_T75 ls ((0 : Nat) : Int)) (by rw [rdL_at ls 0 (by omega)]; exact List.getElem_mem _)
  rw [Int.natCast_zero] at hm
  obtain ⟨b0, b1, _, _⟩ := hm
  obtain ⟨ad, e1, hx0, hx1⟩ := at_T75 h1.1 0 (Int.le_refl _) (by omega)
  subst e1
  generalize (rd_T75 ls 0).f0 = B at ha b0 b1 hx0
  have HA := Aside0.mk ha
  have HX : Aside0 (w.cell? ad = some (.int .i64 B)) := ⟨by have := hx0; rwa [show ad.add ((0 : Int).toNat * 2) = ad from by simp [Addr.add]] at this⟩
  clear hg gg gl hx0 hx1 ha
  have hcb := h.lt
  have C0 : Aside0 (((w.alloc (.cells #[.int .i64 cal, .slice (some ad) ls.length k, .int .i64 re, .int .i64 ba] 30)).alloc (.cells #[.int .i64 0, .int .i64 0, .int .i64 0, .int .i64 0] 26)).heap[w.heap.size]? = some (.cells #[.int .i64 cal, .slice (some ad) ls.length k, .int .i64 re, .int .i64 ba] 30 (0, 0))) := ⟨blk_alloc (blk_new w _) _⟩
  have C1 : Aside0 (((w.alloc (.cells #[.int .i64 cal, .slice (some ad) ls.length k, .int .i64 re, .int .i64 ba] 30)).alloc (.cells #[.int .i64 0, .int .i64 0, .int .i64 0, .int .i64 0] 26)).heap[w.heap.size + 1]? = some (.cells #[.int .i64 0, .int .i64 0, .int .i64 0, .int .i64 0] 26 (0, 0))) := ⟨by simpa using blk_new (w.alloc (.cells #[.int .i64 cal, .slice (some ad) ls.length k, .int .i64 re, .int .i64 ba] 30)) (.cells #[.int .i64 0, .int .i64 0, .int .i64 0, .int .i64 0] 26)⟩
  have HB := below_alloc (below_alloc (Below.refl w.heap.size w) (.cells #[.int .i64 cal, .slice (some ad) ls.length k, .int .i64 re, .int .i64 ba] 30)) (.cells #[.int .i64 0, .int .i64 0, .int .i64 0, .int .i64 0] 26)
  have HC := Aside0.mk (h.below HB)
  have HU := Aside0.mk (Upd.of_below (b := cb) HB)
  have HN := Aside0.mk (Nat.le_trans hn HB.size)
  have HL : Aside0 (Kd.C k75 _ (some ad) ls.length ls ∧ ls.length ≤ k) := ⟨⟨Kd.C_below h1.1 HB, h1.2⟩⟩
  have X0 := Aside0.mk ((HB.cell (World.block_lt_of_cell? w _ HX.out)).trans HX.out)
  clear h HB h1 HX
  go_enter Try.func16, Try.ntmps16
  go_wp2_with fail
  generalize ((w.alloc (.cells #[.int .i64 cal, .slice (some ad) ls.length k, .int .i64 re, .int .i64 ba] 30)).alloc (.cells #[.int .i64 0, .int .i64 0, .int .i64 0, .int .i64 0] 26)) = w2 at C0 C1 HC HU HN HL X0 ⊢
  have c0 : w2.cell? ⟨w.heap.size, 0, none⟩ = some (.int .i64 cal) := (blk_cell C0.out 0).trans rfl
  have c1 : w2.cell? ⟨w.heap.size, 1, none⟩ = some (.slice (some ad) ls.length k) := (blk_cell C0.out 1).trans rfl
  have c2 : w2.cell? ⟨w.heap.size, 2, none⟩ = some (.int .i64 re) := (blk_cell C0.out 2).trans rfl
  have c3 : w2.cell? ⟨w.heap.size, 3, none⟩ = some (.int .i64 ba) := (blk_cell C0.out 3).trans rfl
  have r0 : w2.cell? ⟨w.heap.size + 1, 0, none⟩ = some (.int .i64 0) := (blk_cell C1.out 0).trans rfl
  have r1 : w2.cell? ⟨w.heap.size + 1, 1, none⟩ = some (.int .i64 0) := (blk_cell C1.out 1).trans rfl
  have r2 : w2.cell? ⟨w.heap.size + 1, 2, none⟩ = some (.int .i64 0) := (blk_cell C1.out 2).trans rfl
  have r3 : w2.cell? ⟨w.heap.size + 1, 3, none⟩ = some (.int .i64 0) := (blk_cell C1.out 3).trans rfl
  have g0 : w2.frozen? ⟨w.heap.size + 1, 0, none⟩ = false := blk_frozen C1.out 0
  have g1 : w2.frozen? ⟨w.heap.size + 1, 1, none⟩ = false := blk_frozen C1.out 1
  have g2 : w2.frozen? ⟨w.heap.size + 1, 2, none⟩ = false := blk_frozen C1.out 2
  have g3 : w2.frozen? ⟨w.heap.size + 1, 3, none⟩ = false := blk_frozen C1.out 3
  go_wp2_with (first | (go_at_call 33; refine (check14_any w2 HL.out).mono ?_; rintro e w3 ⟨rfl, hb⟩; rw [HG.out]; have HC3 := Aside0.mk (HC.out.below hb); have HU3 := Aside0.mk (HU.out.then hb); have HN3 := Aside0.mk (Nat.le_trans HN.out hb.size); have HL3 : Aside0 (Kd.C k75 w3 (some ad) ls.length ls ∧ ls.length ≤ k) := ⟨⟨Kd.C_below HL.out.1 hb, HL.out.2⟩⟩; have n0 := Aside0.mk (blk_below C0.out hb); have n1 := Aside0.mk (blk_below C1.out hb); have y0 : w3.cell? ad = some (.int .i64 B) := (hb.cell (World.block_lt_of_cell? w2 _ X0.out)).trans X0.out; clear hb X0; clear C0 C1 c0 c1 c2 c3 r0 r1 r2 r3 g0 g1 g2 g3; have C0 := n0; have C1 := n1; clear n0 n1; have c0 : w3.cell? ⟨w.heap.size, 0, none⟩ = some (.int .i64 cal) := (blk_cell C0.out 0).trans rfl; have c1 : w3.cell? ⟨w.heap.size, 1, none⟩ = some (.slice (some ad) ls.length k) := (blk_cell C0.out 1).trans rfl; have c2 : w3.cell? ⟨w.heap.size, 2, none⟩ = some (.int .i64 re) := (blk_cell C0.out 2).trans rfl; have c3 : w3.cell? ⟨w.heap.size, 3, none⟩ = some (.int .i64 ba) := (blk_cell C0.out 3).trans rfl; have r0 : w3.cell? ⟨w.heap.size + 1, 0, none⟩ = some (.int .i64 0) := (blk_cell C1.out 0).trans rfl; have r1 : w3.cell? ⟨w.heap.size + 1, 1, none⟩ = some (.int .i64 0) := (blk_cell C1.out 1).trans rfl; have r2 : w3.cell? ⟨w.heap.size + 1, 2, none⟩ = some (.int .i64 0) := (blk_cell C1.out 2).trans rfl; have r3 : w3.cell? ⟨w.heap.size + 1, 3, none⟩ = some (.int .i64 0) := (blk_cell C1.out 3).trans rfl; have g0 : w3.frozen? ⟨w.heap.size + 1, 0, none⟩ = false := blk_frozen C1.out 0; have g1 : w3.frozen? ⟨w.heap.size + 1, 1, none⟩ = false := blk_frozen C1.out 1; have g2 : w3.frozen? ⟨w.heap.size + 1, 2, none⟩ = false := blk_frozen C1.out 2; have g3 : w3.frozen? ⟨w.heap.size + 1, 3, none⟩ = false := blk_frozen C1.out 3) | (go_at_call 31; refine (stepat_any 0 0 B 0 now a b c d e w3 HC3.out HN3.out (by omega) HA.out).mono ?_; rintro r w4 ⟨rfl, CK, UK⟩; have n0 := Aside0.mk (UK.blk C0.out (by omega)); have n1 := Aside0.mk (UK.blk C1.out (by omega)); have HC4 := Aside0.mk CK; have HU4 := Aside0.mk (HU3.out.trans UK); clear CK UK; clear C0 y0 C1 c0 c1 c2 c3 r0 r1 r2 r3 g0 g1 g2 g3; have C0 := n0; have C1 := n1; clear n0 n1; have c0 : w4.cell? ⟨w.heap.size, 0, none⟩ = some (.int .i64 cal) := (blk_cell C0.out 0).trans rfl; have c1 : w4.cell? ⟨w.heap.size, 1, none⟩ = some (.slice (some ad) ls.length k) := (blk_cell C0.out 1).trans rfl; have c2 : w4.cell? ⟨w.heap.size, 2, none⟩ = some (.int .i64 re) := (blk_cell C0.out 2).trans rfl; have c3 : w4.cell? ⟨w.heap.size, 3, none⟩ = some (.int .i64 ba) := (blk_cell C0.out 3).trans rfl; have r0 : w4.cell? ⟨w.heap.size + 1, 0, none⟩ = some (.int .i64 0) := (blk_cell C1.out 0).trans rfl; have r1 : w4.cell? ⟨w.heap.size + 1, 1, none⟩ = some (.int .i64 0) := (blk_cell C1.out 1).trans rfl; have r2 : w4.cell? ⟨w.heap.size + 1, 2, none⟩ = some (.int .i64 0) := (blk_cell C1.out 2).trans rfl; have r3 : w4.cell? ⟨w.heap.size + 1, 3, none⟩ = some (.int .i64 0) := (blk_cell C1.out 3).trans rfl; have g0 : w4.frozen? ⟨w.heap.size + 1, 0, none⟩ = false := blk_frozen C1.out 0; have g1 : w4.frozen? ⟨w.heap.size + 1, 1, none⟩ = false := blk_frozen C1.out 1; have g2 : w4.frozen? ⟨w.heap.size + 1, 2, none⟩ = false := blk_frozen C1.out 2; have g3 : w4.frozen? ⟨w.heap.size + 1, 3, none⟩ = false := blk_frozen C1.out 3))
  obtain ⟨C9, U9, E9⟩ := put4 C1.out HC4.out HU4.out (by omega) (.int .i64 a) (.int .i64 b) (.int .i64 c) (.int .i64 d)
  have k0 := (blk_cell E9 0).trans (rfl : _ = some (Value.int .i64 a))
  have k1 := (blk_cell E9 1).trans (rfl : _ = some (Value.int .i64 b))
  have k2 := (blk_cell E9 2).trans (rfl : _ = some (Value.int .i64 c))
  have k3 := (blk_cell E9 3).trans (rfl : _ = some (Value.int .i64 d))
  refine bodyPost_ret (v := .tuple #[.agg #[.int .i64 a, .int .i64 b, .int .i64 c, .int .i64 d], .int .i64 e]) (by simp [results, Try.results16, go_sem, k0, k1, k2, k3]) rfl ⟨rfl, C9, U9⟩
theorem first_any (cal re ba now a b c d e : Int) (w : World) (h : ClkAt w n kb ab pb cb off week closed) (hn : n ≤ w.heap.size) (h1 : Kd.C k75 w A ls.length ls ∧ ls.length ≤ k) (hd : firstP off week closed cal ls re ba now = (a, b, c, d, e)) :
    Calls Try.prog 16 #[.pointer (some ⟨kb, 0, none⟩), .agg #[.int .i64 cal, .slice A ls.length k, .int .i64 re, .int .i64 ba], .int .i64 now] w fun r w' => r = .returned (.tuple #[.agg #[.int .i64 a, .int .i64 b, .int .i64 c, .int .i64 d], .int .i64 e]) ∧ ClkAt w' n kb ab pb cb off week closed ∧ Upd cb w w' := by
  unfold firstP at hd
  by_cases h0 : goodP cal ls re ba = true
  · rw [if_pos h0] at hd; exact first_ok cal re ba now w h hn h1 h0 a b c d e hd
  · rw [if_neg h0] at hd; cases hd; exact first_no cal re ba now w h hn h1 (by simpa using h0)
end Go.Proofs.Ytepkbadgpoploaa.Own
namespace Go.Proofs.Ytepkbadgpoploaa.Own
open Go.RowKit Go.Proofs Go.Proofs.YtepkbadgpoploaaW.PrintWords Go.Proofs.YtepkbadgpoploaaW.PrintLast Go.Proofs.YtepkbadgpoploaaW.PrintMore Go.Proofs.Ytepkbadgpoploaa.Base
variable {w w' : World} {n kb ab pb cb : Nat} {off : Int} {week closed : List S78} {A : Option Addr} {k : Nat} {ls : List S75}
theorem far4 {W : World} {b k : Nat} {o : Option Obj} (h : W.heap[k]? = o) (hk : k ≠ b) (v0 v1 v2 v3 : Value) : ((((W.setCell ⟨b, 0, none⟩ v0).setCell ⟨b, 1, none⟩ v1).setCell ⟨b, 2, none⟩ v2).setCell ⟨b, 3, none⟩ v3).heap[k]? = o :=
  (Below.heap_setCell _ _ _ _ hk).trans ((Below.heap_setCell _ _ _ _ hk).trans ((Below.heap_setCell _ _ _ _ hk).trans ((Below.heap_setCell _ _ _ _ hk).trans h)))
def next_T9 : Bool × List (List Nat × List Nat) := (true, [([], []), ([0], [0]), ([1], [1]), ([], []), ([3], [3]), ([], []), ([5], [5]), ([6], [6]), ([4, 7], [4, 7]), ([8], [8]), ([9], [9]), ([2, 10], [2, 10]), ([], []), ([], []), ([11, 12, 13], [11, 12, 13]), ([14], [14]), ([15], [15]), ([15], [15]), ([16, 14, 0, 1, 2, 3, 4, 5, 6, 7, 8, 9, 10, 11, 12, 13, 14, 15, 16], [16]), ([17, 18, 0, 1, 2, 3, 4, 5, 6, 7, 8, 9, 10, 11, 12, 13, 14, 15, 16, 17, 18], [17])])
def next_B9 : List Nat := [0, 1, 3, 0, 8, 0, 32, 96, 248, 504, 1016, 2047, 0, 0, 16383, 32767, 65535, 65535, 131071, 524287]
theorem next_tab9 : rtab .any (opsOf Try.f18 9) = next_T9 := by kernel_rfl
theorem next_bits9 : waitsOk next_T9.2 next_B9 = true := by kernel_rfl
set_option maxHeartbeats 4000000 in
set_option maxRecDepth 100000 in
theorem next_no (cal re ba lv fr l du now : Int) (w : World) (h : ClkAt w n kb ab pb cb off week closed) (hn : n ≤ w.heap.size) (h1 : Kd.C k75 w A ls.length ls ∧ ls.length ≤ k) (hg : goodP cal ls re ba = false) :
    Calls Try.prog 18 #[.pointer (some ⟨kb, 0, none⟩), .agg #[.int .i64 cal, .slice A ls.length k, .int .i64 re, .int .i64 ba], .agg #[.int .i64 lv, .int .i64 fr, .int .i64 l, .int .i64 du], .int .i64 now] w fun r w' => r = .returned (.tuple #[.agg #[.int .i64 0, .int .i64 0, .int .i64 0, .int .i64 0], .bool false, .int .i64 2]) ∧ ClkAt w' n kb ab pb cb off week closed ∧ Upd cb w w' := by
  have HG := Aside0.mk (show (if goodP cal ls re ba = true then (0 : Int) else 2) = 2 by rw [hg]; rfl)
  clear hg
  have hcb := h.lt
  have C0 : Aside0 ((((w.alloc (.cells #[.int .i64 cal, .slice A ls.length k, .int .i64 re, .int .i64 ba] 30)).alloc (.cells #[.int .i64 lv, .int .i64 fr, .int .i64 l, .int .i64 du] 26)).alloc (.cells #[.int .i64 0, .int .i64 0, .int .i64 0, .int .i64 0] 26)).heap[w.heap.size]? = some (.cells #[.int .i64 cal, .slice A ls.length k, .int .i64 re, .int .i64 ba] 30 (0, 0))) := ⟨blk_alloc (blk_alloc (blk_new w _) _) _⟩
  have C1 : Aside0 ((((w.alloc (.cells #[.int .i64 cal, .slice A ls.length k, .int .i64 re, .int .i64 ba] 30)).alloc (.cells #[.int .i64 lv, .int .i64 fr, .int .i64 l, .int .i64 du] 26)).alloc (.cells #[.int .i64 0, .int .i64 0, .int .i64 0, .int .i64 0] 26)).heap[w.heap.size + 1]? = some (.cells #[.int .i64 lv, .int .i64 fr, .int .i64 l, .int .i64 du] 26 (0, 0))) := ⟨blk_alloc (by simpa using blk_new (w.alloc (.cells #[.int .i64 cal, .slice A ls.length k, .int .i64 re, .int .i64 ba] 30)) (.cells #[.int .i64 lv, .int .i64 fr, .int .i64 l, .int .i64 du] 26)) _⟩
  have C2 : Aside0 ((((w.alloc (.cells #[.int .i64 cal, .slice A ls.length k, .int .i64 re, .int .i64 ba] 30)).alloc (.cells #[.int .i64 lv, .int .i64 fr, .int .i64 l, .int .i64 du] 26)).alloc (.cells #[.int .i64 0, .int .i64 0, .int .i64 0, .int .i64 0] 26)).heap[w.heap.size + 1 + 1]? = some (.cells #[.int .i64 0, .int .i64 0, .int .i64 0, .int .i64 0] 26 (0, 0))) := ⟨by simpa using blk_new ((w.alloc (.cells #[.int .i64 cal, .slice A ls.length k, .int .i64 re, .int .i64 ba] 30)).alloc (.cells #[.int .i64 lv, .int .i64 fr, .int .i64 l, .int .i64 du] 26)) (.cells #[.int .i64 0, .int .i64 0, .int .i64 0, .int .i64 0] 26)⟩
  have HB := below_alloc (below_alloc (below_alloc (Below.refl w.heap.size w) (.cells #[.int .i64 cal, .slice A ls.length k, .int .i64 re, .int .i64 ba] 30)) (.cells #[.int .i64 lv, .int .i64 fr, .int .i64 l, .int .i64 du] 26)) (.cells #[.int .i64 0, .int .i64 0, .int .i64 0, .int .i64 0] 26)
  have HC := Aside0.mk (h.below HB)
  have HU := Aside0.mk (Upd.of_below (b := cb) HB)
  have HN := Aside0.mk (Nat.le_trans hn HB.size)
  have HL : Aside0 (Kd.C k75 _ A ls.length ls ∧ ls.length ≤ k) := ⟨⟨Kd.C_below h1.1 HB, h1.2⟩⟩
  clear h HB h1
  go_enter Try.func18, Try.ntmps18
  go_wp2_with fail
  generalize (((w.alloc (.cells #[.int .i64 cal, .slice A ls.length k, .int .i64 re, .int .i64 ba] 30)).alloc (.cells #[.int .i64 lv, .int .i64 fr, .int .i64 l, .int .i64 du] 26)).alloc (.cells #[.int .i64 0, .int .i64 0, .int .i64 0, .int .i64 0] 26)) = w2 at C0 C1 C2 HC HU HN HL ⊢
  have c0 : w2.cell? ⟨w.heap.size, 0, none⟩ = some (.int .i64 cal) := (blk_cell C0.out 0).trans rfl
  have c1 : w2.cell? ⟨w.heap.size, 1, none⟩ = some (.slice A ls.length k) := (blk_cell C0.out 1).trans rfl
  have c2 : w2.cell? ⟨w.heap.size, 2, none⟩ = some (.int .i64 re) := (blk_cell C0.out 2).trans rfl
  have c3 : w2.cell? ⟨w.heap.size, 3, none⟩ = some (.int .i64 ba) := (blk_cell C0.out 3).trans rfl
  have s0 : w2.cell? ⟨w.heap.size + 1, 0, none⟩ = some (.int .i64 lv) := (blk_cell C1.out 0).trans rfl
  have s1 : w2.cell? ⟨w.heap.size + 1, 1, none⟩ = some (.int .i64 fr) := (blk_cell C1.out 1).trans rfl
  have s2 : w2.cell? ⟨w.heap.size + 1, 2, none⟩ = some (.int .i64 l) := (blk_cell C1.out 2).trans rfl
  have s3 : w2.cell? ⟨w.heap.size + 1, 3, none⟩ = some (.int .i64 du) := (blk_cell C1.out 3).trans rfl
  have r0 : w2.cell? ⟨w.heap.size + 1 + 1, 0, none⟩ = some (.int .i64 0) := (blk_cell C2.out 0).trans rfl
  have r1 : w2.cell? ⟨w.heap.size + 1 + 1, 1, none⟩ = some (.int .i64 0) := (blk_cell C2.out 1).trans rfl
  have r2 : w2.cell? ⟨w.heap.size + 1 + 1, 2, none⟩ = some (.int .i64 0) := (blk_cell C2.out 2).trans rfl
  have r3 : w2.cell? ⟨w.heap.size + 1 + 1, 3, none⟩ = some (.int .i64 0) := (blk_cell C2.out 3).trans rfl
  have g0 : w2.frozen? ⟨w.heap.size + 1 + 1, 0, none⟩ = false := blk_frozen C2.out 0
  have g1 : w2.frozen? ⟨w.heap.size + 1 + 1, 1, none⟩ = false := blk_frozen C2.out 1
  have g2 : w2.frozen? ⟨w.heap.size + 1 + 1, 2, none⟩ = false := blk_frozen C2.out 2
  have g3 : w2.frozen? ⟨w.heap.size + 1 + 1, 3, none⟩ = false := blk_frozen C2.out 3
  go_wp2_with (go_at_call 33; refine (check14_any w2 HL.out).mono ?_; rintro e w3 ⟨rfl, hb⟩; rw [HG.out]; have HC3 := Aside0.mk (HC.out.below hb); have HU3 := Aside0.mk (HU.out.then hb); have HN3 := Aside0.mk (Nat.le_trans HN.out hb.size); have HL3 : Aside0 (Kd.C k75 w3 A ls.length ls ∧ ls.length ≤ k) := ⟨⟨Kd.C_below HL.out.1 hb, HL.out.2⟩⟩; have n0 := Aside0.mk (blk_below C0.out hb); have n1 := Aside0.mk (blk_below C1.out hb); have n2 := Aside0.mk (blk_below C2.out hb); clear hb; clear C0 C1 C2 c0 c1 c2 c3 s0 s1 s2 s3 r0 r1 r2 r3 g0 g1 g2 g3; have C0 := n0; have C1 := n1; have C2 := n2; clear n0 n1 n2; have c0 : w3.cell? ⟨w.heap.size, 0, none⟩ = some (.int .i64 cal) := (blk_cell C0.out 0).trans rfl; have c1 : w3.cell? ⟨w.heap.size, 1, none⟩ = some (.slice A ls.length k) := (blk_cell C0.out 1).trans rfl; have c2 : w3.cell? ⟨w.heap.size, 2, none⟩ = some (.int .i64 re) := (blk_cell C0.out 2).trans rfl; have c3 : w3.cell? ⟨w.heap.size, 3, none⟩ = some (.int .i64 ba) := (blk_cell C0.out 3).trans rfl; have s0 : w3.cell? ⟨w.heap.size + 1, 0, none⟩ = some (.int .i64 lv) := (blk_cell C1.out 0).trans rfl; have s1 : w3.cell? ⟨w.heap.size + 1, 1, none⟩ = some (.int .i64 fr) := (blk_cell C1.out 1).trans rfl; have s2 : w3.cell? ⟨w.heap.size + 1, 2, none⟩ = some (.int .i64 l) := (blk_cell C1.out 2).trans rfl; have s3 : w3.cell? ⟨w.heap.size + 1, 3, none⟩ = some (.int .i64 du) := (blk_cell C1.out 3).trans rfl; have r0 : w3.cell? ⟨w.heap.size + 1 + 1, 0, none⟩ = some (.int .i64 0) := (blk_cell C2.out 0).trans rfl; have r1 : w3.cell? ⟨w.heap.size + 1 + 1, 1, none⟩ = some (.int .i64 0) := (blk_cell C2.out 1).trans rfl; have r2 : w3.cell? ⟨w.heap.size + 1 + 1, 2, none⟩ = some (.int .i64 0) := (blk_cell C2.out 2).trans rfl; have r3 : w3.cell? ⟨w.heap.size + 1 + 1, 3, none⟩ = some (.int .i64 0) := (blk_cell C2.out 3).trans rfl; have g0 : w3.frozen? ⟨w.heap.size + 1 + 1, 0, none⟩ = false := blk_frozen C2.out 0; have g1 : w3.frozen? ⟨w.heap.size + 1 + 1, 1, none⟩ = false := blk_frozen C2.out 1; have g2 : w3.frozen? ⟨w.heap.size + 1 + 1, 2, none⟩ = false := blk_frozen C2.out 2; have g3 : w3.frozen? ⟨w.heap.size + 1 + 1, 3, none⟩ = false := blk_frozen C2.out 3)
  obtain ⟨C9, U9, E9⟩ := put4 C2.out HC3.out HU3.out (by omega) (.int .i64 0) (.int .i64 0) (.int .i64 0) (.int .i64 0)
  have k0 := (blk_cell E9 0).trans (rfl : _ = some (Value.int .i64 0))
  have k1 := (blk_cell E9 1).trans (rfl : _ = some (Value.int .i64 0))
  have k2 := (blk_cell E9 2).trans (rfl : _ = some (Value.int .i64 0))
  have k3 := (blk_cell E9 3).trans (rfl : _ = some (Value.int .i64 0))
  refine bodyPost_ret (v := .tuple #[.agg #[.int .i64 0, .int .i64 0, .int .i64 0, .int .i64 0], .bool false, .int .i64 2]) (by simp [results, Try.results18, go_sem, k0, k1, k2, k3]) rfl ⟨rfl, C9, U9⟩
set_option maxHeartbeats 4000000 in
set_option maxRecDepth 100000 in
theorem next_lo (cal re ba lv fr l du now : Int) (w : World) (h : ClkAt w n kb ab pb cb off week closed) (hn : n ≤ w.heap.size) (h1 : Kd.C k75 w A ls.length ls ∧ ls.length ≤ k) (hg : goodP cal ls re ba = true) (hx : lv < 0) :
    Calls Try.prog 18 #[.pointer (some ⟨kb, 0, none⟩), .agg #[.int .i64 cal, .slice A ls.length k, .int .i64 re, .int .i64 ba], .agg #[.int .i64 lv, .int .i64 fr, .int .i64 l, .int .i64 du], .int .i64 now] w fun r w' => r = .returned (.tuple #[.agg #[.int .i64 0, .int .i64 0, .int .i64 0, .int .i64 0], .bool false, .int .i64 2]) ∧ ClkAt w' n kb ab pb cb off week closed ∧ Upd cb w w' := by
  have HG := Aside0.mk (show (if goodP cal ls re ba = true then (0 : Int) else 2) = 0 by rw [hg]; rfl)
  have hd : decide (lv < 0) = true := decide_eq_true hx
  clear hg
  have hcb := h.lt
  have C0 : Aside0 ((((w.alloc (.cells #[.int .i64 cal, .slice A ls.length k, .int .i64 re, .int .i64 ba] 30)).alloc (.cells #[.int .i64 lv, .int .i64 fr, .int .i64 l, .int .i64 du] 26)).alloc (.cells #[.int .i64 0, .int .i64 0, .int .i64 0, .int .i64 0] 26)).heap[w.heap.size]? = some (.cells #[.int .i64 cal, .slice A ls.length k, .int .i64 re, .int .i64 ba] 30 (0, 0))) := ⟨blk_alloc (blk_alloc (blk_new w _) _) _⟩
  have C1 : Aside0 ((((w.alloc (.cells #[.int .i64 cal, .slice A ls.length k, .int .i64 re, .int .i64 ba] 30)).alloc (.cells #[.int .i64 lv, .int .i64 fr, .int .i64 l, .int .i64 du] 26)).alloc (.cells #[.int .i64 0, .int .i64 0, .int .i64 0, .int .i64 0] 26)).heap[w.heap.size + 1]? = some (.cells #[.int .i64 lv, .int .i64 fr, .int .i64 l, .int .i64 du] 26 (0, 0))) := ⟨blk_alloc (by simpa using blk_new (w.alloc (.cells #[.int .i64 cal, .slice A ls.length k, .int .i64 re, .int .i64 ba] 30)) (.cells #[.int .i64 lv, .int .i64 fr, .int .i64 l, .int .i64 du] 26)) _⟩
  have C2 : Aside0 ((((w.alloc (.cells #[.int .i64 cal, .slice A ls.length k, .int .i64 re, .int .i64 ba] 30)).alloc (.cells #[.int .i64 lv, .int .i64 fr, .int .i64 l, .int .i64 du] 26)).alloc (.cells #[.int .i64 0, .int .i64 0, .int .i64 0, .int .i64 0] 26)).heap[w.heap.size + 1 + 1]? = some (.cells #[.int .i64 0, .int .i64 0, .int .i64 0, .int .i64 0] 26 (0, 0))) := ⟨by simpa using blk_new ((w.alloc (.cells #[.int .i64 cal, .slice A ls.length k, .int .i64 re, .int .i64 ba] 30)).alloc (.cells #[.int .i64 lv, .int .i64 fr, .int .i64 l, .int .i64 du] 26)) (.cells #[.int .i64 0, .int .i64 0, .int .i64 0, .int .i64 0] 26)⟩
  have HB := below_alloc (below_alloc (below_alloc (Below.refl w.heap.size w) (.cells #[.int .i64 cal, .slice A ls.length k, .int .i64 re, .int .i64 ba] 30)) (.cells #[.int .i64 lv, .int .i64 fr, .int .i64 l, .int .i64 du] 26)) (.cells #[.int .i64 0, .int .i64 0, .int .i64 0, .int .i64 0] 26)
  have HC := Aside0.mk (h.below HB)
  have HU := Aside0.mk (Upd.of_below (b := cb) HB)
  have HN := Aside0.mk (Nat.le_trans hn HB.size)
  have HL : Aside0 (Kd.C k75 _ A ls.length ls ∧ ls.length ≤ k) := ⟨⟨Kd.C_below h1.1 HB, h1.2⟩⟩
  clear h HB h1
  go_enter Try.func18, Try.ntmps18
  go_wp2_with fail
  generalize (((w.alloc (.cells #[.int .i64 cal, .slice A ls.length k, .int .i64 re, .int .i64 ba] 30)).alloc (.cells #[.int .i64 lv, .int .i64 fr, .int .i64 l, .int .i64 du] 26)).alloc (.cells #[.int .i64 0, .int .i64 0, .int .i64 0, .int .i64 0] 26)) = w2 at C0 C1 C2 HC HU HN HL ⊢
  have c0 : w2.cell? ⟨w.heap.size, 0, none⟩ = some (.int .i64 cal) := (blk_cell C0.out 0).trans rfl
  have c1 : w2.cell? ⟨w.heap.size, 1, none⟩ = some (.slice A ls.length k) := (blk_cell C0.out 1).trans rfl
  have c2 : w2.cell? ⟨w.heap.size, 2, none⟩ = some (.int .i64 re) := (blk_cell C0.out 2).trans rfl
  have c3 : w2.cell? ⟨w.heap.size, 3, none⟩ = some (.int .i64 ba) := (blk_cell C0.out 3).trans rfl
  have s0 : w2.cell? ⟨w.heap.size + 1, 0, none⟩ = some (.int .i64 lv) := (blk_cell C1.out 0).trans rfl
  have s1 : w2.cell? ⟨w.heap.size + 1, 1, none⟩ = some (.int .i64 fr) := (blk_cell C1.out 1).trans rfl
  have s2 : w2.cell? ⟨w.heap.size + 1, 2, none⟩ = some (.int .i64 l) := (blk_cell C1.out 2).trans rfl
  have s3 : w2.cell? ⟨w.heap.size + 1, 3, none⟩ = some (.int .i64 du) := (blk_cell C1.out 3).trans rfl
  have r0 : w2.cell? ⟨w.heap.size + 1 + 1, 0, none⟩ = some (.int .i64 0) := (blk_cell C2.out 0).trans rfl
  have r1 : w2.cell? ⟨w.heap.size + 1 + 1, 1, none⟩ = some (.int .i64 0) := (blk_cell C2.out 1).trans rfl
  have r2 : w2.cell? ⟨w.heap.size + 1 + 1, 2, none⟩ = some (.int .i64 0) := (blk_cell C2.out 2).trans rfl
  have r3 : w2.cell? ⟨w.heap.size + 1 + 1, 3, none⟩ = some (.int .i64 0) := (blk_cell C2.out 3).trans rfl
  have g0 : w2.frozen? ⟨w.heap.size + 1 + 1, 0, none⟩ = false := blk_frozen C2.out 0
  have g1 : w2.frozen? ⟨w.heap.size + 1 + 1, 1, none⟩ = false := blk_frozen C2.out 1
  have g2 : w2.frozen? ⟨w.heap.size + 1 + 1, 2, none⟩ = false := blk_frozen C2.out 2
  have g3 : w2.frozen? ⟨w.heap.size + 1 + 1, 3, none⟩ = false := blk_frozen C2.out 3
  go_wp2_with (go_at_call 33; refine (check14_any w2 HL.out).mono ?_; rintro e w3 ⟨rfl, hb⟩; rw [HG.out]; have HC3 := Aside0.mk (HC.out.below hb); have HU3 := Aside0.mk (HU.out.then hb); have HN3 := Aside0.mk (Nat.le_trans HN.out hb.size); have HL3 : Aside0 (Kd.C k75 w3 A ls.length ls ∧ ls.length ≤ k) := ⟨⟨Kd.C_below HL.out.1 hb, HL.out.2⟩⟩; have n0 := Aside0.mk (blk_below C0.out hb); have n1 := Aside0.mk (blk_below C1.out hb); have n2 := Aside0.mk (blk_below C2.out hb); clear hb; clear C0 C1 C2 c0 c1 c2 c3 s0 s1 s2 s3 r0 r1 r2 r3 g0 g1 g2 g3; have C0 := n0; have C1 := n1; have C2 := n2; clear n0 n1 n2; have c0 : w3.cell? ⟨w.heap.size, 0, none⟩ = some (.int .i64 cal) := (blk_cell C0.out 0).trans rfl; have c1 : w3.cell? ⟨w.heap.size, 1, none⟩ = some (.slice A ls.length k) := (blk_cell C0.out 1).trans rfl; have c2 : w3.cell? ⟨w.heap.size, 2, none⟩ = some (.int .i64 re) := (blk_cell C0.out 2).trans rfl; have c3 : w3.cell? ⟨w.heap.size, 3, none⟩ = some (.int .i64 ba) := (blk_cell C0.out 3).trans rfl; have s0 : w3.cell? ⟨w.heap.size + 1, 0, none⟩ = some (.int .i64 lv) := (blk_cell C1.out 0).trans rfl; have s1 : w3.cell? ⟨w.heap.size + 1, 1, none⟩ = some (.int .i64 fr) := (blk_cell C1.out 1).trans rfl; have s2 : w3.cell? ⟨w.heap.size + 1, 2, none⟩ = some (.int .i64 l) := (blk_cell C1.out 2).trans rfl; have s3 : w3.cell? ⟨w.heap.size + 1, 3, none⟩ = some (.int .i64 du) := (blk_cell C1.out 3).trans rfl; have r0 : w3.cell? ⟨w.heap.size + 1 + 1, 0, none⟩ = some (.int .i64 0) := (blk_cell C2.out 0).trans rfl; have r1 : w3.cell? ⟨w.heap.size + 1 + 1, 1, none⟩ = some (.int .i64 0) := (blk_cell C2.out 1).trans rfl; have r2 : w3.cell? ⟨w.heap.size + 1 + 1, 2, none⟩ = some (.int .i64 0) := (blk_cell C2.out 2).trans rfl; have r3 : w3.cell? ⟨w.heap.size + 1 + 1, 3, none⟩ = some (.int .i64 0) := (blk_cell C2.out 3).trans rfl; have g0 : w3.frozen? ⟨w.heap.size + 1 + 1, 0, none⟩ = false := blk_frozen C2.out 0; have g1 : w3.frozen? ⟨w.heap.size + 1 + 1, 1, none⟩ = false := blk_frozen C2.out 1; have g2 : w3.frozen? ⟨w.heap.size + 1 + 1, 2, none⟩ = false := blk_frozen C2.out 2; have g3 : w3.frozen? ⟨w.heap.size + 1 + 1, 3, none⟩ = false := blk_frozen C2.out 3)
  obtain ⟨C9, U9, E9⟩ := put4 C2.out HC3.out HU3.out (by omega) (.int .i64 0) (.int .i64 0) (.int .i64 0) (.int .i64 0)
  have k0 := (blk_cell E9 0).trans (rfl : _ = some (Value.int .i64 0))
  have k1 := (blk_cell E9 1).trans (rfl : _ = some (Value.int .i64 0))
  have k2 := (blk_cell E9 2).trans (rfl : _ = some (Value.int .i64 0))
  have k3 := (blk_cell E9 3).trans (rfl : _ = some (Value.int .i64 0))
  refine bodyPost_ret (v := .tuple #[.agg #[.int .i64 0, .int .i64 0, .int .i64 0, .int .i64 0], .bool false, .int .i64 2]) (by simp [results, Try.results18, go_sem, k0, k1, k2, k3]) rfl ⟨rfl, C9, U9⟩
set_option maxHeartbeats 4000000 in
set_option maxRecDepth 100000 in
theorem next_hi (cal re ba lv fr l du now : Int) (w : World) (h : ClkAt w n kb ab pb cb off week closed) (hn : n ≤ w.heap.size) (h1 : Kd.C k75 w A ls.length ls ∧ ls.length ≤ k) (hg : goodP cal ls re ba = true) (hx : 0 ≤ lv) (hy : (ls.length : Int) ≤ lv) :
    Calls Try.prog 18 #[.pointer (some ⟨kb, 0, none⟩), .agg #[.int .i64 cal, .slice A ls.length k, .int .i64 re, .int .i64 ba], .agg #[.int .i64 lv, .int .i64 fr, .int .i64 l, .int .i64 du], .int .i64 now] w fun r w' => r = .returned (.tuple #[.agg #[.int .i64 0, .int .i64 0, .int .i64 0, .int .i64 0], .bool false, .int .i64 2]) ∧ ClkAt w' n kb ab pb cb off week closed ∧ Upd cb w w' := by
  have HG := Aside0.mk (show (if goodP cal ls re ba = true then (0 : Int) else 2) = 0 by rw [hg]; rfl)
  have hd : decide (lv < 0) = false := decide_eq_false (by omega)
  have hd2 : decide ((ls.length : Int) ≤ lv) = true := decide_eq_true hy
  clear hg
  have hcb := h.lt
  have C0 : Aside0 ((((w.alloc (.cells #[.int .i64 cal, .slice A ls.length k, .int .i64 re, .int .i64 ba] 30)).alloc (.cells #[.int .i64 lv, .int .i64 fr, .int .i64 l, .int .i64 du] 26)).alloc (.cells #[.int .i64 0, .int .i64 0, .int .i64 0, .int .i64 0] 26)).heap[w.heap.size]? = some (.cells #[.int .i64 cal, .slice A ls.length k, .int .i64 re, .int .i64 ba] 30 (0, 0))) := ⟨blk_alloc (blk_alloc (blk_new w _) _) _⟩
  have C1 : Aside0 ((((w.alloc (.cells #[.int .i64 cal, .slice A ls.length k, .int .i64 re, .int .i64 ba] 30)).alloc (.cells #[.int .i64 lv, .int .i64 fr, .int .i64 l, .int .i64 du] 26)).alloc (.cells #[.int .i64 0, .int .i64 0, .int .i64 0, .int .i64 0] 26)).heap[w.heap.size + 1]? = some (.cells #[.int .i64 lv, .int .i64 fr, .int .i64 l, .int .i64 du] 26 (0, 0))) := ⟨blk_alloc (by simpa using blk_new (w.alloc (.cells #[.int .i64 cal, .slice A ls.length k, .int .i64 re, .int .i64 ba] 30)) (.cells #[.int .i64 lv, .int .i64 fr, .int .i64 l, .int .i64 du] 26)) _⟩
  have C2 : Aside0 ((((w.alloc (.cells #[.int .i64 cal, .slice A ls.length k, .int .i64 re, .int .i64 ba] 30)).alloc (.cells #[.int .i64 lv, .int .i64 fr, .int .i64 l, .int .i64 du] 26)).alloc (.cells #[.int .i64 0, .int .i64 0, .int .i64 0, .int .i64 0] 26)).heap[w.heap.size + 1 + 1]? = some (.cells #[.int .i64 0, .int .i64 0, .int .i64 0, .int .i64 0] 26 (0, 0))) := ⟨by simpa using blk_new ((w.alloc (.cells #[.int .i64 cal, .slice A ls.length k, .int .i64 re, .int .i64 ba] 30)).alloc (.cells #[.int .i64 lv, .int .i64 fr, .int .i64 l, .int .i64 du] 26)) (.cells #[.int .i64 0, .int .i64 0, .int .i64 0, .int .i64 0] 26)⟩
  have HB := below_alloc (below_alloc (below_alloc (Below.refl w.heap.size w) (.cells #[.int .i64 cal, .slice A ls.length k, .int .i64 re, .int .i64 ba] 30)) (.cells #[.int .i64 lv, .int .i64 fr, .int .i64 l, .int .i64 du] 26)) (.cells #[.int .i64 0, .int .i64 0, .int .i64 0, .int .i64 0] 26)
  have HC := Aside0.mk (h.below HB)
  have HU := Aside0.mk (Upd.of_below (b := cb) HB)
  have HN := Aside0.mk (Nat.le_trans hn HB.size)
  have HL : Aside0 (Kd.C k75 _ A ls.length ls ∧ ls.length ≤ k) := ⟨⟨Kd.C_below h1.1 HB, h1.2⟩⟩
  clear h HB h1
  go_enter Try.func18, Try.ntmps18
  go_wp2_with fail
  generalize (((w.alloc (.cells #[.int .i64 cal, .slice A ls.length k, .int .i64 re, .int .i64 ba] 30)).alloc (.cells #[.int .i64 lv, .int .i64 fr, .int .i64 l, .int .i64 du] 26)).alloc (.cells #[.int .i64 0, .int .i64 0, .int .i64 0, .int .i64 0] 26)) = w2 at C0 C1 C2 HC HU HN HL ⊢
  have c0 : w2.cell? ⟨w.heap.size, 0, none⟩ = some (.int .i64 cal) := (blk_cell C0.out 0).trans rfl
  have c1 : w2.cell? ⟨w.heap.size, 1, none⟩ = some (.slice A ls.length k) := (blk_cell C0.out 1).trans rfl
  have c2 : w2.cell? ⟨w.heap.size, 2, none⟩ = some (.int .i64 re) := (blk_cell C0.out 2).trans rfl
  have c3 : w2.cell? ⟨w.heap.size, 3, none⟩ = some (.int .i64 ba) := (blk_cell C0.out 3).trans rfl
  have s0 : w2.cell? ⟨w.heap.size + 1, 0, none⟩ = some (.int .i64 lv) := (blk_cell C1.out 0).trans rfl
  have s1 : w2.cell? ⟨w.heap.size + 1, 1, none⟩ = some (.int .i64 fr) := (blk_cell C1.out 1).trans rfl
  have s2 : w2.cell? ⟨w.heap.size + 1, 2, none⟩ = some (.int .i64 l) := (blk_cell C1.out 2).trans rfl
  have s3 : w2.cell? ⟨w.heap.size + 1, 3, none⟩ = some (.int .i64 du) := (blk_cell C1.out 3).trans rfl
  have r0 : w2.cell? ⟨w.heap.size + 1 + 1, 0, none⟩ = some (.int .i64 0) := (blk_cell C2.out 0).trans rfl
  have r1 : w2.cell? ⟨w.heap.size + 1 + 1, 1, none⟩ = some (.int .i64 0) := (blk_cell C2.out 1).trans rfl
  have r2 : w2.cell? ⟨w.heap.size + 1 + 1, 2, none⟩ = some (.int .i64 0) := (blk_cell C2.out 2).trans rfl
  have r3 : w2.cell? ⟨w.heap.size + 1 + 1, 3, none⟩ = some (.int .i64 0) := (blk_cell C2.out 3).trans rfl
  have g0 : w2.frozen? ⟨w.heap.size + 1 + 1, 0, none⟩ = false := blk_frozen C2.out 0
  have g1 : w2.frozen? ⟨w.heap.size + 1 + 1, 1, none⟩ = false := blk_frozen C2.out 1
  have g2 : w2.frozen? ⟨w.heap.size + 1 + 1, 2, none⟩ = false := blk_frozen C2.out 2
  have g3 : w2.frozen? ⟨w.heap.size + 1 + 1, 3, none⟩ = false := blk_frozen C2.out 3
  go_wp2_with (go_at_call 33; refine (check14_any w2 HL.out).mono ?_; rintro e w3 ⟨rfl, hb⟩; rw [HG.out]; have HC3 := Aside0.mk (HC.out.below hb); have HU3 := Aside0.mk (HU.out.then hb); have HN3 := Aside0.mk (Nat.le_trans HN.out hb.size); have HL3 : Aside0 (Kd.C k75 w3 A ls.length ls ∧ ls.length ≤ k) := ⟨⟨Kd.C_below HL.out.1 hb, HL.out.2⟩⟩; have n0 := Aside0.mk (blk_below C0.out hb); have n1 := Aside0.mk (blk_below C1.out hb); have n2 := Aside0.mk (blk_below C2.out hb); clear hb; clear C0 C1 C2 c0 c1 c2 c3 s0 s1 s2 s3 r0 r1 r2 r3 g0 g1 g2 g3; have C0 := n0; have C1 := n1; have C2 := n2; clear n0 n1 n2; have c0 : w3.cell? ⟨w.heap.size, 0, none⟩ = some (.int .i64 cal) := (blk_cell C0.out 0).trans rfl; have c1 : w3.cell? ⟨w.heap.size, 1, none⟩ = some (.slice A ls.length k) := (blk_cell C0.out 1).trans rfl; have c2 : w3.cell? ⟨w.heap.size, 2, none⟩ = some (.int .i64 re) := (blk_cell C0.out 2).trans rfl; have c3 : w3.cell? ⟨w.heap.size, 3, none⟩ = some (.int .i64 ba) := (blk_cell C0.out 3).trans rfl; have s0 : w3.cell? ⟨w.heap.size + 1, 0, none⟩ = some (.int .i64 lv) := (blk_cell C1.out 0).trans rfl; have s1 : w3.cell? ⟨w.heap.size + 1, 1, none⟩ = some (.int .i64 fr) := (blk_cell C1.out 1).trans rfl; have s2 : w3.cell? ⟨w.heap.size + 1, 2, none⟩ = some (.int .i64 l) := (blk_cell C1.out 2).trans rfl; have s3 : w3.cell? ⟨w.heap.size + 1, 3, none⟩ = some (.int .i64 du) := (blk_cell C1.out 3).trans rfl; have r0 : w3.cell? ⟨w.heap.size + 1 + 1, 0, none⟩ = some (.int .i64 0) := (blk_cell C2.out 0).trans rfl; have r1 : w3.cell? ⟨w.heap.size + 1 + 1, 1, none⟩ = some (.int .i64 0) := (blk_cell C2.out 1).trans rfl; have r2 : w3.cell? ⟨w.heap.size + 1 + 1, 2, none⟩ = some (.int .i64 0) := (blk_cell C2.out 2).trans rfl; have r3 : w3.cell? ⟨w.heap.size + 1 + 1, 3, none⟩ = some (.int .i64 0) := (blk_cell C2.out 3).trans rfl; have g0 : w3.frozen? ⟨w.heap.size + 1 + 1, 0, none⟩ = false := blk_frozen C2.out 0; have g1 : w3.frozen? ⟨w.heap.size + 1 + 1, 1, none⟩ = false := blk_frozen C2.out 1; have g2 : w3.frozen? ⟨w.heap.size + 1 + 1, 2, none⟩ = false := blk_frozen C2.out 2; have g3 : w3.frozen? ⟨w.heap.size + 1 + 1, 3, none⟩ = false := blk_frozen C2.out 3)
  obtain ⟨C9, U9, E9⟩ := put4 C2.out HC3.out HU3.out (by omega) (.int .i64 0) (.int .i64 0) (.int .i64 0) (.int .i64 0)
  have k0 := (blk_cell E9 0).trans (rfl : _ = some (Value.int .i64 0))
  have k1 := (blk_cell E9 1).trans (rfl : _ = some (Value.int .i64 0))
  have k2 := (blk_cell E9 2).trans (rfl : _ = some (Value.int .i64 0))
  have k3 := (blk_cell E9 3).trans (rfl : _ = some (Value.int .i64 0))
  refine bodyPost_ret (v := .tuple #[.agg #[.int .i64 0, .int .i64 0, .int .i64 0, .int .i64 0], .bool false, .int .i64 2]) (by simp [results, Try.results18, go_sem, k0, k1, k2, k3]) rfl ⟨rfl, C9, U9⟩
set_option maxHeartbeats 4000000 in
set_option maxRecDepth 100000 in
theorem next_last (cal re ba lv fr l du now : Int) (w : World) (h : ClkAt w n kb ab pb cb off week closed) (hn : n ≤ w.heap.size) (h1 : Kd.C k75 w A ls.length ls ∧ ls.length ≤ k) (hg : goodP cal ls re ba = true) (hx : 0 ≤ lv) (hy : lv < (ls.length : Int)) (hz : lv = (ls.length : Int) - 1) :
    Calls Try.prog 18 #[.pointer (some ⟨kb, 0, none⟩), .agg #[.int .i64 cal, .slice A ls.length k, .int .i64 re, .int .i64 ba], .agg #[.int .i64 lv, .int .i64 fr, .int .i64 l, .int .i64 du], .int .i64 now] w fun r w' => r = .returned (.tuple #[.agg #[.int .i64 0, .int .i64 0, .int .i64 0, .int .i64 0], .bool false, .int .i64 0]) ∧ ClkAt w' n kb ab pb cb off week closed ∧ Upd cb w w' := by
  have HG := Aside0.mk (show (if goodP cal ls re ba = true then (0 : Int) else 2) = 0 by rw [hg]; rfl)
  obtain ⟨gg, gl⟩ := goodP_iff.1 hg
  have p0 : 1 ≤ (ls.length : Int) := gg.2.2.1
  have p1 : (ls.length : Int) ≤ 6 := gg.2.2.2.1
  have hd : decide (lv < 0) = false := decide_eq_false (by omega)
  have hd2 : decide ((ls.length : Int) ≤ lv) = false := decide_eq_false (by omega)
  clear gg
  have he : (lv == (ls.length : Int) - 1) = true := by simpa using hz
  clear hg gl hz
  have hcb := h.lt
  have C0 : Aside0 ((((w.alloc (.cells #[.int .i64 cal, .slice A ls.length k, .int .i64 re, .int .i64 ba] 30)).alloc (.cells #[.int .i64 lv, .int .i64 fr, .int .i64 l, .int .i64 du] 26)).alloc (.cells #[.int .i64 0, .int .i64 0, .int .i64 0, .int .i64 0] 26)).heap[w.heap.size]? = some (.cells #[.int .i64 cal, .slice A ls.length k, .int .i64 re, .int .i64 ba] 30 (0, 0))) := ⟨blk_alloc (blk_alloc (blk_new w _) _) _⟩
  have C1 : Aside0 ((((w.alloc (.cells #[.int .i64 cal, .slice A ls.length k, .int .i64 re, .int .i64 ba] 30)).alloc (.cells #[.int .i64 lv, .int .i64 fr, .int .i64 l, .int .i64 du] 26)).alloc (.cells #[.int .i64 0, .int .i64 0, .int .i64 0, .int .i64 0] 26)).heap[w.heap.size + 1]? = some (.cells #[.int .i64 lv, .int .i64 fr, .int .i64 l, .int .i64 du] 26 (0, 0))) := ⟨blk_alloc (by simpa using blk_new (w.alloc (.cells #[.int .i64 cal, .slice A ls.length k, .int .i64 re, .int .i64 ba] 30)) (.cells #[.int .i64 lv, .int .i64 fr, .int .i64 l, .int .i64 du] 26)) _⟩
  have C2 : Aside0 ((((w.alloc (.cells #[.int .i64 cal, .slice A ls.length k, .int .i64 re, .int .i64 ba] 30)).alloc (.cells #[.int .i64 lv, .int .i64 fr, .int .i64 l, .int .i64 du] 26)).alloc (.cells #[.int .i64 0, .int .i64 0, .int .i64 0, .int .i64 0] 26)).heap[w.heap.size + 1 + 1]? = some (.cells #[.int .i64 0, .int .i64 0, .int .i64 0, .int .i64 0] 26 (0, 0))) := ⟨by simpa using blk_new ((w.alloc (.cells #[.int .i64 cal, .slice A ls.length k, .int .i64 re, .int .i64 ba] 30)).alloc (.cells #[.int .i64 lv, .int .i64 fr, .int .i64 l, .int .i64 du] 26)) (.cells #[.int .i64 0, .int .i64 0, .int .i64 0, .int .i64 0] 26)⟩
  have HB := below_alloc (below_alloc (below_alloc (Below.refl w.heap.size w) (.cells #[.int .i64 cal, .slice A ls.length k, .int .i64 re, .int .i64 ba] 30)) (.cells #[.int .i64 lv, .int .i64 fr, .int .i64 l, .int .i64 du] 26)) (.cells #[.int .i64 0, .int .i64 0, .int .i64 0, .int .i64 0] 26)
  have HC := Aside0.mk (h.below HB)
  have HU := Aside0.mk (Upd.of_below (b := cb) HB)
  have HN := Aside0.mk (Nat.le_trans hn HB.size)
  have HL : Aside0 (Kd.C k75 _ A ls.length ls ∧ ls.length ≤ k) := ⟨⟨Kd.C_below h1.1 HB, h1.2⟩⟩
  clear h HB h1
  go_enter Try.func18, Try.ntmps18
  go_wp2_with fail
  generalize (((w.alloc (.cells #[.int .i64 cal, .slice A ls.length k, .int .i64 re, .int .i64 ba] 30)).alloc (.cells #[.int .i64 lv, .int .i64 fr, .int .i64 l, .int .i64 du] 26)).alloc (.cells #[.int .i64 0, .int .i64 0, .int .i64 0, .int .i64 0] 26)) = w2 at C0 C1 C2 HC HU HN HL ⊢
  have c0 : w2.cell? ⟨w.heap.size, 0, none⟩ = some (.int .i64 cal) := (blk_cell C0.out 0).trans rfl
  have c1 : w2.cell? ⟨w.heap.size, 1, none⟩ = some (.slice A ls.length k) := (blk_cell C0.out 1).trans rfl
  have c2 : w2.cell? ⟨w.heap.size, 2, none⟩ = some (.int .i64 re) := (blk_cell C0.out 2).trans rfl
  have c3 : w2.cell? ⟨w.heap.size, 3, none⟩ = some (.int .i64 ba) := (blk_cell C0.out 3).trans rfl
  have s0 : w2.cell? ⟨w.heap.size + 1, 0, none⟩ = some (.int .i64 lv) := (blk_cell C1.out 0).trans rfl
  have s1 : w2.cell? ⟨w.heap.size + 1, 1, none⟩ = some (.int .i64 fr) := (blk_cell C1.out 1).trans rfl
  have s2 : w2.cell? ⟨w.heap.size + 1, 2, none⟩ = some (.int .i64 l) := (blk_cell C1.out 2).trans rfl
  have s3 : w2.cell? ⟨w.heap.size + 1, 3, none⟩ = some (.int .i64 du) := (blk_cell C1.out 3).trans rfl
  have r0 : w2.cell? ⟨w.heap.size + 1 + 1, 0, none⟩ = some (.int .i64 0) := (blk_cell C2.out 0).trans rfl
  have r1 : w2.cell? ⟨w.heap.size + 1 + 1, 1, none⟩ = some (.int .i64 0) := (blk_cell C2.out 1).trans rfl
  have r2 : w2.cell? ⟨w.heap.size + 1 + 1, 2, none⟩ = some (.int .i64 0) := (blk_cell C2.out 2).trans rfl
  have r3 : w2.cell? ⟨w.heap.size + 1 + 1, 3, none⟩ = some (.int .i64 0) := (blk_cell C2.out 3).trans rfl
  have g0 : w2.frozen? ⟨w.heap.size + 1 + 1, 0, none⟩ = false := blk_frozen C2.out 0
  have g1 : w2.frozen? ⟨w.heap.size + 1 + 1, 1, none⟩ = false := blk_frozen C2.out 1
  have g2 : w2.frozen? ⟨w.heap.size + 1 + 1, 2, none⟩ = false := blk_frozen C2.out 2
  have g3 : w2.frozen? ⟨w.heap.size + 1 + 1, 3, none⟩ = false := blk_frozen C2.out 3
  go_wp2_with (go_at_call 33; refine (check14_any w2 HL.out).mono ?_; rintro e w3 ⟨rfl, hb⟩; rw [HG.out]; have HC3 := Aside0.mk (HC.out.below hb); have HU3 := Aside0.mk (HU.out.then hb); have HN3 := Aside0.mk (Nat.le_trans HN.out hb.size); have HL3 : Aside0 (Kd.C k75 w3 A ls.length ls ∧ ls.length ≤ k) := ⟨⟨Kd.C_below HL.out.1 hb, HL.out.2⟩⟩; have n0 := Aside0.mk (blk_below C0.out hb); have n1 := Aside0.mk (blk_below C1.out hb); have n2 := Aside0.mk (blk_below C2.out hb); clear hb; clear C0 C1 C2 c0 c1 c2 c3 s0 s1 s2 s3 r0 r1 r2 r3 g0 g1 g2 g3; have C0 := n0; have C1 := n1; have C2 := n2; clear n0 n1 n2; have c0 : w3.cell? ⟨w.heap.size, 0, none⟩ = some (.int .i64 cal) := (blk_cell C0.out 0).trans rfl; have c1 : w3.cell? ⟨w.heap.size, 1, none⟩ = some (.slice A ls.length k) := (blk_cell C0.out 1).trans rfl; have c2 : w3.cell? ⟨w.heap.size, 2, none⟩ = some (.int .i64 re) := (blk_cell C0.out 2).trans rfl; have c3 : w3.cell? ⟨w.heap.size, 3, none⟩ = some (.int .i64 ba) := (blk_cell C0.out 3).trans rfl; have s0 : w3.cell? ⟨w.heap.size + 1, 0, none⟩ = some (.int .i64 lv) := (blk_cell C1.out 0).trans rfl; have s1 : w3.cell? ⟨w.heap.size + 1, 1, none⟩ = some (.int .i64 fr) := (blk_cell C1.out 1).trans rfl; have s2 : w3.cell? ⟨w.heap.size + 1, 2, none⟩ = some (.int .i64 l) := (blk_cell C1.out 2).trans rfl; have s3 : w3.cell? ⟨w.heap.size + 1, 3, none⟩ = some (.int .i64 du) := (blk_cell C1.out 3).trans rfl; have r0 : w3.cell? ⟨w.heap.size + 1 + 1, 0, none⟩ = some (.int .i64 0) := (blk_cell C2.out 0).trans rfl; have r1 : w3.cell? ⟨w.heap.size + 1 + 1, 1, none⟩ = some (.int .i64 0) := (blk_cell C2.out 1).trans rfl; have r2 : w3.cell? ⟨w.heap.size + 1 + 1, 2, none⟩ = some (.int .i64 0) := (blk_cell C2.out 2).trans rfl; have r3 : w3.cell? ⟨w.heap.size + 1 + 1, 3, none⟩ = some (.int .i64 0) := (blk_cell C2.out 3).trans rfl; have g0 : w3.frozen? ⟨w.heap.size + 1 + 1, 0, none⟩ = false := blk_frozen C2.out 0; have g1 : w3.frozen? ⟨w.heap.size + 1 + 1, 1, none⟩ = false := blk_frozen C2.out 1; have g2 : w3.frozen? ⟨w.heap.size + 1 + 1, 2, none⟩ = false := blk_frozen C2.out 2; have g3 : w3.frozen? ⟨w.heap.size + 1 + 1, 3, none⟩ = false := blk_frozen C2.out 3)
  obtain ⟨C9, U9, E9⟩ := put4 C2.out HC3.out HU3.out (by omega) (.int .i64 0) (.int .i64 0) (.int .i64 0) (.int .i64 0)
  have k0 := (blk_cell E9 0).trans (rfl : _ = some (Value.int .i64 0))
  have k1 := (blk_cell E9 1).trans (rfl : _ = some (Value.int .i64 0))
  have k2 := (blk_cell E9 2).trans (rfl : _ = some (Value.int .i64 0))
  have k3 := (blk_cell E9 3).trans (rfl : _ = some (Value.int .i64 0))
  refine bodyPost_ret (v := .tuple #[.agg #[.int .i64 0, .int .i64 0, .int .i64 0, .int .i64 0], .bool false, .int .i64 0]) (by simp [results, Try.results18, go_sem, k0, k1, k2, k3]) rfl ⟨rfl, C9, U9⟩
set_option maxHeartbeats 4000000 in
set_option maxRecDepth 100000 in
theorem next_main (cal re ba lv fr l du now : Int) (w : World) (h : ClkAt w n kb ab pb cb off week closed) (hn : n ≤ w.heap.size) (h1 : Kd.C k75 w A ls.length ls ∧ ls.length ≤ k) (hg : goodP cal ls re ba = true) (hx : 0 ≤ lv) (hy : lv < (ls.length : Int)) (hz : lv ≠ (ls.length : Int) - 1) (a b c d e : Int) (ha : atS off week closed (lv + 1) (rd_T75 ls (lv + 1)).f0 now = (a, b, c, d, e)) :
    Calls Try.prog 18 #[.pointer (some ⟨kb, 0, none⟩), .agg #[.int .i64 cal, .slice A ls.length k, .int .i64 re, .int .i64 ba], .agg #[.int .i64 lv, .int .i64 fr, .int .i64 l, .int .i64 du], .int .i64 now] w fun r w' => r = .returned (.tuple #[.agg #[.int .i64 a, .int .i64 b, .int .i64 c, .int .i64 d], .bool (e == 0), .int .i64 e]) ∧ ClkAt w' n kb ab pb cb off week closed ∧ Upd cb w w' := by
  have HG := Aside0.mk (show (if goodP cal ls re ba = true then (0 : Int) else 2) = 0 by rw [hg]; rfl)
  obtain ⟨gg, gl⟩ := goodP_iff.1 hg
  have p0 : 1 ≤ (ls.length : Int) := gg.2.2.1
  have p1 : (ls.length : Int) ≤ 6 := gg.2.2.2.1
  have hd : decide (lv < 0) = false := decide_eq_false (by omega)
  have hd2 : decide ((ls.length : Int) ≤ lv) = false := decide_eq_false (by omega)
  clear gg
  have he : (lv == (ls.length : Int) - 1) = false := by simpa using hz
  have q0 : 0 ≤ lv + 1 := by omega
  have q1 : lv + 1 < (ls.length : Int) := by omega
  have hm := gl (rd_T75 ls ((lv.toNat + 1 : Nat) : Int)) (by rw [rdL_at ls (lv.toNat + 1) (by omega)]; exact List.getElem_mem _)
  rw [show ((lv.toNat + 1 : Nat) : Int) = lv + 1 by omega] at hm
  obtain ⟨b0, b1, _, _⟩ := hm
  obtain ⟨ad, e1, hx0, hx1⟩ := at_T75 h1.1 (lv + 1) q0 q1
  subst e1
  generalize (rd_T75 ls (lv + 1)).f0 = B at ha b0 b1 hx0
  have HA := Aside0.mk ha
  have HX : Aside0 (w.cell? (ad.add ((lv + 1).toNat * 2)) = some (.int .i64 B)) := ⟨hx0⟩
  have hw : wrap64 (lv + 1) = lv + 1 := wrap_id (by omega) (by omega)
  clear hg gl hx0 hx1 ha hz
  have hcb := h.lt
  have C0 : Aside0 ((((w.alloc (.cells #[.int .i64 cal, .slice (some ad) ls.length k, .int .i64 re, .int .i64 ba] 30)).alloc (.cells #[.int .i64 lv, .int .i64 fr, .int .i64 l, .int .i64 du] 26)).alloc (.cells #[.int .i64 0, .int .i64 0, .int .i64 0, .int .i64 0] 26)).heap[w.heap.size]? = some (.cells #[.int .i64 cal, .slice (some ad) ls.length k, .int .i64 re, .int .i64 ba] 30 (0, 0))) := ⟨blk_alloc (blk_alloc (blk_new w _) _) _⟩
  have C1 : Aside0 ((((w.alloc (.cells #[.int .i64 cal, .slice (some ad) ls.length k, .int .i64 re, .int .i64 ba] 30)).alloc (.cells #[.int .i64 lv, .int .i64 fr, .int .i64 l, .int .i64 du] 26)).alloc (.cells #[.int .i64 0, .int .i64 0, .int .i64 0, .int .i64 0] 26)).heap[w.heap.size + 1]? = some (.cells #[.int .i64 lv, .int .i64 fr, .int .i64 l, .int .i64 du] 26 (0, 0))) := ⟨blk_alloc (by simpa using blk_new (w.alloc (.cells #[.int .i64 cal, .slice (some ad) ls.length k, .int .i64 re, .int .i64 ba] 30)) (.cells #[.int .i64 lv, .int .i64 fr, .int .i64 l, .int .i64 du] 26)) _⟩
  have C2 : Aside0 ((((w.alloc (.cells #[.int .i64 cal, .slice (some ad) ls.length k, .int .i64 re, .int .i64 ba] 30)).alloc (.cells #[.int .i64 lv, .int .i64 fr, .int .i64 l, .int .i64 du] 26)).alloc (.cells #[.int .i64 0, .int .i64 0, .int .i64 0, .int .i64 0] 26)).heap[w.heap.size + 1 + 1]? = some (.cells #[.int .i64 0, .int .i64 0, .int .i64 0, .int .i64 0] 26 (0, 0))) := ⟨by simpa using blk_new ((w.alloc (.cells #[.int .i64 cal, .slice (some ad) ls.length k, .int .i64 re, .int .i64 ba] 30)).alloc (.cells #[.int .i64 lv, .int .i64 fr, .int .i64 l, .int .i64 du] 26)) (.cells #[.int .i64 0, .int .i64 0, .int .i64 0, .int .i64 0] 26)⟩
  have HB := below_alloc (below_alloc (below_alloc (Below.refl w.heap.size w) (.cells #[.int .i64 cal, .slice (some ad) ls.length k, .int .i64 re, .int .i64 ba] 30)) (.cells #[.int .i64 lv, .int .i64 fr, .int .i64 l, .int .i64 du] 26)) (.cells #[.int .i64 0, .int .i64 0, .int .i64 0, .int .i64 0] 26)
  have HC := Aside0.mk (h.below HB)
  have HU := Aside0.mk (Upd.of_below (b := cb) HB)
  have HN := Aside0.mk (Nat.le_trans hn HB.size)
  have HL : Aside0 (Kd.C k75 _ (some ad) ls.length ls ∧ ls.length ≤ k) := ⟨⟨Kd.C_below h1.1 HB, h1.2⟩⟩
  have X0 := Aside0.mk ((HB.cell (World.block_lt_of_cell? w _ HX.out)).trans HX.out)
  clear h HB h1 HX
  go_enter Try.func18, Try.ntmps18
  go_wp2_with fail
  generalize (((w.alloc (.cells #[.int .i64 cal, .slice (some ad) ls.length k, .int .i64 re, .int .i64 ba] 30)).alloc (.cells #[.int .i64 lv, .int .i64 fr, .int .i64 l, .int .i64 du] 26)).alloc (.cells #[.int .i64 0, .int .i64 0, .int .i64 0, .int .i64 0] 26)) = w2 at C0 C1 C2 HC HU HN HL X0 ⊢
  have c0 : w2.cell? ⟨w.heap.size, 0, none⟩ = some (.int .i64 cal) := (blk_cell C0.out 0).trans rfl
  have c1 : w2.cell? ⟨w.heap.size, 1, none⟩ = some (.slice (some ad) ls.length k) := (blk_cell C0.out 1).trans rfl
  have c2 : w2.cell? ⟨w.heap.size, 2, none⟩ = some (.int .i64 re) := (blk_cell C0.out 2).trans rfl
  have c3 : w2.cell? ⟨w.heap.size, 3, none⟩ = some (.int .i64 ba) := (blk_cell C0.out 3).trans rfl
  have s0 : w2.cell? ⟨w.heap.size + 1, 0, none⟩ = some (.int .i64 lv) := (blk_cell C1.out 0).trans rfl
  have s1 : w2.cell? ⟨w.heap.size + 1, 1, none⟩ = some (.int .i64 fr) := (blk_cell C1.out 1).trans rfl
  have s2 : w2.cell? ⟨w.heap.size + 1, 2, none⟩ = some (.int .i64 l) := (blk_cell C1.out 2).trans rfl
  have s3 : w2.cell? ⟨w.heap.size + 1, 3, none⟩ = some (.int .i64 du) := (blk_cell C1.out 3).trans rfl
  have r0 : w2.cell? ⟨w.heap.size + 1 + 1, 0, none⟩ = some (.int .i64 0) := (blk_cell C2.out 0).trans rfl
  have r1 : w2.cell? ⟨w.heap.size + 1 + 1, 1, none⟩ = some (.int .i64 0) := (blk_cell C2.out 1).trans rfl
  have r2 : w2.cell? ⟨w.heap.size + 1 + 1, 2, none⟩ = some (.int .i64 0) := (blk_cell C2.out 2).trans rfl
  have r3 : w2.cell? ⟨w.heap.size + 1 + 1, 3, none⟩ = some (.int .i64 0) := (blk_cell C2.out 3).trans rfl
  have g0 : w2.frozen? ⟨w.heap.size + 1 + 1, 0, none⟩ = false := blk_frozen C2.out 0
  have g1 : w2.frozen? ⟨w.heap.size + 1 + 1, 1, none⟩ = false := blk_frozen C2.out 1
  have g2 : w2.frozen? ⟨w.heap.size + 1 + 1, 2, none⟩ = false := blk_frozen C2.out 2
  have g3 : w2.frozen? ⟨w.heap.size + 1 + 1, 3, none⟩ = false := blk_frozen C2.out 3
  go_wp2_with (go_at_call 33; refine (check14_any w2 HL.out).mono ?_; rintro e w3 ⟨rfl, hb⟩; rw [HG.out]; have HC3 := Aside0.mk (HC.out.below hb); have HU3 := Aside0.mk (HU.out.then hb); have HN3 := Aside0.mk (Nat.le_trans HN.out hb.size); have HL3 : Aside0 (Kd.C k75 w3 (some ad) ls.length ls ∧ ls.length ≤ k) := ⟨⟨Kd.C_below HL.out.1 hb, HL.out.2⟩⟩; have n0 := Aside0.mk (blk_below C0.out hb); have n1 := Aside0.mk (blk_below C1.out hb); have n2 := Aside0.mk (blk_below C2.out hb); have X3 := Aside0.mk ((hb.cell (World.block_lt_of_cell? w2 _ X0.out)).trans X0.out); clear hb X0; clear C0 C1 C2 c0 c1 c2 c3 s0 s1 s2 s3 r0 r1 r2 r3 g0 g1 g2 g3; have C0 := n0; have C1 := n1; have C2 := n2; clear n0 n1 n2; have c0 : w3.cell? ⟨w.heap.size, 0, none⟩ = some (.int .i64 cal) := (blk_cell C0.out 0).trans rfl; have c1 : w3.cell? ⟨w.heap.size, 1, none⟩ = some (.slice (some ad) ls.length k) := (blk_cell C0.out 1).trans rfl; have c2 : w3.cell? ⟨w.heap.size, 2, none⟩ = some (.int .i64 re) := (blk_cell C0.out 2).trans rfl; have c3 : w3.cell? ⟨w.heap.size, 3, none⟩ = some (.int .i64 ba) := (blk_cell C0.out 3).trans rfl; have s0 : w3.cell? ⟨w.heap.size + 1, 0, none⟩ = some (.int .i64 lv) := (blk_cell C1.out 0).trans rfl; have s1 : w3.cell? ⟨w.heap.size + 1, 1, none⟩ = some (.int .i64 fr) := (blk_cell C1.out 1).trans rfl; have s2 : w3.cell? ⟨w.heap.size + 1, 2, none⟩ = some (.int .i64 l) := (blk_cell C1.out 2).trans rfl; have s3 : w3.cell? ⟨w.heap.size + 1, 3, none⟩ = some (.int .i64 du) := (blk_cell C1.out 3).trans rfl; have r0 : w3.cell? ⟨w.heap.size + 1 + 1, 0, none⟩ = some (.int .i64 0) := (blk_cell C2.out 0).trans rfl; have r1 : w3.cell? ⟨w.heap.size + 1 + 1, 1, none⟩ = some (.int .i64 0) := (blk_cell C2.out 1).trans rfl; have r2 : w3.cell? ⟨w.heap.size + 1 + 1, 2, none⟩ = some (.int .i64 0) := (blk_cell C2.out 2).trans rfl; have r3 : w3.cell? ⟨w.heap.size + 1 + 1, 3, none⟩ = some (.int .i64 0) := (blk_cell C2.out 3).trans rfl; have g0 : w3.frozen? ⟨w.heap.size + 1 + 1, 0, none⟩ = false := blk_frozen C2.out 0; have g1 : w3.frozen? ⟨w.heap.size + 1 + 1, 1, none⟩ = false := blk_frozen C2.out 1; have g2 : w3.frozen? ⟨w.heap.size + 1 + 1, 2, none⟩ = false := blk_frozen C2.out 2; have g3 : w3.frozen? ⟨w.heap.size + 1 + 1, 3, none⟩ = false := blk_frozen C2.out 3)
  have hb4 : Below w3.heap.size w3 w3.drew := below_drew1 (Below.refl _ _)
  have HC4 := Aside0.mk (HC3.out.below hb4)
  have HU4 := Aside0.mk (HU3.out.then hb4)
  have HN4 : Aside0 (n ≤ w3.drew.heap.size) := ⟨HN3.out⟩
  have D0 := Aside0.mk (blk_below C0.out hb4)
  have D1 := Aside0.mk (blk_below C1.out hb4)
  have D2 := Aside0.mk (blk_below C2.out hb4)
  have z0 : w3.drew.cell? ⟨w.heap.size + 1, 0, none⟩ = some (.int .i64 lv) := (blk_cell D1.out 0).trans rfl
  have z1 : w3.drew.cell? ⟨w.heap.size, 1, none⟩ = some (.slice (some ad) ls.length k) := (blk_cell D0.out 1).trans rfl
  have z2 : w3.drew.cell? (ad.add ((lv + 1).toNat * 2)) = some (.int .i64 B) := X3.out
  clear hb4 C0 C1 C2 HC3 HU3 HN3 X3 c0 c1 c2 c3 s0 s1 s2 s3 r0 r1 r2 r3 g0 g1 g2 g3
  refine start_ (n := 20) (S := fun w' => w'.cell? ⟨w.heap.size + 1, 0, none⟩ = some (.int .i64 lv) ∧ w'.cell? ⟨w.heap.size, 1, none⟩ = some (.slice (some ad) ls.length k) ∧ w'.cell? (ad.add ((lv + 1).toNat * 2)) = some (.int .i64 B)) (ds := [14, 18]) #[false, false, false, false, false, false, false, false, false, false, false, false, false, false, false, false, false, false, false, false] (by kernel_rfl) rfl rfl ⟨z0, z1, z2⟩ (fun hHeld => ?_); refine with_tabW next_tab9 next_bits9 (fun HT_ HW_ => ?_)
  clear z0 z1 z2
  generalize w3.drew = w4 at HC4 HU4 HN4 D0 D1 D2 hHeld ⊢
  refine pure_ (i := 0) (N := some 45) (v := ?_) (a' := ?_) #[true, false, false, false, false, false, false, false, false, false, false, false, false, false, false, false, false, false, false, false] rfl rfl (any_of HT_.out (by kernel_rfl)) (fun _ _ _ h => h) (Or.inl ⟨by rfl, ?_⟩) ?_ ?_
  rotate_left
  · intro w'
    go_simp
    with_reducible rfl
  rotate_left
  · simp only [Act.put, List.setIfInBounds_toArray, List.set_cons_zero, List.set_cons_succ, i64_w, i32_w]
    rfl
  refine pure_ (i := 3) (N := some 48) (v := ?_) (a' := ?_) #[true, false, false, true, false, false, false, false, false, false, false, false, false, false, false, false, false, false, false, false] rfl rfl (any_of HT_.out (by kernel_rfl)) (fun _ _ _ h => h) (Or.inl ⟨by rfl, ?_⟩) ?_ ?_
  rotate_left
  · intro w'
    go_simp
    with_reducible rfl
  rotate_left
  · simp only [Act.put, List.setIfInBounds_toArray, List.set_cons_zero, List.set_cons_succ, i64_w, i32_w]
    rfl
  refine pure_ (i := 5) (N := some 50) (v := ?_) (a' := ?_) #[true, false, false, true, false, true, false, false, false, false, false, false, false, false, false, false, false, false, false, false] rfl rfl (any_of HT_.out (by kernel_rfl)) (fun _ _ _ h => h) (Or.inl ⟨by rfl, ?_⟩) ?_ ?_
  rotate_left
  · intro w'
    go_simp
    with_reducible rfl
  rotate_left
  · simp only [Act.put, List.setIfInBounds_toArray, List.set_cons_zero, List.set_cons_succ, i64_w, i32_w]
    rfl
  refine pure_ (i := 12) (N := some 57) (v := ?_) (a' := ?_) #[true, false, false, true, false, true, false, false, false, false, false, false, true, false, false, false, false, false, false, false] rfl rfl (any_of HT_.out (by kernel_rfl)) (fun _ _ _ h => h) (Or.inl ⟨by rfl, ?_⟩) ?_ ?_
  rotate_left
  · intro w'
    go_simp
    with_reducible rfl
  rotate_left
  · simp only [Act.put, List.setIfInBounds_toArray, List.set_cons_zero, List.set_cons_succ, i64_w, i32_w]
    rfl
  refine pure_ (i := 13) (N := some 58) (v := ?_) (a' := ?_) #[true, false, false, true, false, true, false, false, false, false, false, false, true, true, false, false, false, false, false, false] rfl rfl (any_of HT_.out (by kernel_rfl)) (fun _ _ _ h => h) (Or.inl ⟨by rfl, ?_⟩) ?_ ?_
  rotate_left
  · intro w'
    go_simp
    with_reducible rfl
  rotate_left
  · simp only [Act.put, List.setIfInBounds_toArray, List.set_cons_zero, List.set_cons_succ, i64_w, i32_w]
    rfl
  refine take_ (i := 1) (N := some 46) (v := ?_) (a' := ?_) #[true, true, false, true, false, true, false, false, false, false, false, false, true, true, false, false, false, false, false, false] rfl rfl (take_ofW HT_.out HW_.out (by kernel_rfl)) (fun _ _ _ h => h) (Or.inl ⟨by rfl, ?_⟩) hHeld ?_ ?_
  rotate_left
  · rintro w' ⟨s0, s1, s2⟩
    go_simp
    with_reducible rfl
  rotate_left
  · simp only [Act.put, List.setIfInBounds_toArray, List.set_cons_zero, List.set_cons_succ, i64_w, i32_w]
    rfl
  refine pure_ (i := 2) (N := some 47) (v := ?_) (a' := ?_) #[true, true, true, true, false, true, false, false, false, false, false, false, true, true, false, false, false, false, false, false] rfl rfl (any_of HT_.out (by kernel_rfl)) (fun _ _ _ h => h) (Or.inl ⟨by rfl, ?_⟩) ?_ ?_
  rotate_left
  · intro w'
    go_simp
    with_reducible rfl
  rotate_left
  · simp only [Act.put, List.setIfInBounds_toArray, List.set_cons_zero, List.set_cons_succ, i64_w, i32_w]
    rfl
  refine take_ (i := 4) (N := some 49) (v := ?_) (a' := ?_) #[true, true, true, true, true, true, false, false, false, false, false, false, true, true, false, false, false, false, false, false] rfl rfl (take_ofW HT_.out HW_.out (by kernel_rfl)) (fun _ _ _ h => h) (Or.inl ⟨by rfl, ?_⟩) hHeld ?_ ?_
  rotate_left
  · rintro w' ⟨s0, s1, s2⟩
    go_simp
    with_reducible rfl
  rotate_left
  · simp only [Act.put, List.setIfInBounds_toArray, List.set_cons_zero, List.set_cons_succ, i64_w, i32_w]
    rfl
  refine take_ (i := 6) (N := some 51) (v := ?_) (a' := ?_) #[true, true, true, true, true, true, true, false, false, false, false, false, true, true, false, false, false, false, false, false] rfl rfl (take_ofW HT_.out HW_.out (by kernel_rfl)) (fun _ _ _ h => h) (Or.inl ⟨by rfl, ?_⟩) hHeld ?_ ?_
  rotate_left
  · rintro w' ⟨s0, s1, s2⟩
    go_simp
    with_reducible rfl
  rotate_left
  · simp only [Act.put, List.setIfInBounds_toArray, List.set_cons_zero, List.set_cons_succ, i64_w, i32_w]
    rfl
  refine pure_ (i := 7) (N := some 52) (v := ?_) (a' := ?_) #[true, true, true, true, true, true, true, true, false, false, false, false, true, true, false, false, false, false, false, false] rfl rfl (any_of HT_.out (by kernel_rfl)) (fun _ _ _ h => h) (Or.inl ⟨by rfl, ?_⟩) ?_ ?_
  rotate_left
  · intro w'
    go_simp
    with_reducible rfl
  rotate_left
  · simp only [Act.put, List.setIfInBounds_toArray, List.set_cons_zero, List.set_cons_succ, i64_w, i32_w]
    rfl
  refine pure_ (i := 8) (N := some 53) (v := ?_) (a' := ?_) #[true, true, true, true, true, true, true, true, true, false, false, false, true, true, false, false, false, false, false, false] rfl rfl (any_of HT_.out (by kernel_rfl)) (fun _ _ _ h => h) (Or.inl ⟨by rfl, ?_⟩) ?_ ?_
  rotate_left
  · intro w'
    go_simp
    with_reducible rfl
  rotate_left
  · simp only [Act.put, List.setIfInBounds_toArray, List.set_cons_zero, List.set_cons_succ, i64_w, i32_w]
    rfl
  refine pure_ (i := 9) (N := some 54) (v := ?_) (a' := ?_) #[true, true, true, true, true, true, true, true, true, true, false, false, true, true, false, false, false, false, false, false] rfl rfl (any_of HT_.out (by kernel_rfl)) (fun _ _ _ h => h) (Or.inl ⟨by rfl, ?_⟩) ?_ ?_
  rotate_left
  · intro w'
    go_simp
    with_reducible rfl
  rotate_left
  · simp only [Act.put, List.setIfInBounds_toArray, List.set_cons_zero, List.set_cons_succ, i64_w, i32_w]
    rfl
  refine take_ (i := 10) (N := some 55) (v := ?_) (a' := ?_) #[true, true, true, true, true, true, true, true, true, true, true, false, true, true, false, false, false, false, false, false] rfl rfl (take_ofW HT_.out HW_.out (by kernel_rfl)) (fun _ _ _ h => h) (Or.inl ⟨by rfl, ?_⟩) hHeld ?_ ?_
  rotate_left
  · rintro w' ⟨s0, s1, s2⟩
    go_simp
    with_reducible rfl
  rotate_left
  · simp only [Act.put, List.setIfInBounds_toArray, List.set_cons_zero, List.set_cons_succ, i64_w, i32_w]
    rfl
  refine pure_ (i := 11) (N := some 56) (v := ?_) (a' := ?_) #[true, true, true, true, true, true, true, true, true, true, true, true, true, true, false, false, false, false, false, false] rfl rfl (any_of HT_.out (by kernel_rfl)) (fun _ _ _ h => h) (Or.inl ⟨by rfl, ?_⟩) ?_ ?_
  rotate_left
  · intro w'
    go_simp
    with_reducible rfl
  rotate_left
  · simp only [Act.put, List.setIfInBounds_toArray, List.set_cons_zero, List.set_cons_succ, i64_w, i32_w]
    rfl
  refine last_ (i := 14) (N := some 59) #[true, true, true, true, true, true, true, true, true, true, true, true, true, true, true, false, false, false, false, false] rfl rfl (one_of HT_.out (by kernel_rfl)) (by decide) (fun K hK => ?_)
  refine goes_ Try.func31 (by kernel_rfl) rfl #[.agg #[.int .i64 (lv + 1), .int .i64 0, .int .i64 B, .int .i64 0], .pointer (some ⟨kb, 0, none⟩), .int .i64 now] (by rfl) rfl rfl (by (try simp only [List.map_toArray, List.map_cons, List.map_nil]); first | done | rfl) ?_
  refine (stepat_any (lv + 1) 0 B 0 now a b c d e _ HC4.out HN4.out (by omega) HA.out).mono ?_
  rintro e w5 ⟨rfl, CK, UK⟩
  refine ⟨_, rfl, ?_⟩
  have HC5 := Aside0.mk CK
  have HU5 := Aside0.mk (HU4.out.trans UK)
  have E1 := Aside0.mk (UK.blk D1.out (by omega))
  have E2 := Aside0.mk (UK.blk D2.out (by omega))
  clear CK UK
  have u0 : w5.cell? ⟨w.heap.size + 1, 0, none⟩ = some (.int .i64 lv) := (blk_cell E1.out 0).trans rfl
  have u1 : w5.cell? ⟨w.heap.size + 1, 1, none⟩ = some (.int .i64 fr) := (blk_cell E1.out 1).trans rfl
  have u2 : w5.cell? ⟨w.heap.size + 1, 2, none⟩ = some (.int .i64 l) := (blk_cell E1.out 2).trans rfl
  have u3 : w5.cell? ⟨w.heap.size + 1, 3, none⟩ = some (.int .i64 du) := (blk_cell E1.out 3).trans rfl
  have f0 : w5.frozen? ⟨w.heap.size + 1, 0, none⟩ = false := blk_frozen E1.out 0
  have f1 : w5.frozen? ⟨w.heap.size + 1, 1, none⟩ = false := blk_frozen E1.out 1
  have f2 : w5.frozen? ⟨w.heap.size + 1, 2, none⟩ = false := blk_frozen E1.out 2
  have f3 : w5.frozen? ⟨w.heap.size + 1, 3, none⟩ = false := blk_frozen E1.out 3
  refine hK.out _ _ ?_
  clear hK K
  refine norm_ (a' := ?_) ?_ ?_
  rotate_left
  · show Act.put _ (some 59) _ = _
    simp only [Act.put, List.setIfInBounds_toArray, List.set_cons_zero, List.set_cons_succ, i64_w, i32_w]
    rfl
  refine pure_ (i := 15) (N := some 44) (v := ?_) (a' := ?_) #[true, true, true, true, true, true, true, true, true, true, true, true, true, true, true, true, false, false, false, false] rfl rfl (any_of HT_.out (by kernel_rfl)) (fun _ _ _ h => h) (Or.inl ⟨by rfl, ?_⟩) ?_ ?_
  rotate_left
  · intro w'
    go_simp
    with_reducible rfl
  rotate_left
  · simp only [Act.put, List.setIfInBounds_toArray, List.set_cons_zero, List.set_cons_succ, i64_w, i32_w]
    rfl
  refine pure_ (i := 16) (N := some 60) (v := ?_) (a' := ?_) #[true, true, true, true, true, true, true, true, true, true, true, true, true, true, true, true, true, false, false, false] rfl rfl (any_of HT_.out (by kernel_rfl)) (fun _ _ _ h => h) (Or.inl ⟨by rfl, ?_⟩) ?_ ?_
  rotate_left
  · intro w'
    go_simp
    with_reducible rfl
  rotate_left
  · simp only [Act.put, List.setIfInBounds_toArray, List.set_cons_zero, List.set_cons_succ, i64_w, i32_w]
    rfl
  refine pure_ (i := 17) (N := some 61) (v := ?_) (a' := ?_) #[true, true, true, true, true, true, true, true, true, true, true, true, true, true, true, true, true, true, false, false] rfl rfl (any_of HT_.out (by kernel_rfl)) (fun _ _ _ h => h) (Or.inl ⟨by rfl, ?_⟩) ?_ ?_
  rotate_left
  · intro w'
    go_simp
    with_reducible rfl
  rotate_left
  · simp only [Act.put, List.setIfInBounds_toArray, List.set_cons_zero, List.set_cons_succ, i64_w, i32_w]
    rfl
  refine last_ (i := 18) (N := none) #[true, true, true, true, true, true, true, true, true, true, true, true, true, true, true, true, true, true, true, false] rfl rfl (one_of HT_.out (by kernel_rfl)) (by decide) (fun K hK => ?_)
  refine skip_ (w1 := ?_) (by rfl) rfl ?_ ?_
  rotate_left 1
  · go_simp
    rfl
  refine hK.out _ _ ?_
  clear hK K
  refine pure_ (i := 19) (N := some 11) (v := ?_) (a' := ?_) #[true, true, true, true, true, true, true, true, true, true, true, true, true, true, true, true, true, true, true, true] rfl rfl (any_of HT_.out (by kernel_rfl)) (fun _ _ _ h => h) (Or.inl ⟨by rfl, ?_⟩) ?_ ?_
  rotate_left
  · intro w'
    go_simp
    with_reducible rfl
  rotate_left
  · simp only [Act.put, List.setIfInBounds_toArray, List.set_cons_zero, List.set_cons_succ, i64_w, i32_w]
    rfl
  refine done_ (done_of HT_.out (by kernel_rfl)) ?_
  clear HT_ HW_ hHeld u0 u1 u2 u3 f0 f1 f2 f3
  obtain ⟨C6, U6, E6⟩ := put4 E1.out HC5.out HU5.out (by omega) (.int .i64 a) (.int .i64 b) (.int .i64 c) (.int .i64 d)
  have HC6 := Aside0.mk C6
  have HU6 := Aside0.mk U6
  have C1 := Aside0.mk E6
  have C2 := Aside0.mk (far4 (b := w.heap.size + 1) E2.out (by omega) (.int .i64 a) (.int .i64 b) (.int .i64 c) (.int .i64 d))
  clear C6 U6 E6
  generalize ((((w5.setCell ⟨w.heap.size + 1, 0, none⟩ (.int .i64 a)).setCell ⟨w.heap.size + 1, 1, none⟩ (.int .i64 b)).setCell ⟨w.heap.size + 1, 2, none⟩ (.int .i64 c)).setCell ⟨w.heap.size + 1, 3, none⟩ (.int .i64 d)) = w6 at HC6 HU6 C1 C2 ⊢
  have s0 : w6.cell? ⟨w.heap.size + 1, 0, none⟩ = some (.int .i64 a) := (blk_cell C1.out 0).trans rfl
  have s1 : w6.cell? ⟨w.heap.size + 1, 1, none⟩ = some (.int .i64 b) := (blk_cell C1.out 1).trans rfl
  have s2 : w6.cell? ⟨w.heap.size + 1, 2, none⟩ = some (.int .i64 c) := (blk_cell C1.out 2).trans rfl
  have s3 : w6.cell? ⟨w.heap.size + 1, 3, none⟩ = some (.int .i64 d) := (blk_cell C1.out 3).trans rfl
  have r0 : w6.cell? ⟨w.heap.size + 1 + 1, 0, none⟩ = some (.int .i64 0) := (blk_cell C2.out 0).trans rfl
  have r1 : w6.cell? ⟨w.heap.size + 1 + 1, 1, none⟩ = some (.int .i64 0) := (blk_cell C2.out 1).trans rfl
  have r2 : w6.cell? ⟨w.heap.size + 1 + 1, 2, none⟩ = some (.int .i64 0) := (blk_cell C2.out 2).trans rfl
  have r3 : w6.cell? ⟨w.heap.size + 1 + 1, 3, none⟩ = some (.int .i64 0) := (blk_cell C2.out 3).trans rfl
  have g0 : w6.frozen? ⟨w.heap.size + 1 + 1, 0, none⟩ = false := blk_frozen C2.out 0
  have g1 : w6.frozen? ⟨w.heap.size + 1 + 1, 1, none⟩ = false := blk_frozen C2.out 1
  have g2 : w6.frozen? ⟨w.heap.size + 1 + 1, 2, none⟩ = false := blk_frozen C2.out 2
  have g3 : w6.frozen? ⟨w.heap.size + 1 + 1, 3, none⟩ = false := blk_frozen C2.out 3
  go_wp2
  obtain ⟨C9, U9, E9⟩ := put4 C2.out HC6.out HU6.out (by omega) (.int .i64 a) (.int .i64 b) (.int .i64 c) (.int .i64 d)
  have k0 := (blk_cell E9 0).trans (rfl : _ = some (Value.int .i64 a))
  have k1 := (blk_cell E9 1).trans (rfl : _ = some (Value.int .i64 b))
  have k2 := (blk_cell E9 2).trans (rfl : _ = some (Value.int .i64 c))
  have k3 := (blk_cell E9 3).trans (rfl : _ = some (Value.int .i64 d))
  refine bodyPost_ret (v := .tuple #[.agg #[.int .i64 a, .int .i64 b, .int .i64 c, .int .i64 d], .bool (e == 0), .int .i64 e]) (by simp [results, Try.results18, go_sem, k0, k1, k2, k3]) rfl ⟨rfl, C9, U9⟩
theorem stepnext_any (cal re ba lv fr l du now a b c d e : Int) (m : Bool) (w : World) (h : ClkAt w n kb ab pb cb off week closed) (hn : n ≤ w.heap.size) (h1 : Kd.C k75 w A ls.length ls ∧ ls.length ≤ k) (hd : nextP off week closed cal ls re ba lv now = (a, b, c, d, e)) (hm : moreP off week closed cal ls re ba lv now = m) :
    Calls Try.prog 18 #[.pointer (some ⟨kb, 0, none⟩), .agg #[.int .i64 cal, .slice A ls.length k, .int .i64 re, .int .i64 ba], .agg #[.int .i64 lv, .int .i64 fr, .int .i64 l, .int .i64 du], .int .i64 now] w fun r w' => r = .returned (.tuple #[.agg #[.int .i64 a, .int .i64 b, .int .i64 c, .int .i64 d], .bool m, .int .i64 e]) ∧ ClkAt w' n kb ab pb cb off week closed ∧ Upd cb w w' := by
  subst hm
  have hm : moreP off week closed cal ls re ba lv now = (decide (e = 0) && decide (lv ≠ (ls.length : Int) - 1)) := by unfold moreP; rw [hd]
  rw [hm]
  clear hm
  unfold nextP at hd
  by_cases h0 : goodP cal ls re ba = true
  · by_cases h2 : lv < 0
    · rw [if_neg (by omega)] at hd; cases hd
      exact next_lo cal re ba lv fr l du now w h hn h1 h0 h2
    · by_cases h3 : (ls.length : Int) ≤ lv
      · rw [if_neg (by omega)] at hd; cases hd
        exact next_hi cal re ba lv fr l du now w h hn h1 h0 (by omega) h3
      · rw [if_pos ⟨h0, by omega, by omega⟩] at hd
        by_cases h4 : lv = (ls.length : Int) - 1
        · rw [if_pos h4] at hd; cases hd
          rw [decide_eq_false (p := lv ≠ _) (by simpa using h4), Bool.and_false]
          exact next_last cal re ba lv fr l du now w h hn h1 h0 (by omega) (by omega) h4
        · rw [if_neg h4] at hd
          rw [decide_eq_true (p := lv ≠ _) h4, Bool.and_true]
          exact next_main cal re ba lv fr l du now w h hn h1 h0 (by omega) (by omega) h4 a b c d e hd
  · rw [if_neg (fun x => h0 x.1)] at hd; cases hd
    exact next_no cal re ba lv fr l du now w h hn h1 (by simpa using h0)
end Go.Proofs.Ytepkbadgpoploaa.Own
namespace Go.Proofs.Ytepkbadgpoploaa.Base
open Go.RowKit Go.Proofs.YtepkbadgpoploaaW.PrintWords Go.Proofs.YtepkbadgpoploaaW.PrintLast Go.Proofs.YtepkbadgpoploaaW.PrintMore
attribute [local go_sem] max2_int min2_int max_two min_two max_three min_three max_four min_four   -- for this text's walks alone
def curfewlaw14_Plain.f  : Option (Int × (List (S75)) × Int × Int) := some (0, (([(⟨10, 0⟩ : S75), (⟨20, 1⟩ : S75)] : List (S75))), 2, 5)
set_option maxHeartbeats 8000000 in
set_option maxRecDepth 100000 in
theorem curfewlaw14_Plain.calls  (r1 : Int) (r2 : List (S75)) (r3 : Int) (r4 : Int) (w : World) (h : curfewlaw14_Plain.f  = some (r1, r2, r3, r4)) :
    Calls Try.prog 25 #[] w fun e w' => ∃ v1_ : Value, e = .returned (.agg #[.int .i64 r1, v1_, .int .i64 r3, .int .i64 r4]) ∧ Kd.R k75 75 w' w.heap.size (fun _ => True) v1_ r2 ∧ Below w.heap.size w w' := by
  have hu30 := Try.underlying30
  have hu75 := Try.underlying75
  have HB := Aside0.mk (Below.refl w.heap.size w)
  have H : (some (0, (([(⟨10, 0⟩ : S75), (⟨20, 1⟩ : S75)] : List (S75))), 2, 5)) = some (r1, r2, r3, r4) := h
  clear h
  obtain ⟨y240, hy240⟩ : ∃ y_ : List (S75), y_ = (([(⟨10, 0⟩ : S75), (⟨20, 1⟩ : S75)] : List (S75))) := ⟨_, rfl⟩
  replace H : (some (0, y240, 2, 5)) = some (r1, r2, r3, r4) := by first | (rw [hy240]; with_reducible exact H) | (have H2_ := (Option.bind_some _ _).symm.trans H; rw [hy240]; with_reducible exact H2_) | (have H2_ := (Option.bind_some _ _).symm.trans H; with_reducible exact H2_) | with_reducible exact H | (rw [hy240]; exact H) | exact H
  have Ny240 := Aside0.mk hy240
  clear hy240
  simp only [Option.some.injEq, Prod.mk.injEq] at H
  obtain ⟨rfl, rfl, rfl, rfl⟩ := H
  go_enter Try.func25, Try.ntmps25
  go_wp2_with (first | ((with_reducible refine gate_dst (N := 0) rfl ?_); refine box_event ?hg (N := 0) ?hd (cs := #[.int .i64 0, .slice none 0 0, .int .i64 0, .int .i64 0]) (t := 30) ?hr ?_; (case hd => rfl); (case hg => rfl); (case hr => first | (go_simp; done) | (go_simp; rfl)); intro gb239 hg w1 hbox hb; have n0_ := Aside0.mk (below_step (by repeat (first | (with_reducible first | exact HB.out | apply below_alloc | apply pw_below_drewN | apply below_drew1) | exact HB.out)) hb); have n1_ := Aside0.mk (hbox); have n2_ := Aside0.mk ((by rw [hg]; exact (below_size (by repeat (first | (with_reducible first | exact HB.out | apply below_alloc | apply pw_below_drewN | apply below_drew1) | exact HB.out))) : w.heap.size ≤ gb239)); have n3_ := Aside0.mk ((by rw [hg]; exact (below_size (by repeat (first | (with_reducible first | exact HB.out | apply below_alloc | apply pw_below_drewN | apply below_drew1) | exact HB.out))) : w.heap.size ≤ gb239)); clear HB; have HB := n0_; have BK239 := n1_; have GW239 := n2_; have GE239 := n3_; clear n0_ n1_ n2_ n3_; clear hb hbox hg) | ((with_reducible refine gate_dst (N := 3) rfl ?_); refine Kd.R_lit k75 _ 75 ?hg (N := 3) ?hd (xs := ([(⟨10, 0⟩ : S75), (⟨20, 1⟩ : S75)] : List (S75))) (inner := [.int .i64 10, .int .i64 0, .int .i64 20, .int .i64 1]) (ok := fun _ => True) (okp := fun _ => True) ?hr ?hp (fun _ hk => hk) trivial (Below.refl _ _) (Nat.le_refl _) (by simp) ?_; (case hd => rfl); (case hg => rfl); (case hr => first | (go_simp; done) | (go_simp; rfl)); (case hp => exact (Reps.c2 (show Kd.M k75 _ _ _ (⟨10, 0⟩ : S75) [.int .i64 10, .int .i64 0] from (k75_mkM _ _ _ (⟨10, 0⟩ : S75) )) (Reps.c2 (show Kd.M k75 _ _ _ (⟨20, 1⟩ : S75) [.int .i64 20, .int .i64 1] from (k75_mkM _ _ _ (⟨20, 1⟩ : S75) )) (Reps.none _ _)))); intro v241 w2 ho3 hb hg_ hnew_; clear hg_ hnew_; (first | rw [← Ny240.out] at ho3 | (simp only [Int.reduceToNat] at ho3; rw [← Ny240.out] at ho3)); have n0_ := Aside0.mk (Kd.R_lower ho3 (below_size (by repeat (first | (with_reducible first | exact HB.out | apply below_alloc | apply pw_below_drewN | apply below_drew1 | refine below_set ?_ GE239.out) | exact HB.out)))); have n1_ := Aside0.mk (blk_below (g := gb239) (o := .cells #[.int .i64 0, .slice none 0 0, .int .i64 0, .int .i64 0] 30 (0, 0)) (by (with_reducible repeat (first | refine blk_drewN ?_ _ | refine blk_drew ?_ | refine blk_alloc ?_ _)); exact BK239.out) hb); have n2_ := Aside0.mk (below_step (by repeat (first | (with_reducible first | exact HB.out | apply below_alloc | apply pw_below_drewN | apply below_drew1 | refine below_set ?_ GE239.out) | exact HB.out)) hb); clear BK239; clear HB; have HO242 := n0_; have BK239 := n1_; have HB := n2_; clear n0_ n1_ n2_; clear hb ho3; obtain ⟨Ao4, co4, eo4⟩ := Kd.R_slice HO242.out; subst eo4; have hcz5_0 : w2.cell? ⟨gb239, 0, none⟩ = some (.int .i64 0) := (blk_cell BK239.out 0).trans rfl; have hcz5_1 : w2.cell? ⟨gb239, 1, none⟩ = some (.slice none 0 0) := (blk_cell BK239.out 1).trans rfl; have hcz5_2 : w2.cell? ⟨gb239, 2, none⟩ = some (.int .i64 0) := (blk_cell BK239.out 2).trans rfl; have hcz5_3 : w2.cell? ⟨gb239, 3, none⟩ = some (.int .i64 0) := (blk_cell BK239.out 3).trans rfl; have hfz5_0 := blk_frozen BK239.out 0; have hfz5_1 := blk_frozen BK239.out 1; have hfz5_2 := blk_frozen BK239.out 2; have hfz5_3 := blk_frozen BK239.out 3))
  refine bodyPost_ret (results_cell_row rfl _ _ gb239 30 #[.int .i64 0, .slice Ao4 y240.length co4, .int .i64 2, .int .i64 5] (0, 0) _ rfl (by (with_reducible repeat (first | refine blk_drewN ?_ _ | refine blk_drew ?_ | refine blk_alloc ?_ _)); refine blk_put (cs := #[.int .i64 0, .slice Ao4 y240.length co4, .int .i64 2, .int .i64 0]) ?_ 3 _ rfl; (with_reducible repeat (first | refine blk_drewN ?_ _ | refine blk_drew ?_ | refine blk_alloc ?_ _)); refine blk_put (cs := #[.int .i64 0, .slice Ao4 y240.length co4, .int .i64 0, .int .i64 0]) ?_ 2 _ rfl; (with_reducible repeat (first | refine blk_drewN ?_ _ | refine blk_drew ?_ | refine blk_alloc ?_ _)); refine blk_put (cs := #[.int .i64 0, .slice none 0 0, .int .i64 0, .int .i64 0]) ?_ 1 _ rfl; (with_reducible repeat (first | refine blk_drewN ?_ _ | refine blk_drew ?_ | refine blk_alloc ?_ _)); refine blk_put (cs := #[.int .i64 0, .slice none 0 0, .int .i64 0, .int .i64 0]) ?_ 0 _ rfl; (with_reducible repeat (first | refine blk_drewN ?_ _ | refine blk_drew ?_ | refine blk_alloc ?_ _)); exact BK239.out) Try.underlying30 rfl (by kernel_rfl)) rfl ?_
  exact ⟨_, by first | rfl | (simp [errW_none, errW_some] <;> rfl) | (simp [*, errW_none, errW_some] <;> rfl), by (with_reducible repeat (first | apply Kd.R_alloc | apply Kd.R_drewN | apply Kd.R_drew)); exact Kd.R_mono (Kd.R_far (p := ⟨gb239, 3, none⟩) (Kd.R_far (p := ⟨gb239, 2, none⟩) (Kd.R_far (p := ⟨gb239, 1, none⟩) (Kd.R_far (p := ⟨gb239, 0, none⟩) (Kd.R_types HO242.out BK239.out (by decide)) (fun _ hk => hk.2) (.int .i64 0)) (fun _ hk => hk.2) (.slice Ao4 y240.length co4)) (fun _ hk => hk.2) (.int .i64 2)) (fun _ hk => hk.2) (.int .i64 5)) (fun _ hk => trivial), by repeat (first | (with_reducible first | exact HB.out | apply below_alloc | apply pw_below_drewN | apply below_drew1 | refine below_set ?_ GE239.out) | exact HB.out)⟩
end Go.Proofs.Ytepkbadgpoploaa.Base
namespace Go.Proofs.Ytepkbadgpoploaa.Own
open Go.RowKit Go.Proofs Go.Proofs.YtepkbadgpoploaaW.PrintWords Go.Proofs.YtepkbadgpoploaaW.PrintLast Go.Proofs.YtepkbadgpoploaaW.PrintMore Go.Proofs.Ytepkbadgpoploaa.Base
variable {w w' : World} {n kb ab pb cb : Nat} {off : Int} {week closed : List S78}
theorem box4 {W : World} (C : ClkAt W n kb ab pb cb off week closed) (v0 v1 v2 v3 : Value) :
    ClkAt (W.alloc (.cells #[v0, v1, v2, v3] 26)) n kb ab pb cb off week closed ∧ Below W.heap.size W (W.alloc (.cells #[v0, v1, v2, v3] 26)) ∧ (W.alloc (.cells #[v0, v1, v2, v3] 26)).heap[W.heap.size]? = some (.cells #[v0, v1, v2, v3] 26 (0, 0)) :=
  ⟨C.below (below_alloc (Below.refl _ _) _), below_alloc (Below.refl _ _) _, blk_new W _⟩
theorem upd_below' {cb n0 : Nat} {w u v : World} (h : Below n0 w u) (hu : Upd cb u v) (hn : n0 ≤ cb) (hs : n0 ≤ u.heap.size) : Below n0 w v := h.trans (Upd.below hu hs hn)
theorem ch_0 : calErr 0 [⟨0, 604800⟩] [] = 0 := by kernel_rfl
theorem ch_1 : firstP 0 [⟨0, 604800⟩] [] 0 [⟨10, 0⟩, ⟨20, 1⟩] 2 5 5 = (0, 5, 10, 15, 0) := by kernel_rfl
theorem ch_2 : standP 0 [⟨0, 604800⟩] [] 0 5 10 15 8 = (0, 8, 7, 0, 0) := by kernel_rfl
theorem ch_3 : goP 0 [⟨0, 604800⟩] [] 0 7 0 100 = (0, 100, 7, 107, 0) := by kernel_rfl
theorem always_any (w : World) : Calls Try.prog 24 #[] w fun e w' => ∃ A1 c1 A2 c2, e = .returned (.agg #[.int .i64 0, .slice A1 [(⟨0, 604800⟩ : S78)].length c1, .slice A2 ([] : List S78).length c2]) ∧ (Kd.C k78 w' A1 [(⟨0, 604800⟩ : S78)].length [⟨0, 604800⟩] ∧ [(⟨0, 604800⟩ : S78)].length ≤ c1) ∧ (Kd.C k78 w' A2 ([] : List S78).length [] ∧ ([] : List S78).length ≤ c2) ∧ Below w.heap.size w w' :=
  (curfewlaw15_Always.calls 0 [⟨0, 604800⟩] [] w rfl).mono fun e w' ⟨v1, v2, he, h1, h2, hb⟩ => by
    obtain ⟨A1, c1, rfl, hc1, hr1⟩ := Kd.R_reads h1
    obtain ⟨A2, c2, rfl, hc2, hr2⟩ := Kd.R_reads h2
    exact ⟨A1, c1, A2, c2, he, ⟨hr1, hc1⟩, ⟨hr2, hc2⟩, hb⟩
theorem plainc_any (w : World) : Calls Try.prog 25 #[] w fun e w' => ∃ A1 c1, e = .returned (.agg #[.int .i64 0, .slice A1 [(⟨10, 0⟩ : S75), ⟨20, 1⟩].length c1, .int .i64 2, .int .i64 5]) ∧ (Kd.C k75 w' A1 [(⟨10, 0⟩ : S75), ⟨20, 1⟩].length [⟨10, 0⟩, ⟨20, 1⟩] ∧ [(⟨10, 0⟩ : S75), ⟨20, 1⟩].length ≤ c1) ∧ Below w.heap.size w w' :=
  (curfewlaw14_Plain.calls 0 [⟨10, 0⟩, ⟨20, 1⟩] 2 5 w rfl).mono fun e w' ⟨v1, he, h1, hb⟩ => by
    obtain ⟨A1, c1, rfl, hc1, hr1⟩ := Kd.R_reads h1
    exact ⟨A1, c1, he, ⟨hr1, hc1⟩, hb⟩
set_option maxHeartbeats 4000000 in
set_option maxRecDepth 100000 in
theorem lives15_any (w : World) : Calls Try.prog 9 #[] w fun e w' => e = .returned (.bool true) ∧ Below w.heap.size w w' := by
  go_enter Try.func9, Try.ntmps9
  go_wp2_with (first | (go_at_call 24; refine (always_any w).mono ?_; rintro e w1 ⟨A1, c1, A2, c2, rfl, q1, q2, hb⟩; have HQ1 := Aside0.mk q1; have HQ2 := Aside0.mk q2; have HB1 := Aside0.mk hb; clear q1 q2 hb) | (go_at_call 10; refine (calnew_yes 0 A1 A2 c1 c2 [⟨0, 604800⟩] [] w1 HQ1.out.1 HQ1.out.2 HQ2.out.1 HQ2.out.2 ch_0).mono ?_; rintro e w2 ⟨kb, ab, pb, cb, rfl, CK, hb⟩; have HC2 := Aside0.mk CK; have HB2 := Aside0.mk hb; have HCB2 := Aside0.mk CK.lt; clear CK hb) | (go_at_call 25; refine (plainc_any w2).mono ?_; rintro e w3 ⟨A3, c3, rfl, q3, hb⟩; have HQ3 := Aside0.mk q3; have HC3 := Aside0.mk (HC2.out.below hb); have HB3 := Aside0.mk hb; clear q3 hb))
  have hcb := HCB2.out
  have hs3 := HB3.out.size
  have hs2 := HB2.out.size
  have hs1 := HB1.out.size
  have hncb := HC2.out.plan.ncb
  go_wp2_with (go_at_call 16; refine (first_any 0 2 5 5 _ _ _ _ _ w3 HC3.out (by omega) HQ3.out ch_1).mono ?_; rintro e w4 ⟨rfl, CK, UK⟩; have HC4 := Aside0.mk CK; have HU4 := Aside0.mk UK; have hs4 := UK.size; clear CK UK)
  obtain ⟨C5, B5, E5⟩ := box4 HC4.out (.int .i64 0) (.int .i64 5) (.int .i64 10) (.int .i64 15)
  have HC5 := Aside0.mk C5
  have HB5 := Aside0.mk B5
  have HE5 := Aside0.mk E5
  have hz5 := blk_lt E5
  have hy5 := B5.size
  clear C5 B5 E5
  generalize (w4.alloc (.cells #[.int .i64 0, .int .i64 5, .int .i64 10, .int .i64 15] 26)) = w5 at HC5 HB5 HE5 hz5 hy5 ⊢
  have s0 : w5.cell? ⟨w4.heap.size, 0, none⟩ = some (.int .i64 0) := (blk_cell HE5.out 0).trans rfl
  have s1 : w5.cell? ⟨w4.heap.size, 1, none⟩ = some (.int .i64 5) := (blk_cell HE5.out 1).trans rfl
  have s2 : w5.cell? ⟨w4.heap.size, 2, none⟩ = some (.int .i64 10) := (blk_cell HE5.out 2).trans rfl
  have s3 : w5.cell? ⟨w4.heap.size, 3, none⟩ = some (.int .i64 15) := (blk_cell HE5.out 3).trans rfl
  have HK := Aside0.mk (calErr_ok ch_0)
  go_wp2_with (go_at_call 11; refine (stand_any HK.out 0 5 10 15 8 _ _ _ _ _ w5 HC5.out (by omega) (by omega) ch_2).mono ?_; rintro e w6 ⟨rfl, CK, UK⟩; have HC6 := Aside0.mk CK; have HU6 := Aside0.mk UK; have hs6 := UK.size; have HE6 := Aside0.mk (UK.blk HE5.out (by omega)); clear CK UK)
  clear s0 s1 s2 s3
  obtain ⟨C7, B7, E7⟩ := box4 HC6.out (.int .i64 0) (.int .i64 8) (.int .i64 7) (.int .i64 0)
  have HC7 := Aside0.mk C7
  have HB7 := Aside0.mk B7
  have HE7 := Aside0.mk E7
  have hz7 := blk_lt E7
  have hy7 := B7.size
  clear C7 B7 E7
  generalize (w6.alloc (.cells #[.int .i64 0, .int .i64 8, .int .i64 7, .int .i64 0] 26)) = w7 at HC7 HB7 HE7 hz7 hy7 ⊢
  have HE7' := Aside0.mk (blk_below HE6.out HB7.out)
  have s0 : w7.cell? ⟨w6.heap.size, 0, none⟩ = some (.int .i64 0) := (blk_cell HE7.out 0).trans rfl
  have s1 : w7.cell? ⟨w6.heap.size, 1, none⟩ = some (.int .i64 8) := (blk_cell HE7.out 1).trans rfl
  have s2 : w7.cell? ⟨w6.heap.size, 2, none⟩ = some (.int .i64 7) := (blk_cell HE7.out 2).trans rfl
  have s3 : w7.cell? ⟨w6.heap.size, 3, none⟩ = some (.int .i64 0) := (blk_cell HE7.out 3).trans rfl
  go_upto_region 5 with (go_at_call 13; refine (go_any 0 8 7 0 100 _ _ _ _ _ w7 HC7.out (by omega) (by omega) ch_3).mono ?_; rintro e w8 ⟨rfl, CK, UK⟩; have HC8 := Aside0.mk CK; have HU8 := Aside0.mk UK; have hs8 := UK.size; have HE8 := Aside0.mk (UK.blk HE7.out (by omega)); have HE8' := Aside0.mk (UK.blk HE7'.out (by omega)); clear CK UK)
  clear s0 s1 s2 s3
  obtain ⟨C9, B9, E9⟩ := box4 HC8.out (.int .i64 0) (.int .i64 100) (.int .i64 7) (.int .i64 107)
  have HC9 := Aside0.mk C9
  have HB9 := Aside0.mk B9
  have HE9 := Aside0.mk E9
  have hz9 := blk_lt E9
  have hy9 := B9.size
  clear C9 B9 E9
  generalize (w8.alloc (.cells #[.int .i64 0, .int .i64 100, .int .i64 7, .int .i64 107] 26)) = w9 at HC9 HB9 HE9 hz9 hy9 ⊢
  have HE9' := Aside0.mk (blk_below HE8.out HB9.out)
  have HE9'' := Aside0.mk (blk_below HE8'.out HB9.out)
  have s0 : w9.cell? ⟨w8.heap.size, 0, none⟩ = some (.int .i64 0) := (blk_cell HE9.out 0).trans rfl
  have s1 : w9.cell? ⟨w8.heap.size, 1, none⟩ = some (.int .i64 100) := (blk_cell HE9.out 1).trans rfl
  have s2 : w9.cell? ⟨w8.heap.size, 2, none⟩ = some (.int .i64 7) := (blk_cell HE9.out 2).trans rfl
  have s3 : w9.cell? ⟨w8.heap.size, 3, none⟩ = some (.int .i64 107) := (blk_cell HE9.out 3).trans rfl
  have t0 : w9.cell? ⟨w6.heap.size, 0, none⟩ = some (.int .i64 0) := (blk_cell HE9'.out 0).trans rfl
  have t1 : w9.cell? ⟨w6.heap.size, 1, none⟩ = some (.int .i64 8) := (blk_cell HE9'.out 1).trans rfl
  have t2 : w9.cell? ⟨w6.heap.size, 2, none⟩ = some (.int .i64 7) := (blk_cell HE9'.out 2).trans rfl
  have t3 : w9.cell? ⟨w6.heap.size, 3, none⟩ = some (.int .i64 0) := (blk_cell HE9'.out 3).trans rfl
  have u0 : w9.cell? ⟨w4.heap.size, 0, none⟩ = some (.int .i64 0) := (blk_cell HE9''.out 0).trans rfl
  have u1 : w9.cell? ⟨w4.heap.size, 1, none⟩ = some (.int .i64 5) := (blk_cell HE9''.out 1).trans rfl
  have u2 : w9.cell? ⟨w4.heap.size, 2, none⟩ = some (.int .i64 10) := (blk_cell HE9''.out 2).trans rfl
  have u3 : w9.cell? ⟨w4.heap.size, 3, none⟩ = some (.int .i64 15) := (blk_cell HE9''.out 3).trans rfl
  go_wp2
  go_ret
  have b1 := below_step (below_step HB1.out HB2.out) HB3.out
  have b4 := upd_below' b1 HU4.out (by omega) (by omega)
  have b6 := upd_below' (below_weaken b4 (by omega) HB5.out) HU6.out (by omega) (by omega)
  have b8 := upd_below' (below_weaken b6 (by omega) HB7.out) HU8.out (by omega) (by omega)
  exact ⟨rfl, below_weaken b8 (by omega) HB9.out⟩
end Go.Proofs.Ytepkbadgpoploaa.Own
namespace Go.Proofs.Ytepkbadgpoploaa.Own
open Go.RowKit Go.Proofs Go.Proofs.YtepkbadgpoploaaW.PrintWords Go.Proofs.YtepkbadgpoploaaW.PrintLast Go.Proofs.YtepkbadgpoploaaW.PrintMore Go.Proofs.Ytepkbadgpoploaa.Base
variable {off : Int} {week closed : List S78} {A1 A2 A3 : Option Addr} {c1 c2 c3 : Nat} {cal re ba : Int} {ls : List S75}
def lightP (week closed : List S78) : Bool := decide (week.length ≤ 60) && decide (closed.length ≤ 60)
theorem light10_eq (off : Int) (week closed : List S78) : curfewlaw10_Light.f off week closed = some (lightP week closed) := by
  unfold curfewlaw10_Light.f lightP
  by_cases h : week.length ≤ 60
  · rw [if_pos (by omega), decide_eq_true h, Bool.true_and]
    congr 1
    by_cases h' : closed.length ≤ 60
    · rw [decide_eq_true h', decide_eq_true (by omega)]
    · rw [decide_eq_false h', decide_eq_false (by omega)]
  · rw [if_neg (by omega), decide_eq_false h]; rfl
def light15P (week closed : List S78) (ls : List S75) : Bool := lightP week closed && decide (ls.length ≤ 60)
theorem light15_any (w : World) (h1 : Kd.C k78 w A1 week.length week ∧ week.length ≤ c1) (h2 : Kd.C k78 w A2 closed.length closed ∧ closed.length ≤ c2) (h3 : Kd.C k75 w A3 ls.length ls ∧ ls.length ≤ c3) :
    Calls Try.prog 7 #[.agg #[.int .i64 off, .slice A1 week.length c1, .slice A2 closed.length c2], .agg #[.int .i64 cal, .slice A3 ls.length c3, .int .i64 re, .int .i64 ba]] w fun e w' => e = .returned (.bool (light15P week closed ls)) ∧ Below w.heap.size w w' :=
  curfewlaw15_light.calls off A1 c1 week A2 c2 closed cal A3 c3 ls re ba _ w h1.1 h1.2 h2.1 h2.2 h3.1 h3.2 (by
    unfold curfewlaw15_light.f light15P
    rw [light10_eq]
    simp only [Option.bind_some]
    cases lightP week closed with
    | false => rfl
    | true =>
      rw [if_pos rfl, Bool.true_and]
      congr 1
      by_cases h' : ls.length ≤ 60
      · rw [decide_eq_true h', decide_eq_true (by omega)]
      · rw [decide_eq_false h', decide_eq_false (by omega)])
theorem refcheck_any (w : World) (h1 : Kd.C k78 w A1 week.length week ∧ week.length ≤ c1) (h2 : Kd.C k78 w A2 closed.length closed ∧ closed.length ≤ c2) :
    Calls Try.prog 8 #[.agg #[.int .i64 off, .slice A1 week.length c1, .slice A2 closed.length c2]] w fun e w' => e = .returned (.int .i64 (calErr off week closed)) ∧ Below w.heap.size w w' :=
  curfewref10_Check.calls 40 off A1 c1 week A2 c2 closed _ w h1.1 h1.2 h2.1 h2.2 (check_eq off week closed 40 (by omega))
theorem calnew_ok (w : World) (h1 : Kd.C k78 w A1 week.length week ∧ week.length ≤ c1) (h2 : Kd.C k78 w A2 closed.length closed ∧ closed.length ≤ c2) (he : calErr off week closed = 0) :
    Calls Try.prog 10 #[.agg #[.int .i64 off, .slice A1 week.length c1, .slice A2 closed.length c2]] w fun e w' => ∃ kb ab pb cb, e = .returned (.tuple #[.pointer (some ⟨kb, 0, none⟩), .int .i64 0]) ∧ ClkAt w' w.heap.size kb ab pb cb off week closed ∧ Below w.heap.size w w' :=
  calnew_yes off A1 A2 c1 c2 week closed w h1.1 h1.2 h2.1 h2.2 he
variable (hk : CalOk off week closed)
include hk
theorem reffirst_any (now a b c d e : Int) (w : World) (h1 : Kd.C k78 w A1 week.length week ∧ week.length ≤ c1) (h2 : Kd.C k78 w A2 closed.length closed ∧ closed.length ≤ c2) (h3 : Kd.C k75 w A3 ls.length ls ∧ ls.length ≤ c3) (hd : firstP off week closed cal ls re ba now = (a, b, c, d, e)) :
    Calls Try.prog 17 #[.agg #[.int .i64 off, .slice A1 week.length c1, .slice A2 closed.length c2], .agg #[.int .i64 cal, .slice A3 ls.length c3, .int .i64 re, .int .i64 ba], .int .i64 now] w fun r w' => r = .returned (.tuple #[.agg #[.int .i64 a, .int .i64 b, .int .i64 c, .int .i64 d], .int .i64 e]) ∧ Below w.heap.size w w' :=
  curfewref15_First.calls 200 off A1 c1 week A2 c2 closed cal A3 c3 ls re ba now a b c d e w h1.1 h1.2 h2.1 h2.2 h3.1 h3.2 (by rw [rfirst_eq hk, hd])
theorem refnext_any (lv fr l du now a b c d e : Int) (m : Bool) (w : World) (h1 : Kd.C k78 w A1 week.length week ∧ week.length ≤ c1) (h2 : Kd.C k78 w A2 closed.length closed ∧ closed.length ≤ c2) (h3 : Kd.C k75 w A3 ls.length ls ∧ ls.length ≤ c3) (hd : nextP off week closed cal ls re ba lv now = (a, b, c, d, e)) (hm : moreP off week closed cal ls re ba lv now = m) :
    Calls Try.prog 19 #[.agg #[.int .i64 off, .slice A1 week.length c1, .slice A2 closed.length c2], .agg #[.int .i64 cal, .slice A3 ls.length c3, .int .i64 re, .int .i64 ba], .agg #[.int .i64 lv, .int .i64 fr, .int .i64 l, .int .i64 du], .int .i64 now] w fun r w' => r = .returned (.tuple #[.agg #[.int .i64 a, .int .i64 b, .int .i64 c, .int .i64 d], .bool m, .int .i64 e]) ∧ Below w.heap.size w w' :=
  curfewref15_Next.calls 201 off A1 c1 week A2 c2 closed cal A3 c3 ls re ba lv fr l du now a b c d m e w h1.1 h1.2 h2.1 h2.2 h3.1 h3.2 (by rw [rnext_eq hk, hd, hm])
end Go.Proofs.Ytepkbadgpoploaa.Own
namespace Go.Proofs.Ytepkbadgpoploaa.Own
open Go.RowKit Go.Proofs Go.Proofs.YtepkbadgpoploaaW.PrintWords Go.Proofs.YtepkbadgpoploaaW.PrintLast Go.Proofs.YtepkbadgpoploaaW.PrintMore Go.Proofs.Ytepkbadgpoploaa.Base
open Go.ChangeShapes Go.WideShapes Go.ChangeAt Go.Joins Go.Deep
theorem calCells : Try.prog.cellsOf 24 = 3 := by kernel_rfl
theorem ownKnob_none : ownKnob Try.prog.godebug = none := by kernel_rfl
theorem laidOut : laidOutB Try.prog = true := by kernel_rfl
def intOf : Value → Int
  | .int _ x => x
  | _ => 0
set_option maxRecDepth 100000 in
theorem spans_open {H : Type} {enc : TypeId × Value → H} {W : World} {spare : Nat → Bool} {held : Bool} {fuel : Nat} {v : Value} {x : DataW H × List MemPlace} (h : DataW.trod enc Try.prog W 0 spare held fuel 22 [v] = some x) :
    ∃ (A : Option Addr) (c : Nat) (l : List S78), v = .slice A l.length c ∧ l.length ≤ c ∧ Kd.C k78 W A l.length l := by
  rcases open_slice_pairs Try.underlying22 Try.underlying78 (by kernel_rfl) (by rfl) (by rfl) (by kernel_rfl) (by kernel_rfl) h with ⟨hcs, _⟩ | ⟨a, len, cap, m, n, V0, V1, D0, D1, P0, P1, hcs, _, hl, hm, hmm, _, hx⟩
  · injection hcs with hv
    exact ⟨none, 0, [], hv, Nat.le_refl _, ⟨rfl, by decide, fun h => absurd h (by simp)⟩⟩
  · injection hcs with hv
    have hlm : len ≤ m := by rw [hmm]; split <;> omega
    have hint : ∀ i, i < len → V0 i = .int .i64 (intOf (V0 i)) ∧ V1 i = .int .i64 (intOf (V1 i)) := fun i hi => by
      obtain ⟨_, _, t0, t1⟩ := hx i (by omega)
      obtain ⟨a0, e0, _, _⟩ := DataW.trod_int Try.underlying2 t0
      obtain ⟨a1, e1, _, _⟩ := DataW.trod_int Try.underlying2 t1
      simp at e0 e1
      rw [e0, e1]
      exact ⟨rfl, rfl⟩
    refine ⟨some a, cap, (List.range len).map fun i => ⟨intOf (V0 i), intOf (V1 i)⟩, by simpa using hv, by simpa using hl, ?_⟩
    refine ⟨rfl, by simp; unfold maxLen at hm; omega, fun _ => ⟨a, rfl, fun j p hp => ?_⟩⟩
    have hj : j < len := by
      rcases Nat.lt_or_ge j len with h | h
      · exact h
      · rw [List.getElem?_eq_none (by simpa using h)] at hp; cases hp
    rw [List.getElem?_map, List.getElem?_range hj] at hp
    injection hp with hp
    subst hp
    obtain ⟨c0, c1, _, _⟩ := hx j (by omega)
    refine ⟨[V0 j, V1 j], rfl, ?_, fun i u hu => ?_⟩
    · rw [(hint j hj).1, (hint j hj).2]
      exact k78_mk W ⟨intOf (V0 j), intOf (V1 j)⟩
    · match i, hu with
      | 0, hu => injection hu with hu; subst hu; exact c0
      | 1, hu => injection hu with hu; subst hu; exact c1
      | (n + 2), hu => cases hu
set_option maxRecDepth 100000 in
theorem cal_open {H : Type} {enc : TypeId × Value → H} {W : World} {spare : Nat → Bool} {held : Bool} {r : Reach} {b0 : Nat} {v : Value} {d : DataW H} {p : List MemPlace} (hv : Value.okWide Try.prog W r b0 24 v) (h : DataW.Trod enc Try.prog W 0 spare held 24 v d p) :
    ∃ (off : Int) (A1 A2 : Option Addr) (c1 c2 : Nat) (week closed : List S78), v = .agg #[.int .i64 off, .slice A1 week.length c1, .slice A2 closed.length c2] ∧ (Kd.C k78 W A1 week.length week ∧ week.length ≤ c1) ∧ (Kd.C k78 W A2 closed.length closed ∧ closed.length ≤ c2) := by
  obtain ⟨v0, v1, v2, y0, y1, y2, m, rfl, _, _, t0, t1, t2⟩ := open_agg3 Try.underlying24 (by kernel_rfl) calCells hv h
  obtain ⟨a0, e0, _, _⟩ := DataW.trod_int Try.underlying2 t0
  obtain ⟨A1, c1, week, rfl, hl1, hc1⟩ := spans_open t1
  obtain ⟨A2, c2, closed, rfl, hl2, hc2⟩ := spans_open t2
  simp at e0
  subst e0
  exact ⟨a0, A1, A2, c1, c2, week, closed, rfl, ⟨hc1, hl1⟩, ⟨hc2, hl2⟩⟩
end Go.Proofs.Ytepkbadgpoploaa.Own
namespace Go.Proofs.Ytepkbadgpoploaa.Own
open Go.RowKit Go.Proofs Go.Proofs.YtepkbadgpoploaaW.PrintWords Go.Proofs.YtepkbadgpoploaaW.PrintLast Go.Proofs.YtepkbadgpoploaaW.PrintMore Go.Proofs.Ytepkbadgpoploaa.Base
open Go.ChangeShapes Go.WideShapes Go.ChangeAt Go.Joins Go.Deep
theorem conCells : Try.prog.cellsOf 30 = 4 := by kernel_rfl
set_option maxRecDepth 100000 in
theorem levels_open {H : Type} {enc : TypeId × Value → H} {W : World} {spare : Nat → Bool} {held : Bool} {fuel : Nat} {v : Value} {x : DataW H × List MemPlace} (h : DataW.trod enc Try.prog W 0 spare held fuel 28 [v] = some x) :
    ∃ (A : Option Addr) (c : Nat) (l : List S75), v = .slice A l.length c ∧ l.length ≤ c ∧ (Kd.C k75 W A l.length l) ∧ ∀ y, y ∈ l → (Lit.int .i64 y.f0).wf = true ∧ (Lit.int .i64 y.f1).wf = true := by
  rcases open_slice_pairs Try.underlying28 Try.underlying75 (by kernel_rfl) (by rfl) (by rfl) (by kernel_rfl) (by kernel_rfl) h with ⟨hcs, _⟩ | ⟨a, len, cap, m, n, V0, V1, D0, D1, P0, P1, hcs, _, hl, hm, hmm, _, hx⟩
  · injection hcs with hv
    exact ⟨none, 0, [], hv, Nat.le_refl _, ⟨rfl, by decide, fun h => absurd h (by simp)⟩, fun y hy => by cases hy⟩
  · injection hcs with hv
    have hlm : len ≤ m := by rw [hmm]; split <;> omega
    have hint : ∀ i, i < len → V0 i = .int .i64 (intOf (V0 i)) ∧ V1 i = .int .i64 (intOf (V1 i)) ∧ (Lit.int .i64 (intOf (V0 i))).wf = true ∧ (Lit.int .i64 (intOf (V1 i))).wf = true := fun i hi => by
      obtain ⟨_, _, t0, t1⟩ := hx i (by omega)
      obtain ⟨a0, e0, _, w0⟩ := DataW.trod_int Try.underlying2 t0
      obtain ⟨a1, e1, _, w1⟩ := DataW.trod_int Try.underlying3 t1
      simp at e0 e1
      rw [e0, e1]
      exact ⟨rfl, rfl, w0, w1⟩
    refine ⟨some a, cap, (List.range len).map fun i => ⟨intOf (V0 i), intOf (V1 i)⟩, by simpa using hv, by simpa using hl, ⟨rfl, by simp; unfold maxLen at hm; omega, fun _ => ⟨a, rfl, fun j p hp => ?_⟩⟩, fun y hy => ?_⟩
    · have hj : j < len := by
        rcases Nat.lt_or_ge j len with h | h
        · exact h
        · rw [List.getElem?_eq_none (by simpa using h)] at hp; cases hp
      rw [List.getElem?_map, List.getElem?_range hj] at hp
      injection hp with hp
      subst hp
      obtain ⟨c0, c1, _, _⟩ := hx j (by omega)
      refine ⟨[V0 j, V1 j], rfl, ?_, fun i u hu => ?_⟩
      · rw [(hint j hj).1, (hint j hj).2.1]
        exact k75_mk W ⟨intOf (V0 j), intOf (V1 j)⟩
      · match i, hu with
        | 0, hu => injection hu with hu; subst hu; exact c0
        | 1, hu => injection hu with hu; subst hu; exact c1
        | (n + 2), hu => cases hu
    · obtain ⟨i, hi, rfl⟩ := List.mem_map.1 hy
      have := hint i (List.mem_range.1 hi)
      exact ⟨this.2.2.1, this.2.2.2⟩
set_option maxRecDepth 100000 in
theorem con_open {H : Type} {enc : TypeId × Value → H} {W : World} {spare : Nat → Bool} {held : Bool} {r : Reach} {b0 : Nat} {v : Value} {d : DataW H} {p : List MemPlace} (hv : Value.okWide Try.prog W r b0 30 v) (h : DataW.Trod enc Try.prog W 0 spare held 30 v d p) :
    ∃ (cal re ba : Int) (A : Option Addr) (c : Nat) (ls : List S75), v = .agg #[.int .i64 cal, .slice A ls.length c, .int .i64 re, .int .i64 ba] ∧ (Kd.C k75 W A ls.length ls ∧ ls.length ≤ c) ∧ ((Lit.int .i64 cal).wf = true ∧ (Lit.int .i64 re).wf = true ∧ (Lit.int .i64 ba).wf = true ∧ ∀ y, y ∈ ls → (Lit.int .i64 y.f0).wf = true ∧ (Lit.int .i64 y.f1).wf = true) := by
  obtain ⟨v0, v1, v2, v3, y0, y1, y2, y3, m, rfl, _, _, t0, t1, t2, t3⟩ := open_agg4 Try.underlying30 (by kernel_rfl) conCells hv h
  obtain ⟨a0, e0, _, w0⟩ := DataW.trod_int Try.underlying3 t0
  obtain ⟨A1, c1, ls, rfl, hl1, hc1, hw⟩ := levels_open t1
  obtain ⟨a2, e2, _, w2⟩ := DataW.trod_int Try.underlying3 t2
  obtain ⟨a3, e3, _, w3⟩ := DataW.trod_int Try.underlying2 t3
  simp at e0 e2 e3
  subst e0 e2 e3
  exact ⟨a0, a2, a3, A1, c1, ls, rfl, ⟨hc1, hl1⟩, w0, w2, w3, hw⟩
theorem stepCells : Try.prog.cellsOf 26 = 4 := by kernel_rfl
set_option maxRecDepth 100000 in
theorem step_open {H : Type} {enc : TypeId × Value → H} {W : World} {spare : Nat → Bool} {held : Bool} {r : Reach} {b0 : Nat} {v : Value} {d : DataW H} {p : List MemPlace} (hv : Value.okWide Try.prog W r b0 26 v) (h : DataW.Trod enc Try.prog W 0 spare held 26 v d p) :
    ∃ (lv fr l du : Int), v = .agg #[.int .i64 lv, .int .i64 fr, .int .i64 l, .int .i64 du] ∧ (Lit.int .i64 lv).wf = true ∧ (Lit.int .i64 fr).wf = true ∧ (Lit.int .i64 l).wf = true ∧ (Lit.int .i64 du).wf = true := by
  obtain ⟨v0, v1, v2, v3, y0, y1, y2, y3, m, rfl, _, _, t0, t1, t2, t3⟩ := open_agg4 Try.underlying26 (by kernel_rfl) stepCells hv h
  obtain ⟨a0, e0, _, w0⟩ := DataW.trod_int Try.underlying3 t0
  obtain ⟨a1, e1, _, w1⟩ := DataW.trod_int Try.underlying2 t1
  obtain ⟨a2, e2, _, w2⟩ := DataW.trod_int Try.underlying2 t2
  obtain ⟨a3, e3, _, w3⟩ := DataW.trod_int Try.underlying2 t3
  simp at e0 e1 e2 e3
  subst e0 e1 e2 e3
  exact ⟨a0, a1, a2, a3, rfl, w0, w1, w2, w3⟩
end Go.Proofs.Ytepkbadgpoploaa.Own
