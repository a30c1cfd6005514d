/- ChainPlans, part 6: what the claim needs of Base13, ChainP, Base14, PlanP, ChainW, ChainF. -/
import Derived.Test.YtepldlnmeenlbaaGreatChainPlans5
import Derived.Test.YtepldlnmeenlbaaGreatProg
import Derived.Below
import Derived.Deep.Draws
import Derived.Deep.AppendLies
import Derived.Maps.AppendAt
import Derived.OwnWalk
import Derived.Laws.BytesArg
import Derived.Laws.MakeOwn
import Derived.Laws.OwnMore
import Derived.Deep.OwnRows
import Derived.Tactics
import Derived.Lib.ConvBytes
import Derived.Laws.Slices
import Derived.WalkKit
import Derived.KernelRfl
import Derived.RowKit3
import Derived.Deep.LoopGhost
import Derived.Deep.QuietTactic
import Derived.BigQuiet
import Derived.WideLaws
import Derived.Deep.DeepCutAuto
import Derived.Deep.CutBlock
import Derived.Deep.RegionHeld3
import Derived.Laws.Rows
import Derived.Lib.AppendStr
import Derived.ArgAppend
import Derived.Laws.IdiomCopy
import Derived.OrdersHeld
import Derived.Laws.BitsLemmas
import Derived.RowKit
import Derived.Laws.StructEq
import Derived.Tactics2
import Derived.Defers
import Derived.Laws.Pointers
import Derived.Laws.LoneSync
import Derived.Laws.NewBlocks
import Derived.RegionTactic
import Derived.RegionCalls
import Derived.ChangeAlike
import Derived.StillTailTactics
import Derived.Outline
import Derived.Handy
import Derived.SizedLaws
import Derived.ChangeSlices
import Derived.Laws.EntriesVeiled
import Derived.WalkSpells
import Derived.RangeFuncNested
import Derived.RangeFuncBound
import Derived.RangeFuncCalls
import Derived.RangeFuncLeaves
import Derived.Shelf.Abstract
import Derived.Shelf.RegionOpen
import Derived.OwnWalkIn
import Derived.TacticsInMore
import Derived.LoopNIn
import Derived.LoopIn
import Derived.OrdersIn
set_option linter.unusedVariables false
set_option linter.unusedSimpArgs false
namespace Go.Proofs.YtepldlnmeenlbaaGreat.Base
open Go.RowKit Go.Proofs.YtepldlnmeenlbaaGreatW.PrintWords Go.Proofs.YtepldlnmeenlbaaGreatW.PrintLast Go.Proofs.YtepldlnmeenlbaaGreatW.PrintMore
attribute [local go_sem] max2_int min2_int max_two min_two max_three min_three max_four min_four   -- for this text's walks alone
def curfewref15_Next.j0 : Nat → Int → Bool → Int → List (S114) → List (S114) → Int → List (S71) → Int → Int → Int → Int → Int → Int → Option (Int × Int × Int × Int × Bool × Int)
  | 0, _, _, _, _, _, _, _, _, _, _, _, _, _ => none
  | k + 1, x3, x28, x302000, x302001, x302002, x303000, x303001, x303002, x303003, x304000, x304001, x304002, x304003 => if x28 = true then (some (0, 0, 0, 0, false, 2)) else (if x304000 = (wrap64 ((x303001.length : Int) - 1)) then (some (0, 0, 0, 0, false, 0)) else (if 0 ≤ (wrap64 (x304000 + 1)) then (if (wrap64 (x304000 + 1)) < (x303001.length : Int) then ((curfewref15_begin.f k x302000 x302001 x302002 (wrap64 (x304000 + 1)) ((rd_T71 x303001 (wrap64 (x304000 + 1))).f0) x3).bind fun bt307 => (some (bt307.1, bt307.2.1, bt307.2.2.1, bt307.2.2.2.1, (bt307.2.2.2.2 == 0), bt307.2.2.2.2))) else (none)) else (none)))
def curfewref15_Next.f (k : Nat) (a0_0 : Int) (l0_1 : List (S114)) (l0_2 : List (S114)) (a1_0 : Int) (l1_1 : List (S71)) (a1_2 : Int) (a1_3 : Int) (a2_0 : Int) (a2_1 : Int) (a2_2 : Int) (a2_3 : Int) (a3 : Int) : Option (Int × Int × Int × Int × Bool × Int) := (curfewref14_Good.f k a1_0 l1_1 a1_2 a1_3).bind fun t305 => (if t305 = true then (if a2_0 < 0 then (curfewref15_Next.j0 k a3 true a0_0 l0_1 l0_2 a1_0 l1_1 a1_2 a1_3 a2_0 a2_1 a2_2 a2_3) else (curfewref15_Next.j0 k a3 (decide (a2_0 ≥ (l1_1.length : Int))) a0_0 l0_1 l0_2 a1_0 l1_1 a1_2 a1_3 a2_0 a2_1 a2_2 a2_3)) else (curfewref15_Next.j0 k a3 true a0_0 l0_1 l0_2 a1_0 l1_1 a1_2 a1_3 a2_0 a2_1 a2_2 a2_3))
theorem curfewref15_Next.mono_l : ∀ k, (∀ y0 y1 y2 y3 y4 y5 y6 y7 y8 y9 y10 y11 y12, LeO (curfewref15_Next.j0 k y0 y1 y2 y3 y4 y5 y6 y7 y8 y9 y10 y11 y12) (curfewref15_Next.j0 (k + 1) y0 y1 y2 y3 y4 y5 y6 y7 y8 y9 y10 y11 y12))
  | 0 => fun _ _ _ _ _ _ _ _ _ _ _ _ _ r h => by simp [curfewref15_Next.j0] at h
  | k + 1 => by
    have ih0 := curfewref15_Next.mono_l k
    · intro y0 y1 y2 y3 y4 y5 y6 y7 y8 y9 y10 y11 y12
      unfold curfewref15_Next.j0
      repeat' first
      | (with_reducible exact ih0 _ _ _ _ _ _ _ _ _ _ _ _ _)
      | (with_reducible exact curfewref14_Good.mono _ _ _ _ _)
      | (with_reducible exact curfewref15_begin.mono _ _ _ _ _ _ _)
      | (with_reducible exact LeO.refl _)
      | (with_reducible exact LeO.none _)
      | (with_reducible refine LeO.ite ?_ ?_)
      | (with_reducible refine LeO.bind ?_ (fun _ => ?_))
      | exact ih0 _ _ _ _ _ _ _ _ _ _ _ _ _
      | exact curfewref14_Good.mono _ _ _ _ _
      | exact curfewref15_begin.mono _ _ _ _ _ _ _
      | exact LeO.none _
      | refine LeO.ite ?_ ?_
      | refine LeO.bind ?_ (fun _ => ?_)
theorem curfewref15_Next.mono : ∀ a0 a1 a2 a3 a4 a5 a6 a7 a8 a9 a10 a11 k, LeO (curfewref15_Next.f k a0 a1 a2 a3 a4 a5 a6 a7 a8 a9 a10 a11) (curfewref15_Next.f (k + 1) a0 a1 a2 a3 a4 a5 a6 a7 a8 a9 a10 a11) := by
  intro a0 a1 a2 a3 a4 a5 a6 a7 a8 a9 a10 a11 k
  have ih0 := curfewref15_Next.mono_l k
  unfold curfewref15_Next.f
  repeat' first
      | (with_reducible exact ih0 _ _ _ _ _ _ _ _ _ _ _ _ _)
      | (with_reducible exact curfewref14_Good.mono _ _ _ _ _)
      | (with_reducible exact curfewref15_begin.mono _ _ _ _ _ _ _)
      | (with_reducible exact LeO.refl _)
      | (with_reducible exact LeO.none _)
      | (with_reducible refine LeO.ite ?_ ?_)
      | (with_reducible refine LeO.bind ?_ (fun _ => ?_))
      | exact ih0 _ _ _ _ _ _ _ _ _ _ _ _ _
      | exact curfewref14_Good.mono _ _ _ _ _
      | exact curfewref15_begin.mono _ _ _ _ _ _ _
      | exact LeO.none _
      | refine LeO.ite ?_ ?_
      | refine LeO.bind ?_ (fun _ => ?_)
def curfewref15_Next.T5 : Bool × List (List Nat × List Nat) := (true, [([], []), ([], []), ([1], [1]), ([2], [2]), ([], []), ([4], [4]), ([], []), ([6], [6]), ([7], [7]), ([5, 8], [5, 8]), ([9], [9]), ([10], [10]), ([], []), ([0, 3, 11, 12], [0, 3, 11, 12]), ([13], [13]), ([14], [14]), ([14], [14]), ([], []), ([17, 15, 13, 0, 1, 2, 3, 4, 5, 6, 7, 8, 9, 10, 11, 12, 13, 14, 15, 17], [15, 17]), ([16, 18, 0, 1, 2, 3, 4, 5, 6, 7, 8, 9, 10, 11, 12, 13, 14, 15, 16, 17, 18], [16])])
def curfewref15_Next.B5 : List Nat := [0, 0, 2, 6, 0, 16, 0, 64, 192, 496, 1008, 2032, 0, 8191, 16383, 32767, 32767, 0, 196607, 524287]
theorem curfewref15_Next.tab5 : rtab .any (opsOf Tryz.f85 5) = curfewref15_Next.T5 := by kernel_rfl
theorem curfewref15_Next.bits5 : waitsOk curfewref15_Next.T5.2 curfewref15_Next.B5 = true := by kernel_rfl
set_option maxHeartbeats 8000000 in
set_option maxRecDepth 100000 in
theorem curfewref15_Next.calls (k : Nat) (a0_0 : Int) (A0_1 : Option Addr) (c0_1 : Nat) (l0_1 : List (S114)) (A0_2 : Option Addr) (c0_2 : Nat) (l0_2 : List (S114)) (a1_0 : Int) (A1_1 : Option Addr) (c1_1 : Nat) (l1_1 : List (S71)) (a1_2 : Int) (a1_3 : Int) (a2_0 : Int) (a2_1 : Int) (a2_2 : Int) (a2_3 : Int) (a3 : Int) (r1 : Int) (r2 : Int) (r3 : Int) (r4 : Int) (r5 : Bool) (r6 : Int) (w : World) (hr0_1 : Kd.C k114 w A0_1 l0_1.length l0_1) (hc0_1 : l0_1.length ≤ c0_1) (hr0_2 : Kd.C k114 w A0_2 l0_2.length l0_2) (hc0_2 : l0_2.length ≤ c0_2) (hr1_1 : Kd.C k71 w A1_1 l1_1.length l1_1) (hc1_1 : l1_1.length ≤ c1_1) (h : curfewref15_Next.f k a0_0 l0_1 l0_2 a1_0 l1_1 a1_2 a1_3 a2_0 a2_1 a2_2 a2_3 a3 = some (r1, r2, r3, r4, r5, r6)) :
    Calls Tryz.prog 85 #[.agg #[.int .i64 a0_0, .slice A0_1 l0_1.length c0_1, .slice A0_2 l0_2.length c0_2], .agg #[.int .i64 a1_0, .slice A1_1 l1_1.length c1_1, .int .i64 a1_2, .int .i64 a1_3], .agg #[.int .i64 a2_0, .int .i64 a2_1, .int .i64 a2_2, .int .i64 a2_3], .int .i64 a3] w fun e w' => e = .returned (.tuple #[.agg #[.int .i64 r1, .int .i64 r2, .int .i64 r3, .int .i64 r4], .bool r5, .int .i64 r6]) ∧ Below w.heap.size w w' := by
  have hu24 := Tryz.underlying24
  have hu48 := Tryz.underlying48
  have hu76 := Tryz.underlying76
  have HR0_1 := Aside0.mk hr0_1
  have HC0_1 := Aside0.mk hc0_1
  clear hr0_1 hc0_1
  have HR0_2 := Aside0.mk hr0_2
  have HC0_2 := Aside0.mk hc0_2
  clear hr0_2 hc0_2
  have HR1_1 := Aside0.mk hr1_1
  have HC1_1 := Aside0.mk hc1_1
  clear hr1_1 hc1_1
  have HB := Aside0.mk (Below.refl w.heap.size w)
  have H : ((curfewref14_Good.f k a1_0 l1_1 a1_2 a1_3).bind fun t305 => (if t305 = true then (if a2_0 < 0 then (curfewref15_Next.j0 k a3 true a0_0 l0_1 l0_2 a1_0 l1_1 a1_2 a1_3 a2_0 a2_1 a2_2 a2_3) else (curfewref15_Next.j0 k a3 (decide (a2_0 ≥ (l1_1.length : Int))) a0_0 l0_1 l0_2 a1_0 l1_1 a1_2 a1_3 a2_0 a2_1 a2_2 a2_3)) else (curfewref15_Next.j0 k a3 true a0_0 l0_1 l0_2 a1_0 l1_1 a1_2 a1_3 a2_0 a2_1 a2_2 a2_3))) = some (r1, r2, r3, r4, r5, r6) := h
  clear h
  have HC5 := Aside0.mk H
  clear H
  go_enter Tryz.func85, Tryz.ntmps85
  go_upto_region 1 with (first | ((with_reducible refine gate_dst (N := 4) rfl ?_); (try (refine gate_guard (by rfl) ?_; dsimp only)); refine box_event ?hg (N := 4) ?hd (cs := #[.int .i64 a0_0, .slice A0_1 l0_1.length c0_1, .slice A0_2 l0_2.length c0_2]) (t := 24) ?hr ?_; (case hd => rfl); (case hg => rfl); (case hr => first | (go_simp; done) | (go_simp; rfl)); intro gb301 hg w6 hbox hb; have n0_ := Aside0.mk (below_step (by repeat (first | (with_reducible first | exact HB.out | apply below_alloc | apply pw_below_drewN | apply below_drew1) | exact HB.out)) hb); have n1_ := Aside0.mk (hbox); have n2_ := Aside0.mk ((by rw [hg]; exact (below_size (by repeat (first | (with_reducible first | exact HB.out | apply below_alloc | apply pw_below_drewN | apply below_drew1) | exact HB.out))) : w.heap.size ≤ gb301)); have n3_ := Aside0.mk ((by rw [hg]; exact (below_size (by repeat (first | (with_reducible first | exact HB.out | apply below_alloc | apply pw_below_drewN | apply below_drew1) | exact HB.out))) : w.heap.size ≤ gb301)); clear HB; have HB := n0_; have BK301 := n1_; have GW301 := n2_; have GE301 := n3_; clear n0_ n1_ n2_ n3_; clear hb hbox hg) | ((with_reducible refine gate_dst (N := 5) rfl ?_); (try (refine gate_guard (by rfl) ?_; dsimp only)); refine box_event ?hg (N := 5) ?hd (cs := #[.int .i64 a1_0, .slice A1_1 l1_1.length c1_1, .int .i64 a1_2, .int .i64 a1_3]) (t := 48) ?hr ?_; (case hd => rfl); (case hg => rfl); (case hr => first | (go_simp; done) | (go_simp; rfl)); intro gb302 hg w7 hbox hb; have n0_ := Aside0.mk (blk_below (g := gb301) (o := .cells #[.int .i64 a0_0, .slice A0_1 l0_1.length c0_1, .slice A0_2 l0_2.length c0_2] 24 (0, 0)) (by (with_reducible repeat (first | refine blk_drewN ?_ _ | refine blk_drew ?_ | refine blk_alloc ?_ _)); exact BK301.out) hb); have n1_ := Aside0.mk (below_step (by repeat (first | (with_reducible first | exact HB.out | apply below_alloc | apply pw_below_drewN | apply below_drew1 | refine below_set ?_ GE301.out) | exact HB.out)) hb); have n2_ := Aside0.mk (hbox); have n3_ := Aside0.mk ((by rw [hg]; exact (below_size (by repeat (first | (with_reducible first | exact HB.out | apply below_alloc | apply pw_below_drewN | apply below_drew1 | refine below_set ?_ GE301.out) | exact HB.out))) : w.heap.size ≤ gb302)); have n4_ := Aside0.mk ((by rw [hg]; exact (below_size (by repeat (first | (with_reducible first | exact HB.out | apply below_alloc | apply pw_below_drewN | apply below_drew1 | refine below_set ?_ GE301.out) | exact HB.out))) : w.heap.size ≤ gb302)); have n5_ := Aside0.mk ((by rw [hg]; exact Nat.ne_of_lt (blk_lt (g := gb301) (o := .cells #[.int .i64 a0_0, .slice A0_1 l0_1.length c0_1, .slice A0_2 l0_2.length c0_2] 24 (0, 0)) (by (with_reducible repeat (first | refine blk_drewN ?_ _ | refine blk_drew ?_ | refine blk_alloc ?_ _)); exact BK301.out)) : gb301 ≠ gb302)); have n6_ := Aside0.mk ((by rw [hg]; exact Nat.ne_of_gt (blk_lt (g := gb301) (o := .cells #[.int .i64 a0_0, .slice A0_1 l0_1.length c0_1, .slice A0_2 l0_2.length c0_2] 24 (0, 0)) (by (with_reducible repeat (first | refine blk_drewN ?_ _ | refine blk_drew ?_ | refine blk_alloc ?_ _)); exact BK301.out)) : gb302 ≠ gb301)); clear BK301; clear HB; have BK301 := n0_; have HB := n1_; have BK302 := n2_; have GW302 := n3_; have GE302 := n4_; have NB301_302 := n5_; have NB302_301 := n6_; clear n0_ n1_ n2_ n3_ n4_ n5_ n6_; clear hb hbox hg) | ((with_reducible refine gate_dst (N := 6) rfl ?_); (try (refine gate_guard (by rfl) ?_; dsimp only)); refine box_event ?hg (N := 6) ?hd (cs := #[.int .i64 a2_0, .int .i64 a2_1, .int .i64 a2_2, .int .i64 a2_3]) (t := 76) ?hr ?_; (case hd => rfl); (case hg => rfl); (case hr => first | (go_simp; done) | (go_simp; rfl)); intro gb303 hg w8 hbox hb; have n0_ := Aside0.mk (blk_below (g := gb301) (o := .cells #[.int .i64 a0_0, .slice A0_1 l0_1.length c0_1, .slice A0_2 l0_2.length c0_2] 24 (0, 0)) (by (with_reducible repeat (first | refine blk_drewN ?_ _ | refine blk_drew ?_ | refine blk_alloc ?_ _)); exact BK301.out) hb); have n1_ := Aside0.mk (blk_below (g := gb302) (o := .cells #[.int .i64 a1_0, .slice A1_1 l1_1.length c1_1, .int .i64 a1_2, .int .i64 a1_3] 48 (0, 0)) (by (with_reducible repeat (first | refine blk_drewN ?_ _ | refine blk_drew ?_ | refine blk_alloc ?_ _)); exact BK302.out) hb); have n2_ := Aside0.mk (below_step (by repeat (first | (with_reducible first | exact HB.out | apply below_alloc | apply pw_below_drewN | apply below_drew1 | refine below_set ?_ GE301.out | refine below_set ?_ GE302.out) | exact HB.out)) hb); have n3_ := Aside0.mk (hbox); have n4_ := Aside0.mk ((by rw [hg]; exact (below_size (by repeat (first | (with_reducible first | exact HB.out | apply below_alloc | apply pw_below_drewN | apply below_drew1 | refine below_set ?_ GE301.out | refine below_set ?_ GE302.out) | exact HB.out))) : w.heap.size ≤ gb303)); have n5_ := Aside0.mk ((by rw [hg]; exact (below_size (by repeat (first | (with_reducible first | exact HB.out | apply below_alloc | apply pw_below_drewN | apply below_drew1 | refine below_set ?_ GE301.out | refine below_set ?_ GE302.out) | exact HB.out))) : w.heap.size ≤ gb303)); have n6_ := Aside0.mk ((by rw [hg]; exact Nat.ne_of_lt (blk_lt (g := gb301) (o := .cells #[.int .i64 a0_0, .slice A0_1 l0_1.length c0_1, .slice A0_2 l0_2.length c0_2] 24 (0, 0)) (by (with_reducible repeat (first | refine blk_drewN ?_ _ | refine blk_drew ?_ | refine blk_alloc ?_ _)); exact BK301.out)) : gb301 ≠ gb303)); have n7_ := Aside0.mk ((by rw [hg]; exact Nat.ne_of_gt (blk_lt (g := gb301) (o := .cells #[.int .i64 a0_0, .slice A0_1 l0_1.length c0_1, .slice A0_2 l0_2.length c0_2] 24 (0, 0)) (by (with_reducible repeat (first | refine blk_drewN ?_ _ | refine blk_drew ?_ | refine blk_alloc ?_ _)); exact BK301.out)) : gb303 ≠ gb301)); have n8_ := Aside0.mk ((by rw [hg]; exact Nat.ne_of_lt (blk_lt (g := gb302) (o := .cells #[.int .i64 a1_0, .slice A1_1 l1_1.length c1_1, .int .i64 a1_2, .int .i64 a1_3] 48 (0, 0)) (by (with_reducible repeat (first | refine blk_drewN ?_ _ | refine blk_drew ?_ | refine blk_alloc ?_ _)); exact BK302.out)) : gb302 ≠ gb303)); have n9_ := Aside0.mk ((by rw [hg]; exact Nat.ne_of_gt (blk_lt (g := gb302) (o := .cells #[.int .i64 a1_0, .slice A1_1 l1_1.length c1_1, .int .i64 a1_2, .int .i64 a1_3] 48 (0, 0)) (by (with_reducible repeat (first | refine blk_drewN ?_ _ | refine blk_drew ?_ | refine blk_alloc ?_ _)); exact BK302.out)) : gb303 ≠ gb302)); clear BK301; clear BK302; clear HB; have BK301 := n0_; have BK302 := n1_; have HB := n2_; have BK303 := n3_; have GW303 := n4_; have GE303 := n5_; have NB301_303 := n6_; have NB303_301 := n7_; have NB302_303 := n8_; have NB303_302 := n9_; clear n0_ n1_ n2_ n3_ n4_ n5_ n6_ n7_ n8_ n9_; clear hb hbox hg) | ((with_reducible refine gate_dst (N := 8) rfl ?_); (try (refine gate_guard (by rfl) ?_; dsimp only)); refine box_event ?hg (N := 8) ?hd (cs := #[.int .i64 0, .int .i64 0, .int .i64 0, .int .i64 0]) (t := 76) ?hr ?_; (case hd => rfl); (case hg => rfl); (case hr => first | (go_simp; done) | (go_simp; rfl)); intro gb304 hg w9 hbox hb; have n0_ := Aside0.mk (blk_below (g := gb301) (o := .cells #[.int .i64 a0_0, .slice A0_1 l0_1.length c0_1, .slice A0_2 l0_2.length c0_2] 24 (0, 0)) (by (with_reducible repeat (first | refine blk_drewN ?_ _ | refine blk_drew ?_ | refine blk_alloc ?_ _)); exact BK301.out) hb); have n1_ := Aside0.mk (blk_below (g := gb302) (o := .cells #[.int .i64 a1_0, .slice A1_1 l1_1.length c1_1, .int .i64 a1_2, .int .i64 a1_3] 48 (0, 0)) (by (with_reducible repeat (first | refine blk_drewN ?_ _ | refine blk_drew ?_ | refine blk_alloc ?_ _)); exact BK302.out) hb); have n2_ := Aside0.mk (blk_below (g := gb303) (o := .cells #[.int .i64 a2_0, .int .i64 a2_1, .int .i64 a2_2, .int .i64 a2_3] 76 (0, 0)) (by (with_reducible repeat (first | refine blk_drewN ?_ _ | refine blk_drew ?_ | refine blk_alloc ?_ _)); exact BK303.out) hb); have n3_ := Aside0.mk (below_step (by repeat (first | (with_reducible first | exact HB.out | apply below_alloc | apply pw_below_drewN | apply below_drew1 | refine below_set ?_ GE301.out | refine below_set ?_ GE302.out | refine below_set ?_ GE303.out) | exact HB.out)) hb); have n4_ := Aside0.mk (hbox); have n5_ := Aside0.mk ((by rw [hg]; exact (below_size (by repeat (first | (with_reducible first | exact HB.out | apply below_alloc | apply pw_below_drewN | apply below_drew1 | refine below_set ?_ GE301.out | refine below_set ?_ GE302.out | refine below_set ?_ GE303.out) | exact HB.out))) : w.heap.size ≤ gb304)); have n6_ := Aside0.mk ((by rw [hg]; exact (below_size (by repeat (first | (with_reducible first | exact HB.out | apply below_alloc | apply pw_below_drewN | apply below_drew1 | refine below_set ?_ GE301.out | refine below_set ?_ GE302.out | refine below_set ?_ GE303.out) | exact HB.out))) : w.heap.size ≤ gb304)); have n7_ := Aside0.mk ((by rw [hg]; exact Nat.ne_of_lt (blk_lt (g := gb301) (o := .cells #[.int .i64 a0_0, .slice A0_1 l0_1.length c0_1, .slice A0_2 l0_2.length c0_2] 24 (0, 0)) (by (with_reducible repeat (first | refine blk_drewN ?_ _ | refine blk_drew ?_ | refine blk_alloc ?_ _)); exact BK301.out)) : gb301 ≠ gb304)); have n8_ := Aside0.mk ((by rw [hg]; exact Nat.ne_of_gt (blk_lt (g := gb301) (o := .cells #[.int .i64 a0_0, .slice A0_1 l0_1.length c0_1, .slice A0_2 l0_2.length c0_2] 24 (0, 0)) (by (with_reducible repeat (first | refine blk_drewN ?_ _ | refine blk_drew ?_ | refine blk_alloc ?_ _)); exact BK301.out)) : gb304 ≠ gb301)); have n9_ := Aside0.mk ((by rw [hg]; exact Nat.ne_of_lt (blk_lt (g := gb302) (o := .cells #[.int .i64 a1_0, .slice A1_1 l1_1.length c1_1, .int .i64 a1_2, .int .i64 a1_3] 48 (0, 0)) (by (with_reducible repeat (first | refine blk_drewN ?_ _ | refine blk_drew ?_ | refine blk_alloc ?_ _)); exact BK302.out)) : gb302 ≠ gb304)); have n10_ := Aside0.mk ((by rw [hg]; exact Nat.ne_of_gt (blk_lt (g := gb302) (o := .cells #[.int .i64 a1_0, .slice A1_1 l1_1.length c1_1, .int .i64 a1_2, .int .i64 a1_3] 48 (0, 0)) (by (with_reducible repeat (first | refine blk_drewN ?_ _ | refine blk_drew ?_ | refine blk_alloc ?_ _)); exact BK302.out)) : gb304 ≠ gb302)); have n11_ := Aside0.mk ((by rw [hg]; exact Nat.ne_of_lt (blk_lt (g := gb303) (o := .cells #[.int .i64 a2_0, .int .i64 a2_1, .int .i64 a2_2, .int .i64 a2_3] 76 (0, 0)) (by (with_reducible repeat (first | refine blk_drewN ?_ _ | refine blk_drew ?_ | refine blk_alloc ?_ _)); exact BK303.out)) : gb303 ≠ gb304)); have n12_ := Aside0.mk ((by rw [hg]; exact Nat.ne_of_gt (blk_lt (g := gb303) (o := .cells #[.int .i64 a2_0, .int .i64 a2_1, .int .i64 a2_2, .int .i64 a2_3] 76 (0, 0)) (by (with_reducible repeat (first | refine blk_drewN ?_ _ | refine blk_drew ?_ | refine blk_alloc ?_ _)); exact BK303.out)) : gb304 ≠ gb303)); clear BK301; clear BK302; clear BK303; clear HB; have BK301 := n0_; have BK302 := n1_; have BK303 := n2_; have HB := n3_; have BK304 := n4_; have GW304 := n5_; have GE304 := n6_; have NB301_304 := n7_; have NB304_301 := n8_; have NB302_304 := n9_; have NB304_302 := n10_; have NB303_304 := n11_; have NB304_303 := n12_; clear n0_ n1_ n2_ n3_ n4_ n5_ n6_ n7_ n8_ n9_ n10_ n11_ n12_; clear hb hbox hg))
  (try simp only [Act.put, List.setIfInBounds_toArray, List.set_cons_zero, List.set_cons_succ])
  go_cut [28] (fun v28 wc => ∃ (kq : Nat) (x28_4 : Bool), v28 = .bool x28_4 ∧ Aside0 (curfewref15_Next.j0 kq a3 x28_4 a0_0 l0_1 l0_2 a1_0 l1_1 a1_2 a1_3 a2_0 a2_1 a2_2 a2_3 = some (r1, r2, r3, r4, r5, r6)) ∧ Aside0 (kq ≤ k) ∧ Aside0 (wc.heap[gb301]? = some (.cells #[.int .i64 a0_0, (.slice A0_1 l0_1.length c0_1), (.slice A0_2 l0_2.length c0_2)] 24 (0, 0))) ∧ Aside0 (wc.heap[gb302]? = some (.cells #[.int .i64 a1_0, (.slice A1_1 l1_1.length c1_1), .int .i64 a1_2, .int .i64 a1_3] 48 (0, 0))) ∧ Aside0 (wc.heap[gb303]? = some (.cells #[.int .i64 a2_0, .int .i64 a2_1, .int .i64 a2_2, .int .i64 a2_3] 76 (0, 0))) ∧ Aside0 (wc.heap[gb304]? = some (.cells #[.int .i64 0, .int .i64 0, .int .i64 0, .int .i64 0] 76 (0, 0))) ∧ Aside0 (Below w.heap.size w wc))
  case first =>
    have H := HC5.out
    clear HC5
    replace H := Option.bind_eq_some_iff.mp H
    obtain ⟨t305, A100, H⟩ := H
    replace H : (if t305 = true then (if a2_0 < 0 then (curfewref15_Next.j0 k a3 true a0_0 l0_1 l0_2 a1_0 l1_1 a1_2 a1_3 a2_0 a2_1 a2_2 a2_3) else (curfewref15_Next.j0 k a3 (decide (a2_0 ≥ (l1_1.length : Int))) a0_0 l0_1 l0_2 a1_0 l1_1 a1_2 a1_3 a2_0 a2_1 a2_2 a2_3)) else (curfewref15_Next.j0 k a3 true a0_0 l0_1 l0_2 a1_0 l1_1 a1_2 a1_3 a2_0 a2_1 a2_2 a2_3)) = some (r1, r2, r3, r4, r5, r6) := H
    have A10 := Aside0.mk A100
    clear A100
    by_cases c11 : t305 = true
    · subst c11
      have H1 : (if a2_0 < 0 then (curfewref15_Next.j0 k a3 true a0_0 l0_1 l0_2 a1_0 l1_1 a1_2 a1_3 a2_0 a2_1 a2_2 a2_3) else (curfewref15_Next.j0 k a3 (decide (a2_0 ≥ (l1_1.length : Int))) a0_0 l0_1 l0_2 a1_0 l1_1 a1_2 a1_3 a2_0 a2_1 a2_2 a2_3)) = some (r1, r2, r3, r4, r5, r6) := by rw [if_pos rfl] at H; exact H
      clear H
      have H := H1
      clear H1
      by_cases c12 : a2_0 < 0
      · rw [if_pos c12] at H
        have c12b0 : decide (a2_0 < 0) = true := decide_eq_true c12
        clear c12
        (first | rw [c12b0] | (simp only [i64_w, i32_w]; rw [c12b0]) | skip)
        have H' := Aside0.mk H
        clear H
        have hnb13 := NB302_301.out
        have hnc13 := NB301_302.out
        have hnb14 := NB302_303.out
        have hnc14 := NB303_302.out
        have hnb15 := NB302_304.out
        have hnc15 := NB304_302.out
        have hcz16_0 : w9.cell? ⟨gb302, 0, none⟩ = some (.int .i64 a1_0) := (blk_cell BK302.out 0).trans rfl
        have hcz16_1 : w9.cell? ⟨gb302, 1, none⟩ = some (.slice A1_1 l1_1.length c1_1) := (blk_cell BK302.out 1).trans rfl
        have hcz16_2 : w9.cell? ⟨gb302, 2, none⟩ = some (.int .i64 a1_2) := (blk_cell BK302.out 2).trans rfl
        have hcz16_3 : w9.cell? ⟨gb302, 3, none⟩ = some (.int .i64 a1_3) := (blk_cell BK302.out 3).trans rfl
        have hfz16_0 := blk_frozen BK302.out 0
        have hfz16_1 := blk_frozen BK302.out 1
        have hfz16_2 := blk_frozen BK302.out 2
        have hfz16_3 := blk_frozen BK302.out 3
        go_wp2_with (first | ((with_reducible refine gate_callee (f := 25) rfl ?_); refine goesL_ (some 14) rfl rfl Tryz.func25 (by kernel_rfl) rfl #[.agg #[.int .i64 a1_0, .slice A1_1 l1_1.length c1_1, .int .i64 a1_2, .int .i64 a1_3]] rfl (by (try simp only [List.map_toArray, List.map_cons, List.map_nil]); first | done | rfl | (simp only [List.length_drop, List.length_take]; rfl)) ?_; (with_reducible refine (curfewref14_Good.calls k a1_0 _ _ l1_1 a1_2 a1_3 true _ ?side1 ?side2 A10.out).mono ?_); (case side1 => repeat (first | exact (Kd.C_below HR1_1.out HB.out) | (with_reducible refine Kd.C_alloc ?_ _) | (with_reducible refine Kd.C_drewN ?_ _) | (with_reducible refine Kd.C_drew ?_))); (case side2 => exact HC1_1.out); rintro e w17 ⟨rfl, hb⟩; refine ⟨_, rfl, ?_⟩; have n0_ := Aside0.mk (blk_below (g := gb301) (o := .cells #[.int .i64 a0_0, .slice A0_1 l0_1.length c0_1, .slice A0_2 l0_2.length c0_2] 24 (0, 0)) (by (with_reducible repeat (first | refine blk_drewN ?_ _ | refine blk_drew ?_ | refine blk_alloc ?_ _)); exact BK301.out) hb); have n1_ := Aside0.mk (blk_below (g := gb302) (o := .cells #[.int .i64 a1_0, .slice A1_1 l1_1.length c1_1, .int .i64 a1_2, .int .i64 a1_3] 48 (0, 0)) (by (with_reducible repeat (first | refine blk_drewN ?_ _ | refine blk_drew ?_ | refine blk_alloc ?_ _)); exact BK302.out) hb); have n2_ := Aside0.mk (blk_below (g := gb303) (o := .cells #[.int .i64 a2_0, .int .i64 a2_1, .int .i64 a2_2, .int .i64 a2_3] 76 (0, 0)) (by (with_reducible repeat (first | refine blk_drewN ?_ _ | refine blk_drew ?_ | refine blk_alloc ?_ _)); exact BK303.out) hb); have n3_ := Aside0.mk (blk_below (g := gb304) (o := .cells #[.int .i64 0, .int .i64 0, .int .i64 0, .int .i64 0] 76 (0, 0)) (by (with_reducible repeat (first | refine blk_drewN ?_ _ | refine blk_drew ?_ | refine blk_alloc ?_ _)); exact BK304.out) hb); have n4_ := Aside0.mk (below_step (by repeat (first | (with_reducible first | exact HB.out | apply below_alloc | apply pw_below_drewN | apply below_drew1 | refine below_set ?_ GE301.out | refine below_set ?_ GE302.out | refine below_set ?_ GE303.out | refine below_set ?_ GE304.out) | exact HB.out)) hb); clear BK301; clear BK302; clear BK303; clear BK304; clear HB; have BK301 := n0_; have BK302 := n1_; have BK303 := n2_; have BK304 := n3_; have HB := n4_; clear n0_ n1_ n2_ n3_ n4_; (try clear hb); (try clear hb2); (try clear hk); (try clear hi); have hnb18 := NB303_301.out; have hnc18 := NB301_303.out; have hnb19 := NB303_304.out; have hnc19 := NB304_303.out; have hcz20_0 : w17.cell? ⟨gb303, 0, none⟩ = some (.int .i64 a2_0) := (blk_cell BK303.out 0).trans rfl; have hcz20_1 : w17.cell? ⟨gb303, 1, none⟩ = some (.int .i64 a2_1) := (blk_cell BK303.out 1).trans rfl; have hcz20_2 : w17.cell? ⟨gb303, 2, none⟩ = some (.int .i64 a2_2) := (blk_cell BK303.out 2).trans rfl; have hcz20_3 : w17.cell? ⟨gb303, 3, none⟩ = some (.int .i64 a2_3) := (blk_cell BK303.out 3).trans rfl; have hfz20_0 := blk_frozen BK303.out 0; have hfz20_1 := blk_frozen BK303.out 1; have hfz20_2 := blk_frozen BK303.out 2; have hfz20_3 := blk_frozen BK303.out 3))
        go_meet
        case rel => exact ⟨_, (true), (by first | rfl | (simp; done) | (simp [*]; done)), H', ⟨by first | omega | exact Nat.le_refl _⟩, ⟨by (with_reducible repeat (first | refine blk_drewN ?_ _ | refine blk_drew ?_ | refine blk_alloc ?_ _)); exact BK301.out⟩, ⟨by (with_reducible repeat (first | refine blk_drewN ?_ _ | refine blk_drew ?_ | refine blk_alloc ?_ _)); exact BK302.out⟩, ⟨by (with_reducible repeat (first | refine blk_drewN ?_ _ | refine blk_drew ?_ | refine blk_alloc ?_ _)); exact BK303.out⟩, ⟨by (with_reducible repeat (first | refine blk_drewN ?_ _ | refine blk_drew ?_ | refine blk_alloc ?_ _)); exact BK304.out⟩, ⟨by repeat (first | (with_reducible first | exact HB.out | apply below_alloc | apply pw_below_drewN | apply below_drew1 | refine below_set ?_ GE301.out | refine below_set ?_ GE302.out | refine below_set ?_ GE303.out | refine below_set ?_ GE304.out) | exact HB.out)⟩⟩
      · rw [if_neg c12] at H
        have c12b0 : decide (a2_0 < 0) = false := decide_eq_false c12
        clear c12
        (first | rw [c12b0] | (simp only [i64_w, i32_w]; rw [c12b0]) | skip)
        have H' := Aside0.mk H
        clear H
        have hnb21 := NB302_301.out
        have hnc21 := NB301_302.out
        have hnb22 := NB302_303.out
        have hnc22 := NB303_302.out
        have hnb23 := NB302_304.out
        have hnc23 := NB304_302.out
        have hcz24_0 : w9.cell? ⟨gb302, 0, none⟩ = some (.int .i64 a1_0) := (blk_cell BK302.out 0).trans rfl
        have hcz24_1 : w9.cell? ⟨gb302, 1, none⟩ = some (.slice A1_1 l1_1.length c1_1) := (blk_cell BK302.out 1).trans rfl
        have hcz24_2 : w9.cell? ⟨gb302, 2, none⟩ = some (.int .i64 a1_2) := (blk_cell BK302.out 2).trans rfl
        have hcz24_3 : w9.cell? ⟨gb302, 3, none⟩ = some (.int .i64 a1_3) := (blk_cell BK302.out 3).trans rfl
        have hfz24_0 := blk_frozen BK302.out 0
        have hfz24_1 := blk_frozen BK302.out 1
        have hfz24_2 := blk_frozen BK302.out 2
        have hfz24_3 := blk_frozen BK302.out 3
        go_wp2_with (first | ((with_reducible refine gate_callee (f := 25) rfl ?_); refine goesL_ (some 14) rfl rfl Tryz.func25 (by kernel_rfl) rfl #[.agg #[.int .i64 a1_0, .slice A1_1 l1_1.length c1_1, .int .i64 a1_2, .int .i64 a1_3]] rfl (by (try simp only [List.map_toArray, List.map_cons, List.map_nil]); first | done | rfl | (simp only [List.length_drop, List.length_take]; rfl)) ?_; (with_reducible refine (curfewref14_Good.calls k a1_0 _ _ l1_1 a1_2 a1_3 true _ ?side1 ?side2 A10.out).mono ?_); (case side1 => repeat (first | exact (Kd.C_below HR1_1.out HB.out) | (with_reducible refine Kd.C_alloc ?_ _) | (with_reducible refine Kd.C_drewN ?_ _) | (with_reducible refine Kd.C_drew ?_))); (case side2 => exact HC1_1.out); rintro e w25 ⟨rfl, hb⟩; refine ⟨_, rfl, ?_⟩; have n0_ := Aside0.mk (blk_below (g := gb301) (o := .cells #[.int .i64 a0_0, .slice A0_1 l0_1.length c0_1, .slice A0_2 l0_2.length c0_2] 24 (0, 0)) (by (with_reducible repeat (first | refine blk_drewN ?_ _ | refine blk_drew ?_ | refine blk_alloc ?_ _)); exact BK301.out) hb); have n1_ := Aside0.mk (blk_below (g := gb302) (o := .cells #[.int .i64 a1_0, .slice A1_1 l1_1.length c1_1, .int .i64 a1_2, .int .i64 a1_3] 48 (0, 0)) (by (with_reducible repeat (first | refine blk_drewN ?_ _ | refine blk_drew ?_ | refine blk_alloc ?_ _)); exact BK302.out) hb); have n2_ := Aside0.mk (blk_below (g := gb303) (o := .cells #[.int .i64 a2_0, .int .i64 a2_1, .int .i64 a2_2, .int .i64 a2_3] 76 (0, 0)) (by (with_reducible repeat (first | refine blk_drewN ?_ _ | refine blk_drew ?_ | refine blk_alloc ?_ _)); exact BK303.out) hb); have n3_ := Aside0.mk (blk_below (g := gb304) (o := .cells #[.int .i64 0, .int .i64 0, .int .i64 0, .int .i64 0] 76 (0, 0)) (by (with_reducible repeat (first | refine blk_drewN ?_ _ | refine blk_drew ?_ | refine blk_alloc ?_ _)); exact BK304.out) hb); have n4_ := Aside0.mk (below_step (by repeat (first | (with_reducible first | exact HB.out | apply below_alloc | apply pw_below_drewN | apply below_drew1 | refine below_set ?_ GE301.out | refine below_set ?_ GE302.out | refine below_set ?_ GE303.out | refine below_set ?_ GE304.out) | exact HB.out)) hb); clear BK301; clear BK302; clear BK303; clear BK304; clear HB; have BK301 := n0_; have BK302 := n1_; have BK303 := n2_; have BK304 := n3_; have HB := n4_; clear n0_ n1_ n2_ n3_ n4_; (try clear hb); (try clear hb2); (try clear hk); (try clear hi); have hnb26 := NB303_301.out; have hnc26 := NB301_303.out; have hnb27 := NB303_304.out; have hnc27 := NB304_303.out; have hcz28_0 : w25.cell? ⟨gb303, 0, none⟩ = some (.int .i64 a2_0) := (blk_cell BK303.out 0).trans rfl; have hcz28_1 : w25.cell? ⟨gb303, 1, none⟩ = some (.int .i64 a2_1) := (blk_cell BK303.out 1).trans rfl; have hcz28_2 : w25.cell? ⟨gb303, 2, none⟩ = some (.int .i64 a2_2) := (blk_cell BK303.out 2).trans rfl; have hcz28_3 : w25.cell? ⟨gb303, 3, none⟩ = some (.int .i64 a2_3) := (blk_cell BK303.out 3).trans rfl; have hfz28_0 := blk_frozen BK303.out 0; have hfz28_1 := blk_frozen BK303.out 1; have hfz28_2 := blk_frozen BK303.out 2; have hfz28_3 := blk_frozen BK303.out 3; have hcz29_0 : w25.cell? ⟨gb302, 0, none⟩ = some (.int .i64 a1_0) := (blk_cell BK302.out 0).trans rfl; have hcz29_1 : w25.cell? ⟨gb302, 1, none⟩ = some (.slice A1_1 l1_1.length c1_1) := (blk_cell BK302.out 1).trans rfl; have hcz29_2 : w25.cell? ⟨gb302, 2, none⟩ = some (.int .i64 a1_2) := (blk_cell BK302.out 2).trans rfl; have hcz29_3 : w25.cell? ⟨gb302, 3, none⟩ = some (.int .i64 a1_3) := (blk_cell BK302.out 3).trans rfl; have hfz29_0 := blk_frozen BK302.out 0; have hfz29_1 := blk_frozen BK302.out 1; have hfz29_2 := blk_frozen BK302.out 2; have hfz29_3 := blk_frozen BK302.out 3))
        go_meet
        case rel => exact ⟨_, (decide (a2_0 ≥ (l1_1.length : Int))), (by first | rfl | (simp; done) | (simp [*]; done)), H', ⟨by first | omega | exact Nat.le_refl _⟩, ⟨by (with_reducible repeat (first | refine blk_drewN ?_ _ | refine blk_drew ?_ | refine blk_alloc ?_ _)); exact BK301.out⟩, ⟨by (with_reducible repeat (first | refine blk_drewN ?_ _ | refine blk_drew ?_ | refine blk_alloc ?_ _)); exact BK302.out⟩, ⟨by (with_reducible repeat (first | refine blk_drewN ?_ _ | refine blk_drew ?_ | refine blk_alloc ?_ _)); exact BK303.out⟩, ⟨by (with_reducible repeat (first | refine blk_drewN ?_ _ | refine blk_drew ?_ | refine blk_alloc ?_ _)); exact BK304.out⟩, ⟨by repeat (first | (with_reducible first | exact HB.out | apply below_alloc | apply pw_below_drewN | apply below_drew1 | refine below_set ?_ GE301.out | refine below_set ?_ GE302.out | refine below_set ?_ GE303.out | refine below_set ?_ GE304.out) | exact HB.out)⟩⟩
    · replace c11 := Bool.eq_false_iff.mpr c11
      subst c11
      have H1 : (curfewref15_Next.j0 k a3 true a0_0 l0_1 l0_2 a1_0 l1_1 a1_2 a1_3 a2_0 a2_1 a2_2 a2_3) = some (r1, r2, r3, r4, r5, r6) := by rw [if_neg (show ¬ (false = true) by decide)] at H; exact H
      clear H
      have H := H1
      clear H1
      have H' := Aside0.mk H
      clear H
      have hnb30 := NB302_301.out
      have hnc30 := NB301_302.out
      have hnb31 := NB302_303.out
      have hnc31 := NB303_302.out
      have hnb32 := NB302_304.out
      have hnc32 := NB304_302.out
      have hcz33_0 : w9.cell? ⟨gb302, 0, none⟩ = some (.int .i64 a1_0) := (blk_cell BK302.out 0).trans rfl
      have hcz33_1 : w9.cell? ⟨gb302, 1, none⟩ = some (.slice A1_1 l1_1.length c1_1) := (blk_cell BK302.out 1).trans rfl
      have hcz33_2 : w9.cell? ⟨gb302, 2, none⟩ = some (.int .i64 a1_2) := (blk_cell BK302.out 2).trans rfl
      have hcz33_3 : w9.cell? ⟨gb302, 3, none⟩ = some (.int .i64 a1_3) := (blk_cell BK302.out 3).trans rfl
      have hfz33_0 := blk_frozen BK302.out 0
      have hfz33_1 := blk_frozen BK302.out 1
      have hfz33_2 := blk_frozen BK302.out 2
      have hfz33_3 := blk_frozen BK302.out 3
      go_wp2_with (first | ((with_reducible refine gate_callee (f := 25) rfl ?_); refine goesL_ (some 14) rfl rfl Tryz.func25 (by kernel_rfl) rfl #[.agg #[.int .i64 a1_0, .slice A1_1 l1_1.length c1_1, .int .i64 a1_2, .int .i64 a1_3]] rfl (by (try simp only [List.map_toArray, List.map_cons, List.map_nil]); first | done | rfl | (simp only [List.length_drop, List.length_take]; rfl)) ?_; (with_reducible refine (curfewref14_Good.calls k a1_0 _ _ l1_1 a1_2 a1_3 false _ ?side1 ?side2 A10.out).mono ?_); (case side1 => repeat (first | exact (Kd.C_below HR1_1.out HB.out) | (with_reducible refine Kd.C_alloc ?_ _) | (with_reducible refine Kd.C_drewN ?_ _) | (with_reducible refine Kd.C_drew ?_))); (case side2 => exact HC1_1.out); rintro e w34 ⟨rfl, hb⟩; refine ⟨_, rfl, ?_⟩; have n0_ := Aside0.mk (blk_below (g := gb301) (o := .cells #[.int .i64 a0_0, .slice A0_1 l0_1.length c0_1, .slice A0_2 l0_2.length c0_2] 24 (0, 0)) (by (with_reducible repeat (first | refine blk_drewN ?_ _ | refine blk_drew ?_ | refine blk_alloc ?_ _)); exact BK301.out) hb); have n1_ := Aside0.mk (blk_below (g := gb302) (o := .cells #[.int .i64 a1_0, .slice A1_1 l1_1.length c1_1, .int .i64 a1_2, .int .i64 a1_3] 48 (0, 0)) (by (with_reducible repeat (first | refine blk_drewN ?_ _ | refine blk_drew ?_ | refine blk_alloc ?_ _)); exact BK302.out) hb); have n2_ := Aside0.mk (blk_below (g := gb303) (o := .cells #[.int .i64 a2_0, .int .i64 a2_1, .int .i64 a2_2, .int .i64 a2_3] 76 (0, 0)) (by (with_reducible repeat (first | refine blk_drewN ?_ _ | refine blk_drew ?_ | refine blk_alloc ?_ _)); exact BK303.out) hb); have n3_ := Aside0.mk (blk_below (g := gb304) (o := .cells #[.int .i64 0, .int .i64 0, .int .i64 0, .int .i64 0] 76 (0, 0)) (by (with_reducible repeat (first | refine blk_drewN ?_ _ | refine blk_drew ?_ | refine blk_alloc ?_ _)); exact BK304.out) hb); have n4_ := Aside0.mk (below_step (by repeat (first | (with_reducible first | exact HB.out | apply below_alloc | apply pw_below_drewN | apply below_drew1 | refine below_set ?_ GE301.out | refine below_set ?_ GE302.out | refine below_set ?_ GE303.out | refine below_set ?_ GE304.out) | exact HB.out)) hb); clear BK301; clear BK302; clear BK303; clear BK304; clear HB; have BK301 := n0_; have BK302 := n1_; have BK303 := n2_; have BK304 := n3_; have HB := n4_; clear n0_ n1_ n2_ n3_ n4_; (try clear hb); (try clear hb2); (try clear hk); (try clear hi)))
      go_meet
      case rel => exact ⟨_, (true), (by first | rfl | (simp; done) | (simp [*]; done)), H', ⟨by first | omega | exact Nat.le_refl _⟩, ⟨by (with_reducible repeat (first | refine blk_drewN ?_ _ | refine blk_drew ?_ | refine blk_alloc ?_ _)); exact BK301.out⟩, ⟨by (with_reducible repeat (first | refine blk_drewN ?_ _ | refine blk_drew ?_ | refine blk_alloc ?_ _)); exact BK302.out⟩, ⟨by (with_reducible repeat (first | refine blk_drewN ?_ _ | refine blk_drew ?_ | refine blk_alloc ?_ _)); exact BK303.out⟩, ⟨by (with_reducible repeat (first | refine blk_drewN ?_ _ | refine blk_drew ?_ | refine blk_alloc ?_ _)); exact BK304.out⟩, ⟨by repeat (first | (with_reducible first | exact HB.out | apply below_alloc | apply pw_below_drewN | apply below_drew1 | refine below_set ?_ GE301.out | refine below_set ?_ GE302.out | refine below_set ?_ GE303.out | refine below_set ?_ GE304.out) | exact HB.out)⟩⟩
  case rest =>
    clear HC5
    try clear c1
    try clear c2
    try clear p2
    try clear c3
    try clear c8
    try clear c11
    try clear c12
    try clear c12b0
    try clear c13
    try clear c14
    try clear c15
    try clear c18
    try clear c19
    try clear c21
    try clear c22
    try clear c23
    try clear c25
    try clear c26
    try clear c27
    try clear c30
    try clear c31
    try clear c32
    try clear hcz16_0
    try clear hcz16_1
    try clear hcz16_2
    try clear hcz16_3
    try clear hcz20_0
    try clear hcz20_1
    try clear hcz20_2
    try clear hcz20_3
    try clear hcz24_0
    try clear hcz24_1
    try clear hcz24_2
    try clear hcz24_3
    try clear hcz28_0
    try clear hcz28_1
    try clear hcz28_2
    try clear hcz28_3
    try clear hcz29_0
    try clear hcz29_1
    try clear hcz29_2
    try clear hcz29_3
    try clear hcz33_0
    try clear hcz33_1
    try clear hcz33_2
    try clear hcz33_3
    try clear hfz16_0
    try clear hfz16_1
    try clear hfz16_2
    try clear hfz16_3
    try clear hfz20_0
    try clear hfz20_1
    try clear hfz20_2
    try clear hfz20_3
    try clear hfz24_0
    try clear hfz24_1
    try clear hfz24_2
    try clear hfz24_3
    try clear hfz28_0
    try clear hfz28_1
    try clear hfz28_2
    try clear hfz28_3
    try clear hfz29_0
    try clear hfz29_1
    try clear hfz29_2
    try clear hfz29_3
    try clear hfz33_0
    try clear hfz33_1
    try clear hfz33_2
    try clear hfz33_3
    obtain ⟨kq, x28_4, rfl, HA, HJ4, BK301, BK302, BK303, BK304, HB⟩ := hcut
    cases kq with
    | zero => exact absurd HA.out (by simp [curfewref15_Next.j0])
    | succ kj4 =>
      have H := HA.out
      clear HA
      simp only [curfewref15_Next.j0] at H
      by_cases c35 : x28_4 = true
      · subst c35
        have H1 : (some (0, 0, 0, 0, false, 2)) = some (r1, r2, r3, r4, r5, r6) := by rw [if_pos rfl] at H; exact H
        clear H
        have H := H1
        clear H1
        simp only [Option.some.injEq, Prod.mk.injEq] at H
        obtain ⟨rfl, rfl, rfl, rfl, rfl, rfl⟩ := H
        have hnb36 := NB304_301.out
        have hnc36 := NB301_304.out
        have hnb37 := NB304_302.out
        have hnc37 := NB302_304.out
        have hnb38 := NB304_303.out
        have hnc38 := NB303_304.out
        have hcz39_0 : wc.cell? ⟨gb304, 0, none⟩ = some (.int .i64 0) := (blk_cell BK304.out 0).trans rfl
        have hcz39_1 : wc.cell? ⟨gb304, 1, none⟩ = some (.int .i64 0) := (blk_cell BK304.out 1).trans rfl
        have hcz39_2 : wc.cell? ⟨gb304, 2, none⟩ = some (.int .i64 0) := (blk_cell BK304.out 2).trans rfl
        have hcz39_3 : wc.cell? ⟨gb304, 3, none⟩ = some (.int .i64 0) := (blk_cell BK304.out 3).trans rfl
        have hfz39_0 := blk_frozen BK304.out 0
        have hfz39_1 := blk_frozen BK304.out 1
        have hfz39_2 := blk_frozen BK304.out 2
        have hfz39_3 := blk_frozen BK304.out 3
        go_wp2
        refine bodyPost_ret (results_ctt rfl _ _ gb304 76 #[.int .i64 0, .int .i64 0, .int .i64 0, .int .i64 0] (0, 0) _ rfl (by (with_reducible repeat (first | refine blk_drewN ?_ _ | refine blk_drew ?_ | refine blk_alloc ?_ _)); refine blk_put (cs := #[.int .i64 0, .int .i64 0, .int .i64 0, .int .i64 0]) ?_ 3 _ rfl; (with_reducible repeat (first | refine blk_drewN ?_ _ | refine blk_drew ?_ | refine blk_alloc ?_ _)); refine blk_put (cs := #[.int .i64 0, .int .i64 0, .int .i64 0, .int .i64 0]) ?_ 2 _ rfl; (with_reducible repeat (first | refine blk_drewN ?_ _ | refine blk_drew ?_ | refine blk_alloc ?_ _)); refine blk_put (cs := #[.int .i64 0, .int .i64 0, .int .i64 0, .int .i64 0]) ?_ 1 _ rfl; (with_reducible repeat (first | refine blk_drewN ?_ _ | refine blk_drew ?_ | refine blk_alloc ?_ _)); refine blk_put (cs := #[.int .i64 0, .int .i64 0, .int .i64 0, .int .i64 0]) ?_ 0 _ rfl; (with_reducible repeat (first | refine blk_drewN ?_ _ | refine blk_drew ?_ | refine blk_alloc ?_ _)); exact BK304.out) Tryz.underlying76 rfl (by kernel_rfl)) rfl ?_
        exact ⟨by first | rfl | (simp [errW_none, errW_some] <;> rfl) | (simp [*, errW_none, errW_some] <;> rfl), by repeat (first | (with_reducible first | exact HB.out | apply below_alloc | apply pw_below_drewN | apply below_drew1 | refine below_set ?_ GE301.out | refine below_set ?_ GE302.out | refine below_set ?_ GE303.out | refine below_set ?_ GE304.out) | exact HB.out)⟩
      · replace c35 := Bool.eq_false_iff.mpr c35
        subst c35
        have H1 : (if a2_0 = (wrap64 ((l1_1.length : Int) - 1)) then (some (0, 0, 0, 0, false, 0)) else (if 0 ≤ (wrap64 (a2_0 + 1)) then (if (wrap64 (a2_0 + 1)) < (l1_1.length : Int) then ((curfewref15_begin.f kj4 a0_0 l0_1 l0_2 (wrap64 (a2_0 + 1)) ((rd_T71 l1_1 (wrap64 (a2_0 + 1))).f0) a3).bind fun bt307 => (some (bt307.1, bt307.2.1, bt307.2.2.1, bt307.2.2.2.1, (bt307.2.2.2.2 == 0), bt307.2.2.2.2))) else (none)) else (none))) = some (r1, r2, r3, r4, r5, r6) := by rw [if_neg (show ¬ (false = true) by decide)] at H; exact H
        clear H
        have H := H1
        clear H1
        by_cases c40 : a2_0 = (wrap64 ((l1_1.length : Int) - 1))
        · rw [if_pos c40] at H
          have c40b0 : (a2_0 == (wrap64 ((l1_1.length : Int) - 1))) = true := beq_iff_eq.mpr c40
          have c40b1 : (a2_0 != (wrap64 ((l1_1.length : Int) - 1))) = false := bne_eq_false_iff_eq.mpr c40
          clear c40
          simp only [Option.some.injEq, Prod.mk.injEq] at H
          obtain ⟨rfl, rfl, rfl, rfl, rfl, rfl⟩ := H
          have hnb41 := NB303_301.out
          have hnc41 := NB301_303.out
          have hnb42 := NB303_302.out
          have hnc42 := NB302_303.out
          have hnb43 := NB303_304.out
          have hnc43 := NB304_303.out
          have hcz44_0 : wc.cell? ⟨gb303, 0, none⟩ = some (.int .i64 a2_0) := (blk_cell BK303.out 0).trans rfl
          have hcz44_1 : wc.cell? ⟨gb303, 1, none⟩ = some (.int .i64 a2_1) := (blk_cell BK303.out 1).trans rfl
          have hcz44_2 : wc.cell? ⟨gb303, 2, none⟩ = some (.int .i64 a2_2) := (blk_cell BK303.out 2).trans rfl
          have hcz44_3 : wc.cell? ⟨gb303, 3, none⟩ = some (.int .i64 a2_3) := (blk_cell BK303.out 3).trans rfl
          have hfz44_0 := blk_frozen BK303.out 0
          have hfz44_1 := blk_frozen BK303.out 1
          have hfz44_2 := blk_frozen BK303.out 2
          have hfz44_3 := blk_frozen BK303.out 3
          have hnb45 := NB302_301.out
          have hnc45 := NB301_302.out
          have hnb46 := NB302_304.out
          have hnc46 := NB304_302.out
          have hcz47_0 : wc.cell? ⟨gb302, 0, none⟩ = some (.int .i64 a1_0) := (blk_cell BK302.out 0).trans rfl
          have hcz47_1 : wc.cell? ⟨gb302, 1, none⟩ = some (.slice A1_1 l1_1.length c1_1) := (blk_cell BK302.out 1).trans rfl
          have hcz47_2 : wc.cell? ⟨gb302, 2, none⟩ = some (.int .i64 a1_2) := (blk_cell BK302.out 2).trans rfl
          have hcz47_3 : wc.cell? ⟨gb302, 3, none⟩ = some (.int .i64 a1_3) := (blk_cell BK302.out 3).trans rfl
          have hfz47_0 := blk_frozen BK302.out 0
          have hfz47_1 := blk_frozen BK302.out 1
          have hfz47_2 := blk_frozen BK302.out 2
          have hfz47_3 := blk_frozen BK302.out 3
          have hnb48 := NB304_301.out
          have hnc48 := NB301_304.out
          have hcz49_0 : wc.cell? ⟨gb304, 0, none⟩ = some (.int .i64 0) := (blk_cell BK304.out 0).trans rfl
          have hcz49_1 : wc.cell? ⟨gb304, 1, none⟩ = some (.int .i64 0) := (blk_cell BK304.out 1).trans rfl
          have hcz49_2 : wc.cell? ⟨gb304, 2, none⟩ = some (.int .i64 0) := (blk_cell BK304.out 2).trans rfl
          have hcz49_3 : wc.cell? ⟨gb304, 3, none⟩ = some (.int .i64 0) := (blk_cell BK304.out 3).trans rfl
          have hfz49_0 := blk_frozen BK304.out 0
          have hfz49_1 := blk_frozen BK304.out 1
          have hfz49_2 := blk_frozen BK304.out 2
          have hfz49_3 := blk_frozen BK304.out 3
          go_wp2
          refine bodyPost_ret (results_ctt rfl _ _ gb304 76 #[.int .i64 0, .int .i64 0, .int .i64 0, .int .i64 0] (0, 0) _ rfl (by (with_reducible repeat (first | refine blk_drewN ?_ _ | refine blk_drew ?_ | refine blk_alloc ?_ _)); refine blk_put (cs := #[.int .i64 0, .int .i64 0, .int .i64 0, .int .i64 0]) ?_ 3 _ rfl; (with_reducible repeat (first | refine blk_drewN ?_ _ | refine blk_drew ?_ | refine blk_alloc ?_ _)); refine blk_put (cs := #[.int .i64 0, .int .i64 0, .int .i64 0, .int .i64 0]) ?_ 2 _ rfl; (with_reducible repeat (first | refine blk_drewN ?_ _ | refine blk_drew ?_ | refine blk_alloc ?_ _)); refine blk_put (cs := #[.int .i64 0, .int .i64 0, .int .i64 0, .int .i64 0]) ?_ 1 _ rfl; (with_reducible repeat (first | refine blk_drewN ?_ _ | refine blk_drew ?_ | refine blk_alloc ?_ _)); refine blk_put (cs := #[.int .i64 0, .int .i64 0, .int .i64 0, .int .i64 0]) ?_ 0 _ rfl; (with_reducible repeat (first | refine blk_drewN ?_ _ | refine blk_drew ?_ | refine blk_alloc ?_ _)); exact BK304.out) Tryz.underlying76 rfl (by kernel_rfl)) rfl ?_
          exact ⟨by first | rfl | (simp [errW_none, errW_some] <;> rfl) | (simp [*, errW_none, errW_some] <;> rfl), by repeat (first | (with_reducible first | exact HB.out | apply below_alloc | apply pw_below_drewN | apply below_drew1 | refine below_set ?_ GE301.out | refine below_set ?_ GE302.out | refine below_set ?_ GE303.out | refine below_set ?_ GE304.out) | exact HB.out)⟩
        · rw [if_neg c40] at H
          have c40b0 : (a2_0 == (wrap64 ((l1_1.length : Int) - 1))) = false := beq_eq_false_iff_ne.mpr c40
          have c40b1 : (a2_0 != (wrap64 ((l1_1.length : Int) - 1))) = true := bne_iff_ne.mpr c40
          obtain ⟨ji50, hji50⟩ : ∃ j_ : Int, (wrap64 (a2_0 + 1)) = j_ := ⟨_, rfl⟩
          replace H : (if 0 ≤ (ji50) then (if (ji50) < (l1_1.length : Int) then ((curfewref15_begin.f kj4 a0_0 l0_1 l0_2 (ji50) ((rd_T71 l1_1 (ji50)).f0) a3).bind fun bt307 => (some (bt307.1, bt307.2.1, bt307.2.2.1, bt307.2.2.2.1, (bt307.2.2.2.2 == 0), bt307.2.2.2.2))) else (none)) else (none)) = some (r1, r2, r3, r4, r5, r6) := by first | (rw [hji50] at H; exact H) | (simp only [hji50] at H ⊢; exact H)
          have hji50w : (IntKind.i64.wrap (a2_0 + 1)) = ji50 := (i64_w _).trans hji50
          by_cases c51 : 0 ≤ (ji50)
          · rw [if_pos c51] at H
            have c51b0 : decide (0 ≤ (ji50)) = true := decide_eq_true c51
            clear c51
            by_cases c52 : (ji50) < (l1_1.length : Int)
            · rw [if_pos c52] at H
              have c52b0 : decide ((ji50) < (l1_1.length : Int)) = true := decide_eq_true c52
              clear c52
              replace H := Option.bind_eq_some_iff.mp H
              obtain ⟨⟨t307, t308, t309, t310, t311⟩, A530, H⟩ := H
              replace H : (some (t307, t308, t309, t310, (t311 == 0), t311)) = some (r1, r2, r3, r4, r5, r6) := H
              have A53 := Aside0.mk A530
              clear A530
              simp only [Option.some.injEq, Prod.mk.injEq] at H
              obtain ⟨rfl, rfl, rfl, rfl, rfl, rfl⟩ := H
              have hnb54 := NB303_301.out
              have hnc54 := NB301_303.out
              have hnb55 := NB303_302.out
              have hnc55 := NB302_303.out
              have hnb56 := NB303_304.out
              have hnc56 := NB304_303.out
              have hcz57_0 : wc.cell? ⟨gb303, 0, none⟩ = some (.int .i64 a2_0) := (blk_cell BK303.out 0).trans rfl
              have hcz57_1 : wc.cell? ⟨gb303, 1, none⟩ = some (.int .i64 a2_1) := (blk_cell BK303.out 1).trans rfl
              have hcz57_2 : wc.cell? ⟨gb303, 2, none⟩ = some (.int .i64 a2_2) := (blk_cell BK303.out 2).trans rfl
              have hcz57_3 : wc.cell? ⟨gb303, 3, none⟩ = some (.int .i64 a2_3) := (blk_cell BK303.out 3).trans rfl
              have hfz57_0 := blk_frozen BK303.out 0
              have hfz57_1 := blk_frozen BK303.out 1
              have hfz57_2 := blk_frozen BK303.out 2
              have hfz57_3 := blk_frozen BK303.out 3
              have hnb58 := NB302_301.out
              have hnc58 := NB301_302.out
              have hnb59 := NB302_304.out
              have hnc59 := NB304_302.out
              have hcz60_0 : wc.cell? ⟨gb302, 0, none⟩ = some (.int .i64 a1_0) := (blk_cell BK302.out 0).trans rfl
              have hcz60_1 : wc.cell? ⟨gb302, 1, none⟩ = some (.slice A1_1 l1_1.length c1_1) := (blk_cell BK302.out 1).trans rfl
              have hcz60_2 : wc.cell? ⟨gb302, 2, none⟩ = some (.int .i64 a1_2) := (blk_cell BK302.out 2).trans rfl
              have hcz60_3 : wc.cell? ⟨gb302, 3, none⟩ = some (.int .i64 a1_3) := (blk_cell BK302.out 3).trans rfl
              have hfz60_0 := blk_frozen BK302.out 0
              have hfz60_1 := blk_frozen BK302.out 1
              have hfz60_2 := blk_frozen BK302.out 2
              have hfz60_3 := blk_frozen BK302.out 3
              try go_wp2
              have n0_ := Aside0.mk (blk_drew BK301.out)
              have n1_ := Aside0.mk (blk_drew BK302.out)
              have n2_ := Aside0.mk (blk_drew BK303.out)
              have n3_ := Aside0.mk (blk_drew BK304.out)
              have n4_ := Aside0.mk (below_drew1 HB.out)
              clear BK301
              clear BK302
              clear BK303
              clear BK304
              clear HB
              have BK301 := n0_
              have BK302 := n1_
              have BK303 := n2_
              have BK304 := n3_
              have HB := n4_
              clear n0_ n1_ n2_ n3_ n4_
              have p306 : 0 ≤ ((ji50) : Int) := of_decide_eq_true (by first | (with_reducible assumption) | assumption)
              have q306 : (ji50) < (l1_1.length : Int) := of_decide_eq_true (by first | (with_reducible assumption) | assumption)
              obtain ⟨ad306, e306, hx306_0, hx306_1⟩ := at_T71 HR1_1.out (ji50) p306 q306
              have hw306_1 := hx306_1
              have hw306_0 := hx306_0
              cases e306
              replace hx306_0 := (HB.out.cell (World.block_lt_of_cell? w _ hx306_0)).trans hx306_0
              replace hx306_1 := (HB.out.cell (World.block_lt_of_cell? w _ hx306_1)).trans hx306_1
              replace p306 := eq_true p306
              replace q306 := eq_true q306
              refine start_ (n := 20) (S := fun w' => w'.cell? ⟨gb301, 0, none⟩ = some (.int .i64 a0_0) ∧ w'.cell? ⟨gb301, 1, none⟩ = some (.slice A0_1 l0_1.length c0_1) ∧ w'.cell? ⟨gb301, 2, none⟩ = some (.slice A0_2 l0_2.length c0_2) ∧ w'.cell? ⟨gb303, 0, none⟩ = some (.int .i64 a2_0) ∧ w'.cell? ⟨gb303, 1, none⟩ = some (.int .i64 a2_1) ∧ w'.cell? ⟨gb303, 2, none⟩ = some (.int .i64 a2_2) ∧ w'.cell? ⟨gb303, 3, none⟩ = some (.int .i64 a2_3) ∧ w'.cell? ⟨gb302, 0, none⟩ = some (.int .i64 a1_0) ∧ w'.cell? ⟨gb302, 1, none⟩ = some (.slice (some ad306) l1_1.length c1_1) ∧ w'.cell? ⟨gb302, 2, none⟩ = some (.int .i64 a1_2) ∧ w'.cell? ⟨gb302, 3, none⟩ = some (.int .i64 a1_3) ∧ w'.cell? (ad306.add (((ji50)).toNat * 2)) = some (.int .i64 ((rd_T71 l1_1 (ji50)).f0)) ∧ w'.cell? ⟨(ad306.add (((ji50)).toNat * 2)).block, (ad306.add (((ji50)).toNat * 2)).off + 1, none⟩ = some (.int .i64 ((rd_T71 l1_1 (ji50)).f1))) (ds := []) #[false, false, false, false, false, false, false, false, false, false, false, false, false, false, false, false, false, false, false, false] (by kernel_rfl) rfl rfl ⟨(blk_cell BK301.out 0).trans rfl, (blk_cell BK301.out 1).trans rfl, (blk_cell BK301.out 2).trans rfl, (blk_cell BK303.out 0).trans rfl, (blk_cell BK303.out 1).trans rfl, (blk_cell BK303.out 2).trans rfl, (blk_cell BK303.out 3).trans rfl, (blk_cell BK302.out 0).trans rfl, (blk_cell BK302.out 1).trans rfl, (blk_cell BK302.out 2).trans rfl, (blk_cell BK302.out 3).trans rfl, ((HB.out.cell (World.block_lt_of_cell? w _ hw306_0)).trans hw306_0), ((HB.out.cell (World.block_lt_of_cell? w _ hw306_1)).trans hw306_1)⟩ (fun hHeld => ?_); refine with_tabW curfewref15_Next.tab5 curfewref15_Next.bits5 (fun HT_ HW_ => ?_)
              generalize wc.drew = w61 at BK301 BK302 BK303 BK304 HB hx306_0 hx306_1 hHeld ⊢
              refine pure_ (i := 1) (N := some 40) (v := ?_) (a' := ?_) #[false, true, false, false, false, false, false, false, false, false, false, false, false, false, false, false, false, false, false, false] rfl rfl (any_of HT_.out (by kernel_rfl)) (fun _ _ _ h => h) (Or.inl ⟨by rfl, ?_⟩) ?_ ?_
              rotate_left
              · intro w'
                go_simp
                with_reducible rfl
              rotate_left
              · simp only [Act.put, List.setIfInBounds_toArray, List.set_cons_zero, List.set_cons_succ, i64_w, i32_w]
                rfl
              refine pure_ (i := 4) (N := some 43) (v := ?_) (a' := ?_) #[false, true, false, false, true, false, false, false, false, false, false, false, false, false, false, false, false, false, false, false] rfl rfl (any_of HT_.out (by kernel_rfl)) (fun _ _ _ h => h) (Or.inl ⟨by rfl, ?_⟩) ?_ ?_
              rotate_left
              · intro w'
                go_simp
                with_reducible rfl
              rotate_left
              · simp only [Act.put, List.setIfInBounds_toArray, List.set_cons_zero, List.set_cons_succ, i64_w, i32_w]
                rfl
              refine pure_ (i := 6) (N := some 45) (v := ?_) (a' := ?_) #[false, true, false, false, true, false, true, false, false, false, false, false, false, false, false, false, false, false, false, false] rfl rfl (any_of HT_.out (by kernel_rfl)) (fun _ _ _ h => h) (Or.inl ⟨by rfl, ?_⟩) ?_ ?_
              rotate_left
              · intro w'
                go_simp
                with_reducible rfl
              rotate_left
              · simp only [Act.put, List.setIfInBounds_toArray, List.set_cons_zero, List.set_cons_succ, i64_w, i32_w]
                rfl
              refine pure_ (i := 12) (N := some 51) (v := ?_) (a' := ?_) #[false, true, false, false, true, false, true, false, false, false, false, false, true, false, false, false, false, false, false, false] rfl rfl (any_of HT_.out (by kernel_rfl)) (fun _ _ _ h => h) (Or.inl ⟨by rfl, ?_⟩) ?_ ?_
              rotate_left
              · intro w'
                go_simp
                with_reducible rfl
              rotate_left
              · simp only [Act.put, List.setIfInBounds_toArray, List.set_cons_zero, List.set_cons_succ, i64_w, i32_w]
                rfl
              refine take_ (i := 0) (N := some 39) (v := ?_) (a' := ?_) #[true, true, false, false, true, false, true, false, false, false, false, false, true, false, false, false, false, false, false, false] rfl rfl (take_ofW HT_.out HW_.out (by kernel_rfl)) (fun _ _ _ h => h) (Or.inl ⟨by rfl, ?_⟩) hHeld ?_ ?_
              rotate_left
              · rintro w' ⟨s0, s1, s2, s3, s4, s5, s6, s7, s8, s9, s10, s11, s12⟩
                go_simp
                with_reducible rfl
              rotate_left
              · simp only [Act.put, List.setIfInBounds_toArray, List.set_cons_zero, List.set_cons_succ, i64_w, i32_w]
                rfl
              refine take_ (i := 2) (N := some 41) (v := ?_) (a' := ?_) #[true, true, true, false, true, false, true, false, false, false, false, false, true, false, false, false, false, false, false, false] rfl rfl (take_ofW HT_.out HW_.out (by kernel_rfl)) (fun _ _ _ h => h) (Or.inl ⟨by rfl, ?_⟩) hHeld ?_ ?_
              rotate_left
              · rintro w' ⟨s0, s1, s2, s3, s4, s5, s6, s7, s8, s9, s10, s11, s12⟩
                go_simp
                with_reducible rfl
              rotate_left
              · simp only [Act.put, List.setIfInBounds_toArray, List.set_cons_zero, List.set_cons_succ, i64_w, i32_w]
                rfl
              refine pure_ (i := 3) (N := some 42) (v := ?_) (a' := ?_) #[true, true, true, true, true, false, true, false, false, false, false, false, true, false, false, false, false, false, false, false] rfl rfl (any_of HT_.out (by kernel_rfl)) (fun _ _ _ h => h) (Or.inl ⟨by rfl, ?_⟩) ?_ ?_
              rotate_left
              · intro w'
                go_simp
                with_reducible rfl
              rotate_left
              · simp only [Act.put, List.setIfInBounds_toArray, List.set_cons_zero, List.set_cons_succ, i64_w, i32_w]
                rfl
              refine take_ (i := 5) (N := some 44) (v := ?_) (a' := ?_) #[true, true, true, true, true, true, true, false, false, false, false, false, true, false, false, false, false, false, false, false] rfl rfl (take_ofW HT_.out HW_.out (by kernel_rfl)) (fun _ _ _ h => h) (Or.inl ⟨by rfl, ?_⟩) hHeld ?_ ?_
              rotate_left
              · rintro w' ⟨s0, s1, s2, s3, s4, s5, s6, s7, s8, s9, s10, s11, s12⟩
                go_simp
                with_reducible rfl
              rotate_left
              · simp only [Act.put, List.setIfInBounds_toArray, List.set_cons_zero, List.set_cons_succ, i64_w, i32_w]
                rfl
              refine take_ (i := 7) (N := some 46) (v := ?_) (a' := ?_) #[true, true, true, true, true, true, true, true, false, false, false, false, true, false, false, false, false, false, false, false] rfl rfl (take_ofW HT_.out HW_.out (by kernel_rfl)) (fun _ _ _ h => h) (Or.inl ⟨by rfl, ?_⟩) hHeld ?_ ?_
              rotate_left
              · rintro w' ⟨s0, s1, s2, s3, s4, s5, s6, s7, s8, s9, s10, s11, s12⟩
                go_simp
                with_reducible rfl
              rotate_left
              · simp only [Act.put, List.setIfInBounds_toArray, List.set_cons_zero, List.set_cons_succ, i64_w, i32_w]
                rfl
              refine pure_ (i := 8) (N := some 47) (v := ?_) (a' := ?_) #[true, true, true, true, true, true, true, true, true, false, false, false, true, false, false, false, false, false, false, false] rfl rfl (any_of HT_.out (by kernel_rfl)) (fun _ _ _ h => h) (Or.inl ⟨by rfl, ?_⟩) ?_ ?_
              rotate_left
              · intro w'
                go_simp
                with_reducible rfl
              rotate_left
              · simp only [Act.put, List.setIfInBounds_toArray, List.set_cons_zero, List.set_cons_succ, i64_w, i32_w]
                rfl
              refine pure_ (i := 9) (N := some 48) (v := ?_) (a' := ?_) #[true, true, true, true, true, true, true, true, true, true, false, false, true, false, false, false, false, false, false, false] rfl rfl (any_of HT_.out (by kernel_rfl)) (fun _ _ _ h => h) (Or.inl ⟨by rfl, ?_⟩) ?_ ?_
              rotate_left
              · intro w'
                go_simp
                with_reducible rfl
              rotate_left
              · simp only [Act.put, List.setIfInBounds_toArray, List.set_cons_zero, List.set_cons_succ, i64_w, i32_w]
                rfl
              refine pure_ (i := 10) (N := some 49) (v := ?_) (a' := ?_) #[true, true, true, true, true, true, true, true, true, true, true, false, true, false, false, false, false, false, false, false] rfl rfl (any_of HT_.out (by kernel_rfl)) (fun _ _ _ h => h) (Or.inl ⟨by rfl, ?_⟩) ?_ ?_
              rotate_left
              · intro w'
                go_simp
                with_reducible rfl
              rotate_left
              · simp only [Act.put, List.setIfInBounds_toArray, List.set_cons_zero, List.set_cons_succ, i64_w, i32_w]
                rfl
              refine take_ (i := 11) (N := some 50) (v := ?_) (a' := ?_) #[true, true, true, true, true, true, true, true, true, true, true, true, true, false, false, false, false, false, false, false] rfl rfl (take_ofW HT_.out HW_.out (by kernel_rfl)) (fun _ _ _ h => h) (Or.inl ⟨by rfl, ?_⟩) hHeld ?_ ?_
              rotate_left
              · rintro w' ⟨s0, s1, s2, s3, s4, s5, s6, s7, s8, s9, s10, s11, s12⟩
                go_simp
                with_reducible rfl
              rotate_left
              · simp only [Act.put, List.setIfInBounds_toArray, List.set_cons_zero, List.set_cons_succ, i64_w, i32_w]
                rfl
              refine join_ (σ := Nat) 2 #[true, true, true, true, true, true, true, true, true, true, true, true, true, true, true, true, true, true, false, false] (fun s_ => [(52, .tuple #[.agg #[.int .i64 t307, .int .i64 t308, .int .i64 t309, .int .i64 t310], .int .i64 t311]), (11, .pointer (some ⟨s_, 0, none⟩)), (38, .tuple #[.agg #[.int .i64 t307, .int .i64 t308, .int .i64 t309, .int .i64 t310], .int .i64 t311]), (53, .agg #[.int .i64 t307, .int .i64 t308, .int .i64 t309, .int .i64 t310]), (54, .int .i64 t311)]) (fun s_ w' => (w'.cell? ⟨gb301, 0, none⟩ = some (.int .i64 a0_0) ∧ w'.cell? ⟨gb301, 1, none⟩ = some (.slice A0_1 l0_1.length c0_1) ∧ w'.cell? ⟨gb301, 2, none⟩ = some (.slice A0_2 l0_2.length c0_2) ∧ w'.cell? ⟨gb303, 0, none⟩ = some (.int .i64 a2_0) ∧ w'.cell? ⟨gb303, 1, none⟩ = some (.int .i64 a2_1) ∧ w'.cell? ⟨gb303, 2, none⟩ = some (.int .i64 a2_2) ∧ w'.cell? ⟨gb303, 3, none⟩ = some (.int .i64 a2_3) ∧ w'.cell? ⟨gb302, 0, none⟩ = some (.int .i64 a1_0) ∧ w'.cell? ⟨gb302, 1, none⟩ = some (.slice (some ad306) l1_1.length c1_1) ∧ w'.cell? ⟨gb302, 2, none⟩ = some (.int .i64 a1_2) ∧ w'.cell? ⟨gb302, 3, none⟩ = some (.int .i64 a1_3) ∧ w'.cell? (ad306.add (((ji50)).toNat * 2)) = some (.int .i64 ((rd_T71 l1_1 (ji50)).f0)) ∧ w'.cell? ⟨(ad306.add (((ji50)).toNat * 2)).block, (ad306.add (((ji50)).toNat * 2)).off + 1, none⟩ = some (.int .i64 ((rd_T71 l1_1 (ji50)).f1))) ∧ (w'.heap[gb301]? = some (.cells #[.int .i64 a0_0, .slice A0_1 l0_1.length c0_1, .slice A0_2 l0_2.length c0_2] 24 (0, 0))) ∧ (w'.heap[gb302]? = some (.cells #[.int .i64 a1_0, .slice (some ad306) l1_1.length c1_1, .int .i64 a1_2, .int .i64 a1_3] 48 (0, 0))) ∧ (w'.heap[gb303]? = some (.cells #[.int .i64 a2_0, .int .i64 a2_1, .int .i64 a2_2, .int .i64 a2_3] 76 (0, 0))) ∧ (w'.heap[gb304]? = some (.cells #[.int .i64 0, .int .i64 0, .int .i64 0, .int .i64 0] 76 (0, 0))) ∧ (w'.heap[s_]? = some (.cells #[.int .i64 0, .int .i64 0, .int .i64 0, .int .i64 0] 76 (0, 0))) ∧ (w.heap.size ≤ s_) ∧ (w.heap.size ≤ s_) ∧ (gb301 ≠ s_) ∧ (s_ ≠ gb301) ∧ (gb302 ≠ s_) ∧ (s_ ≠ gb302) ∧ (gb303 ≠ s_) ∧ (s_ ≠ gb303) ∧ (gb304 ≠ s_) ∧ (s_ ≠ gb304) ∧ (Below w.heap.size w w')) ?_ ?_
              rotate_left
              · intro hCont
                refine two_ (i := 13) (j := 17) (Ni := some 52) (Nj := some 11) #[true, true, true, true, true, true, true, true, true, true, true, true, true, true, false, false, false, false, false, false] #[true, true, true, true, true, true, true, true, true, true, true, true, true, false, false, false, false, true, false, false] rfl rfl rfl rfl (two_of HT_.out (by kernel_rfl)) (by decide) (by decide) (fun K hK => ?_) (fun K hK => ?_)
                · skip
                  refine goes_ Tryz.func123 (by kernel_rfl) rfl #[.agg #[.int .i64 a0_0, .slice A0_1 l0_1.length c0_1, .slice A0_2 l0_2.length c0_2], .int .i64 ji50, .int .i64 ((rd_T71 l1_1 (ji50)).f0), .int .i64 a3] (by rfl) rfl rfl (by (try simp only [List.map_toArray, List.map_cons, List.map_nil]); first | done | (simp only [hji50]; rfl) | rfl | (simp only [List.length_drop, List.length_take]; rfl)) ?_
                  with_reducible refine (curfewref15_begin.calls kj4 a0_0 _ _ l0_1 _ _ l0_2 ji50 ((rd_T71 l1_1 (ji50)).f0) a3 t307 t308 t309 t310 t311 _ ?side1 ?side2 ?side3 ?side4 A53.out).mono ?_
                  (case side1 => repeat (first | exact (Kd.C_below HR0_1.out HB.out) | (with_reducible refine Kd.C_alloc ?_ _) | (with_reducible refine Kd.C_drewN ?_ _) | (with_reducible refine Kd.C_drew ?_)))
                  (case side2 => exact HC0_1.out)
                  (case side3 => repeat (first | exact (Kd.C_below HR0_2.out HB.out) | (with_reducible refine Kd.C_alloc ?_ _) | (with_reducible refine Kd.C_drewN ?_ _) | (with_reducible refine Kd.C_drew ?_)))
                  (case side4 => exact HC0_2.out)
                  rintro e w62 ⟨rfl, hb⟩
                  refine ⟨_, rfl, ?_⟩
                  have n0_ := Aside0.mk (blk_below (g := gb301) (o := .cells #[.int .i64 a0_0, .slice A0_1 l0_1.length c0_1, .slice A0_2 l0_2.length c0_2] 24 (0, 0)) (by (with_reducible repeat (first | refine blk_drewN ?_ _ | refine blk_drew ?_ | refine blk_alloc ?_ _)); exact BK301.out) hb)
                  have n1_ := Aside0.mk (blk_below (g := gb302) (o := .cells #[.int .i64 a1_0, .slice (some ad306) l1_1.length c1_1, .int .i64 a1_2, .int .i64 a1_3] 48 (0, 0)) (by (with_reducible repeat (first | refine blk_drewN ?_ _ | refine blk_drew ?_ | refine blk_alloc ?_ _)); exact BK302.out) hb)
                  have n2_ := Aside0.mk (blk_below (g := gb303) (o := .cells #[.int .i64 a2_0, .int .i64 a2_1, .int .i64 a2_2, .int .i64 a2_3] 76 (0, 0)) (by (with_reducible repeat (first | refine blk_drewN ?_ _ | refine blk_drew ?_ | refine blk_alloc ?_ _)); exact BK303.out) hb)
                  have n3_ := Aside0.mk (blk_below (g := gb304) (o := .cells #[.int .i64 0, .int .i64 0, .int .i64 0, .int .i64 0] 76 (0, 0)) (by (with_reducible repeat (first | refine blk_drewN ?_ _ | refine blk_drew ?_ | refine blk_alloc ?_ _)); exact BK304.out) hb)
                  have n4_ := Aside0.mk (below_step (by repeat (first | (with_reducible first | exact HB.out | apply below_alloc | apply pw_below_drewN | apply below_drew1 | refine below_set ?_ GE301.out | refine below_set ?_ GE302.out | refine below_set ?_ GE303.out | refine below_set ?_ GE304.out) | exact HB.out)) hb)
                  clear BK301
                  clear BK302
                  clear BK303
                  clear BK304
                  clear HB
                  have BK301 := n0_
                  have BK302 := n1_
                  have BK303 := n2_
                  have BK304 := n3_
                  have HB := n4_
                  clear n0_ n1_ n2_ n3_ n4_
                  (try clear hb)
                  (try clear hb2)
                  (try clear hk)
                  (try clear hi)
                  refine hK.out _ _ ⟨(blk_cell BK301.out 0).trans rfl, (blk_cell BK301.out 1).trans rfl, (blk_cell BK301.out 2).trans rfl, (blk_cell BK303.out 0).trans rfl, (blk_cell BK303.out 1).trans rfl, (blk_cell BK303.out 2).trans rfl, (blk_cell BK303.out 3).trans rfl, (blk_cell BK302.out 0).trans rfl, (blk_cell BK302.out 1).trans rfl, (blk_cell BK302.out 2).trans rfl, (blk_cell BK302.out 3).trans rfl, ((HB.out.cell (World.block_lt_of_cell? w _ hw306_0)).trans hw306_0), ((HB.out.cell (World.block_lt_of_cell? w _ hw306_1)).trans hw306_1)⟩ (fun hHeld => ?_)
                  clear hK K
                  refine norm_ (a' := ?_) ?_ ?_
                  rotate_left
                  · show Act.put _ (some 52) _ = _
                    simp only [Act.put, List.setIfInBounds_toArray, List.set_cons_zero, List.set_cons_succ, i64_w, i32_w]
                    rfl
                  refine pure_ (i := 14) (N := some 38) (v := ?_) (a' := ?_) #[true, true, true, true, true, true, true, true, true, true, true, true, true, true, true, false, false, false, false, false] rfl rfl (any_of HT_.out (by kernel_rfl)) (fun _ _ _ h => h) (Or.inl ⟨by rfl, ?_⟩) ?_ ?_
                  rotate_left
                  · intro w'
                    go_simp
                    with_reducible rfl
                  rotate_left
                  · simp only [Act.put, List.setIfInBounds_toArray, List.set_cons_zero, List.set_cons_succ, i64_w, i32_w]
                    rfl
                  refine pure_ (i := 15) (N := some 53) (v := ?_) (a' := ?_) #[true, true, true, true, true, true, true, true, true, true, true, true, true, true, true, true, false, false, false, false] rfl rfl (any_of HT_.out (by kernel_rfl)) (fun _ _ _ h => h) (Or.inl ⟨by rfl, ?_⟩) ?_ ?_
                  rotate_left
                  · intro w'
                    go_simp
                    with_reducible rfl
                  rotate_left
                  · simp only [Act.put, List.setIfInBounds_toArray, List.set_cons_zero, List.set_cons_succ, i64_w, i32_w]
                    rfl
                  refine pure_ (i := 16) (N := some 54) (v := ?_) (a' := ?_) #[true, true, true, true, true, true, true, true, true, true, true, true, true, true, true, true, true, false, false, false] rfl rfl (any_of HT_.out (by kernel_rfl)) (fun _ _ _ h => h) (Or.inl ⟨by rfl, ?_⟩) ?_ ?_
                  rotate_left
                  · intro w'
                    go_simp
                    with_reducible rfl
                  rotate_left
                  · simp only [Act.put, List.setIfInBounds_toArray, List.set_cons_zero, List.set_cons_succ, i64_w, i32_w]
                    rfl
                  refine one_ (i := 17) (N := some 11) #[true, true, true, true, true, true, true, true, true, true, true, true, true, true, true, true, true, true, false, false] rfl rfl (one_of HT_.out (by kernel_rfl)) (by decide) (fun K hK => ?_)
                  refine box_step ?hg (N := 11) ?hd (cs := #[.int .i64 0, .int .i64 0, .int .i64 0, .int .i64 0]) (t := 76) ?hr ?_; (case hd => rfl); (case hg => rfl); (case hr => first | (go_simp; done) | (go_simp; rfl))
                  intro gb312 hg w63 hbox hb
                  have n0_ := Aside0.mk (blk_below (g := gb301) (o := .cells #[.int .i64 a0_0, .slice A0_1 l0_1.length c0_1, .slice A0_2 l0_2.length c0_2] 24 (0, 0)) (by (with_reducible repeat (first | refine blk_drewN ?_ _ | refine blk_drew ?_ | refine blk_alloc ?_ _)); exact BK301.out) hb)
                  have n1_ := Aside0.mk (blk_below (g := gb302) (o := .cells #[.int .i64 a1_0, .slice (some ad306) l1_1.length c1_1, .int .i64 a1_2, .int .i64 a1_3] 48 (0, 0)) (by (with_reducible repeat (first | refine blk_drewN ?_ _ | refine blk_drew ?_ | refine blk_alloc ?_ _)); exact BK302.out) hb)
                  have n2_ := Aside0.mk (blk_below (g := gb303) (o := .cells #[.int .i64 a2_0, .int .i64 a2_1, .int .i64 a2_2, .int .i64 a2_3] 76 (0, 0)) (by (with_reducible repeat (first | refine blk_drewN ?_ _ | refine blk_drew ?_ | refine blk_alloc ?_ _)); exact BK303.out) hb)
                  have n3_ := Aside0.mk (blk_below (g := gb304) (o := .cells #[.int .i64 0, .int .i64 0, .int .i64 0, .int .i64 0] 76 (0, 0)) (by (with_reducible repeat (first | refine blk_drewN ?_ _ | refine blk_drew ?_ | refine blk_alloc ?_ _)); exact BK304.out) hb)
                  have n4_ := Aside0.mk (below_step (by repeat (first | (with_reducible first | exact HB.out | apply below_alloc | apply pw_below_drewN | apply below_drew1 | refine below_set ?_ GE301.out | refine below_set ?_ GE302.out | refine below_set ?_ GE303.out | refine below_set ?_ GE304.out) | exact HB.out)) hb)
                  have n5_ := Aside0.mk (hbox)
                  have n6_ := Aside0.mk ((by rw [hg]; exact (below_size (by repeat (first | (with_reducible first | exact HB.out | apply below_alloc | apply pw_below_drewN | apply below_drew1 | refine below_set ?_ GE301.out | refine below_set ?_ GE302.out | refine below_set ?_ GE303.out | refine below_set ?_ GE304.out) | exact HB.out))) : w.heap.size ≤ gb312))
                  have n7_ := Aside0.mk ((by rw [hg]; exact (below_size (by repeat (first | (with_reducible first | exact HB.out | apply below_alloc | apply pw_below_drewN | apply below_drew1 | refine below_set ?_ GE301.out | refine below_set ?_ GE302.out | refine below_set ?_ GE303.out | refine below_set ?_ GE304.out) | exact HB.out))) : w.heap.size ≤ gb312))
                  have n8_ := Aside0.mk ((by rw [hg]; exact Nat.ne_of_lt (blk_lt (g := gb301) (o := .cells #[.int .i64 a0_0, .slice A0_1 l0_1.length c0_1, .slice A0_2 l0_2.length c0_2] 24 (0, 0)) (by (with_reducible repeat (first | refine blk_drewN ?_ _ | refine blk_drew ?_ | refine blk_alloc ?_ _)); exact BK301.out)) : gb301 ≠ gb312))
                  have n9_ := Aside0.mk ((by rw [hg]; exact Nat.ne_of_gt (blk_lt (g := gb301) (o := .cells #[.int .i64 a0_0, .slice A0_1 l0_1.length c0_1, .slice A0_2 l0_2.length c0_2] 24 (0, 0)) (by (with_reducible repeat (first | refine blk_drewN ?_ _ | refine blk_drew ?_ | refine blk_alloc ?_ _)); exact BK301.out)) : gb312 ≠ gb301))
                  have n10_ := Aside0.mk ((by rw [hg]; exact Nat.ne_of_lt (blk_lt (g := gb302) (o := .cells #[.int .i64 a1_0, .slice (some ad306) l1_1.length c1_1, .int .i64 a1_2, .int .i64 a1_3] 48 (0, 0)) (by (with_reducible repeat (first | refine blk_drewN ?_ _ | refine blk_drew ?_ | refine blk_alloc ?_ _)); exact BK302.out)) : gb302 ≠ gb312))
                  have n11_ := Aside0.mk ((by rw [hg]; exact Nat.ne_of_gt (blk_lt (g := gb302) (o := .cells #[.int .i64 a1_0, .slice (some ad306) l1_1.length c1_1, .int .i64 a1_2, .int .i64 a1_3] 48 (0, 0)) (by (with_reducible repeat (first | refine blk_drewN ?_ _ | refine blk_drew ?_ | refine blk_alloc ?_ _)); exact BK302.out)) : gb312 ≠ gb302))
                  have n12_ := Aside0.mk ((by rw [hg]; exact Nat.ne_of_lt (blk_lt (g := gb303) (o := .cells #[.int .i64 a2_0, .int .i64 a2_1, .int .i64 a2_2, .int .i64 a2_3] 76 (0, 0)) (by (with_reducible repeat (first | refine blk_drewN ?_ _ | refine blk_drew ?_ | refine blk_alloc ?_ _)); exact BK303.out)) : gb303 ≠ gb312))
                  have n13_ := Aside0.mk ((by rw [hg]; exact Nat.ne_of_gt (blk_lt (g := gb303) (o := .cells #[.int .i64 a2_0, .int .i64 a2_1, .int .i64 a2_2, .int .i64 a2_3] 76 (0, 0)) (by (with_reducible repeat (first | refine blk_drewN ?_ _ | refine blk_drew ?_ | refine blk_alloc ?_ _)); exact BK303.out)) : gb312 ≠ gb303))
                  have n14_ := Aside0.mk ((by rw [hg]; exact Nat.ne_of_lt (blk_lt (g := gb304) (o := .cells #[.int .i64 0, .int .i64 0, .int .i64 0, .int .i64 0] 76 (0, 0)) (by (with_reducible repeat (first | refine blk_drewN ?_ _ | refine blk_drew ?_ | refine blk_alloc ?_ _)); exact BK304.out)) : gb304 ≠ gb312))
                  have n15_ := Aside0.mk ((by rw [hg]; exact Nat.ne_of_gt (blk_lt (g := gb304) (o := .cells #[.int .i64 0, .int .i64 0, .int .i64 0, .int .i64 0] 76 (0, 0)) (by (with_reducible repeat (first | refine blk_drewN ?_ _ | refine blk_drew ?_ | refine blk_alloc ?_ _)); exact BK304.out)) : gb312 ≠ gb304))
                  clear BK301
                  clear BK302
                  clear BK303
                  clear BK304
                  clear HB
                  have BK301 := n0_
                  have BK302 := n1_
                  have BK303 := n2_
                  have BK304 := n3_
                  have HB := n4_
                  have BK312 := n5_
                  have GW312 := n6_
                  have GE312 := n7_
                  have NB301_312 := n8_
                  have NB312_301 := n9_
                  have NB302_312 := n10_
                  have NB312_302 := n11_
                  have NB303_312 := n12_
                  have NB312_303 := n13_
                  have NB304_312 := n14_
                  have NB312_304 := n15_
                  clear n0_ n1_ n2_ n3_ n4_ n5_ n6_ n7_ n8_ n9_ n10_ n11_ n12_ n13_ n14_ n15_
                  clear hb hbox hg
                  refine hK.out _ _ ⟨(blk_cell BK301.out 0).trans rfl, (blk_cell BK301.out 1).trans rfl, (blk_cell BK301.out 2).trans rfl, (blk_cell BK303.out 0).trans rfl, (blk_cell BK303.out 1).trans rfl, (blk_cell BK303.out 2).trans rfl, (blk_cell BK303.out 3).trans rfl, (blk_cell BK302.out 0).trans rfl, (blk_cell BK302.out 1).trans rfl, (blk_cell BK302.out 2).trans rfl, (blk_cell BK302.out 3).trans rfl, ((HB.out.cell (World.block_lt_of_cell? w _ hw306_0)).trans hw306_0), ((HB.out.cell (World.block_lt_of_cell? w _ hw306_1)).trans hw306_1)⟩ (fun hHeld => ?_)
                  clear hK K
                  refine norm_ (a' := ?_) ?_ ?_
                  rotate_left
                  · show Act.put _ (some 11) _ = _
                    simp only [Act.put, List.setIfInBounds_toArray, List.set_cons_zero, List.set_cons_succ, i64_w, i32_w]
                    rfl
                  exact norm_ (by simp only [putAll, Act.put, List.setIfInBounds_toArray, List.set_cons_zero, List.set_cons_succ]) (hCont (gb312) _ ⟨hHeld, (by (with_reducible repeat (first | refine blk_drewN ?_ _ | refine blk_drew ?_ | refine blk_alloc ?_ _)); exact BK301.out), (by (with_reducible repeat (first | refine blk_drewN ?_ _ | refine blk_drew ?_ | refine blk_alloc ?_ _)); exact BK302.out), (by (with_reducible repeat (first | refine blk_drewN ?_ _ | refine blk_drew ?_ | refine blk_alloc ?_ _)); exact BK303.out), (by (with_reducible repeat (first | refine blk_drewN ?_ _ | refine blk_drew ?_ | refine blk_alloc ?_ _)); exact BK304.out), (by (with_reducible repeat (first | refine blk_drewN ?_ _ | refine blk_drew ?_ | refine blk_alloc ?_ _)); exact BK312.out), GW312.out, GE312.out, NB301_312.out, NB312_301.out, NB302_312.out, NB312_302.out, NB303_312.out, NB312_303.out, NB304_312.out, NB312_304.out, (by repeat (first | (with_reducible first | exact HB.out | apply below_alloc | apply pw_below_drewN | apply below_drew1 | refine below_set ?_ GE301.out | refine below_set ?_ GE302.out | refine below_set ?_ GE303.out | refine below_set ?_ GE304.out | refine below_set ?_ GE312.out) | exact HB.out))⟩)
                · skip
                  refine box_step ?hg (N := 11) ?hd (cs := #[.int .i64 0, .int .i64 0, .int .i64 0, .int .i64 0]) (t := 76) ?hr ?_; (case hd => rfl); (case hg => rfl); (case hr => first | (go_simp; done) | (go_simp; rfl))
                  intro gb312 hg w62 hbox hb
                  have n0_ := Aside0.mk (blk_below (g := gb301) (o := .cells #[.int .i64 a0_0, .slice A0_1 l0_1.length c0_1, .slice A0_2 l0_2.length c0_2] 24 (0, 0)) (by (with_reducible repeat (first | refine blk_drewN ?_ _ | refine blk_drew ?_ | refine blk_alloc ?_ _)); exact BK301.out) hb)
                  have n1_ := Aside0.mk (blk_below (g := gb302) (o := .cells #[.int .i64 a1_0, .slice (some ad306) l1_1.length c1_1, .int .i64 a1_2, .int .i64 a1_3] 48 (0, 0)) (by (with_reducible repeat (first | refine blk_drewN ?_ _ | refine blk_drew ?_ | refine blk_alloc ?_ _)); exact BK302.out) hb)
                  have n2_ := Aside0.mk (blk_below (g := gb303) (o := .cells #[.int .i64 a2_0, .int .i64 a2_1, .int .i64 a2_2, .int .i64 a2_3] 76 (0, 0)) (by (with_reducible repeat (first | refine blk_drewN ?_ _ | refine blk_drew ?_ | refine blk_alloc ?_ _)); exact BK303.out) hb)
                  have n3_ := Aside0.mk (blk_below (g := gb304) (o := .cells #[.int .i64 0, .int .i64 0, .int .i64 0, .int .i64 0] 76 (0, 0)) (by (with_reducible repeat (first | refine blk_drewN ?_ _ | refine blk_drew ?_ | refine blk_alloc ?_ _)); exact BK304.out) hb)
                  have n4_ := Aside0.mk (below_step (by repeat (first | (with_reducible first | exact HB.out | apply below_alloc | apply pw_below_drewN | apply below_drew1 | refine below_set ?_ GE301.out | refine below_set ?_ GE302.out | refine below_set ?_ GE303.out | refine below_set ?_ GE304.out) | exact HB.out)) hb)
                  have n5_ := Aside0.mk (hbox)
                  have n6_ := Aside0.mk ((by rw [hg]; exact (below_size (by repeat (first | (with_reducible first | exact HB.out | apply below_alloc | apply pw_below_drewN | apply below_drew1 | refine below_set ?_ GE301.out | refine below_set ?_ GE302.out | refine below_set ?_ GE303.out | refine below_set ?_ GE304.out) | exact HB.out))) : w.heap.size ≤ gb312))
                  have n7_ := Aside0.mk ((by rw [hg]; exact (below_size (by repeat (first | (with_reducible first | exact HB.out | apply below_alloc | apply pw_below_drewN | apply below_drew1 | refine below_set ?_ GE301.out | refine below_set ?_ GE302.out | refine below_set ?_ GE303.out | refine below_set ?_ GE304.out) | exact HB.out))) : w.heap.size ≤ gb312))
                  have n8_ := Aside0.mk ((by rw [hg]; exact Nat.ne_of_lt (blk_lt (g := gb301) (o := .cells #[.int .i64 a0_0, .slice A0_1 l0_1.length c0_1, .slice A0_2 l0_2.length c0_2] 24 (0, 0)) (by (with_reducible repeat (first | refine blk_drewN ?_ _ | refine blk_drew ?_ | refine blk_alloc ?_ _)); exact BK301.out)) : gb301 ≠ gb312))
                  have n9_ := Aside0.mk ((by rw [hg]; exact Nat.ne_of_gt (blk_lt (g := gb301) (o := .cells #[.int .i64 a0_0, .slice A0_1 l0_1.length c0_1, .slice A0_2 l0_2.length c0_2] 24 (0, 0)) (by (with_reducible repeat (first | refine blk_drewN ?_ _ | refine blk_drew ?_ | refine blk_alloc ?_ _)); exact BK301.out)) : gb312 ≠ gb301))
                  have n10_ := Aside0.mk ((by rw [hg]; exact Nat.ne_of_lt (blk_lt (g := gb302) (o := .cells #[.int .i64 a1_0, .slice (some ad306) l1_1.length c1_1, .int .i64 a1_2, .int .i64 a1_3] 48 (0, 0)) (by (with_reducible repeat (first | refine blk_drewN ?_ _ | refine blk_drew ?_ | refine blk_alloc ?_ _)); exact BK302.out)) : gb302 ≠ gb312))
                  have n11_ := Aside0.mk ((by rw [hg]; exact Nat.ne_of_gt (blk_lt (g := gb302) (o := .cells #[.int .i64 a1_0, .slice (some ad306) l1_1.length c1_1, .int .i64 a1_2, .int .i64 a1_3] 48 (0, 0)) (by (with_reducible repeat (first | refine blk_drewN ?_ _ | refine blk_drew ?_ | refine blk_alloc ?_ _)); exact BK302.out)) : gb312 ≠ gb302))
                  have n12_ := Aside0.mk ((by rw [hg]; exact Nat.ne_of_lt (blk_lt (g := gb303) (o := .cells #[.int .i64 a2_0, .int .i64 a2_1, .int .i64 a2_2, .int .i64 a2_3] 76 (0, 0)) (by (with_reducible repeat (first | refine blk_drewN ?_ _ | refine blk_drew ?_ | refine blk_alloc ?_ _)); exact BK303.out)) : gb303 ≠ gb312))
                  have n13_ := Aside0.mk ((by rw [hg]; exact Nat.ne_of_gt (blk_lt (g := gb303) (o := .cells #[.int .i64 a2_0, .int .i64 a2_1, .int .i64 a2_2, .int .i64 a2_3] 76 (0, 0)) (by (with_reducible repeat (first | refine blk_drewN ?_ _ | refine blk_drew ?_ | refine blk_alloc ?_ _)); exact BK303.out)) : gb312 ≠ gb303))
                  have n14_ := Aside0.mk ((by rw [hg]; exact Nat.ne_of_lt (blk_lt (g := gb304) (o := .cells #[.int .i64 0, .int .i64 0, .int .i64 0, .int .i64 0] 76 (0, 0)) (by (with_reducible repeat (first | refine blk_drewN ?_ _ | refine blk_drew ?_ | refine blk_alloc ?_ _)); exact BK304.out)) : gb304 ≠ gb312))
                  have n15_ := Aside0.mk ((by rw [hg]; exact Nat.ne_of_gt (blk_lt (g := gb304) (o := .cells #[.int .i64 0, .int .i64 0, .int .i64 0, .int .i64 0] 76 (0, 0)) (by (with_reducible repeat (first | refine blk_drewN ?_ _ | refine blk_drew ?_ | refine blk_alloc ?_ _)); exact BK304.out)) : gb312 ≠ gb304))
                  clear BK301
                  clear BK302
                  clear BK303
                  clear BK304
                  clear HB
                  have BK301 := n0_
                  have BK302 := n1_
                  have BK303 := n2_
                  have BK304 := n3_
                  have HB := n4_
                  have BK312 := n5_
                  have GW312 := n6_
                  have GE312 := n7_
                  have NB301_312 := n8_
                  have NB312_301 := n9_
                  have NB302_312 := n10_
                  have NB312_302 := n11_
                  have NB303_312 := n12_
                  have NB312_303 := n13_
                  have NB304_312 := n14_
                  have NB312_304 := n15_
                  clear n0_ n1_ n2_ n3_ n4_ n5_ n6_ n7_ n8_ n9_ n10_ n11_ n12_ n13_ n14_ n15_
                  clear hb hbox hg
                  refine hK.out _ _ ⟨(blk_cell BK301.out 0).trans rfl, (blk_cell BK301.out 1).trans rfl, (blk_cell BK301.out 2).trans rfl, (blk_cell BK303.out 0).trans rfl, (blk_cell BK303.out 1).trans rfl, (blk_cell BK303.out 2).trans rfl, (blk_cell BK303.out 3).trans rfl, (blk_cell BK302.out 0).trans rfl, (blk_cell BK302.out 1).trans rfl, (blk_cell BK302.out 2).trans rfl, (blk_cell BK302.out 3).trans rfl, ((HB.out.cell (World.block_lt_of_cell? w _ hw306_0)).trans hw306_0), ((HB.out.cell (World.block_lt_of_cell? w _ hw306_1)).trans hw306_1)⟩ (fun hHeld => ?_)
                  clear hK K
                  refine norm_ (a' := ?_) ?_ ?_
                  rotate_left
                  · show Act.put _ (some 11) _ = _
                    simp only [Act.put, List.setIfInBounds_toArray, List.set_cons_zero, List.set_cons_succ, i64_w, i32_w]
                    rfl
                  refine one_ (i := 13) (N := some 52) #[true, true, true, true, true, true, true, true, true, true, true, true, true, true, false, false, false, true, false, false] rfl rfl (one_of HT_.out (by kernel_rfl)) (by decide) (fun K hK => ?_)
                  refine goes_ Tryz.func123 (by kernel_rfl) rfl #[.agg #[.int .i64 a0_0, .slice A0_1 l0_1.length c0_1, .slice A0_2 l0_2.length c0_2], .int .i64 ji50, .int .i64 ((rd_T71 l1_1 (ji50)).f0), .int .i64 a3] (by rfl) rfl rfl (by (try simp only [List.map_toArray, List.map_cons, List.map_nil]); first | done | (simp only [hji50]; rfl) | rfl | (simp only [List.length_drop, List.length_take]; rfl)) ?_
                  with_reducible refine (curfewref15_begin.calls kj4 a0_0 _ _ l0_1 _ _ l0_2 ji50 ((rd_T71 l1_1 (ji50)).f0) a3 t307 t308 t309 t310 t311 _ ?side1 ?side2 ?side3 ?side4 A53.out).mono ?_
                  (case side1 => repeat (first | exact (Kd.C_below HR0_1.out HB.out) | (with_reducible refine Kd.C_alloc ?_ _) | (with_reducible refine Kd.C_drewN ?_ _) | (with_reducible refine Kd.C_drew ?_)))
                  (case side2 => exact HC0_1.out)
                  (case side3 => repeat (first | exact (Kd.C_below HR0_2.out HB.out) | (with_reducible refine Kd.C_alloc ?_ _) | (with_reducible refine Kd.C_drewN ?_ _) | (with_reducible refine Kd.C_drew ?_)))
                  (case side4 => exact HC0_2.out)
                  rintro e w63 ⟨rfl, hb⟩
                  refine ⟨_, rfl, ?_⟩
                  have n0_ := Aside0.mk (blk_below (g := gb301) (o := .cells #[.int .i64 a0_0, .slice A0_1 l0_1.length c0_1, .slice A0_2 l0_2.length c0_2] 24 (0, 0)) (by (with_reducible repeat (first | refine blk_drewN ?_ _ | refine blk_drew ?_ | refine blk_alloc ?_ _)); exact BK301.out) hb)
                  have n1_ := Aside0.mk (blk_below (g := gb302) (o := .cells #[.int .i64 a1_0, .slice (some ad306) l1_1.length c1_1, .int .i64 a1_2, .int .i64 a1_3] 48 (0, 0)) (by (with_reducible repeat (first | refine blk_drewN ?_ _ | refine blk_drew ?_ | refine blk_alloc ?_ _)); exact BK302.out) hb)
                  have n2_ := Aside0.mk (blk_below (g := gb303) (o := .cells #[.int .i64 a2_0, .int .i64 a2_1, .int .i64 a2_2, .int .i64 a2_3] 76 (0, 0)) (by (with_reducible repeat (first | refine blk_drewN ?_ _ | refine blk_drew ?_ | refine blk_alloc ?_ _)); exact BK303.out) hb)
                  have n3_ := Aside0.mk (blk_below (g := gb304) (o := .cells #[.int .i64 0, .int .i64 0, .int .i64 0, .int .i64 0] 76 (0, 0)) (by (with_reducible repeat (first | refine blk_drewN ?_ _ | refine blk_drew ?_ | refine blk_alloc ?_ _)); exact BK304.out) hb)
                  have n4_ := Aside0.mk (blk_below (g := gb312) (o := .cells #[.int .i64 0, .int .i64 0, .int .i64 0, .int .i64 0] 76 (0, 0)) (by (with_reducible repeat (first | refine blk_drewN ?_ _ | refine blk_drew ?_ | refine blk_alloc ?_ _)); exact BK312.out) hb)
                  have n5_ := Aside0.mk (below_step (by repeat (first | (with_reducible first | exact HB.out | apply below_alloc | apply pw_below_drewN | apply below_drew1 | refine below_set ?_ GE301.out | refine below_set ?_ GE302.out | refine below_set ?_ GE303.out | refine below_set ?_ GE304.out | refine below_set ?_ GE312.out) | exact HB.out)) hb)
                  clear BK301
                  clear BK302
                  clear BK303
                  clear BK304
                  clear BK312
                  clear HB
                  have BK301 := n0_
                  have BK302 := n1_
                  have BK303 := n2_
                  have BK304 := n3_
                  have BK312 := n4_
                  have HB := n5_
                  clear n0_ n1_ n2_ n3_ n4_ n5_
                  (try clear hb)
                  (try clear hb2)
                  (try clear hk)
                  (try clear hi)
                  refine hK.out _ _ ⟨(blk_cell BK301.out 0).trans rfl, (blk_cell BK301.out 1).trans rfl, (blk_cell BK301.out 2).trans rfl, (blk_cell BK303.out 0).trans rfl, (blk_cell BK303.out 1).trans rfl, (blk_cell BK303.out 2).trans rfl, (blk_cell BK303.out 3).trans rfl, (blk_cell BK302.out 0).trans rfl, (blk_cell BK302.out 1).trans rfl, (blk_cell BK302.out 2).trans rfl, (blk_cell BK302.out 3).trans rfl, ((HB.out.cell (World.block_lt_of_cell? w _ hw306_0)).trans hw306_0), ((HB.out.cell (World.block_lt_of_cell? w _ hw306_1)).trans hw306_1)⟩ (fun hHeld => ?_)
                  clear hK K
                  refine norm_ (a' := ?_) ?_ ?_
                  rotate_left
                  · show Act.put _ (some 52) _ = _
                    simp only [Act.put, List.setIfInBounds_toArray, List.set_cons_zero, List.set_cons_succ, i64_w, i32_w]
                    rfl
                  refine pure_ (i := 14) (N := some 38) (v := ?_) (a' := ?_) #[true, true, true, true, true, true, true, true, true, true, true, true, true, true, true, false, false, true, false, false] rfl rfl (any_of HT_.out (by kernel_rfl)) (fun _ _ _ h => h) (Or.inl ⟨by rfl, ?_⟩) ?_ ?_
                  rotate_left
                  · intro w'
                    go_simp
                    with_reducible rfl
                  rotate_left
                  · simp only [Act.put, List.setIfInBounds_toArray, List.set_cons_zero, List.set_cons_succ, i64_w, i32_w]
                    rfl
                  refine pure_ (i := 15) (N := some 53) (v := ?_) (a' := ?_) #[true, true, true, true, true, true, true, true, true, true, true, true, true, true, true, true, false, true, false, false] rfl rfl (any_of HT_.out (by kernel_rfl)) (fun _ _ _ h => h) (Or.inl ⟨by rfl, ?_⟩) ?_ ?_
                  rotate_left
                  · intro w'
                    go_simp
                    with_reducible rfl
                  rotate_left
                  · simp only [Act.put, List.setIfInBounds_toArray, List.set_cons_zero, List.set_cons_succ, i64_w, i32_w]
                    rfl
                  refine pure_ (i := 16) (N := some 54) (v := ?_) (a' := ?_) #[true, true, true, true, true, true, true, true, true, true, true, true, true, true, true, true, true, true, false, false] rfl rfl (any_of HT_.out (by kernel_rfl)) (fun _ _ _ h => h) (Or.inl ⟨by rfl, ?_⟩) ?_ ?_
                  rotate_left
                  · intro w'
                    go_simp
                    with_reducible rfl
                  rotate_left
                  · simp only [Act.put, List.setIfInBounds_toArray, List.set_cons_zero, List.set_cons_succ, i64_w, i32_w]
                    rfl
                  exact norm_ (by simp only [putAll, Act.put, List.setIfInBounds_toArray, List.set_cons_zero, List.set_cons_succ]) (hCont (gb312) _ ⟨hHeld, (by (with_reducible repeat (first | refine blk_drewN ?_ _ | refine blk_drew ?_ | refine blk_alloc ?_ _)); exact BK301.out), (by (with_reducible repeat (first | refine blk_drewN ?_ _ | refine blk_drew ?_ | refine blk_alloc ?_ _)); exact BK302.out), (by (with_reducible repeat (first | refine blk_drewN ?_ _ | refine blk_drew ?_ | refine blk_alloc ?_ _)); exact BK303.out), (by (with_reducible repeat (first | refine blk_drewN ?_ _ | refine blk_drew ?_ | refine blk_alloc ?_ _)); exact BK304.out), (by (with_reducible repeat (first | refine blk_drewN ?_ _ | refine blk_drew ?_ | refine blk_alloc ?_ _)); exact BK312.out), GW312.out, GE312.out, NB301_312.out, NB312_301.out, NB302_312.out, NB312_302.out, NB303_312.out, NB312_303.out, NB304_312.out, NB312_304.out, (by repeat (first | (with_reducible first | exact HB.out | apply below_alloc | apply pw_below_drewN | apply below_drew1 | refine below_set ?_ GE301.out | refine below_set ?_ GE302.out | refine below_set ?_ GE303.out | refine below_set ?_ GE304.out | refine below_set ?_ GE312.out) | exact HB.out))⟩)
              rintro gb312 w64 ⟨hS_, h0_, h1_, h2_, h3_, h4_, h5_, h6_, h7_, h8_, h9_, h10_, h11_, h12_, h13_, h14_, h15_⟩
              have n0_ : Aside0 (w64.heap[gb301]? = some (.cells #[.int .i64 a0_0, .slice A0_1 l0_1.length c0_1, .slice A0_2 l0_2.length c0_2] 24 (0, 0))) := ⟨h0_⟩
              have n1_ : Aside0 (w64.heap[gb302]? = some (.cells #[.int .i64 a1_0, .slice (some ad306) l1_1.length c1_1, .int .i64 a1_2, .int .i64 a1_3] 48 (0, 0))) := ⟨h1_⟩
              have n2_ : Aside0 (w64.heap[gb303]? = some (.cells #[.int .i64 a2_0, .int .i64 a2_1, .int .i64 a2_2, .int .i64 a2_3] 76 (0, 0))) := ⟨h2_⟩
              have n3_ : Aside0 (w64.heap[gb304]? = some (.cells #[.int .i64 0, .int .i64 0, .int .i64 0, .int .i64 0] 76 (0, 0))) := ⟨h3_⟩
              have n4_ : Aside0 (w64.heap[gb312]? = some (.cells #[.int .i64 0, .int .i64 0, .int .i64 0, .int .i64 0] 76 (0, 0))) := ⟨h4_⟩
              have n5_ : Aside0 (w.heap.size ≤ gb312) := ⟨h5_⟩
              have n6_ : Aside0 (w.heap.size ≤ gb312) := ⟨h6_⟩
              have n7_ : Aside0 (gb301 ≠ gb312) := ⟨h7_⟩
              have n8_ : Aside0 (gb312 ≠ gb301) := ⟨h8_⟩
              have n9_ : Aside0 (gb302 ≠ gb312) := ⟨h9_⟩
              have n10_ : Aside0 (gb312 ≠ gb302) := ⟨h10_⟩
              have n11_ : Aside0 (gb303 ≠ gb312) := ⟨h11_⟩
              have n12_ : Aside0 (gb312 ≠ gb303) := ⟨h12_⟩
              have n13_ : Aside0 (gb304 ≠ gb312) := ⟨h13_⟩
              have n14_ : Aside0 (gb312 ≠ gb304) := ⟨h14_⟩
              have n15_ : Aside0 (Below w.heap.size w w64) := ⟨h15_⟩
              clear BK301
              clear BK302
              clear BK303
              clear BK304
              clear HB
              clear h0_ h1_ h2_ h3_ h4_ h5_ h6_ h7_ h8_ h9_ h10_ h11_ h12_ h13_ h14_ h15_
              have BK301 := n0_
              have BK302 := n1_
              have BK303 := n2_
              have BK304 := n3_
              have BK312 := n4_
              have GW312 := n5_
              have GE312 := n6_
              have NB301_312 := n7_
              have NB312_301 := n8_
              have NB302_312 := n9_
              have NB312_302 := n10_
              have NB303_312 := n11_
              have NB312_303 := n12_
              have NB304_312 := n13_
              have NB312_304 := n14_
              have HB := n15_
              clear n0_ n1_ n2_ n3_ n4_ n5_ n6_ n7_ n8_ n9_ n10_ n11_ n12_ n13_ n14_ n15_
              have hHeld : w64.cell? ⟨gb301, 0, none⟩ = some (.int .i64 a0_0) ∧ w64.cell? ⟨gb301, 1, none⟩ = some (.slice A0_1 l0_1.length c0_1) ∧ w64.cell? ⟨gb301, 2, none⟩ = some (.slice A0_2 l0_2.length c0_2) ∧ w64.cell? ⟨gb303, 0, none⟩ = some (.int .i64 a2_0) ∧ w64.cell? ⟨gb303, 1, none⟩ = some (.int .i64 a2_1) ∧ w64.cell? ⟨gb303, 2, none⟩ = some (.int .i64 a2_2) ∧ w64.cell? ⟨gb303, 3, none⟩ = some (.int .i64 a2_3) ∧ w64.cell? ⟨gb302, 0, none⟩ = some (.int .i64 a1_0) ∧ w64.cell? ⟨gb302, 1, none⟩ = some (.slice (some ad306) l1_1.length c1_1) ∧ w64.cell? ⟨gb302, 2, none⟩ = some (.int .i64 a1_2) ∧ w64.cell? ⟨gb302, 3, none⟩ = some (.int .i64 a1_3) ∧ w64.cell? (ad306.add (((ji50)).toNat * 2)) = some (.int .i64 ((rd_T71 l1_1 (ji50)).f0)) ∧ w64.cell? ⟨(ad306.add (((ji50)).toNat * 2)).block, (ad306.add (((ji50)).toNat * 2)).off + 1, none⟩ = some (.int .i64 ((rd_T71 l1_1 (ji50)).f1)) := hS_
              refine norm_ (a' := ?_) ?_ ?_
              rotate_left
              · simp only [putAll, Act.put, List.setIfInBounds_toArray, List.set_cons_zero, List.set_cons_succ]
                rfl
              refine one_ (i := 18) (N := none) #[true, true, true, true, true, true, true, true, true, true, true, true, true, true, true, true, true, true, true, false] rfl rfl (one_of HT_.out (by kernel_rfl)) (by decide) (fun K hK => ?_)
              have hs65 : w64.cell? ⟨gb312, 0, none⟩ = some (.int .i64 0) := (blk_cell BK312.out 0).trans rfl
              have hfs65 := blk_frozen BK312.out 0
              have hns65_0 := NB301_312.out
              have hns65_1 := NB302_312.out
              have hns65_2 := NB303_312.out
              have hns65_3 := NB304_312.out
              have hms65_0 := NB312_301.out
              have hms65_1 := NB312_302.out
              have hms65_2 := NB312_303.out
              have hms65_3 := NB312_304.out
              have hs66 : w64.cell? ⟨gb312, 1, none⟩ = some (.int .i64 0) := (blk_cell BK312.out 1).trans rfl
              have hfs66 := blk_frozen BK312.out 1
              have hns66_0 := NB301_312.out
              have hns66_1 := NB302_312.out
              have hns66_2 := NB303_312.out
              have hns66_3 := NB304_312.out
              have hms66_0 := NB312_301.out
              have hms66_1 := NB312_302.out
              have hms66_2 := NB312_303.out
              have hms66_3 := NB312_304.out
              have hs67 : w64.cell? ⟨gb312, 2, none⟩ = some (.int .i64 0) := (blk_cell BK312.out 2).trans rfl
              have hfs67 := blk_frozen BK312.out 2
              have hns67_0 := NB301_312.out
              have hns67_1 := NB302_312.out
              have hns67_2 := NB303_312.out
              have hns67_3 := NB304_312.out
              have hms67_0 := NB312_301.out
              have hms67_1 := NB312_302.out
              have hms67_2 := NB312_303.out
              have hms67_3 := NB312_304.out
              have hs68 : w64.cell? ⟨gb312, 3, none⟩ = some (.int .i64 0) := (blk_cell BK312.out 3).trans rfl
              have hfs68 := blk_frozen BK312.out 3
              have hns68_0 := NB301_312.out
              have hns68_1 := NB302_312.out
              have hns68_2 := NB303_312.out
              have hns68_3 := NB304_312.out
              have hms68_0 := NB312_301.out
              have hms68_1 := NB312_302.out
              have hms68_2 := NB312_303.out
              have hms68_3 := NB312_304.out
              refine skip_ (w1 := ?_) (by rfl) rfl ?_ ?_
              rotate_left
              · go_simp
                rfl
              refine hK.out _ _ ⟨((cell_far (p := ⟨gb312, _, none⟩) NB301_312.out _).trans (((cell_far (p := ⟨gb312, _, none⟩) NB301_312.out _).trans (((cell_far (p := ⟨gb312, _, none⟩) NB301_312.out _).trans (((cell_far (p := ⟨gb312, _, none⟩) NB301_312.out _).trans (hHeld.1)))))))), ((cell_far (p := ⟨gb312, _, none⟩) NB301_312.out _).trans (((cell_far (p := ⟨gb312, _, none⟩) NB301_312.out _).trans (((cell_far (p := ⟨gb312, _, none⟩) NB301_312.out _).trans (((cell_far (p := ⟨gb312, _, none⟩) NB301_312.out _).trans (hHeld.2.1)))))))), ((cell_far (p := ⟨gb312, _, none⟩) NB301_312.out _).trans (((cell_far (p := ⟨gb312, _, none⟩) NB301_312.out _).trans (((cell_far (p := ⟨gb312, _, none⟩) NB301_312.out _).trans (((cell_far (p := ⟨gb312, _, none⟩) NB301_312.out _).trans (hHeld.2.2.1)))))))), ((cell_far (p := ⟨gb312, _, none⟩) NB303_312.out _).trans (((cell_far (p := ⟨gb312, _, none⟩) NB303_312.out _).trans (((cell_far (p := ⟨gb312, _, none⟩) NB303_312.out _).trans (((cell_far (p := ⟨gb312, _, none⟩) NB303_312.out _).trans (hHeld.2.2.2.1)))))))), ((cell_far (p := ⟨gb312, _, none⟩) NB303_312.out _).trans (((cell_far (p := ⟨gb312, _, none⟩) NB303_312.out _).trans (((cell_far (p := ⟨gb312, _, none⟩) NB303_312.out _).trans (((cell_far (p := ⟨gb312, _, none⟩) NB303_312.out _).trans (hHeld.2.2.2.2.1)))))))), ((cell_far (p := ⟨gb312, _, none⟩) NB303_312.out _).trans (((cell_far (p := ⟨gb312, _, none⟩) NB303_312.out _).trans (((cell_far (p := ⟨gb312, _, none⟩) NB303_312.out _).trans (((cell_far (p := ⟨gb312, _, none⟩) NB303_312.out _).trans (hHeld.2.2.2.2.2.1)))))))), ((cell_far (p := ⟨gb312, _, none⟩) NB303_312.out _).trans (((cell_far (p := ⟨gb312, _, none⟩) NB303_312.out _).trans (((cell_far (p := ⟨gb312, _, none⟩) NB303_312.out _).trans (((cell_far (p := ⟨gb312, _, none⟩) NB303_312.out _).trans (hHeld.2.2.2.2.2.2.1)))))))), ((cell_far (p := ⟨gb312, _, none⟩) NB302_312.out _).trans (((cell_far (p := ⟨gb312, _, none⟩) NB302_312.out _).trans (((cell_far (p := ⟨gb312, _, none⟩) NB302_312.out _).trans (((cell_far (p := ⟨gb312, _, none⟩) NB302_312.out _).trans (hHeld.2.2.2.2.2.2.2.1)))))))), ((cell_far (p := ⟨gb312, _, none⟩) NB302_312.out _).trans (((cell_far (p := ⟨gb312, _, none⟩) NB302_312.out _).trans (((cell_far (p := ⟨gb312, _, none⟩) NB302_312.out _).trans (((cell_far (p := ⟨gb312, _, none⟩) NB302_312.out _).trans (hHeld.2.2.2.2.2.2.2.2.1)))))))), ((cell_far (p := ⟨gb312, _, none⟩) NB302_312.out _).trans (((cell_far (p := ⟨gb312, _, none⟩) NB302_312.out _).trans (((cell_far (p := ⟨gb312, _, none⟩) NB302_312.out _).trans (((cell_far (p := ⟨gb312, _, none⟩) NB302_312.out _).trans (hHeld.2.2.2.2.2.2.2.2.2.1)))))))), ((cell_far (p := ⟨gb312, _, none⟩) NB302_312.out _).trans (((cell_far (p := ⟨gb312, _, none⟩) NB302_312.out _).trans (((cell_far (p := ⟨gb312, _, none⟩) NB302_312.out _).trans (((cell_far (p := ⟨gb312, _, none⟩) NB302_312.out _).trans (hHeld.2.2.2.2.2.2.2.2.2.2.1)))))))), ((cell_far (p := ⟨gb312, _, none⟩) (by first | exact Nat.ne_of_lt (Nat.lt_of_lt_of_le (by have := World.block_lt_of_cell? _ _ hw306_0; first | rwa [add_block] at this | exact this) GW312.out) | (rw [add_block]; exact Nat.ne_of_lt (Nat.lt_of_lt_of_le (by have := World.block_lt_of_cell? _ _ hw306_0; first | rwa [add_block] at this | exact this) GW312.out)) | (show (Addr.add _ _).block ≠ _; rw [add_block]; exact Nat.ne_of_lt (Nat.lt_of_lt_of_le (by have := World.block_lt_of_cell? _ _ hw306_0; first | rwa [add_block] at this | exact this) GW312.out)) | (dsimp only; exact Nat.ne_of_lt (Nat.lt_of_lt_of_le (by have := World.block_lt_of_cell? _ _ hw306_0; first | rwa [add_block] at this | exact this) GW312.out))) _).trans (((cell_far (p := ⟨gb312, _, none⟩) (by first | exact Nat.ne_of_lt (Nat.lt_of_lt_of_le (by have := World.block_lt_of_cell? _ _ hw306_0; first | rwa [add_block] at this | exact this) GW312.out) | (rw [add_block]; exact Nat.ne_of_lt (Nat.lt_of_lt_of_le (by have := World.block_lt_of_cell? _ _ hw306_0; first | rwa [add_block] at this | exact this) GW312.out)) | (show (Addr.add _ _).block ≠ _; rw [add_block]; exact Nat.ne_of_lt (Nat.lt_of_lt_of_le (by have := World.block_lt_of_cell? _ _ hw306_0; first | rwa [add_block] at this | exact this) GW312.out)) | (dsimp only; exact Nat.ne_of_lt (Nat.lt_of_lt_of_le (by have := World.block_lt_of_cell? _ _ hw306_0; first | rwa [add_block] at this | exact this) GW312.out))) _).trans (((cell_far (p := ⟨gb312, _, none⟩) (by first | exact Nat.ne_of_lt (Nat.lt_of_lt_of_le (by have := World.block_lt_of_cell? _ _ hw306_0; first | rwa [add_block] at this | exact this) GW312.out) | (rw [add_block]; exact Nat.ne_of_lt (Nat.lt_of_lt_of_le (by have := World.block_lt_of_cell? _ _ hw306_0; first | rwa [add_block] at this | exact this) GW312.out)) | (show (Addr.add _ _).block ≠ _; rw [add_block]; exact Nat.ne_of_lt (Nat.lt_of_lt_of_le (by have := World.block_lt_of_cell? _ _ hw306_0; first | rwa [add_block] at this | exact this) GW312.out)) | (dsimp only; exact Nat.ne_of_lt (Nat.lt_of_lt_of_le (by have := World.block_lt_of_cell? _ _ hw306_0; first | rwa [add_block] at this | exact this) GW312.out))) _).trans (((cell_far (p := ⟨gb312, _, none⟩) (by first | exact Nat.ne_of_lt (Nat.lt_of_lt_of_le (by have := World.block_lt_of_cell? _ _ hw306_0; first | rwa [add_block] at this | exact this) GW312.out) | (rw [add_block]; exact Nat.ne_of_lt (Nat.lt_of_lt_of_le (by have := World.block_lt_of_cell? _ _ hw306_0; first | rwa [add_block] at this | exact this) GW312.out)) | (show (Addr.add _ _).block ≠ _; rw [add_block]; exact Nat.ne_of_lt (Nat.lt_of_lt_of_le (by have := World.block_lt_of_cell? _ _ hw306_0; first | rwa [add_block] at this | exact this) GW312.out)) | (dsimp only; exact Nat.ne_of_lt (Nat.lt_of_lt_of_le (by have := World.block_lt_of_cell? _ _ hw306_0; first | rwa [add_block] at this | exact this) GW312.out))) _).trans (hHeld.2.2.2.2.2.2.2.2.2.2.2.1)))))))), ((cell_far (p := ⟨gb312, _, none⟩) (by first | exact Nat.ne_of_lt (Nat.lt_of_lt_of_le (by have := World.block_lt_of_cell? _ _ hw306_1; first | rwa [add_block] at this | exact this) GW312.out) | (rw [add_block]; exact Nat.ne_of_lt (Nat.lt_of_lt_of_le (by have := World.block_lt_of_cell? _ _ hw306_1; first | rwa [add_block] at this | exact this) GW312.out)) | (show (Addr.add _ _).block ≠ _; rw [add_block]; exact Nat.ne_of_lt (Nat.lt_of_lt_of_le (by have := World.block_lt_of_cell? _ _ hw306_1; first | rwa [add_block] at this | exact this) GW312.out)) | (dsimp only; exact Nat.ne_of_lt (Nat.lt_of_lt_of_le (by have := World.block_lt_of_cell? _ _ hw306_1; first | rwa [add_block] at this | exact this) GW312.out))) _).trans (((cell_far (p := ⟨gb312, _, none⟩) (by first | exact Nat.ne_of_lt (Nat.lt_of_lt_of_le (by have := World.block_lt_of_cell? _ _ hw306_1; first | rwa [add_block] at this | exact this) GW312.out) | (rw [add_block]; exact Nat.ne_of_lt (Nat.lt_of_lt_of_le (by have := World.block_lt_of_cell? _ _ hw306_1; first | rwa [add_block] at this | exact this) GW312.out)) | (show (Addr.add _ _).block ≠ _; rw [add_block]; exact Nat.ne_of_lt (Nat.lt_of_lt_of_le (by have := World.block_lt_of_cell? _ _ hw306_1; first | rwa [add_block] at this | exact this) GW312.out)) | (dsimp only; exact Nat.ne_of_lt (Nat.lt_of_lt_of_le (by have := World.block_lt_of_cell? _ _ hw306_1; first | rwa [add_block] at this | exact this) GW312.out))) _).trans (((cell_far (p := ⟨gb312, _, none⟩) (by first | exact Nat.ne_of_lt (Nat.lt_of_lt_of_le (by have := World.block_lt_of_cell? _ _ hw306_1; first | rwa [add_block] at this | exact this) GW312.out) | (rw [add_block]; exact Nat.ne_of_lt (Nat.lt_of_lt_of_le (by have := World.block_lt_of_cell? _ _ hw306_1; first | rwa [add_block] at this | exact this) GW312.out)) | (show (Addr.add _ _).block ≠ _; rw [add_block]; exact Nat.ne_of_lt (Nat.lt_of_lt_of_le (by have := World.block_lt_of_cell? _ _ hw306_1; first | rwa [add_block] at this | exact this) GW312.out)) | (dsimp only; exact Nat.ne_of_lt (Nat.lt_of_lt_of_le (by have := World.block_lt_of_cell? _ _ hw306_1; first | rwa [add_block] at this | exact this) GW312.out))) _).trans (((cell_far (p := ⟨gb312, _, none⟩) (by first | exact Nat.ne_of_lt (Nat.lt_of_lt_of_le (by have := World.block_lt_of_cell? _ _ hw306_1; first | rwa [add_block] at this | exact this) GW312.out) | (rw [add_block]; exact Nat.ne_of_lt (Nat.lt_of_lt_of_le (by have := World.block_lt_of_cell? _ _ hw306_1; first | rwa [add_block] at this | exact this) GW312.out)) | (show (Addr.add _ _).block ≠ _; rw [add_block]; exact Nat.ne_of_lt (Nat.lt_of_lt_of_le (by have := World.block_lt_of_cell? _ _ hw306_1; first | rwa [add_block] at this | exact this) GW312.out)) | (dsimp only; exact Nat.ne_of_lt (Nat.lt_of_lt_of_le (by have := World.block_lt_of_cell? _ _ hw306_1; first | rwa [add_block] at this | exact this) GW312.out))) _).trans (hHeld.2.2.2.2.2.2.2.2.2.2.2.2))))))))⟩ (fun hHeld => ?_)
              clear hK K
              refine pure_ (i := 19) (N := some 12) (v := ?_) (a' := ?_) #[true, true, true, true, true, true, true, true, true, true, true, true, true, true, true, true, true, true, true, true] rfl rfl (any_of HT_.out (by kernel_rfl)) (fun _ _ _ h => h) (Or.inl ⟨by rfl, ?_⟩) ?_ ?_
              rotate_left
              · intro w'
                go_simp
                with_reducible rfl
              rotate_left
              · simp only [Act.put, List.setIfInBounds_toArray, List.set_cons_zero, List.set_cons_succ, i64_w, i32_w]
                rfl
              refine done_ (done_of HT_.out (by kernel_rfl)) ?_
              have hnb69 := NB312_301.out
              have hnc69 := NB301_312.out
              have hnb70 := NB312_302.out
              have hnc70 := NB302_312.out
              have hnb71 := NB312_303.out
              have hnc71 := NB303_312.out
              have hnb72 := NB312_304.out
              have hnc72 := NB304_312.out
              have hcz73_0 : w64.cell? ⟨gb312, 0, none⟩ = some (.int .i64 0) := (blk_cell BK312.out 0).trans rfl
              have hcz73_1 : w64.cell? ⟨gb312, 1, none⟩ = some (.int .i64 0) := (blk_cell BK312.out 1).trans rfl
              have hcz73_2 : w64.cell? ⟨gb312, 2, none⟩ = some (.int .i64 0) := (blk_cell BK312.out 2).trans rfl
              have hcz73_3 : w64.cell? ⟨gb312, 3, none⟩ = some (.int .i64 0) := (blk_cell BK312.out 3).trans rfl
              have hfz73_0 := blk_frozen BK312.out 0
              have hfz73_1 := blk_frozen BK312.out 1
              have hfz73_2 := blk_frozen BK312.out 2
              have hfz73_3 := blk_frozen BK312.out 3
              have hnb74 := NB304_301.out
              have hnc74 := NB301_304.out
              have hcz75_0 : w64.cell? ⟨gb304, 0, none⟩ = some (.int .i64 0) := (blk_cell BK304.out 0).trans rfl
              have hcz75_1 : w64.cell? ⟨gb304, 1, none⟩ = some (.int .i64 0) := (blk_cell BK304.out 1).trans rfl
              have hcz75_2 : w64.cell? ⟨gb304, 2, none⟩ = some (.int .i64 0) := (blk_cell BK304.out 2).trans rfl
              have hcz75_3 : w64.cell? ⟨gb304, 3, none⟩ = some (.int .i64 0) := (blk_cell BK304.out 3).trans rfl
              have hfz75_0 := blk_frozen BK304.out 0
              have hfz75_1 := blk_frozen BK304.out 1
              have hfz75_2 := blk_frozen BK304.out 2
              have hfz75_3 := blk_frozen BK304.out 3
              try go_wp2
              refine bodyPost_ret (results_ctt rfl _ _ gb304 76 #[.int .i64 t307, .int .i64 t308, .int .i64 t309, .int .i64 t310] (0, 0) _ rfl (by (with_reducible repeat (first | refine blk_drewN ?_ _ | refine blk_drew ?_ | refine blk_alloc ?_ _)); refine blk_put (cs := #[.int .i64 t307, .int .i64 t308, .int .i64 t309, .int .i64 0]) ?_ 3 _ rfl; (with_reducible repeat (first | refine blk_drewN ?_ _ | refine blk_drew ?_ | refine blk_alloc ?_ _)); refine blk_put (cs := #[.int .i64 t307, .int .i64 t308, .int .i64 0, .int .i64 0]) ?_ 2 _ rfl; (with_reducible repeat (first | refine blk_drewN ?_ _ | refine blk_drew ?_ | refine blk_alloc ?_ _)); refine blk_put (cs := #[.int .i64 t307, .int .i64 0, .int .i64 0, .int .i64 0]) ?_ 1 _ rfl; (with_reducible repeat (first | refine blk_drewN ?_ _ | refine blk_drew ?_ | refine blk_alloc ?_ _)); refine blk_put (cs := #[.int .i64 0, .int .i64 0, .int .i64 0, .int .i64 0]) ?_ 0 _ rfl; (with_reducible repeat (first | refine blk_drewN ?_ _ | refine blk_drew ?_ | refine blk_alloc ?_ _)); refine blk_far ?_ NB304_312.out _; (with_reducible repeat (first | refine blk_drewN ?_ _ | refine blk_drew ?_ | refine blk_alloc ?_ _)); refine blk_far ?_ NB304_312.out _; (with_reducible repeat (first | refine blk_drewN ?_ _ | refine blk_drew ?_ | refine blk_alloc ?_ _)); refine blk_far ?_ NB304_312.out _; (with_reducible repeat (first | refine blk_drewN ?_ _ | refine blk_drew ?_ | refine blk_alloc ?_ _)); refine blk_far ?_ NB304_312.out _; (with_reducible repeat (first | refine blk_drewN ?_ _ | refine blk_drew ?_ | refine blk_alloc ?_ _)); exact BK304.out) Tryz.underlying76 rfl (by kernel_rfl)) rfl ?_
              exact ⟨by first | rfl | (simp [errW_none, errW_some] <;> rfl) | (simp only [← hji50]; first | rfl | (simp [errW_none, errW_some] <;> rfl)) | (simp [*, errW_none, errW_some] <;> rfl), by repeat (first | (with_reducible first | exact HB.out | apply below_alloc | apply pw_below_drewN | apply below_drew1 | refine below_set ?_ GE301.out | refine below_set ?_ GE302.out | refine below_set ?_ GE303.out | refine below_set ?_ GE304.out | refine below_set ?_ GE312.out) | exact HB.out)⟩
            · rw [if_neg c52] at H
              exact absurd H (by simp)
          · rw [if_neg c51] at H
            exact absurd H (by simp)
end Go.Proofs.YtepldlnmeenlbaaGreat.Base
namespace Go.Proofs.YtepldlnmeenlbaaGreat.Own
open Go.RowKit Go.Proofs Go.Proofs.YtepldlnmeenlbaaGreatW.PrintWords Go.Proofs.YtepldlnmeenlbaaGreatW.PrintLast Go.Proofs.YtepldlnmeenlbaaGreatW.PrintMore Go.Proofs.YtepldlnmeenlbaaGreat.Base
variable {w w' : World} {n kb ab pb cb : Nat} {off : Int} {week closed : List S114}
theorem rbegin_eq (h : CalOk off week closed) (lv l now : Int) : curfewref15_begin.f 200 off week closed lv l now = some (atS off week closed lv l now) := by
  unfold curfewref15_begin.f atS
  rw [rdue_eq h now l]
  simp only [Option.bind_some]
  split <;> rfl
theorem rfirst_eq (h : CalOk off week closed) (cal : Int) (ls : List S71) (re ba now : Int) : curfewref15_First.f 200 off week closed cal ls re ba now = some (firstP off week closed cal ls re ba now) := by
  unfold curfewref15_First.f firstP
  rw [good14_eq _ _ _ _ 200 (by omega)]
  simp only [Option.bind_some]
  by_cases h1 : goodP cal ls re ba = true
  · rw [if_pos h1, if_pos h1, if_pos (by have := (goodP_iff.1 h1).1; omega), rbegin_eq h]
    rfl
  · rw [if_neg h1, if_neg h1]
theorem rnext_eq (h : CalOk off week closed) (cal : Int) (ls : List S71) (re ba lv fr l du now : Int) :
    curfewref15_Next.f 201 off week closed cal ls re ba lv fr l du now = some ((nextP off week closed cal ls re ba lv now).1, (nextP off week closed cal ls re ba lv now).2.1, (nextP off week closed cal ls re ba lv now).2.2.1, (nextP off week closed cal ls re ba lv now).2.2.2.1, moreP off week closed cal ls re ba lv now, (nextP off week closed cal ls re ba lv now).2.2.2.2) := by
  unfold curfewref15_Next.f
  rw [good14_eq _ _ _ _ 201 (by omega)]
  simp only [Option.bind_some]
  by_cases h1 : goodP cal ls re ba = true ∧ 0 ≤ lv ∧ lv < (ls.length : Int)
  · have hg := (goodP_iff.1 h1.1).1
    rw [if_pos h1.1, if_neg (by omega), decide_eq_false (show ¬ lv ≥ (ls.length : Int) by omega)]
    simp only [curfewref15_Next.j0, Bool.false_eq_true, if_false]
    rw [wrap_id (x := (ls.length : Int) - 1) (by omega) (by omega), wrap_id (x := lv + 1) (by omega) (by omega), rbegin_eq h]
    by_cases h2 : lv = (ls.length : Int) - 1
    · have e : nextP off week closed cal ls re ba lv now = (0, 0, 0, 0, 0) := by unfold nextP; rw [if_pos h1, if_pos h2]
      unfold moreP
      rw [if_pos h2, e, decide_eq_false (p := lv ≠ _) (by simpa using h2), Bool.and_false]
    · have e : nextP off week closed cal ls re ba lv now = atS off week closed (lv + 1) (rd_T71 ls (lv + 1)).f0 now := by unfold nextP; rw [if_pos h1, if_neg h2]
      unfold moreP
      rw [if_neg h2, if_pos (by omega), if_pos (by omega), e, decide_eq_true (p := lv ≠ _) h2, Bool.and_true]
      rfl
  · have e : nextP off week closed cal ls re ba lv now = (0, 0, 0, 0, 2) := by unfold nextP; rw [if_neg h1]
    have em : moreP off week closed cal ls re ba lv now = false := by unfold moreP; rw [e]; rfl
    rw [em, e]
    by_cases h2 : goodP cal ls re ba = true
    · rw [if_pos h2]
      by_cases h3 : lv < 0
      · rw [if_pos h3]; rfl
      · rw [if_neg h3, decide_eq_true (show lv ≥ (ls.length : Int) from Int.not_lt.1 (fun hh => h1 ⟨h2, by omega, hh⟩))]; rfl
    · rw [if_neg h2]; rfl
end Go.Proofs.YtepldlnmeenlbaaGreat.Own
namespace Go.Proofs.YtepldlnmeenlbaaGreat.Base
open Go.RowKit Go.Proofs.YtepldlnmeenlbaaGreatW.PrintWords Go.Proofs.YtepldlnmeenlbaaGreatW.PrintLast Go.Proofs.YtepldlnmeenlbaaGreatW.PrintMore
attribute [local go_sem] max2_int min2_int max_two min_two max_three min_three max_four min_four   -- for this text's walks alone
attribute [local go_sem high] eqA71
def curfewref15_Plan.l0 : Nat → List (S76) → Int → Bool → Int → List (S114) → List (S114) → Int → List (S71) → Int → Int → Int → Int → Int → Int → Option ((List (S76)) × Int)
  | 0, _, _, _, _, _, _, _, _, _, _, _, _, _, _ => none
  | k + 1, x8, x10, x11, x314000, x314001, x314002, x315000, x315001, x315002, x315003, x321000, x321001, x321002, x321003 => if x11 = true then (if x10 = 0 then (if x8.length < 4398046511104 then ((curfewref15_Next.f k x314000 x314001 x314002 x315000 x315001 x315002 x315003 x321000 x321001 x321002 x321003 x321003).bind fun bt324 => (if bt324.2.2.2.2.2 = 0 then (curfewref15_Plan.l0 k (x8 ++ [(⟨x321000, x321001, x321002, x321003⟩ : S76)]) bt324.2.2.2.2.2 bt324.2.2.2.2.1 x314000 x314001 x314002 x315000 x315001 x315002 x315003 bt324.1 bt324.2.1 bt324.2.2.1 bt324.2.2.2.1) else (some (([] : List (S76)), bt324.2.2.2.2.2)))) else (none)) else (some (([] : List (S76)), x10))) else (some (x8, 0))
def curfewref15_Plan.f (k : Nat) (a0_0 : Int) (l0_1 : List (S114)) (l0_2 : List (S114)) (a1_0 : Int) (l1_1 : List (S71)) (a1_2 : Int) (a1_3 : Int) (a2 : Int) : Option ((List (S76)) × Int) := (curfewref15_First.f k a0_0 l0_1 l0_2 a1_0 l1_1 a1_2 a1_3 a2).bind fun bt315 => (curfewref15_Plan.l0 k ([] : List (S76)) bt315.2.2.2.2 true a0_0 l0_1 l0_2 a1_0 l1_1 a1_2 a1_3 bt315.1 bt315.2.1 bt315.2.2.1 bt315.2.2.2.1)
set_option maxHeartbeats 8000000 in
set_option maxRecDepth 100000 in
theorem curfewref15_Plan.calls (k : Nat) (a0_0 : Int) (A0_1 : Option Addr) (c0_1 : Nat) (l0_1 : List (S114)) (A0_2 : Option Addr) (c0_2 : Nat) (l0_2 : List (S114)) (a1_0 : Int) (A1_1 : Option Addr) (c1_1 : Nat) (l1_1 : List (S71)) (a1_2 : Int) (a1_3 : Int) (a2 : Int) (r1 : List (S76)) (r2 : Int) (w : World) (hr0_1 : Kd.C k114 w A0_1 l0_1.length l0_1) (hc0_1 : l0_1.length ≤ c0_1) (hr0_2 : Kd.C k114 w A0_2 l0_2.length l0_2) (hc0_2 : l0_2.length ≤ c0_2) (hr1_1 : Kd.C k71 w A1_1 l1_1.length l1_1) (hc1_1 : l1_1.length ≤ c1_1) (h : curfewref15_Plan.f k a0_0 l0_1 l0_2 a1_0 l1_1 a1_2 a1_3 a2 = some (r1, r2)) :
    Calls Tryz.prog 37 #[.agg #[.int .i64 a0_0, .slice A0_1 l0_1.length c0_1, .slice A0_2 l0_2.length c0_2], .agg #[.int .i64 a1_0, .slice A1_1 l1_1.length c1_1, .int .i64 a1_2, .int .i64 a1_3], .int .i64 a2] w fun e w' => ∃ v0_ : Value, e = .returned (.tuple #[v0_, .int .i64 r2]) ∧ Kd.R k76 76 w' w.heap.size (fun _ => True) v0_ r1 ∧ Below w.heap.size w w' := by
  have hu24 := Tryz.underlying24
  have hu48 := Tryz.underlying48
  have hu76 := Tryz.underlying76
  have HR0_1 := Aside0.mk hr0_1
  have HC0_1 := Aside0.mk hc0_1
  clear hr0_1 hc0_1
  have HR0_2 := Aside0.mk hr0_2
  have HC0_2 := Aside0.mk hc0_2
  clear hr0_2 hc0_2
  have HR1_1 := Aside0.mk hr1_1
  have HC1_1 := Aside0.mk hc1_1
  clear hr1_1 hc1_1
  have HB := Aside0.mk (Below.refl w.heap.size w)
  have H : ((curfewref15_First.f k a0_0 l0_1 l0_2 a1_0 l1_1 a1_2 a1_3 a2).bind fun bt315 => (curfewref15_Plan.l0 k ([] : List (S76)) bt315.2.2.2.2 true a0_0 l0_1 l0_2 a1_0 l1_1 a1_2 a1_3 bt315.1 bt315.2.1 bt315.2.2.1 bt315.2.2.2.1)) = some (r1, r2) := h
  clear h
  replace H := Option.bind_eq_some_iff.mp H
  obtain ⟨⟨t315, t316, t317, t318, t319⟩, A40, H⟩ := H
  replace H : (curfewref15_Plan.l0 k ([] : List (S76)) t319 true a0_0 l0_1 l0_2 a1_0 l1_1 a1_2 a1_3 t315 t316 t317 t318) = some (r1, r2) := H
  have A4 := Aside0.mk A40
  clear A40
  have H' := Aside0.mk H
  clear H
  go_enter Tryz.func37, Tryz.ntmps37
  go_wp2_with (first | ((with_reducible refine gate_dst (N := 3) rfl ?_); refine box_event ?hg (N := 3) ?hd (cs := #[.int .i64 a0_0, .slice A0_1 l0_1.length c0_1, .slice A0_2 l0_2.length c0_2]) (t := 24) ?hr ?_; (case hd => rfl); (case hg => rfl); (case hr => first | (go_simp; done) | (go_simp; rfl)); intro gb313 hg w5 hbox hb; have n0_ := Aside0.mk (below_step (by repeat (first | (with_reducible first | exact HB.out | apply below_alloc | apply pw_below_drewN | apply below_drew1) | exact HB.out)) hb); have n1_ := Aside0.mk (hbox); have n2_ := Aside0.mk ((by rw [hg]; exact (below_size (by repeat (first | (with_reducible first | exact HB.out | apply below_alloc | apply pw_below_drewN | apply below_drew1) | exact HB.out))) : w.heap.size ≤ gb313)); have n3_ := Aside0.mk ((by rw [hg]; exact (below_size (by repeat (first | (with_reducible first | exact HB.out | apply below_alloc | apply pw_below_drewN | apply below_drew1) | exact HB.out))) : w.heap.size ≤ gb313)); clear HB; have HB := n0_; have BK313 := n1_; have GW313 := n2_; have GE313 := n3_; clear n0_ n1_ n2_ n3_; clear hb hbox hg) | ((with_reducible refine gate_dst (N := 4) rfl ?_); refine box_event ?hg (N := 4) ?hd (cs := #[.int .i64 a1_0, .slice A1_1 l1_1.length c1_1, .int .i64 a1_2, .int .i64 a1_3]) (t := 48) ?hr ?_; (case hd => rfl); (case hg => rfl); (case hr => first | (go_simp; done) | (go_simp; rfl)); intro gb314 hg w6 hbox hb; have n0_ := Aside0.mk (blk_below (g := gb313) (o := .cells #[.int .i64 a0_0, .slice A0_1 l0_1.length c0_1, .slice A0_2 l0_2.length c0_2] 24 (0, 0)) (by (with_reducible repeat (first | refine blk_drewN ?_ _ | refine blk_drew ?_ | refine blk_alloc ?_ _)); exact BK313.out) hb); have n1_ := Aside0.mk (below_step (by repeat (first | (with_reducible first | exact HB.out | apply below_alloc | apply pw_below_drewN | apply below_drew1 | refine below_set ?_ GE313.out) | exact HB.out)) hb); have n2_ := Aside0.mk (hbox); have n3_ := Aside0.mk ((by rw [hg]; exact (below_size (by repeat (first | (with_reducible first | exact HB.out | apply below_alloc | apply pw_below_drewN | apply below_drew1 | refine below_set ?_ GE313.out) | exact HB.out))) : w.heap.size ≤ gb314)); have n4_ := Aside0.mk ((by rw [hg]; exact (below_size (by repeat (first | (with_reducible first | exact HB.out | apply below_alloc | apply pw_below_drewN | apply below_drew1 | refine below_set ?_ GE313.out) | exact HB.out))) : w.heap.size ≤ gb314)); have n5_ := Aside0.mk ((by rw [hg]; exact Nat.ne_of_lt (blk_lt (g := gb313) (o := .cells #[.int .i64 a0_0, .slice A0_1 l0_1.length c0_1, .slice A0_2 l0_2.length c0_2] 24 (0, 0)) (by (with_reducible repeat (first | refine blk_drewN ?_ _ | refine blk_drew ?_ | refine blk_alloc ?_ _)); exact BK313.out)) : gb313 ≠ gb314)); have n6_ := Aside0.mk ((by rw [hg]; exact Nat.ne_of_gt (blk_lt (g := gb313) (o := .cells #[.int .i64 a0_0, .slice A0_1 l0_1.length c0_1, .slice A0_2 l0_2.length c0_2] 24 (0, 0)) (by (with_reducible repeat (first | refine blk_drewN ?_ _ | refine blk_drew ?_ | refine blk_alloc ?_ _)); exact BK313.out)) : gb314 ≠ gb313)); clear BK313; clear HB; have BK313 := n0_; have HB := n1_; have BK314 := n2_; have GW314 := n3_; have GE314 := n4_; have NB313_314 := n5_; have NB314_313 := n6_; clear n0_ n1_ n2_ n3_ n4_ n5_ n6_; clear hb hbox hg; have hnb7 := NB313_314.out; have hnc7 := NB314_313.out; have hcz8_0 : w6.cell? ⟨gb313, 0, none⟩ = some (.int .i64 a0_0) := (blk_cell BK313.out 0).trans rfl; have hcz8_1 : w6.cell? ⟨gb313, 1, none⟩ = some (.slice A0_1 l0_1.length c0_1) := (blk_cell BK313.out 1).trans rfl; have hcz8_2 : w6.cell? ⟨gb313, 2, none⟩ = some (.slice A0_2 l0_2.length c0_2) := (blk_cell BK313.out 2).trans rfl; have hfz8_0 := blk_frozen BK313.out 0; have hfz8_1 := blk_frozen BK313.out 1; have hfz8_2 := blk_frozen BK313.out 2; have hcz9_0 : w6.cell? ⟨gb314, 0, none⟩ = some (.int .i64 a1_0) := (blk_cell BK314.out 0).trans rfl; have hcz9_1 : w6.cell? ⟨gb314, 1, none⟩ = some (.slice A1_1 l1_1.length c1_1) := (blk_cell BK314.out 1).trans rfl; have hcz9_2 : w6.cell? ⟨gb314, 2, none⟩ = some (.int .i64 a1_2) := (blk_cell BK314.out 2).trans rfl; have hcz9_3 : w6.cell? ⟨gb314, 3, none⟩ = some (.int .i64 a1_3) := (blk_cell BK314.out 3).trans rfl; have hfz9_0 := blk_frozen BK314.out 0; have hfz9_1 := blk_frozen BK314.out 1; have hfz9_2 := blk_frozen BK314.out 2; have hfz9_3 := blk_frozen BK314.out 3) | ((with_reducible refine gate_callee (f := 84) rfl ?_); refine goesL_ (some 16) rfl rfl Tryz.func84 (by kernel_rfl) rfl #[.agg #[.int .i64 a0_0, .slice A0_1 l0_1.length c0_1, .slice A0_2 l0_2.length c0_2], .agg #[.int .i64 a1_0, .slice A1_1 l1_1.length c1_1, .int .i64 a1_2, .int .i64 a1_3], .int .i64 a2] rfl (by (try simp only [List.map_toArray, List.map_cons, List.map_nil]); first | done | rfl | (simp only [List.length_drop, List.length_take]; rfl)) ?_; (with_reducible refine (curfewref15_First.calls k a0_0 _ _ l0_1 _ _ l0_2 a1_0 _ _ l1_1 a1_2 a1_3 a2 t315 t316 t317 t318 t319 _ ?side1 ?side2 ?side3 ?side4 ?side5 ?side6 A4.out).mono ?_); (case side1 => repeat (first | exact (Kd.C_below HR0_1.out HB.out) | (with_reducible refine Kd.C_alloc ?_ _) | (with_reducible refine Kd.C_drewN ?_ _) | (with_reducible refine Kd.C_drew ?_))); (case side2 => exact HC0_1.out); (case side3 => repeat (first | exact (Kd.C_below HR0_2.out HB.out) | (with_reducible refine Kd.C_alloc ?_ _) | (with_reducible refine Kd.C_drewN ?_ _) | (with_reducible refine Kd.C_drew ?_))); (case side4 => exact HC0_2.out); (case side5 => repeat (first | exact (Kd.C_below HR1_1.out HB.out) | (with_reducible refine Kd.C_alloc ?_ _) | (with_reducible refine Kd.C_drewN ?_ _) | (with_reducible refine Kd.C_drew ?_))); (case side6 => exact HC1_1.out); rintro e w10 ⟨rfl, hb⟩; refine ⟨_, rfl, ?_⟩; have n0_ := Aside0.mk (blk_below (g := gb313) (o := .cells #[.int .i64 a0_0, .slice A0_1 l0_1.length c0_1, .slice A0_2 l0_2.length c0_2] 24 (0, 0)) (by (with_reducible repeat (first | refine blk_drewN ?_ _ | refine blk_drew ?_ | refine blk_alloc ?_ _)); exact BK313.out) hb); have n1_ := Aside0.mk (blk_below (g := gb314) (o := .cells #[.int .i64 a1_0, .slice A1_1 l1_1.length c1_1, .int .i64 a1_2, .int .i64 a1_3] 48 (0, 0)) (by (with_reducible repeat (first | refine blk_drewN ?_ _ | refine blk_drew ?_ | refine blk_alloc ?_ _)); exact BK314.out) hb); have n2_ := Aside0.mk (below_step (by repeat (first | (with_reducible first | exact HB.out | apply below_alloc | apply pw_below_drewN | apply below_drew1 | refine below_set ?_ GE313.out | refine below_set ?_ GE314.out) | exact HB.out)) hb); clear BK313; clear BK314; clear HB; have BK313 := n0_; have BK314 := n1_; have HB := n2_; clear n0_ n1_ n2_; (try clear hb); (try clear hb2); (try clear hk); (try clear hi)) | ((with_reducible refine gate_dst (N := 9) rfl ?_); refine box_event ?hg (N := 9) ?hd (cs := #[.int .i64 0, .int .i64 0, .int .i64 0, .int .i64 0]) (t := 76) ?hr ?_; (case hd => rfl); (case hg => rfl); (case hr => first | (go_simp; done) | (go_simp; rfl)); intro gb320 hg w11 hbox hb; have n0_ := Aside0.mk (blk_below (g := gb313) (o := .cells #[.int .i64 a0_0, .slice A0_1 l0_1.length c0_1, .slice A0_2 l0_2.length c0_2] 24 (0, 0)) (by (with_reducible repeat (first | refine blk_drewN ?_ _ | refine blk_drew ?_ | refine blk_alloc ?_ _)); exact BK313.out) hb); have n1_ := Aside0.mk (blk_below (g := gb314) (o := .cells #[.int .i64 a1_0, .slice A1_1 l1_1.length c1_1, .int .i64 a1_2, .int .i64 a1_3] 48 (0, 0)) (by (with_reducible repeat (first | refine blk_drewN ?_ _ | refine blk_drew ?_ | refine blk_alloc ?_ _)); exact BK314.out) hb); have n2_ := Aside0.mk (below_step (by repeat (first | (with_reducible first | exact HB.out | apply below_alloc | apply pw_below_drewN | apply below_drew1 | refine below_set ?_ GE313.out | refine below_set ?_ GE314.out) | exact HB.out)) hb); have n3_ := Aside0.mk (hbox); have n4_ := Aside0.mk ((by rw [hg]; exact (below_size (by repeat (first | (with_reducible first | exact HB.out | apply below_alloc | apply pw_below_drewN | apply below_drew1 | refine below_set ?_ GE313.out | refine below_set ?_ GE314.out) | exact HB.out))) : w.heap.size ≤ gb320)); have n5_ := Aside0.mk ((by rw [hg]; exact (below_size (by repeat (first | (with_reducible first | exact HB.out | apply below_alloc | apply pw_below_drewN | apply below_drew1 | refine below_set ?_ GE313.out | refine below_set ?_ GE314.out) | exact HB.out))) : w.heap.size ≤ gb320)); have n6_ := Aside0.mk ((by rw [hg]; exact Nat.ne_of_lt (blk_lt (g := gb313) (o := .cells #[.int .i64 a0_0, .slice A0_1 l0_1.length c0_1, .slice A0_2 l0_2.length c0_2] 24 (0, 0)) (by (with_reducible repeat (first | refine blk_drewN ?_ _ | refine blk_drew ?_ | refine blk_alloc ?_ _)); exact BK313.out)) : gb313 ≠ gb320)); have n7_ := Aside0.mk ((by rw [hg]; exact Nat.ne_of_gt (blk_lt (g := gb313) (o := .cells #[.int .i64 a0_0, .slice A0_1 l0_1.length c0_1, .slice A0_2 l0_2.length c0_2] 24 (0, 0)) (by (with_reducible repeat (first | refine blk_drewN ?_ _ | refine blk_drew ?_ | refine blk_alloc ?_ _)); exact BK313.out)) : gb320 ≠ gb313)); have n8_ := Aside0.mk ((by rw [hg]; exact Nat.ne_of_lt (blk_lt (g := gb314) (o := .cells #[.int .i64 a1_0, .slice A1_1 l1_1.length c1_1, .int .i64 a1_2, .int .i64 a1_3] 48 (0, 0)) (by (with_reducible repeat (first | refine blk_drewN ?_ _ | refine blk_drew ?_ | refine blk_alloc ?_ _)); exact BK314.out)) : gb314 ≠ gb320)); have n9_ := Aside0.mk ((by rw [hg]; exact Nat.ne_of_gt (blk_lt (g := gb314) (o := .cells #[.int .i64 a1_0, .slice A1_1 l1_1.length c1_1, .int .i64 a1_2, .int .i64 a1_3] 48 (0, 0)) (by (with_reducible repeat (first | refine blk_drewN ?_ _ | refine blk_drew ?_ | refine blk_alloc ?_ _)); exact BK314.out)) : gb320 ≠ gb314)); clear BK313; clear BK314; clear HB; have BK313 := n0_; have BK314 := n1_; have HB := n2_; have BK320 := n3_; have GW320 := n4_; have GE320 := n5_; have NB313_320 := n6_; have NB320_313 := n7_; have NB314_320 := n8_; have NB320_314 := n9_; clear n0_ n1_ n2_ n3_ n4_ n5_ n6_ n7_ n8_ n9_; clear hb hbox hg; have hnb12 := NB320_313.out; have hnc12 := NB313_320.out; have hnb13 := NB320_314.out; have hnc13 := NB314_320.out; have hcz14_0 : w11.cell? ⟨gb320, 0, none⟩ = some (.int .i64 0) := (blk_cell BK320.out 0).trans rfl; have hcz14_1 : w11.cell? ⟨gb320, 1, none⟩ = some (.int .i64 0) := (blk_cell BK320.out 1).trans rfl; have hcz14_2 : w11.cell? ⟨gb320, 2, none⟩ = some (.int .i64 0) := (blk_cell BK320.out 2).trans rfl; have hcz14_3 : w11.cell? ⟨gb320, 3, none⟩ = some (.int .i64 0) := (blk_cell BK320.out 3).trans rfl; have hfz14_0 := blk_frozen BK320.out 0; have hfz14_1 := blk_frozen BK320.out 1; have hfz14_2 := blk_frozen BK320.out 2; have hfz14_3 := blk_frozen BK320.out 3))
  go_loopg [8, 10, 11] k (fun kq v8 v10 v11 w' => ∃ (x8_1 : List (S76)) (x10_1 : Int) (x11_1 : Bool) (x321000_1 : Int) (x321001_1 : Int) (x321002_1 : Int) (x321003_1 : Int), v10 = .int .i64 x10_1 ∧ v11 = .bool x11_1 ∧ Aside0 (curfewref15_Plan.l0 kq x8_1 x10_1 x11_1 a0_0 l0_1 l0_2 a1_0 l1_1 a1_2 a1_3 x321000_1 x321001_1 x321002_1 x321003_1 = some (r1, r2)) ∧ Aside0 (kq ≤ k) ∧ Aside0 (Kd.R k76 76 w' w.heap.size (fun k_ => k_ ≠ gb320) v8 x8_1) ∧ Aside0 (w'.heap[gb313]? = some (.cells #[.int .i64 a0_0, (.slice A0_1 l0_1.length c0_1), (.slice A0_2 l0_2.length c0_2)] 24 (0, 0))) ∧ Aside0 (w'.heap[gb314]? = some (.cells #[.int .i64 a1_0, (.slice A1_1 l1_1.length c1_1), .int .i64 a1_2, .int .i64 a1_3] 48 (0, 0))) ∧ Aside0 (w'.heap[gb320]? = some (.cells #[.int .i64 x321000_1, .int .i64 x321001_1, .int .i64 x321002_1, .int .i64 x321003_1] 76 (0, 0))) ∧ Aside0 (Below w.heap.size w w'))
  case atStart => exact ⟨(([] : List (S76))), (t319), (true), (t315), (t316), (t317), (t318), (by first | rfl | (simp; done) | (simp [*]; done)), (by first | rfl | (simp; done) | (simp [*]; done)), H', ⟨Nat.le_refl _⟩, ⟨by first | exact Kd.R_nil _ _ _ _ _ | exact Kd.N_nil _ _ _ _ _ | exact Kd.V_nil _ _ _ _ _ | exact Kd.Q_nil _ _ _ _ _ | exact Kd.S_nil _ _ _ _ _⟩, ⟨by (with_reducible repeat (first | refine blk_drewN ?_ _ | refine blk_drew ?_ | refine blk_alloc ?_ _)); refine blk_far ?_ NB313_320.out _; (with_reducible repeat (first | refine blk_drewN ?_ _ | refine blk_drew ?_ | refine blk_alloc ?_ _)); refine blk_far ?_ NB313_320.out _; (with_reducible repeat (first | refine blk_drewN ?_ _ | refine blk_drew ?_ | refine blk_alloc ?_ _)); refine blk_far ?_ NB313_320.out _; (with_reducible repeat (first | refine blk_drewN ?_ _ | refine blk_drew ?_ | refine blk_alloc ?_ _)); refine blk_far ?_ NB313_320.out _; (with_reducible repeat (first | refine blk_drewN ?_ _ | refine blk_drew ?_ | refine blk_alloc ?_ _)); exact BK313.out⟩, ⟨by (with_reducible repeat (first | refine blk_drewN ?_ _ | refine blk_drew ?_ | refine blk_alloc ?_ _)); refine blk_far ?_ NB314_320.out _; (with_reducible repeat (first | refine blk_drewN ?_ _ | refine blk_drew ?_ | refine blk_alloc ?_ _)); refine blk_far ?_ NB314_320.out _; (with_reducible repeat (first | refine blk_drewN ?_ _ | refine blk_drew ?_ | refine blk_alloc ?_ _)); refine blk_far ?_ NB314_320.out _; (with_reducible repeat (first | refine blk_drewN ?_ _ | refine blk_drew ?_ | refine blk_alloc ?_ _)); refine blk_far ?_ NB314_320.out _; (with_reducible repeat (first | refine blk_drewN ?_ _ | refine blk_drew ?_ | refine blk_alloc ?_ _)); exact BK314.out⟩, ⟨by (with_reducible repeat (first | refine blk_drewN ?_ _ | refine blk_drew ?_ | refine blk_alloc ?_ _)); refine blk_put (cs := #[.int .i64 t315, .int .i64 t316, .int .i64 t317, .int .i64 0]) ?_ 3 _ rfl; (with_reducible repeat (first | refine blk_drewN ?_ _ | refine blk_drew ?_ | refine blk_alloc ?_ _)); refine blk_put (cs := #[.int .i64 t315, .int .i64 t316, .int .i64 0, .int .i64 0]) ?_ 2 _ rfl; (with_reducible repeat (first | refine blk_drewN ?_ _ | refine blk_drew ?_ | refine blk_alloc ?_ _)); refine blk_put (cs := #[.int .i64 t315, .int .i64 0, .int .i64 0, .int .i64 0]) ?_ 1 _ rfl; (with_reducible repeat (first | refine blk_drewN ?_ _ | refine blk_drew ?_ | refine blk_alloc ?_ _)); refine blk_put (cs := #[.int .i64 0, .int .i64 0, .int .i64 0, .int .i64 0]) ?_ 0 _ rfl; (with_reducible repeat (first | refine blk_drewN ?_ _ | refine blk_drew ?_ | refine blk_alloc ?_ _)); exact BK320.out⟩, ⟨by repeat (first | (with_reducible first | exact HB.out | apply below_alloc | apply pw_below_drewN | apply below_drew1 | refine below_set ?_ GE313.out | refine below_set ?_ GE314.out | refine below_set ?_ GE320.out) | exact HB.out)⟩⟩
  case round =>
    clear H'
    try clear c1
    try clear p2
    try clear c3
    try clear c7
    try clear c8
    try clear c12
    try clear c13
    try clear hcz14_0
    try clear hcz14_1
    try clear hcz14_2
    try clear hcz14_3
    try clear hcz8_0
    try clear hcz8_1
    try clear hcz8_2
    try clear hcz9_0
    try clear hcz9_1
    try clear hcz9_2
    try clear hcz9_3
    try clear hfz14_0
    try clear hfz14_1
    try clear hfz14_2
    try clear hfz14_3
    try clear hfz8_0
    try clear hfz8_1
    try clear hfz8_2
    try clear hfz9_0
    try clear hfz9_1
    try clear hfz9_2
    try clear hfz9_3
    obtain ⟨x8_1, x10_1, x11_1, x321000_1, x321001_1, x321002_1, x321003_1, rfl, rfl, HA, HK1, HO_8, BK313, BK314, BK320, HB⟩ := hrel
    cases gk with
    | zero => exact absurd HA.out (by simp [curfewref15_Plan.l0])
    | succ k1 =>
      have H := HA.out
      clear HA
      simp only [curfewref15_Plan.l0] at H
      by_cases c15 : x11_1 = true
      · subst c15
        have H1 : (if x10_1 = 0 then (if x8_1.length < 4398046511104 then ((curfewref15_Next.f k1 a0_0 l0_1 l0_2 a1_0 l1_1 a1_2 a1_3 x321000_1 x321001_1 x321002_1 x321003_1 x321003_1).bind fun bt324 => (if bt324.2.2.2.2.2 = 0 then (curfewref15_Plan.l0 k1 (x8_1 ++ [(⟨x321000_1, x321001_1, x321002_1, x321003_1⟩ : S76)]) bt324.2.2.2.2.2 bt324.2.2.2.2.1 a0_0 l0_1 l0_2 a1_0 l1_1 a1_2 a1_3 bt324.1 bt324.2.1 bt324.2.2.1 bt324.2.2.2.1) else (some (([] : List (S76)), bt324.2.2.2.2.2)))) else (none)) else (some (([] : List (S76)), x10_1))) = some (r1, r2) := by rw [if_pos rfl] at H; exact H
        clear H
        have H := H1
        clear H1
        by_cases c16 : x10_1 = 0
        · rw [if_pos c16] at H
          have c16b0 : (x10_1 == 0) = true := beq_iff_eq.mpr c16
          have c16b1 : (x10_1 != 0) = false := bne_eq_false_iff_eq.mpr c16
          clear c16
          by_cases c17 : x8_1.length < 4398046511104
          · rw [if_pos c17] at H
            have LMc17 := Aside0.mk c17
            clear c17
            obtain ⟨y321, hy321⟩ : ∃ y_ : List (S76), y_ = (x8_1 ++ [(⟨x321000_1, x321001_1, x321002_1, x321003_1⟩ : S76)]) := ⟨_, rfl⟩
            replace H : ((curfewref15_Next.f k1 a0_0 l0_1 l0_2 a1_0 l1_1 a1_2 a1_3 x321000_1 x321001_1 x321002_1 x321003_1 x321003_1).bind fun bt324 => (if bt324.2.2.2.2.2 = 0 then (curfewref15_Plan.l0 k1 y321 bt324.2.2.2.2.2 bt324.2.2.2.2.1 a0_0 l0_1 l0_2 a1_0 l1_1 a1_2 a1_3 bt324.1 bt324.2.1 bt324.2.2.1 bt324.2.2.2.1) else (some (([] : List (S76)), bt324.2.2.2.2.2)))) = some (r1, r2) := by first | (rw [hy321]; with_reducible exact H) | (have H2_ := (Option.bind_some _ _).symm.trans H; rw [hy321]; with_reducible exact H2_) | (have H2_ := (Option.bind_some _ _).symm.trans H; with_reducible exact H2_) | with_reducible exact H | (rw [hy321]; exact H) | exact H
            have Ny321 := Aside0.mk hy321
            clear hy321
            replace H := Option.bind_eq_some_iff.mp H
            obtain ⟨⟨t324, t325, t326, t327, t328, t329⟩, A180, H⟩ := H
            replace H : (if t329 = 0 then (curfewref15_Plan.l0 k1 y321 t329 t328 a0_0 l0_1 l0_2 a1_0 l1_1 a1_2 a1_3 t324 t325 t326 t327) else (some (([] : List (S76)), t329))) = some (r1, r2) := H
            have A18 := Aside0.mk A180
            clear A180
            by_cases c19 : t329 = 0
            · rw [if_pos c19] at H
              have c19b0 : (t329 == 0) = true := beq_iff_eq.mpr c19
              have c19b1 : (t329 != 0) = false := bne_eq_false_iff_eq.mpr c19
              clear c19
              have H' := Aside0.mk H
              clear H
              have hnb20 := NB320_313.out
              have hnc20 := NB313_320.out
              have hnb21 := NB320_314.out
              have hnc21 := NB314_320.out
              have hcz22_0 : wr.cell? ⟨gb320, 0, none⟩ = some (.int .i64 x321000_1) := (blk_cell BK320.out 0).trans rfl
              have hcz22_1 : wr.cell? ⟨gb320, 1, none⟩ = some (.int .i64 x321001_1) := (blk_cell BK320.out 1).trans rfl
              have hcz22_2 : wr.cell? ⟨gb320, 2, none⟩ = some (.int .i64 x321002_1) := (blk_cell BK320.out 2).trans rfl
              have hcz22_3 : wr.cell? ⟨gb320, 3, none⟩ = some (.int .i64 x321003_1) := (blk_cell BK320.out 3).trans rfl
              have hfz22_0 := blk_frozen BK320.out 0
              have hfz22_1 := blk_frozen BK320.out 1
              have hfz22_2 := blk_frozen BK320.out 2
              have hfz22_3 := blk_frozen BK320.out 3
              go_wp2_with (first | ((with_reducible refine gate_builtin (b := .append) (xs := #[.tmp 23, .tmp 25]) rfl ?_); at_builtin; refine Kd.R_append k76 (w0 := w) w.heap.size rfl (.tmp 23) (.tmp 25) 67 76 (.agg #[(.int .i64 0), (.int .i64 0), (.int .i64 0), (.int .i64 0)]) 32 rfl Tryz.underlying67 info76 rfl (by decide) (by omega) u8 x8_1 (⟨x321000_1, x321001_1, x321002_1, x321003_1⟩ : S76) [.int .i64 x321000_1, .int .i64 x321001_1, .int .i64 x321002_1, .int .i64 x321003_1] (fun k_ => k_ ≠ gb320) (fun _ => False) rfl rfl ?aP (fun _ hk => hk.elim) ?aF ?aO ?aB ?aS ?aL ?_; (case aP => exact k76_mkM _ _ _ (⟨x321000_1, x321001_1, x321002_1, x321003_1⟩ : S76)); (case aB => exact (by repeat (first | (with_reducible first | exact HB.out | apply below_alloc | apply pw_below_drewN | apply below_drew1 | refine below_set ?_ GE313.out | refine below_set ?_ GE314.out | refine below_set ?_ GE320.out) | exact HB.out))); (case aF => exact (fun k_ hk => Kd.freshB (g := gb320) (o := .cells #[.int .i64 x321000_1, .int .i64 x321001_1, .int .i64 x321002_1, .int .i64 x321003_1] 76 (0, 0)) (by (with_reducible repeat (first | refine blk_drewN ?_ _ | refine blk_drew ?_ | refine blk_alloc ?_ _)); exact BK320.out) k_ hk)); (case aO => exact (by (with_reducible repeat (first | apply Kd.R_alloc | apply Kd.R_drewN | apply Kd.R_drew)); exact HO_8.out)); (case aS => exact (below_size (by repeat (first | (with_reducible first | exact HB.out | apply below_alloc | apply pw_below_drewN | apply below_drew1 | refine below_set ?_ GE313.out | refine below_set ?_ GE314.out | refine below_set ?_ GE320.out) | exact HB.out)))); (case aL => have := LMc17.out; omega); intro v322 w23 ho hb hg hat; rw [← Ny321.out] at ho; have n0_ := Aside0.mk (blk_grown (g := gb313) (o := .cells #[.int .i64 a0_0, .slice A0_1 l0_1.length c0_1, .slice A0_2 l0_2.length c0_2] 24 (0, 0)) (by (with_reducible repeat (first | refine blk_drewN ?_ _ | refine blk_drew ?_ | refine blk_alloc ?_ _)); exact BK313.out) hg (Kd.R_ne HO_8.out BK313.out (by decide))); have n1_ := Aside0.mk (blk_grown (g := gb314) (o := .cells #[.int .i64 a1_0, .slice A1_1 l1_1.length c1_1, .int .i64 a1_2, .int .i64 a1_3] 48 (0, 0)) (by (with_reducible repeat (first | refine blk_drewN ?_ _ | refine blk_drew ?_ | refine blk_alloc ?_ _)); exact BK314.out) hg (Kd.R_ne HO_8.out BK314.out (by decide))); have n2_ := Aside0.mk (blk_grown (g := gb320) (o := .cells #[.int .i64 x321000_1, .int .i64 x321001_1, .int .i64 x321002_1, .int .i64 x321003_1] 76 (0, 0)) (by (with_reducible repeat (first | refine blk_drewN ?_ _ | refine blk_drew ?_ | refine blk_alloc ?_ _)); exact BK320.out) hg (Kd.R_away HO_8.out (fun _ hk => hk))); have n3_ := Aside0.mk (hb); have n4_ := Aside0.mk (ho); clear BK313; clear BK314; clear BK320; clear HB; clear HO_8; have BK313 := n0_; have BK314 := n1_; have BK320 := n2_; have HB := n3_; have HO323 := n4_; clear n0_ n1_ n2_ n3_ n4_; clear ho hb hg hat; have hnb24 := NB313_314.out; have hnc24 := NB314_313.out; have hcz25_0 : w23.cell? ⟨gb313, 0, none⟩ = some (.int .i64 a0_0) := (blk_cell BK313.out 0).trans rfl; have hcz25_1 : w23.cell? ⟨gb313, 1, none⟩ = some (.slice A0_1 l0_1.length c0_1) := (blk_cell BK313.out 1).trans rfl; have hcz25_2 : w23.cell? ⟨gb313, 2, none⟩ = some (.slice A0_2 l0_2.length c0_2) := (blk_cell BK313.out 2).trans rfl; have hfz25_0 := blk_frozen BK313.out 0; have hfz25_1 := blk_frozen BK313.out 1; have hfz25_2 := blk_frozen BK313.out 2; have hcz26_0 : w23.cell? ⟨gb314, 0, none⟩ = some (.int .i64 a1_0) := (blk_cell BK314.out 0).trans rfl; have hcz26_1 : w23.cell? ⟨gb314, 1, none⟩ = some (.slice A1_1 l1_1.length c1_1) := (blk_cell BK314.out 1).trans rfl; have hcz26_2 : w23.cell? ⟨gb314, 2, none⟩ = some (.int .i64 a1_2) := (blk_cell BK314.out 2).trans rfl; have hcz26_3 : w23.cell? ⟨gb314, 3, none⟩ = some (.int .i64 a1_3) := (blk_cell BK314.out 3).trans rfl; have hfz26_0 := blk_frozen BK314.out 0; have hfz26_1 := blk_frozen BK314.out 1; have hfz26_2 := blk_frozen BK314.out 2; have hfz26_3 := blk_frozen BK314.out 3; have hcz27_0 : w23.cell? ⟨gb320, 0, none⟩ = some (.int .i64 x321000_1) := (blk_cell BK320.out 0).trans rfl; have hcz27_1 : w23.cell? ⟨gb320, 1, none⟩ = some (.int .i64 x321001_1) := (blk_cell BK320.out 1).trans rfl; have hcz27_2 : w23.cell? ⟨gb320, 2, none⟩ = some (.int .i64 x321002_1) := (blk_cell BK320.out 2).trans rfl; have hcz27_3 : w23.cell? ⟨gb320, 3, none⟩ = some (.int .i64 x321003_1) := (blk_cell BK320.out 3).trans rfl; have hfz27_0 := blk_frozen BK320.out 0; have hfz27_1 := blk_frozen BK320.out 1; have hfz27_2 := blk_frozen BK320.out 2; have hfz27_3 := blk_frozen BK320.out 3) | ((with_reducible refine gate_callee (f := 85) rfl ?_); refine goesL_ (some 33) rfl rfl Tryz.func85 (by kernel_rfl) rfl #[.agg #[.int .i64 a0_0, .slice A0_1 l0_1.length c0_1, .slice A0_2 l0_2.length c0_2], .agg #[.int .i64 a1_0, .slice A1_1 l1_1.length c1_1, .int .i64 a1_2, .int .i64 a1_3], .agg #[.int .i64 x321000_1, .int .i64 x321001_1, .int .i64 x321002_1, .int .i64 x321003_1], .int .i64 x321003_1] rfl (by (try simp only [List.map_toArray, List.map_cons, List.map_nil]); first | done | rfl | (simp only [List.length_drop, List.length_take]; rfl)) ?_; (with_reducible refine (curfewref15_Next.calls k1 a0_0 _ _ l0_1 _ _ l0_2 a1_0 _ _ l1_1 a1_2 a1_3 x321000_1 x321001_1 x321002_1 x321003_1 x321003_1 t324 t325 t326 t327 t328 t329 _ ?side1 ?side2 ?side3 ?side4 ?side5 ?side6 A18.out).mono ?_); (case side1 => repeat (first | exact (Kd.C_below HR0_1.out HB.out) | (with_reducible refine Kd.C_alloc ?_ _) | (with_reducible refine Kd.C_drewN ?_ _) | (with_reducible refine Kd.C_drew ?_))); (case side2 => exact HC0_1.out); (case side3 => repeat (first | exact (Kd.C_below HR0_2.out HB.out) | (with_reducible refine Kd.C_alloc ?_ _) | (with_reducible refine Kd.C_drewN ?_ _) | (with_reducible refine Kd.C_drew ?_))); (case side4 => exact HC0_2.out); (case side5 => repeat (first | exact (Kd.C_below HR1_1.out HB.out) | (with_reducible refine Kd.C_alloc ?_ _) | (with_reducible refine Kd.C_drewN ?_ _) | (with_reducible refine Kd.C_drew ?_))); (case side6 => exact HC1_1.out); rintro e w28 ⟨rfl, hb⟩; refine ⟨_, rfl, ?_⟩; have n0_ := Aside0.mk (Kd.R_below (by (with_reducible repeat (first | apply Kd.R_alloc | apply Kd.R_drewN | apply Kd.R_drew)); exact HO323.out) hb); have n1_ := Aside0.mk (blk_below (g := gb313) (o := .cells #[.int .i64 a0_0, .slice A0_1 l0_1.length c0_1, .slice A0_2 l0_2.length c0_2] 24 (0, 0)) (by (with_reducible repeat (first | refine blk_drewN ?_ _ | refine blk_drew ?_ | refine blk_alloc ?_ _)); exact BK313.out) hb); have n2_ := Aside0.mk (blk_below (g := gb314) (o := .cells #[.int .i64 a1_0, .slice A1_1 l1_1.length c1_1, .int .i64 a1_2, .int .i64 a1_3] 48 (0, 0)) (by (with_reducible repeat (first | refine blk_drewN ?_ _ | refine blk_drew ?_ | refine blk_alloc ?_ _)); exact BK314.out) hb); have n3_ := Aside0.mk (blk_below (g := gb320) (o := .cells #[.int .i64 x321000_1, .int .i64 x321001_1, .int .i64 x321002_1, .int .i64 x321003_1] 76 (0, 0)) (by (with_reducible repeat (first | refine blk_drewN ?_ _ | refine blk_drew ?_ | refine blk_alloc ?_ _)); exact BK320.out) hb); have n4_ := Aside0.mk (below_step (by repeat (first | (with_reducible first | exact HB.out | apply below_alloc | apply pw_below_drewN | apply below_drew1 | refine below_set ?_ GE313.out | refine below_set ?_ GE314.out | refine below_set ?_ GE320.out) | exact HB.out)) hb); clear HO323; clear BK313; clear BK314; clear BK320; clear HB; have HO323 := n0_; have BK313 := n1_; have BK314 := n2_; have BK320 := n3_; have HB := n4_; clear n0_ n1_ n2_ n3_ n4_; (try clear hb); (try clear hb2); (try clear hk); (try clear hi); have hcz29_0 : w28.cell? ⟨gb320, 0, none⟩ = some (.int .i64 x321000_1) := (blk_cell BK320.out 0).trans rfl; have hcz29_1 : w28.cell? ⟨gb320, 1, none⟩ = some (.int .i64 x321001_1) := (blk_cell BK320.out 1).trans rfl; have hcz29_2 : w28.cell? ⟨gb320, 2, none⟩ = some (.int .i64 x321002_1) := (blk_cell BK320.out 2).trans rfl; have hcz29_3 : w28.cell? ⟨gb320, 3, none⟩ = some (.int .i64 x321003_1) := (blk_cell BK320.out 3).trans rfl; have hfz29_0 := blk_frozen BK320.out 0; have hfz29_1 := blk_frozen BK320.out 1; have hfz29_2 := blk_frozen BK320.out 2; have hfz29_3 := blk_frozen BK320.out 3))
              go_roundg k1
              case measure => have := HK1.out; omega
              case rel => exact ⟨(y321), (t329), (t328), (t324), (t325), (t326), (t327), (by first | rfl | (simp; done) | (simp [*]; done)), (by first | rfl | (simp; done) | (simp [*]; done)), H', ⟨by have := HK1.out; omega⟩, ⟨by (with_reducible repeat (first | apply Kd.R_alloc | apply Kd.R_drewN | apply Kd.R_drew)); exact Kd.R_mono (Kd.R_far (p := ⟨gb320, 3, none⟩) (Kd.R_far (p := ⟨gb320, 2, none⟩) (Kd.R_far (p := ⟨gb320, 1, none⟩) (Kd.R_far (p := ⟨gb320, 0, none⟩) (Kd.R_mono HO323.out (fun k_ hk => (⟨hk, hk⟩ : _ ∧ k_ ≠ gb320))) (fun _ hk => hk.2) (.int .i64 t324)) (fun _ hk => hk.2) (.int .i64 t325)) (fun _ hk => hk.2) (.int .i64 t326)) (fun _ hk => hk.2) (.int .i64 t327)) (fun _ hk => hk.1)⟩, ⟨by (with_reducible repeat (first | refine blk_drewN ?_ _ | refine blk_drew ?_ | refine blk_alloc ?_ _)); refine blk_far ?_ NB313_320.out _; (with_reducible repeat (first | refine blk_drewN ?_ _ | refine blk_drew ?_ | refine blk_alloc ?_ _)); refine blk_far ?_ NB313_320.out _; (with_reducible repeat (first | refine blk_drewN ?_ _ | refine blk_drew ?_ | refine blk_alloc ?_ _)); refine blk_far ?_ NB313_320.out _; (with_reducible repeat (first | refine blk_drewN ?_ _ | refine blk_drew ?_ | refine blk_alloc ?_ _)); refine blk_far ?_ NB313_320.out _; (with_reducible repeat (first | refine blk_drewN ?_ _ | refine blk_drew ?_ | refine blk_alloc ?_ _)); exact BK313.out⟩, ⟨by (with_reducible repeat (first | refine blk_drewN ?_ _ | refine blk_drew ?_ | refine blk_alloc ?_ _)); refine blk_far ?_ NB314_320.out _; (with_reducible repeat (first | refine blk_drewN ?_ _ | refine blk_drew ?_ | refine blk_alloc ?_ _)); refine blk_far ?_ NB314_320.out _; (with_reducible repeat (first | refine blk_drewN ?_ _ | refine blk_drew ?_ | refine blk_alloc ?_ _)); refine blk_far ?_ NB314_320.out _; (with_reducible repeat (first | refine blk_drewN ?_ _ | refine blk_drew ?_ | refine blk_alloc ?_ _)); refine blk_far ?_ NB314_320.out _; (with_reducible repeat (first | refine blk_drewN ?_ _ | refine blk_drew ?_ | refine blk_alloc ?_ _)); exact BK314.out⟩, ⟨by (with_reducible repeat (first | refine blk_drewN ?_ _ | refine blk_drew ?_ | refine blk_alloc ?_ _)); refine blk_put (cs := #[.int .i64 t324, .int .i64 t325, .int .i64 t326, .int .i64 x321003_1]) ?_ 3 _ rfl; (with_reducible repeat (first | refine blk_drewN ?_ _ | refine blk_drew ?_ | refine blk_alloc ?_ _)); refine blk_put (cs := #[.int .i64 t324, .int .i64 t325, .int .i64 x321002_1, .int .i64 x321003_1]) ?_ 2 _ rfl; (with_reducible repeat (first | refine blk_drewN ?_ _ | refine blk_drew ?_ | refine blk_alloc ?_ _)); refine blk_put (cs := #[.int .i64 t324, .int .i64 x321001_1, .int .i64 x321002_1, .int .i64 x321003_1]) ?_ 1 _ rfl; (with_reducible repeat (first | refine blk_drewN ?_ _ | refine blk_drew ?_ | refine blk_alloc ?_ _)); refine blk_put (cs := #[.int .i64 x321000_1, .int .i64 x321001_1, .int .i64 x321002_1, .int .i64 x321003_1]) ?_ 0 _ rfl; (with_reducible repeat (first | refine blk_drewN ?_ _ | refine blk_drew ?_ | refine blk_alloc ?_ _)); exact BK320.out⟩, ⟨by repeat (first | (with_reducible first | exact HB.out | apply below_alloc | apply pw_below_drewN | apply below_drew1 | refine below_set ?_ GE313.out | refine below_set ?_ GE314.out | refine below_set ?_ GE320.out) | exact HB.out)⟩⟩
            · rw [if_neg c19] at H
              have c19b0 : (t329 == 0) = false := beq_eq_false_iff_ne.mpr c19
              have c19b1 : (t329 != 0) = true := bne_iff_ne.mpr c19
              simp only [Option.some.injEq, Prod.mk.injEq] at H
              obtain ⟨rfl, rfl⟩ := H
              have hnb30 := NB320_313.out
              have hnc30 := NB313_320.out
              have hnb31 := NB320_314.out
              have hnc31 := NB314_320.out
              have hcz32_0 : wr.cell? ⟨gb320, 0, none⟩ = some (.int .i64 x321000_1) := (blk_cell BK320.out 0).trans rfl
              have hcz32_1 : wr.cell? ⟨gb320, 1, none⟩ = some (.int .i64 x321001_1) := (blk_cell BK320.out 1).trans rfl
              have hcz32_2 : wr.cell? ⟨gb320, 2, none⟩ = some (.int .i64 x321002_1) := (blk_cell BK320.out 2).trans rfl
              have hcz32_3 : wr.cell? ⟨gb320, 3, none⟩ = some (.int .i64 x321003_1) := (blk_cell BK320.out 3).trans rfl
              have hfz32_0 := blk_frozen BK320.out 0
              have hfz32_1 := blk_frozen BK320.out 1
              have hfz32_2 := blk_frozen BK320.out 2
              have hfz32_3 := blk_frozen BK320.out 3
              go_wp2_with (first | ((with_reducible refine gate_builtin (b := .append) (xs := #[.tmp 23, .tmp 25]) rfl ?_); at_builtin; refine Kd.R_append k76 (w0 := w) w.heap.size rfl (.tmp 23) (.tmp 25) 67 76 (.agg #[(.int .i64 0), (.int .i64 0), (.int .i64 0), (.int .i64 0)]) 32 rfl Tryz.underlying67 info76 rfl (by decide) (by omega) u8 x8_1 (⟨x321000_1, x321001_1, x321002_1, x321003_1⟩ : S76) [.int .i64 x321000_1, .int .i64 x321001_1, .int .i64 x321002_1, .int .i64 x321003_1] (fun k_ => k_ ≠ gb320) (fun _ => False) rfl rfl ?aP (fun _ hk => hk.elim) ?aF ?aO ?aB ?aS ?aL ?_; (case aP => exact k76_mkM _ _ _ (⟨x321000_1, x321001_1, x321002_1, x321003_1⟩ : S76)); (case aB => exact (by repeat (first | (with_reducible first | exact HB.out | apply below_alloc | apply pw_below_drewN | apply below_drew1 | refine below_set ?_ GE313.out | refine below_set ?_ GE314.out | refine below_set ?_ GE320.out) | exact HB.out))); (case aF => exact (fun k_ hk => Kd.freshB (g := gb320) (o := .cells #[.int .i64 x321000_1, .int .i64 x321001_1, .int .i64 x321002_1, .int .i64 x321003_1] 76 (0, 0)) (by (with_reducible repeat (first | refine blk_drewN ?_ _ | refine blk_drew ?_ | refine blk_alloc ?_ _)); exact BK320.out) k_ hk)); (case aO => exact (by (with_reducible repeat (first | apply Kd.R_alloc | apply Kd.R_drewN | apply Kd.R_drew)); exact HO_8.out)); (case aS => exact (below_size (by repeat (first | (with_reducible first | exact HB.out | apply below_alloc | apply pw_below_drewN | apply below_drew1 | refine below_set ?_ GE313.out | refine below_set ?_ GE314.out | refine below_set ?_ GE320.out) | exact HB.out)))); (case aL => have := LMc17.out; omega); intro v322 w33 ho hb hg hat; rw [← Ny321.out] at ho; have n0_ := Aside0.mk (blk_grown (g := gb313) (o := .cells #[.int .i64 a0_0, .slice A0_1 l0_1.length c0_1, .slice A0_2 l0_2.length c0_2] 24 (0, 0)) (by (with_reducible repeat (first | refine blk_drewN ?_ _ | refine blk_drew ?_ | refine blk_alloc ?_ _)); exact BK313.out) hg (Kd.R_ne HO_8.out BK313.out (by decide))); have n1_ := Aside0.mk (blk_grown (g := gb314) (o := .cells #[.int .i64 a1_0, .slice A1_1 l1_1.length c1_1, .int .i64 a1_2, .int .i64 a1_3] 48 (0, 0)) (by (with_reducible repeat (first | refine blk_drewN ?_ _ | refine blk_drew ?_ | refine blk_alloc ?_ _)); exact BK314.out) hg (Kd.R_ne HO_8.out BK314.out (by decide))); have n2_ := Aside0.mk (blk_grown (g := gb320) (o := .cells #[.int .i64 x321000_1, .int .i64 x321001_1, .int .i64 x321002_1, .int .i64 x321003_1] 76 (0, 0)) (by (with_reducible repeat (first | refine blk_drewN ?_ _ | refine blk_drew ?_ | refine blk_alloc ?_ _)); exact BK320.out) hg (Kd.R_away HO_8.out (fun _ hk => hk))); have n3_ := Aside0.mk (hb); have n4_ := Aside0.mk (ho); clear BK313; clear BK314; clear BK320; clear HB; clear HO_8; have BK313 := n0_; have BK314 := n1_; have BK320 := n2_; have HB := n3_; have HO323 := n4_; clear n0_ n1_ n2_ n3_ n4_; clear ho hb hg hat; have hnb34 := NB313_314.out; have hnc34 := NB314_313.out; have hcz35_0 : w33.cell? ⟨gb313, 0, none⟩ = some (.int .i64 a0_0) := (blk_cell BK313.out 0).trans rfl; have hcz35_1 : w33.cell? ⟨gb313, 1, none⟩ = some (.slice A0_1 l0_1.length c0_1) := (blk_cell BK313.out 1).trans rfl; have hcz35_2 : w33.cell? ⟨gb313, 2, none⟩ = some (.slice A0_2 l0_2.length c0_2) := (blk_cell BK313.out 2).trans rfl; have hfz35_0 := blk_frozen BK313.out 0; have hfz35_1 := blk_frozen BK313.out 1; have hfz35_2 := blk_frozen BK313.out 2; have hcz36_0 : w33.cell? ⟨gb314, 0, none⟩ = some (.int .i64 a1_0) := (blk_cell BK314.out 0).trans rfl; have hcz36_1 : w33.cell? ⟨gb314, 1, none⟩ = some (.slice A1_1 l1_1.length c1_1) := (blk_cell BK314.out 1).trans rfl; have hcz36_2 : w33.cell? ⟨gb314, 2, none⟩ = some (.int .i64 a1_2) := (blk_cell BK314.out 2).trans rfl; have hcz36_3 : w33.cell? ⟨gb314, 3, none⟩ = some (.int .i64 a1_3) := (blk_cell BK314.out 3).trans rfl; have hfz36_0 := blk_frozen BK314.out 0; have hfz36_1 := blk_frozen BK314.out 1; have hfz36_2 := blk_frozen BK314.out 2; have hfz36_3 := blk_frozen BK314.out 3; have hcz37_0 : w33.cell? ⟨gb320, 0, none⟩ = some (.int .i64 x321000_1) := (blk_cell BK320.out 0).trans rfl; have hcz37_1 : w33.cell? ⟨gb320, 1, none⟩ = some (.int .i64 x321001_1) := (blk_cell BK320.out 1).trans rfl; have hcz37_2 : w33.cell? ⟨gb320, 2, none⟩ = some (.int .i64 x321002_1) := (blk_cell BK320.out 2).trans rfl; have hcz37_3 : w33.cell? ⟨gb320, 3, none⟩ = some (.int .i64 x321003_1) := (blk_cell BK320.out 3).trans rfl; have hfz37_0 := blk_frozen BK320.out 0; have hfz37_1 := blk_frozen BK320.out 1; have hfz37_2 := blk_frozen BK320.out 2; have hfz37_3 := blk_frozen BK320.out 3) | ((with_reducible refine gate_callee (f := 85) rfl ?_); refine goesL_ (some 33) rfl rfl Tryz.func85 (by kernel_rfl) rfl #[.agg #[.int .i64 a0_0, .slice A0_1 l0_1.length c0_1, .slice A0_2 l0_2.length c0_2], .agg #[.int .i64 a1_0, .slice A1_1 l1_1.length c1_1, .int .i64 a1_2, .int .i64 a1_3], .agg #[.int .i64 x321000_1, .int .i64 x321001_1, .int .i64 x321002_1, .int .i64 x321003_1], .int .i64 x321003_1] rfl (by (try simp only [List.map_toArray, List.map_cons, List.map_nil]); first | done | rfl | (simp only [List.length_drop, List.length_take]; rfl)) ?_; (with_reducible refine (curfewref15_Next.calls k1 a0_0 _ _ l0_1 _ _ l0_2 a1_0 _ _ l1_1 a1_2 a1_3 x321000_1 x321001_1 x321002_1 x321003_1 x321003_1 t324 t325 t326 t327 t328 t329 _ ?side1 ?side2 ?side3 ?side4 ?side5 ?side6 A18.out).mono ?_); (case side1 => repeat (first | exact (Kd.C_below HR0_1.out HB.out) | (with_reducible refine Kd.C_alloc ?_ _) | (with_reducible refine Kd.C_drewN ?_ _) | (with_reducible refine Kd.C_drew ?_))); (case side2 => exact HC0_1.out); (case side3 => repeat (first | exact (Kd.C_below HR0_2.out HB.out) | (with_reducible refine Kd.C_alloc ?_ _) | (with_reducible refine Kd.C_drewN ?_ _) | (with_reducible refine Kd.C_drew ?_))); (case side4 => exact HC0_2.out); (case side5 => repeat (first | exact (Kd.C_below HR1_1.out HB.out) | (with_reducible refine Kd.C_alloc ?_ _) | (with_reducible refine Kd.C_drewN ?_ _) | (with_reducible refine Kd.C_drew ?_))); (case side6 => exact HC1_1.out); rintro e w38 ⟨rfl, hb⟩; refine ⟨_, rfl, ?_⟩; have n0_ := Aside0.mk (Kd.R_below (by (with_reducible repeat (first | apply Kd.R_alloc | apply Kd.R_drewN | apply Kd.R_drew)); exact HO323.out) hb); have n1_ := Aside0.mk (blk_below (g := gb313) (o := .cells #[.int .i64 a0_0, .slice A0_1 l0_1.length c0_1, .slice A0_2 l0_2.length c0_2] 24 (0, 0)) (by (with_reducible repeat (first | refine blk_drewN ?_ _ | refine blk_drew ?_ | refine blk_alloc ?_ _)); exact BK313.out) hb); have n2_ := Aside0.mk (blk_below (g := gb314) (o := .cells #[.int .i64 a1_0, .slice A1_1 l1_1.length c1_1, .int .i64 a1_2, .int .i64 a1_3] 48 (0, 0)) (by (with_reducible repeat (first | refine blk_drewN ?_ _ | refine blk_drew ?_ | refine blk_alloc ?_ _)); exact BK314.out) hb); have n3_ := Aside0.mk (blk_below (g := gb320) (o := .cells #[.int .i64 x321000_1, .int .i64 x321001_1, .int .i64 x321002_1, .int .i64 x321003_1] 76 (0, 0)) (by (with_reducible repeat (first | refine blk_drewN ?_ _ | refine blk_drew ?_ | refine blk_alloc ?_ _)); exact BK320.out) hb); have n4_ := Aside0.mk (below_step (by repeat (first | (with_reducible first | exact HB.out | apply below_alloc | apply pw_below_drewN | apply below_drew1 | refine below_set ?_ GE313.out | refine below_set ?_ GE314.out | refine below_set ?_ GE320.out) | exact HB.out)) hb); clear HO323; clear BK313; clear BK314; clear BK320; clear HB; have HO323 := n0_; have BK313 := n1_; have BK314 := n2_; have BK320 := n3_; have HB := n4_; clear n0_ n1_ n2_ n3_ n4_; (try clear hb); (try clear hb2); (try clear hk); (try clear hi); have hcz39_0 : w38.cell? ⟨gb320, 0, none⟩ = some (.int .i64 x321000_1) := (blk_cell BK320.out 0).trans rfl; have hcz39_1 : w38.cell? ⟨gb320, 1, none⟩ = some (.int .i64 x321001_1) := (blk_cell BK320.out 1).trans rfl; have hcz39_2 : w38.cell? ⟨gb320, 2, none⟩ = some (.int .i64 x321002_1) := (blk_cell BK320.out 2).trans rfl; have hcz39_3 : w38.cell? ⟨gb320, 3, none⟩ = some (.int .i64 x321003_1) := (blk_cell BK320.out 3).trans rfl; have hfz39_0 := blk_frozen BK320.out 0; have hfz39_1 := blk_frozen BK320.out 1; have hfz39_2 := blk_frozen BK320.out 2; have hfz39_3 := blk_frozen BK320.out 3))
              go_ret2
              exact ⟨_, by first | rfl | (simp [errW_none, errW_some] <;> rfl) | (simp [*, errW_none, errW_some] <;> rfl), by first | exact Kd.R_nil _ _ _ _ _ | exact Kd.N_nil _ _ _ _ _ | exact Kd.V_nil _ _ _ _ _ | exact Kd.Q_nil _ _ _ _ _ | exact Kd.S_nil _ _ _ _ _, by repeat (first | (with_reducible first | exact HB.out | apply below_alloc | apply pw_below_drewN | apply below_drew1 | refine below_set ?_ GE313.out | refine below_set ?_ GE314.out | refine below_set ?_ GE320.out) | exact HB.out)⟩
          · rw [if_neg c17] at H
            exact absurd H (by simp)
        · rw [if_neg c16] at H
          have c16b0 : (x10_1 == 0) = false := beq_eq_false_iff_ne.mpr c16
          have c16b1 : (x10_1 != 0) = true := bne_iff_ne.mpr c16
          simp only [Option.some.injEq, Prod.mk.injEq] at H
          obtain ⟨rfl, rfl⟩ := H
          go_wp2
          go_ret2
          exact ⟨_, by first | rfl | (simp [errW_none, errW_some] <;> rfl) | (simp [*, errW_none, errW_some] <;> rfl), by first | exact Kd.R_nil _ _ _ _ _ | exact Kd.N_nil _ _ _ _ _ | exact Kd.V_nil _ _ _ _ _ | exact Kd.Q_nil _ _ _ _ _ | exact Kd.S_nil _ _ _ _ _, by repeat (first | (with_reducible first | exact HB.out | apply below_alloc | apply pw_below_drewN | apply below_drew1 | refine below_set ?_ GE313.out | refine below_set ?_ GE314.out | refine below_set ?_ GE320.out) | exact HB.out)⟩
      · replace c15 := Bool.eq_false_iff.mpr c15
        subst c15
        have H1 : (some (x8_1, 0)) = some (r1, r2) := by rw [if_neg (show ¬ (false = true) by decide)] at H; exact H
        clear H
        have H := H1
        clear H1
        simp only [Option.some.injEq, Prod.mk.injEq] at H
        obtain ⟨rfl, rfl⟩ := H
        go_wp2
        go_ret2
        exact ⟨_, by first | rfl | (simp [errW_none, errW_some] <;> rfl) | (simp [*, errW_none, errW_some] <;> rfl), by (with_reducible repeat (first | apply Kd.R_alloc | apply Kd.R_drewN | apply Kd.R_drew)); exact Kd.R_mono HO_8.out (fun _ hk => trivial), by repeat (first | (with_reducible first | exact HB.out | apply below_alloc | apply pw_below_drewN | apply below_drew1 | refine below_set ?_ GE313.out | refine below_set ?_ GE314.out | refine below_set ?_ GE320.out) | exact HB.out)⟩
def chain_Step_going.f (a0_0 : Int) (a0_1 : Int) (a0_2 : Int) (a0_3 : Int) : Option (Bool) := some (a0_3 != 0)
set_option maxHeartbeats 8000000 in
set_option maxRecDepth 100000 in
theorem chain_Step_going.calls (a0_0 : Int) (a0_1 : Int) (a0_2 : Int) (a0_3 : Int) (r : Bool) (w : World) (h : chain_Step_going.f a0_0 a0_1 a0_2 a0_3 = some r) :
    Calls Tryz.prog 117 #[.agg #[.int .i64 a0_0, .int .i64 a0_1, .int .i64 a0_2, .int .i64 a0_3]] w fun e w' => e = .returned (.bool r) ∧ Below w.heap.size w w' := by
  have hu75 := Tryz.underlying75
  have HB := Aside0.mk (Below.refl w.heap.size w)
  have H : (some (a0_3 != 0)) = some r := h
  clear h
  obtain rfl := Option.some.inj H
  go_enter Tryz.func117, Tryz.ntmps117
  go_wp2_with (first | ((with_reducible refine gate_dst (N := 1) rfl ?_); refine box_event ?hg (N := 1) ?hd (cs := #[.int .i64 a0_0, .int .i64 a0_1, .int .i64 a0_2, .int .i64 a0_3]) (t := 75) ?hr ?_; (case hd => rfl); (case hg => rfl); (case hr => first | (go_simp; done) | (go_simp; rfl)); intro gb330 hg w2 hbox hb; have n0_ := Aside0.mk (below_step (by repeat (first | (with_reducible first | exact HB.out | apply below_alloc | apply pw_below_drewN | apply below_drew1) | exact HB.out)) hb); have n1_ := Aside0.mk (hbox); have n2_ := Aside0.mk ((by rw [hg]; exact (below_size (by repeat (first | (with_reducible first | exact HB.out | apply below_alloc | apply pw_below_drewN | apply below_drew1) | exact HB.out))) : w.heap.size ≤ gb330)); have n3_ := Aside0.mk ((by rw [hg]; exact (below_size (by repeat (first | (with_reducible first | exact HB.out | apply below_alloc | apply pw_below_drewN | apply below_drew1) | exact HB.out))) : w.heap.size ≤ gb330)); clear HB; have HB := n0_; have BK330 := n1_; have GW330 := n2_; have GE330 := n3_; clear n0_ n1_ n2_ n3_; clear hb hbox hg; have hcz3_0 : w2.cell? ⟨gb330, 0, none⟩ = some (.int .i64 a0_0) := (blk_cell BK330.out 0).trans rfl; have hcz3_1 : w2.cell? ⟨gb330, 1, none⟩ = some (.int .i64 a0_1) := (blk_cell BK330.out 1).trans rfl; have hcz3_2 : w2.cell? ⟨gb330, 2, none⟩ = some (.int .i64 a0_2) := (blk_cell BK330.out 2).trans rfl; have hcz3_3 : w2.cell? ⟨gb330, 3, none⟩ = some (.int .i64 a0_3) := (blk_cell BK330.out 3).trans rfl; have hfz3_0 := blk_frozen BK330.out 0; have hfz3_1 := blk_frozen BK330.out 1; have hfz3_2 := blk_frozen BK330.out 2; have hfz3_3 := blk_frozen BK330.out 3))
  go_ret
  exact ⟨by first | rfl | (simp [errW_none, errW_some] <;> rfl) | (simp [*, errW_none, errW_some] <;> rfl), by repeat (first | (with_reducible first | exact HB.out | apply below_alloc | apply pw_below_drewN | apply below_drew1 | refine below_set ?_ GE330.out) | exact HB.out)⟩
def curfewlaw15_Always.f  : Option (Int × (List (S114)) × (List (S114))) := some (0, (([(⟨0, 604800⟩ : S114)] : List (S114))), ([] : List (S114)))
set_option maxHeartbeats 8000000 in
set_option maxRecDepth 100000 in
theorem curfewlaw15_Always.calls  (r1 : Int) (r2 : List (S114)) (r3 : List (S114)) (w : World) (h : curfewlaw15_Always.f  = some (r1, r2, r3)) :
    Calls Tryz.prog 77 #[] w fun e w' => ∃ v1_ v2_ : Value, e = .returned (.agg #[.int .i64 r1, v1_, v2_]) ∧ Kd.R k114 114 w' w.heap.size (fun k_ => some k_ ≠ (v2_ : Value).ownBlock) v1_ r2 ∧ Kd.R k114 114 w' w.heap.size (fun k_ => some k_ ≠ (v1_ : Value).ownBlock) v2_ r3 ∧ Below w.heap.size w w' := by
  have hu24 := Tryz.underlying24
  have hu114 := Tryz.underlying114
  have HB := Aside0.mk (Below.refl w.heap.size w)
  have H : (some (0, (([(⟨0, 604800⟩ : S114)] : List (S114))), ([] : List (S114)))) = some (r1, r2, r3) := h
  clear h
  obtain ⟨y332, hy332⟩ : ∃ y_ : List (S114), y_ = (([(⟨0, 604800⟩ : S114)] : List (S114))) := ⟨_, rfl⟩
  replace H : (some (0, y332, ([] : List (S114)))) = some (r1, r2, r3) := by first | (rw [hy332]; with_reducible exact H) | (have H2_ := (Option.bind_some _ _).symm.trans H; rw [hy332]; with_reducible exact H2_) | (have H2_ := (Option.bind_some _ _).symm.trans H; with_reducible exact H2_) | with_reducible exact H | (rw [hy332]; exact H) | exact H
  have Ny332 := Aside0.mk hy332
  clear hy332
  simp only [Option.some.injEq, Prod.mk.injEq] at H
  obtain ⟨rfl, rfl, rfl⟩ := H
  go_enter Tryz.func77, Tryz.ntmps77
  go_wp2_with (first | ((with_reducible refine gate_dst (N := 0) rfl ?_); refine box_event ?hg (N := 0) ?hd (cs := #[.int .i64 0, .slice none 0 0, .slice none 0 0]) (t := 24) ?hr ?_; (case hd => rfl); (case hg => rfl); (case hr => first | (go_simp; done) | (go_simp; rfl)); intro gb331 hg w1 hbox hb; have n0_ := Aside0.mk (below_step (by repeat (first | (with_reducible first | exact HB.out | apply below_alloc | apply pw_below_drewN | apply below_drew1) | exact HB.out)) hb); have n1_ := Aside0.mk (hbox); have n2_ := Aside0.mk ((by rw [hg]; exact (below_size (by repeat (first | (with_reducible first | exact HB.out | apply below_alloc | apply pw_below_drewN | apply below_drew1) | exact HB.out))) : w.heap.size ≤ gb331)); have n3_ := Aside0.mk ((by rw [hg]; exact (below_size (by repeat (first | (with_reducible first | exact HB.out | apply below_alloc | apply pw_below_drewN | apply below_drew1) | exact HB.out))) : w.heap.size ≤ gb331)); clear HB; have HB := n0_; have BK331 := n1_; have GW331 := n2_; have GE331 := n3_; clear n0_ n1_ n2_ n3_; clear hb hbox hg) | ((with_reducible refine gate_dst (N := 2) rfl ?_); refine Kd.R_lit k114 _ 114 ?hg (N := 2) ?hd (xs := ([(⟨0, 604800⟩ : S114)] : List (S114))) (inner := [.int .i64 0, .int .i64 604800]) (ok := fun _ => True) (okp := fun _ => True) ?hr ?hp (fun _ hk => hk) trivial (Below.refl _ _) (Nat.le_refl _) (by simp) ?_; (case hd => rfl); (case hg => rfl); (case hr => first | (go_simp; done) | (go_simp; rfl)); (case hp => exact (Reps.c2 (show Kd.M k114 _ _ _ (⟨0, 604800⟩ : S114) [.int .i64 0, .int .i64 604800] from (k114_mkM _ _ _ (⟨0, 604800⟩ : S114) )) (Reps.none _ _))); intro v333 w2 ho3 hb hg_ hnew_; clear hg_ hnew_; (first | rw [← Ny332.out] at ho3 | (simp only [Int.reduceToNat] at ho3; rw [← Ny332.out] at ho3)); have n0_ := Aside0.mk (Kd.R_lower ho3 (below_size (by repeat (first | (with_reducible first | exact HB.out | apply below_alloc | apply pw_below_drewN | apply below_drew1 | refine below_set ?_ GE331.out) | exact HB.out)))); have n1_ := Aside0.mk (blk_below (g := gb331) (o := .cells #[.int .i64 0, .slice none 0 0, .slice none 0 0] 24 (0, 0)) (by (with_reducible repeat (first | refine blk_drewN ?_ _ | refine blk_drew ?_ | refine blk_alloc ?_ _)); exact BK331.out) hb); have n2_ := Aside0.mk (below_step (by repeat (first | (with_reducible first | exact HB.out | apply below_alloc | apply pw_below_drewN | apply below_drew1 | refine below_set ?_ GE331.out) | exact HB.out)) hb); clear BK331; clear HB; have HO334 := n0_; have BK331 := n1_; have HB := n2_; clear n0_ n1_ n2_; clear hb ho3; obtain ⟨Ao4, co4, eo4⟩ := Kd.R_slice HO334.out; subst eo4; have hcz5_0 : w2.cell? ⟨gb331, 0, none⟩ = some (.int .i64 0) := (blk_cell BK331.out 0).trans rfl; have hcz5_1 : w2.cell? ⟨gb331, 1, none⟩ = some (.slice none 0 0) := (blk_cell BK331.out 1).trans rfl; have hcz5_2 : w2.cell? ⟨gb331, 2, none⟩ = some (.slice none 0 0) := (blk_cell BK331.out 2).trans rfl; have hfz5_0 := blk_frozen BK331.out 0; have hfz5_1 := blk_frozen BK331.out 1; have hfz5_2 := blk_frozen BK331.out 2))
  refine bodyPost_ret (results_cell_row rfl _ _ gb331 24 #[.int .i64 0, .slice Ao4 y332.length co4, .slice none 0 0] (0, 0) _ rfl (by (with_reducible repeat (first | refine blk_drewN ?_ _ | refine blk_drew ?_ | refine blk_alloc ?_ _)); refine blk_put (cs := #[.int .i64 0, .slice Ao4 y332.length co4, .slice none 0 0]) ?_ 2 _ rfl; (with_reducible repeat (first | refine blk_drewN ?_ _ | refine blk_drew ?_ | refine blk_alloc ?_ _)); refine blk_put (cs := #[.int .i64 0, .slice none 0 0, .slice none 0 0]) ?_ 1 _ rfl; (with_reducible repeat (first | refine blk_drewN ?_ _ | refine blk_drew ?_ | refine blk_alloc ?_ _)); refine blk_put (cs := #[.int .i64 0, .slice none 0 0, .slice none 0 0]) ?_ 0 _ rfl; (with_reducible repeat (first | refine blk_drewN ?_ _ | refine blk_drew ?_ | refine blk_alloc ?_ _)); exact BK331.out) Tryz.underlying24 rfl (by kernel_rfl)) rfl ?_
  exact ⟨_, _, by first | rfl | (simp [errW_none, errW_some] <;> rfl) | (simp [*, errW_none, errW_some] <;> rfl), by (with_reducible repeat (first | apply Kd.R_alloc | apply Kd.R_drewN | apply Kd.R_drew)); exact Kd.R_mono (Kd.R_far (p := ⟨gb331, 2, none⟩) (Kd.R_far (p := ⟨gb331, 1, none⟩) (Kd.R_far (p := ⟨gb331, 0, none⟩) (Kd.R_types HO334.out BK331.out (by decide)) (fun _ hk => hk.2) (.int .i64 0)) (fun _ hk => hk.2) (.slice Ao4 y332.length co4)) (fun _ hk => hk.2) (.slice none 0 0)) (fun _ hk => (by simp [Value.ownBlock])), by first | exact Kd.R_nil _ _ _ _ _ | exact Kd.N_nil _ _ _ _ _ | exact Kd.V_nil _ _ _ _ _ | exact Kd.Q_nil _ _ _ _ _ | exact Kd.S_nil _ _ _ _ _, by repeat (first | (with_reducible first | exact HB.out | apply below_alloc | apply pw_below_drewN | apply below_drew1 | refine below_set ?_ GE331.out) | exact HB.out)⟩
def curfewlaw14_Plain.f  : Option (Int × (List (S71)) × Int × Int) := some (0, (([(⟨10, 0⟩ : S71), (⟨20, 1⟩ : S71)] : List (S71))), 2, 5)
set_option maxHeartbeats 8000000 in
set_option maxRecDepth 100000 in
theorem curfewlaw14_Plain.calls  (r1 : Int) (r2 : List (S71)) (r3 : Int) (r4 : Int) (w : World) (h : curfewlaw14_Plain.f  = some (r1, r2, r3, r4)) :
    Calls Tryz.prog 70 #[] w fun e w' => ∃ v1_ : Value, e = .returned (.agg #[.int .i64 r1, v1_, .int .i64 r3, .int .i64 r4]) ∧ Kd.R k71 71 w' w.heap.size (fun _ => True) v1_ r2 ∧ Below w.heap.size w w' := by
  have hu48 := Tryz.underlying48
  have hu71 := Tryz.underlying71
  have HB := Aside0.mk (Below.refl w.heap.size w)
  have H : (some (0, (([(⟨10, 0⟩ : S71), (⟨20, 1⟩ : S71)] : List (S71))), 2, 5)) = some (r1, r2, r3, r4) := h
  clear h
  obtain ⟨y336, hy336⟩ : ∃ y_ : List (S71), y_ = (([(⟨10, 0⟩ : S71), (⟨20, 1⟩ : S71)] : List (S71))) := ⟨_, rfl⟩
  replace H : (some (0, y336, 2, 5)) = some (r1, r2, r3, r4) := by first | (rw [hy336]; with_reducible exact H) | (have H2_ := (Option.bind_some _ _).symm.trans H; rw [hy336]; with_reducible exact H2_) | (have H2_ := (Option.bind_some _ _).symm.trans H; with_reducible exact H2_) | with_reducible exact H | (rw [hy336]; exact H) | exact H
  have Ny336 := Aside0.mk hy336
  clear hy336
  simp only [Option.some.injEq, Prod.mk.injEq] at H
  obtain ⟨rfl, rfl, rfl, rfl⟩ := H
  go_enter Tryz.func70, Tryz.ntmps70
  go_wp2_with (first | ((with_reducible refine gate_dst (N := 0) rfl ?_); refine box_event ?hg (N := 0) ?hd (cs := #[.int .i64 0, .slice none 0 0, .int .i64 0, .int .i64 0]) (t := 48) ?hr ?_; (case hd => rfl); (case hg => rfl); (case hr => first | (go_simp; done) | (go_simp; rfl)); intro gb335 hg w1 hbox hb; have n0_ := Aside0.mk (below_step (by repeat (first | (with_reducible first | exact HB.out | apply below_alloc | apply pw_below_drewN | apply below_drew1) | exact HB.out)) hb); have n1_ := Aside0.mk (hbox); have n2_ := Aside0.mk ((by rw [hg]; exact (below_size (by repeat (first | (with_reducible first | exact HB.out | apply below_alloc | apply pw_below_drewN | apply below_drew1) | exact HB.out))) : w.heap.size ≤ gb335)); have n3_ := Aside0.mk ((by rw [hg]; exact (below_size (by repeat (first | (with_reducible first | exact HB.out | apply below_alloc | apply pw_below_drewN | apply below_drew1) | exact HB.out))) : w.heap.size ≤ gb335)); clear HB; have HB := n0_; have BK335 := n1_; have GW335 := n2_; have GE335 := n3_; clear n0_ n1_ n2_ n3_; clear hb hbox hg) | ((with_reducible refine gate_dst (N := 3) rfl ?_); refine Kd.R_lit k71 _ 71 ?hg (N := 3) ?hd (xs := ([(⟨10, 0⟩ : S71), (⟨20, 1⟩ : S71)] : List (S71))) (inner := [.int .i64 10, .int .i64 0, .int .i64 20, .int .i64 1]) (ok := fun _ => True) (okp := fun _ => True) ?hr ?hp (fun _ hk => hk) trivial (Below.refl _ _) (Nat.le_refl _) (by simp) ?_; (case hd => rfl); (case hg => rfl); (case hr => first | (go_simp; done) | (go_simp; rfl)); (case hp => exact (Reps.c2 (show Kd.M k71 _ _ _ (⟨10, 0⟩ : S71) [.int .i64 10, .int .i64 0] from (k71_mkM _ _ _ (⟨10, 0⟩ : S71) )) (Reps.c2 (show Kd.M k71 _ _ _ (⟨20, 1⟩ : S71) [.int .i64 20, .int .i64 1] from (k71_mkM _ _ _ (⟨20, 1⟩ : S71) )) (Reps.none _ _)))); intro v337 w2 ho3 hb hg_ hnew_; clear hg_ hnew_; (first | rw [← Ny336.out] at ho3 | (simp only [Int.reduceToNat] at ho3; rw [← Ny336.out] at ho3)); have n0_ := Aside0.mk (Kd.R_lower ho3 (below_size (by repeat (first | (with_reducible first | exact HB.out | apply below_alloc | apply pw_below_drewN | apply below_drew1 | refine below_set ?_ GE335.out) | exact HB.out)))); have n1_ := Aside0.mk (blk_below (g := gb335) (o := .cells #[.int .i64 0, .slice none 0 0, .int .i64 0, .int .i64 0] 48 (0, 0)) (by (with_reducible repeat (first | refine blk_drewN ?_ _ | refine blk_drew ?_ | refine blk_alloc ?_ _)); exact BK335.out) hb); have n2_ := Aside0.mk (below_step (by repeat (first | (with_reducible first | exact HB.out | apply below_alloc | apply pw_below_drewN | apply below_drew1 | refine below_set ?_ GE335.out) | exact HB.out)) hb); clear BK335; clear HB; have HO338 := n0_; have BK335 := n1_; have HB := n2_; clear n0_ n1_ n2_; clear hb ho3; obtain ⟨Ao4, co4, eo4⟩ := Kd.R_slice HO338.out; subst eo4; have hcz5_0 : w2.cell? ⟨gb335, 0, none⟩ = some (.int .i64 0) := (blk_cell BK335.out 0).trans rfl; have hcz5_1 : w2.cell? ⟨gb335, 1, none⟩ = some (.slice none 0 0) := (blk_cell BK335.out 1).trans rfl; have hcz5_2 : w2.cell? ⟨gb335, 2, none⟩ = some (.int .i64 0) := (blk_cell BK335.out 2).trans rfl; have hcz5_3 : w2.cell? ⟨gb335, 3, none⟩ = some (.int .i64 0) := (blk_cell BK335.out 3).trans rfl; have hfz5_0 := blk_frozen BK335.out 0; have hfz5_1 := blk_frozen BK335.out 1; have hfz5_2 := blk_frozen BK335.out 2; have hfz5_3 := blk_frozen BK335.out 3))
  refine bodyPost_ret (results_cell_row rfl _ _ gb335 48 #[.int .i64 0, .slice Ao4 y336.length co4, .int .i64 2, .int .i64 5] (0, 0) _ rfl (by (with_reducible repeat (first | refine blk_drewN ?_ _ | refine blk_drew ?_ | refine blk_alloc ?_ _)); refine blk_put (cs := #[.int .i64 0, .slice Ao4 y336.length co4, .int .i64 2, .int .i64 0]) ?_ 3 _ rfl; (with_reducible repeat (first | refine blk_drewN ?_ _ | refine blk_drew ?_ | refine blk_alloc ?_ _)); refine blk_put (cs := #[.int .i64 0, .slice Ao4 y336.length co4, .int .i64 0, .int .i64 0]) ?_ 2 _ rfl; (with_reducible repeat (first | refine blk_drewN ?_ _ | refine blk_drew ?_ | refine blk_alloc ?_ _)); refine blk_put (cs := #[.int .i64 0, .slice none 0 0, .int .i64 0, .int .i64 0]) ?_ 1 _ rfl; (with_reducible repeat (first | refine blk_drewN ?_ _ | refine blk_drew ?_ | refine blk_alloc ?_ _)); refine blk_put (cs := #[.int .i64 0, .slice none 0 0, .int .i64 0, .int .i64 0]) ?_ 0 _ rfl; (with_reducible repeat (first | refine blk_drewN ?_ _ | refine blk_drew ?_ | refine blk_alloc ?_ _)); exact BK335.out) Tryz.underlying48 rfl (by kernel_rfl)) rfl ?_
  exact ⟨_, by first | rfl | (simp [errW_none, errW_some] <;> rfl) | (simp [*, errW_none, errW_some] <;> rfl), by (with_reducible repeat (first | apply Kd.R_alloc | apply Kd.R_drewN | apply Kd.R_drew)); exact Kd.R_mono (Kd.R_far (p := ⟨gb335, 3, none⟩) (Kd.R_far (p := ⟨gb335, 2, none⟩) (Kd.R_far (p := ⟨gb335, 1, none⟩) (Kd.R_far (p := ⟨gb335, 0, none⟩) (Kd.R_types HO338.out BK335.out (by decide)) (fun _ hk => hk.2) (.int .i64 0)) (fun _ hk => hk.2) (.slice Ao4 y336.length co4)) (fun _ hk => hk.2) (.int .i64 2)) (fun _ hk => hk.2) (.int .i64 5)) (fun _ hk => trivial), by repeat (first | (with_reducible first | exact HB.out | apply below_alloc | apply pw_below_drewN | apply below_drew1 | refine below_set ?_ GE335.out) | exact HB.out)⟩
end Go.Proofs.YtepldlnmeenlbaaGreat.Base
namespace Go.Proofs.YtepldlnmeenlbaaGreat.Own
open Go.RowKit Go.Proofs Go.Proofs.YtepldlnmeenlbaaGreatW.PrintWords Go.Proofs.YtepldlnmeenlbaaGreatW.PrintLast Go.Proofs.YtepldlnmeenlbaaGreatW.PrintMore Go.Proofs.YtepldlnmeenlbaaGreat.Base
variable {off : Int} {week closed : List S114} {cal re ba : Int} {ls : List S71}
def planF (off : Int) (week closed : List S114) (ls : List S71) : Nat → S76 → List S76 × Int
  | 0, s => ([s], 0)
  | n + 1, s =>
    if (atS off week closed (s.f0 + 1) (rd_T71 ls (s.f0 + 1)).f0 s.f3).2.2.2.2 = 0 then
      (if (planF off week closed ls n ⟨(atS off week closed (s.f0 + 1) (rd_T71 ls (s.f0 + 1)).f0 s.f3).1, (atS off week closed (s.f0 + 1) (rd_T71 ls (s.f0 + 1)).f0 s.f3).2.1, (atS off week closed (s.f0 + 1) (rd_T71 ls (s.f0 + 1)).f0 s.f3).2.2.1, (atS off week closed (s.f0 + 1) (rd_T71 ls (s.f0 + 1)).f0 s.f3).2.2.2.1⟩).2 = 0
       then (s :: (planF off week closed ls n ⟨(atS off week closed (s.f0 + 1) (rd_T71 ls (s.f0 + 1)).f0 s.f3).1, (atS off week closed (s.f0 + 1) (rd_T71 ls (s.f0 + 1)).f0 s.f3).2.1, (atS off week closed (s.f0 + 1) (rd_T71 ls (s.f0 + 1)).f0 s.f3).2.2.1, (atS off week closed (s.f0 + 1) (rd_T71 ls (s.f0 + 1)).f0 s.f3).2.2.2.1⟩).1, 0)
       else ([], (planF off week closed ls n ⟨(atS off week closed (s.f0 + 1) (rd_T71 ls (s.f0 + 1)).f0 s.f3).1, (atS off week closed (s.f0 + 1) (rd_T71 ls (s.f0 + 1)).f0 s.f3).2.1, (atS off week closed (s.f0 + 1) (rd_T71 ls (s.f0 + 1)).f0 s.f3).2.2.1, (atS off week closed (s.f0 + 1) (rd_T71 ls (s.f0 + 1)).f0 s.f3).2.2.2.1⟩).2))
    else ([], (atS off week closed (s.f0 + 1) (rd_T71 ls (s.f0 + 1)).f0 s.f3).2.2.2.2)
theorem planF_no {n : Nat} {s : S76} {a b c d e : Int} (h : atS off week closed (s.f0 + 1) (rd_T71 ls (s.f0 + 1)).f0 s.f3 = (a, b, c, d, e)) (he : e ≠ 0) : planF off week closed ls (n + 1) s = ([], e) := by
  unfold planF
  rw [h]
  simp only
  rw [if_neg he]
theorem planF_yes {n : Nat} {s : S76} {a b c d : Int} (h : atS off week closed (s.f0 + 1) (rd_T71 ls (s.f0 + 1)).f0 s.f3 = (a, b, c, d, 0)) : planF off week closed ls (n + 1) s = if (planF off week closed ls n ⟨a, b, c, d⟩).2 = 0 then (s :: (planF off week closed ls n ⟨a, b, c, d⟩).1, 0) else ([], (planF off week closed ls n ⟨a, b, c, d⟩).2) := by
  conv => lhs; unfold planF
  rw [h]
  simp only [if_true]
def comb (acc : List S76) (r : List S76 × Int) : List S76 × Int := if r.2 = 0 then (acc ++ r.1, 0) else ([], r.2)
theorem comb_step {acc : List S76} {n : Nat} {s : S76} {a b c d : Int} (h : atS off week closed (s.f0 + 1) (rd_T71 ls (s.f0 + 1)).f0 s.f3 = (a, b, c, d, 0)) : comb acc (planF off week closed ls (n + 1) s) = comb (acc ++ [s]) (planF off week closed ls n ⟨a, b, c, d⟩) := by
  rw [planF_yes h]
  unfold comb
  by_cases hr : (planF off week closed ls n ⟨a, b, c, d⟩).2 = 0
  · rw [if_pos hr, if_pos rfl, if_pos hr]
    simp
  · rw [if_neg hr]
    simp only [if_neg hr]
theorem comb_no {acc : List S76} {n : Nat} {s : S76} {a b c d e : Int} (h : atS off week closed (s.f0 + 1) (rd_T71 ls (s.f0 + 1)).f0 s.f3 = (a, b, c, d, e)) (he : e ≠ 0) : comb acc (planF off week closed ls (n + 1) s) = ([], e) := by
  rw [planF_no h he]
  unfold comb
  rw [if_neg he]
theorem comb_last {acc : List S76} {s : S76} : comb acc (planF off week closed ls 0 s) = (acc ++ [s], 0) := rfl
def planP (off : Int) (week closed : List S114) (cal : Int) (ls : List S71) (re ba now : Int) : List S76 × Int :=
  if (firstP off week closed cal ls re ba now).2.2.2.2 = 0 then comb [] (planF off week closed ls (ls.length - 1) ⟨(firstP off week closed cal ls re ba now).1, (firstP off week closed cal ls re ba now).2.1, (firstP off week closed cal ls re ba now).2.2.1, (firstP off week closed cal ls re ba now).2.2.2.1⟩) else ([], (firstP off week closed cal ls re ba now).2.2.2.2)
theorem pnext_last {lv now : Int} (hg : goodP cal ls re ba = true) (l0 : 0 ≤ lv) (l1 : lv = (ls.length : Int) - 1) : nextP off week closed cal ls re ba lv now = (0, 0, 0, 0, 0) ∧ moreP off week closed cal ls re ba lv now = false := by
  have e : nextP off week closed cal ls re ba lv now = (0, 0, 0, 0, 0) := by unfold nextP; rw [if_pos ⟨hg, l0, by omega⟩, if_pos l1]
  refine ⟨e, ?_⟩
  unfold moreP
  rw [decide_eq_false (p := lv ≠ _) (by simpa using l1), Bool.and_false]
theorem pnext_more {lv now : Int} (hg : goodP cal ls re ba = true) (l0 : 0 ≤ lv) (l1 : lv < (ls.length : Int) - 1) : nextP off week closed cal ls re ba lv now = atS off week closed (lv + 1) (rd_T71 ls (lv + 1)).f0 now ∧ moreP off week closed cal ls re ba lv now = decide ((atS off week closed (lv + 1) (rd_T71 ls (lv + 1)).f0 now).2.2.2.2 = 0) := by
  have e : nextP off week closed cal ls re ba lv now = atS off week closed (lv + 1) (rd_T71 ls (lv + 1)).f0 now := by unfold nextP; rw [if_pos ⟨hg, l0, by omega⟩, if_neg (by omega)]
  refine ⟨e, ?_⟩
  unfold moreP
  rw [decide_eq_true (p := lv ≠ _) (by omega), Bool.and_true, e]
theorem atS_lv {lv l now a b c d : Int} (h : atS off week closed lv l now = (a, b, c, d, 0)) : a = lv ∧ b = now ∧ c = l ∧ dueP off week closed now l = (d, 0) := by
  unfold atS at h
  by_cases h0 : (dueP off week closed now l).2 = 0
  · rw [if_pos h0] at h
    injection h with e1 e2; injection e2 with e2 e3; injection e3 with e3 e4; injection e4 with e4 e5
    exact ⟨e1.symm, e2.symm, e3.symm, by rw [← e4, ← h0]⟩
  · rw [if_neg h0] at h
    injection h with e1 e2; injection e2 with e2 e3; injection e3 with e3 e4; injection e4 with e4 e5
    exact absurd e5 h0
theorem rfirst_k (h : CalOk off week closed) (cal : Int) (ls : List S71) (re ba now : Int) {k : Nat} (hk : 200 ≤ k) : curfewref15_First.f k off week closed cal ls re ba now = some (firstP off week closed cal ls re ba now) :=
  at_rounds (fun k => curfewref15_First.mono off week closed cal ls re ba now k) hk (rfirst_eq h cal ls re ba now)
theorem rnext_k (h : CalOk off week closed) (cal : Int) (ls : List S71) (re ba lv fr l du now : Int) {k : Nat} (hk : 201 ≤ k) :
    curfewref15_Next.f k off week closed cal ls re ba lv fr l du now = some ((nextP off week closed cal ls re ba lv now).1, (nextP off week closed cal ls re ba lv now).2.1, (nextP off week closed cal ls re ba lv now).2.2.1, (nextP off week closed cal ls re ba lv now).2.2.2.1, moreP off week closed cal ls re ba lv now, (nextP off week closed cal ls re ba lv now).2.2.2.2) :=
  at_rounds (fun k => curfewref15_Next.mono off week closed cal ls re ba lv fr l du now k) hk (rnext_eq h cal ls re ba lv fr l du now)
theorem rplan_l0 (h : CalOk off week closed) (hg : goodP cal ls re ba = true) : ∀ (n k : Nat) (acc : List S76) (s : S76), 0 ≤ s.f0 → s.f0 + n = (ls.length : Int) - 1 → n + 300 ≤ k → acc.length + n ≤ 100 → curfewref15_Plan.l0 k acc 0 true off week closed cal ls re ba s.f0 s.f1 s.f2 s.f3 = some (comb acc (planF off week closed ls n s)) := by
  intro n
  induction n with
  | zero =>
    intro k acc s h0 h1 hk ha
    obtain ⟨k, rfl⟩ : ∃ k', k = k' + 2 := ⟨k - 2, by omega⟩
    obtain ⟨e1, e2⟩ := pnext_last (off := off) (week := week) (closed := closed) (now := s.f3) hg h0 (by omega)
    unfold curfewref15_Plan.l0
    rw [if_pos rfl, if_pos rfl, if_pos (by omega), rnext_k h cal ls re ba s.f0 s.f1 s.f2 s.f3 s.f3 (by omega), e1, e2]
    simp only [Option.bind_some, if_true]
    unfold curfewref15_Plan.l0
    rw [if_neg (by decide), comb_last]
  | succ n ih =>
    intro k acc s h0 h1 hk ha
    obtain ⟨k, rfl⟩ : ∃ k', k = k' + 1 := ⟨k - 1, by omega⟩
    obtain ⟨e1, e2⟩ := pnext_more (off := off) (week := week) (closed := closed) (now := s.f3) hg h0 (by omega)
    unfold curfewref15_Plan.l0
    rw [if_pos rfl, if_pos rfl, if_pos (by omega), rnext_k h cal ls re ba s.f0 s.f1 s.f2 s.f3 s.f3 (by omega), e1, e2]
    obtain ⟨⟨a, b, c, d, e⟩, hd⟩ : ∃ p, atS off week closed (s.f0 + 1) (rd_T71 ls (s.f0 + 1)).f0 s.f3 = p := ⟨_, rfl⟩
    rw [hd]
    simp only [Option.bind_some]
    by_cases he : e = 0
    · subst he
      rw [if_pos rfl, comb_step hd]
      obtain ⟨f1, _⟩ := atS_lv hd
      have := ih k (acc ++ [s]) ⟨a, b, c, d⟩ (by simp only; omega) (by simp only; omega) (by omega) (by simp; omega)
      simpa using this
    · rw [if_neg he, comb_no hd he]
theorem rplan_eq (h : CalOk off week closed) (cal : Int) (ls : List S71) (re ba now : Int) : curfewref15_Plan.f 500 off week closed cal ls re ba now = some (planP off week closed cal ls re ba now) := by
  unfold curfewref15_Plan.f planP
  rw [rfirst_k h cal ls re ba now (by omega)]
  simp only [Option.bind_some]
  by_cases hg : goodP cal ls re ba = true
  · have hgg := (goodP_iff.1 hg).1
    obtain ⟨⟨a, b, c, d, e⟩, hd⟩ : ∃ p, firstP off week closed cal ls re ba now = p := ⟨_, rfl⟩
    rw [hd]
    simp only
    by_cases he : e = 0
    · subst he
      rw [if_pos rfl]
      have ha : a = 0 := by unfold firstP at hd; rw [if_pos hg] at hd; exact (atS_lv hd).1
      exact rplan_l0 h hg (ls.length - 1) 500 [] ⟨a, b, c, d⟩ (by simp only; omega) (by simp only; omega) (by omega) (by simp; omega)
    · rw [if_neg he]
      unfold curfewref15_Plan.l0
      rw [if_pos rfl, if_neg he]
  · have hd : firstP off week closed cal ls re ba now = (0, 0, 0, 0, 2) := by unfold firstP; rw [if_neg hg]
    rw [hd]
    simp only
    unfold curfewref15_Plan.l0
    rw [if_pos rfl, if_neg (by decide), if_neg (by decide)]
def bsum (ls : List S71) (j : Nat) : Int := ((ls.take j).map (·.f0)).sum
theorem bsum_succ (ls : List S71) (j : Nat) (h : j < ls.length) : bsum ls (j + 1) = bsum ls j + (rd_T71 ls (j : Int)).f0 := by
  unfold bsum
  rw [List.take_add_one, List.getElem?_eq_getElem h, rdL_at ls j h, List.map_append, List.sum_append]
  simp only [Option.toList_some, List.map_cons, List.map_nil, List.sum_cons, List.sum_nil, Int.add_zero]
theorem bsum_bound {ls : List S71} (hl : ∀ x, x ∈ ls → 1 ≤ x.f0 ∧ x.f0 ≤ 1125899906842624) (j : Nat) (hj : j ≤ ls.length) : 0 ≤ bsum ls j ∧ bsum ls j ≤ j * 1125899906842624 := by
  induction j with
  | zero => simp [bsum]
  | succ j ih =>
    have := ih (by omega)
    have hm := hl (rd_T71 ls (j : Int)) (by rw [rdL_at ls j (by omega)]; exact List.getElem_mem _)
    rw [bsum_succ ls j (by omega)]
    omega
def PlanOk (off : Int) (week closed : List S114) (ls : List S71) (now : Int) (j : Nat) (l : List S76) : Prop :=
  ∀ (i : Nat) (x : S76), l[i]? = some x → x.f0 = (j + i : Nat) ∧ (now ≤ x.f3 ∧ x.f3 ≤ 1125899906842624) ∧ elapP off week closed now x.f3 = bsum ls (j + i + 1)
theorem planF_ok (h : CalOk off week closed) (hl : ∀ x, x ∈ ls → 1 ≤ x.f0 ∧ x.f0 ≤ 1125899906842624) {now : Int} (n0 : 0 ≤ now) (n1 : now ≤ 1125899906842624) : ∀ (n j : Nat) (s : S76), s.f0 = j → j + n + 1 = ls.length → (now ≤ s.f3 ∧ s.f3 ≤ 1125899906842624) → elapP off week closed now s.f3 = bsum ls (j + 1) → (planF off week closed ls n s).2 = 0 → PlanOk off week closed ls now j (planF off week closed ls n s).1 ∧ (planF off week closed ls n s).1.length = n + 1 := by
  intro n
  induction n with
  | zero =>
    intro j s h0 h1 h2 h3 _
    refine ⟨?_, rfl⟩
    intro i x hx
    match i, hx with
    | 0, hx => injection hx with hx; subst hx; exact ⟨h0, h2, h3⟩
    | (i + 1), hx => simp [planF] at hx
  | succ n ih =>
    intro j s h0 h1 h2 h3 hr
    obtain ⟨⟨a, b, c, d, e⟩, hd⟩ : ∃ p, atS off week closed (s.f0 + 1) (rd_T71 ls (s.f0 + 1)).f0 s.f3 = p := ⟨_, rfl⟩
    by_cases he : e = 0
    · subst he
      rw [planF_yes hd] at hr ⊢
      obtain ⟨e1, e2, e3, e4⟩ := atS_lv hd
      have hb := hl (rd_T71 ls ((j + 1 : Nat) : Int)) (by rw [rdL_at ls (j + 1) (by omega)]; exact List.getElem_mem _)
      have hs := bsum_succ ls (j + 1) (by omega)
      have hsj : s.f0 + 1 = ((j + 1 : Nat) : Int) := by omega
      rw [hsj] at e4
      have hdd : a = ((j + 1 : Nat) : Int) ∧ (now ≤ d ∧ d ≤ 1125899906842624) ∧ elapP off week closed now d = bsum ls (j + 1 + 1) := by
        refine ⟨by omega, ?_⟩
        rcases dueP_spec h (a := s.f3) (B := (rd_T71 ls ((j + 1 : Nat) : Int)).f0) (by omega) h2.2 (by omega) with ⟨_, f1, f2, f3, _, _⟩ | ⟨_, _, f2⟩
        · rw [e4] at f1 f2 f3
          simp only at f1 f2 f3
          have x1 := elap_Nn h.week h.closed h.lo h.hi (a := now) (b := d) n0 (by omega) f2
          have x2 := elap_Nn h.week h.closed h.lo h.hi (a := now) (b := s.f3) n0 h2.1 h2.2
          exact ⟨⟨by omega, f2⟩, by omega⟩
        · rw [e4] at f2
          simp only at f2
          omega
      have ih' := ih (j + 1) ⟨a, b, c, d⟩ hdd.1 (by omega) hdd.2.1 hdd.2.2
      by_cases hr2 : (planF off week closed ls n ⟨a, b, c, d⟩).2 = 0
      · rw [if_pos hr2]
        obtain ⟨i1, i2⟩ := ih' hr2
        refine ⟨?_, by simp [i2]⟩
        intro i x hx
        match i, hx with
        | 0, hx => injection hx with hx; subst hx; exact ⟨h0, h2, h3⟩
        | (i + 1), hx =>
          have := i1 i x (by simpa using hx)
          rw [show j + 1 + i = j + (i + 1) by omega] at this
          exact this
      · rw [if_neg hr2] at hr
        exact absurd hr hr2
    · rw [planF_no hd he] at hr
      exact absurd hr he
theorem planP_ok (h : CalOk off week closed) {now : Int} (hr : (planP off week closed cal ls re ba now).2 = 0) : goodP cal ls re ba = true ∧ (0 ≤ now ∧ now ≤ 1125899906842624) ∧ PlanOk off week closed ls now 0 (planP off week closed cal ls re ba now).1 ∧ (planP off week closed cal ls re ba now).1.length = ls.length := by
  unfold planP at hr ⊢
  by_cases hg : goodP cal ls re ba = true
  · obtain ⟨gg, gl⟩ := goodP_iff.1 hg
    obtain ⟨⟨a, b, c, d, e⟩, hd⟩ : ∃ p, firstP off week closed cal ls re ba now = p := ⟨_, rfl⟩
    rw [hd] at hr ⊢
    simp only at hr ⊢
    by_cases he : e = 0
    · subst he
      rw [if_pos rfl] at hr ⊢
      have hd2 := hd
      unfold firstP at hd2
      rw [if_pos hg] at hd2
      obtain ⟨e1, e2, e3, e4⟩ := atS_lv hd2
      have hb := gl (rd_T71 ls ((0 : Nat) : Int)) (by rw [rdL_at ls 0 (by omega)]; exact List.getElem_mem _)
      have hs := bsum_succ ls 0 (by omega)
      have hs0 : bsum ls 0 = 0 := rfl
      have hnow : 0 ≤ now ∧ now ≤ 1125899906842624 := by
        have := dueP_inst (off := off) (week := week) (closed := closed) (a := now) (B := (rd_T71 ls 0).f0) (by rw [e4])
        exact ⟨this.1, this.2.1⟩
      have hdd : (now ≤ d ∧ d ≤ 1125899906842624) ∧ elapP off week closed now d = bsum ls (0 + 1) := by
        rcases dueP_spec h (a := now) (B := (rd_T71 ls ((0 : Nat) : Int)).f0) hnow.1 hnow.2 (by omega) with ⟨_, f1, f2, f3, _, _⟩ | ⟨_, _, f2⟩
        · have e5 : dueP off week closed now (rd_T71 ls ((0 : Nat) : Int)).f0 = (d, 0) := e4
          rw [e5] at f1 f2 f3
          simp only at f1 f2 f3
          have x1 := elap_Nn h.week h.closed h.lo h.hi (a := now) (b := d) hnow.1 f1 f2
          exact ⟨⟨f1, f2⟩, by omega⟩
        · have e5 : dueP off week closed now (rd_T71 ls ((0 : Nat) : Int)).f0 = (d, 0) := e4
          rw [e5] at f2
          simp only at f2
          omega
      have := planF_ok h (fun x hx => ⟨(gl x hx).1, (gl x hx).2.1⟩) hnow.1 hnow.2 (ls.length - 1) 0 ⟨a, b, c, d⟩ (by simp only; omega) (by omega) hdd.1 hdd.2
      unfold comb at hr ⊢
      by_cases hr2 : (planF off week closed ls (ls.length - 1) ⟨a, b, c, d⟩).2 = 0
      · rw [if_pos hr2]
        obtain ⟨i1, i2⟩ := this hr2
        refine ⟨hg, hnow, by simpa using i1, by simp [i2]; omega⟩
      · rw [if_neg hr2] at hr
        exact absurd hr hr2
    · rw [if_neg he] at hr
      exact absurd hr he
  · have hd : firstP off week closed cal ls re ba now = (0, 0, 0, 0, 2) := by unfold firstP; rw [if_neg hg]
    rw [hd] at hr
    simp only at hr
    rw [if_neg (by decide)] at hr
    exact absurd hr (by decide)
theorem planP_no {now : Int} (hr : (planP off week closed cal ls re ba now).2 ≠ 0) : (planP off week closed cal ls re ba now).1 = [] := by
  unfold planP at hr ⊢
  split
  · rename_i h1
    rw [if_pos h1] at hr
    unfold comb at hr ⊢
    split
    · rename_i h2
      rw [if_pos h2] at hr
      exact absurd rfl hr
    · rfl
  · rfl
end Go.Proofs.YtepldlnmeenlbaaGreat.Own
namespace Go.Proofs.YtepldlnmeenlbaaGreat.Own
open Go.RowKit Go.Proofs Go.Proofs.YtepldlnmeenlbaaGreatW.PrintWords Go.Proofs.YtepldlnmeenlbaaGreatW.PrintLast Go.Proofs.YtepldlnmeenlbaaGreatW.PrintMore Go.Proofs.YtepldlnmeenlbaaGreat.Base
variable {w w' : World} {n kb ab pb cb : Nat} {off : Int} {week closed : List S114}
theorem stepat_any (lv fr l du now a b c d e : Int) (w : World) (h : ClkAt w n kb ab pb cb off week closed) (hn : n ≤ w.heap.size) (hl : l ≤ 9223372036854775807) (hd : atS off week closed lv l now = (a, b, c, d, e)) :
    Calls Tryz.prog 116 #[.agg #[.int .i64 lv, .int .i64 fr, .int .i64 l, .int .i64 du], .pointer (some ⟨kb, 0, none⟩), .int .i64 now] w fun r w' => r = .returned (.tuple #[.agg #[.int .i64 a, .int .i64 b, .int .i64 c, .int .i64 d], .int .i64 e]) ∧ ClkAt w' n kb ab pb cb off week closed ∧ Upd cb w w' := by
  unfold atS at hd
  by_cases h0 : (dueP off week closed now l).2 = 0
  · rw [if_pos h0] at hd
    cases hd
    exact at_ok lv fr l du now _ w h hn hl (Prod.ext rfl h0)
  · rw [if_neg h0] at hd
    cases hd
    exact at_no lv fr l du now _ w h hn hl (Prod.ext (dueP_zero h0) rfl) h0
theorem rest2 (hk : CalOk off week closed) (a u b : Int) (w : World) (h : ClkAt w n kb ab pb cb off week closed) (hn : n ≤ w.heap.size) (hu : u ≤ 9223372036854775807) :
    Calls Tryz.prog 118 #[.pointer (some ⟨kb, 0, none⟩), .int .i64 a, .int .i64 u, .int .i64 b] w fun e w' => e = .returned (.tuple #[.int .i64 (restR off week closed a u b).1, .int .i64 (restR off week closed a u b).2]) ∧ ClkAt w' n kb ab pb cb off week closed ∧ Upd cb w w' := by
  unfold restR
  by_cases hu0 : u < 0
  · rw [if_pos hu0]; exact (rest_neg a u b w h hu0).mono fun e w' ⟨he, hb⟩ => by subst hb; exact ⟨he, h, Upd.refl _ _⟩
  · rw [if_neg hu0]
    by_cases hx : 0 ≤ a ∧ a ≤ b ∧ b ≤ 1125899906842624
    · rw [if_pos hx]; exact rest_any a u b w h hn hx.1 hx.2.1 hx.2.2 (by omega) hu (elap_nonneg hk.week hk.closed hk.lo hk.hi hx.1 hx.2.1 hx.2.2)
    · rw [if_neg hx]; exact (rest_arg a u b w h (by omega) hx).mono fun e w' ⟨he, hb⟩ => ⟨he, h.below hb, Upd.of_below hb⟩
theorem put4 {w W : World} {b : Nat} {x0 x1 x2 x3 : Value} (E : W.heap[b]? = some (.cells #[x0, x1, x2, x3] 75 (0, 0))) (C : ClkAt W n kb ab pb cb off week closed) (U : Upd cb w W) (hge : w.heap.size ≤ b) (v0 v1 v2 v3 : Value) :
    ClkAt ((((W.setCell ⟨b, 0, none⟩ v0).setCell ⟨b, 1, none⟩ v1).setCell ⟨b, 2, none⟩ v2).setCell ⟨b, 3, none⟩ v3) n kb ab pb cb off week closed ∧ Upd cb w ((((W.setCell ⟨b, 0, none⟩ v0).setCell ⟨b, 1, none⟩ v1).setCell ⟨b, 2, none⟩ v2).setCell ⟨b, 3, none⟩ v3) ∧
      ((((W.setCell ⟨b, 0, none⟩ v0).setCell ⟨b, 1, none⟩ v1).setCell ⟨b, 2, none⟩ v2).setCell ⟨b, 3, none⟩ v3).heap[b]? = some (.cells #[v0, v1, v2, v3] 75 (0, 0)) := by
  have F : FarT 75 := ⟨by decide, by decide, by decide, by decide, by decide, by decide⟩
  have E2 := blk_put E 0 v0 rfl
  have S2 := step_set C U E F hge 0 v0
  have E3 := blk_put E2 1 v1 rfl
  have S3 := step_set S2.1 S2.2 E2 F hge 1 v1
  have E4 := blk_put E3 2 v2 rfl
  have S4 := step_set S3.1 S3.2 E3 F hge 2 v2
  have E5 := blk_put E4 3 v3 rfl
  have S5 := step_set S4.1 S4.2 E4 F hge 3 v3
  exact ⟨S5.1, S5.2, E5⟩
set_option maxHeartbeats 4000000 in
set_option maxRecDepth 100000 in
theorem stand_state (lv fr l du now : Int) (w : World) (h : ClkAt w n kb ab pb cb off week closed) (hn : n ≤ w.heap.size) (hx : du = 0) :
    Calls Tryz.prog 79 #[.pointer (some ⟨kb, 0, none⟩), .agg #[.int .i64 lv, .int .i64 fr, .int .i64 l, .int .i64 du], .int .i64 now] w fun r w' => r = .returned (.tuple #[.agg #[.int .i64 0, .int .i64 0, .int .i64 0, .int .i64 0], .int .i64 33]) ∧ ClkAt w' n kb ab pb cb off week closed ∧ Upd cb w w' := by
  have hcb := h.lt
  have hnot : ∀ (x : Bool) (w : World), (Op.unary .not (.bool x)).run Tryz.prog w = .ok (.bool (!x)) w := fun _ _ => rfl
  have hmf : ∀ (fn : Fn) (first cap : Array Value) (w : World), (Instr.makeFunc fn first cap).run Tryz.prog w = .ok (.func fn first cap) w := fun _ _ _ _ => rfl
  have C0 : Aside0 (((w.alloc (.cells #[.int .i64 lv, .int .i64 fr, .int .i64 l, .int .i64 du] 75)).alloc (.cells #[.int .i64 0, .int .i64 0, .int .i64 0, .int .i64 0] 75)).heap[w.heap.size]? = some (.cells #[.int .i64 lv, .int .i64 fr, .int .i64 l, .int .i64 du] 75 (0, 0))) := ⟨blk_alloc (blk_new w _) _⟩
  have C1 : Aside0 (((w.alloc (.cells #[.int .i64 lv, .int .i64 fr, .int .i64 l, .int .i64 du] 75)).alloc (.cells #[.int .i64 0, .int .i64 0, .int .i64 0, .int .i64 0] 75)).heap[w.heap.size + 1]? = some (.cells #[.int .i64 0, .int .i64 0, .int .i64 0, .int .i64 0] 75 (0, 0))) := ⟨by simpa using blk_new (w.alloc (.cells #[.int .i64 lv, .int .i64 fr, .int .i64 l, .int .i64 du] 75)) (.cells #[.int .i64 0, .int .i64 0, .int .i64 0, .int .i64 0] 75)⟩
  have HB := below_alloc (below_alloc (Below.refl w.heap.size w) (.cells #[.int .i64 lv, .int .i64 fr, .int .i64 l, .int .i64 du] 75)) (.cells #[.int .i64 0, .int .i64 0, .int .i64 0, .int .i64 0] 75)
  have HC := Aside0.mk (h.below HB)
  have HU := Aside0.mk (Upd.of_below (b := cb) HB)
  have HN := Aside0.mk (Nat.le_trans hn HB.size)
  clear h HB
  have hd : (du != 0) = false := by simp [hx]
  clear hx
  go_enter Tryz.func79, Tryz.ntmps79
  go_wp2_with fail
  generalize ((w.alloc (.cells #[.int .i64 lv, .int .i64 fr, .int .i64 l, .int .i64 du] 75)).alloc (.cells #[.int .i64 0, .int .i64 0, .int .i64 0, .int .i64 0] 75)) = w2 at C0 C1 HC HU HN ⊢
  have c0 : w2.cell? ⟨w.heap.size, 0, none⟩ = some (.int .i64 lv) := (blk_cell C0.out 0).trans rfl
  have c1 : w2.cell? ⟨w.heap.size, 1, none⟩ = some (.int .i64 fr) := (blk_cell C0.out 1).trans rfl
  have c2 : w2.cell? ⟨w.heap.size, 2, none⟩ = some (.int .i64 l) := (blk_cell C0.out 2).trans rfl
  have c3 : w2.cell? ⟨w.heap.size, 3, none⟩ = some (.int .i64 du) := (blk_cell C0.out 3).trans rfl
  have r0 : w2.cell? ⟨w.heap.size + 1, 0, none⟩ = some (.int .i64 0) := (blk_cell C1.out 0).trans rfl
  have r1 : w2.cell? ⟨w.heap.size + 1, 1, none⟩ = some (.int .i64 0) := (blk_cell C1.out 1).trans rfl
  have r2 : w2.cell? ⟨w.heap.size + 1, 2, none⟩ = some (.int .i64 0) := (blk_cell C1.out 2).trans rfl
  have r3 : w2.cell? ⟨w.heap.size + 1, 3, none⟩ = some (.int .i64 0) := (blk_cell C1.out 3).trans rfl
  have g0 : w2.frozen? ⟨w.heap.size + 1, 0, none⟩ = false := blk_frozen C1.out 0
  have g1 : w2.frozen? ⟨w.heap.size + 1, 1, none⟩ = false := blk_frozen C1.out 1
  have g2 : w2.frozen? ⟨w.heap.size + 1, 2, none⟩ = false := blk_frozen C1.out 2
  have g3 : w2.frozen? ⟨w.heap.size + 1, 3, none⟩ = false := blk_frozen C1.out 3
  go_wp2_with (go_at_call 117; refine (chain_Step_going.calls lv fr l du _ w2 rfl).mono ?_; rintro e w3 ⟨rfl, hb⟩; have HC3 := Aside0.mk (HC.out.below hb); have HU3 := Aside0.mk (HU.out.then hb); have HN3 := Aside0.mk (Nat.le_trans HN.out hb.size); have n0 := Aside0.mk (blk_below C0.out hb); have n1 := Aside0.mk (blk_below C1.out hb); clear hb C0 C1 c0 c1 c2 c3 r0 r1 r2 r3 g0 g1 g2 g3; have C0 := n0; have C1 := n1; clear n0 n1; have c0 : w3.cell? ⟨w.heap.size, 0, none⟩ = some (.int .i64 lv) := (blk_cell C0.out 0).trans rfl; have c1 : w3.cell? ⟨w.heap.size, 1, none⟩ = some (.int .i64 fr) := (blk_cell C0.out 1).trans rfl; have c2 : w3.cell? ⟨w.heap.size, 2, none⟩ = some (.int .i64 l) := (blk_cell C0.out 2).trans rfl; have c3 : w3.cell? ⟨w.heap.size, 3, none⟩ = some (.int .i64 du) := (blk_cell C0.out 3).trans rfl; have r0 : w3.cell? ⟨w.heap.size + 1, 0, none⟩ = some (.int .i64 0) := (blk_cell C1.out 0).trans rfl; have r1 : w3.cell? ⟨w.heap.size + 1, 1, none⟩ = some (.int .i64 0) := (blk_cell C1.out 1).trans rfl; have r2 : w3.cell? ⟨w.heap.size + 1, 2, none⟩ = some (.int .i64 0) := (blk_cell C1.out 2).trans rfl; have r3 : w3.cell? ⟨w.heap.size + 1, 3, none⟩ = some (.int .i64 0) := (blk_cell C1.out 3).trans rfl; have g0 : w3.frozen? ⟨w.heap.size + 1, 0, none⟩ = false := blk_frozen C1.out 0; have g1 : w3.frozen? ⟨w.heap.size + 1, 1, none⟩ = false := blk_frozen C1.out 1; have g2 : w3.frozen? ⟨w.heap.size + 1, 2, none⟩ = false := blk_frozen C1.out 2; have g3 : w3.frozen? ⟨w.heap.size + 1, 3, none⟩ = false := blk_frozen C1.out 3)
  obtain ⟨C9, U9, E9⟩ := put4 C1.out HC3.out HU3.out (by omega) (.int .i64 0) (.int .i64 0) (.int .i64 0) (.int .i64 0)
  have k0 := (blk_cell E9 0).trans (rfl : _ = some (Value.int .i64 0))
  have k1 := (blk_cell E9 1).trans (rfl : _ = some (Value.int .i64 0))
  have k2 := (blk_cell E9 2).trans (rfl : _ = some (Value.int .i64 0))
  have k3 := (blk_cell E9 3).trans (rfl : _ = some (Value.int .i64 0))
  refine bodyPost_ret (v := .tuple #[.agg #[.int .i64 0, .int .i64 0, .int .i64 0, .int .i64 0], .int .i64 33]) (by simp [results, Tryz.results79, go_sem, k0, k1, k2, k3]) rfl ⟨rfl, C9, U9⟩
set_option maxHeartbeats 4000000 in
set_option maxRecDepth 100000 in
theorem stand_old (lv fr l du now : Int) (w : World) (h : ClkAt w n kb ab pb cb off week closed) (hn : n ≤ w.heap.size) (hx : du ≠ 0) (hy : du ≤ now) :
    Calls Tryz.prog 79 #[.pointer (some ⟨kb, 0, none⟩), .agg #[.int .i64 lv, .int .i64 fr, .int .i64 l, .int .i64 du], .int .i64 now] w fun r w' => r = .returned (.tuple #[.agg #[.int .i64 0, .int .i64 0, .int .i64 0, .int .i64 0], .int .i64 34]) ∧ ClkAt w' n kb ab pb cb off week closed ∧ Upd cb w w' := by
  have hcb := h.lt
  have hnot : ∀ (x : Bool) (w : World), (Op.unary .not (.bool x)).run Tryz.prog w = .ok (.bool (!x)) w := fun _ _ => rfl
  have hmf : ∀ (fn : Fn) (first cap : Array Value) (w : World), (Instr.makeFunc fn first cap).run Tryz.prog w = .ok (.func fn first cap) w := fun _ _ _ _ => rfl
  have C0 : Aside0 (((w.alloc (.cells #[.int .i64 lv, .int .i64 fr, .int .i64 l, .int .i64 du] 75)).alloc (.cells #[.int .i64 0, .int .i64 0, .int .i64 0, .int .i64 0] 75)).heap[w.heap.size]? = some (.cells #[.int .i64 lv, .int .i64 fr, .int .i64 l, .int .i64 du] 75 (0, 0))) := ⟨blk_alloc (blk_new w _) _⟩
  have C1 : Aside0 (((w.alloc (.cells #[.int .i64 lv, .int .i64 fr, .int .i64 l, .int .i64 du] 75)).alloc (.cells #[.int .i64 0, .int .i64 0, .int .i64 0, .int .i64 0] 75)).heap[w.heap.size + 1]? = some (.cells #[.int .i64 0, .int .i64 0, .int .i64 0, .int .i64 0] 75 (0, 0))) := ⟨by simpa using blk_new (w.alloc (.cells #[.int .i64 lv, .int .i64 fr, .int .i64 l, .int .i64 du] 75)) (.cells #[.int .i64 0, .int .i64 0, .int .i64 0, .int .i64 0] 75)⟩
  have HB := below_alloc (below_alloc (Below.refl w.heap.size w) (.cells #[.int .i64 lv, .int .i64 fr, .int .i64 l, .int .i64 du] 75)) (.cells #[.int .i64 0, .int .i64 0, .int .i64 0, .int .i64 0] 75)
  have HC := Aside0.mk (h.below HB)
  have HU := Aside0.mk (Upd.of_below (b := cb) HB)
  have HN := Aside0.mk (Nat.le_trans hn HB.size)
  clear h HB
  have hd : (du != 0) = true := by simp [hx]
  clear hx
  go_enter Tryz.func79, Tryz.ntmps79
  go_wp2_with fail
  generalize ((w.alloc (.cells #[.int .i64 lv, .int .i64 fr, .int .i64 l, .int .i64 du] 75)).alloc (.cells #[.int .i64 0, .int .i64 0, .int .i64 0, .int .i64 0] 75)) = w2 at C0 C1 HC HU HN ⊢
  have c0 : w2.cell? ⟨w.heap.size, 0, none⟩ = some (.int .i64 lv) := (blk_cell C0.out 0).trans rfl
  have c1 : w2.cell? ⟨w.heap.size, 1, none⟩ = some (.int .i64 fr) := (blk_cell C0.out 1).trans rfl
  have c2 : w2.cell? ⟨w.heap.size, 2, none⟩ = some (.int .i64 l) := (blk_cell C0.out 2).trans rfl
  have c3 : w2.cell? ⟨w.heap.size, 3, none⟩ = some (.int .i64 du) := (blk_cell C0.out 3).trans rfl
  have r0 : w2.cell? ⟨w.heap.size + 1, 0, none⟩ = some (.int .i64 0) := (blk_cell C1.out 0).trans rfl
  have r1 : w2.cell? ⟨w.heap.size + 1, 1, none⟩ = some (.int .i64 0) := (blk_cell C1.out 1).trans rfl
  have r2 : w2.cell? ⟨w.heap.size + 1, 2, none⟩ = some (.int .i64 0) := (blk_cell C1.out 2).trans rfl
  have r3 : w2.cell? ⟨w.heap.size + 1, 3, none⟩ = some (.int .i64 0) := (blk_cell C1.out 3).trans rfl
  have g0 : w2.frozen? ⟨w.heap.size + 1, 0, none⟩ = false := blk_frozen C1.out 0
  have g1 : w2.frozen? ⟨w.heap.size + 1, 1, none⟩ = false := blk_frozen C1.out 1
  have g2 : w2.frozen? ⟨w.heap.size + 1, 2, none⟩ = false := blk_frozen C1.out 2
  have g3 : w2.frozen? ⟨w.heap.size + 1, 3, none⟩ = false := blk_frozen C1.out 3
  go_wp2_with (go_at_call 117; refine (chain_Step_going.calls lv fr l du _ w2 rfl).mono ?_; rintro e w3 ⟨rfl, hb⟩; have HC3 := Aside0.mk (HC.out.below hb); have HU3 := Aside0.mk (HU.out.then hb); have HN3 := Aside0.mk (Nat.le_trans HN.out hb.size); have n0 := Aside0.mk (blk_below C0.out hb); have n1 := Aside0.mk (blk_below C1.out hb); clear hb C0 C1 c0 c1 c2 c3 r0 r1 r2 r3 g0 g1 g2 g3; have C0 := n0; have C1 := n1; clear n0 n1; have c0 : w3.cell? ⟨w.heap.size, 0, none⟩ = some (.int .i64 lv) := (blk_cell C0.out 0).trans rfl; have c1 : w3.cell? ⟨w.heap.size, 1, none⟩ = some (.int .i64 fr) := (blk_cell C0.out 1).trans rfl; have c2 : w3.cell? ⟨w.heap.size, 2, none⟩ = some (.int .i64 l) := (blk_cell C0.out 2).trans rfl; have c3 : w3.cell? ⟨w.heap.size, 3, none⟩ = some (.int .i64 du) := (blk_cell C0.out 3).trans rfl; have r0 : w3.cell? ⟨w.heap.size + 1, 0, none⟩ = some (.int .i64 0) := (blk_cell C1.out 0).trans rfl; have r1 : w3.cell? ⟨w.heap.size + 1, 1, none⟩ = some (.int .i64 0) := (blk_cell C1.out 1).trans rfl; have r2 : w3.cell? ⟨w.heap.size + 1, 2, none⟩ = some (.int .i64 0) := (blk_cell C1.out 2).trans rfl; have r3 : w3.cell? ⟨w.heap.size + 1, 3, none⟩ = some (.int .i64 0) := (blk_cell C1.out 3).trans rfl; have g0 : w3.frozen? ⟨w.heap.size + 1, 0, none⟩ = false := blk_frozen C1.out 0; have g1 : w3.frozen? ⟨w.heap.size + 1, 1, none⟩ = false := blk_frozen C1.out 1; have g2 : w3.frozen? ⟨w.heap.size + 1, 2, none⟩ = false := blk_frozen C1.out 2; have g3 : w3.frozen? ⟨w.heap.size + 1, 3, none⟩ = false := blk_frozen C1.out 3)
  obtain ⟨C9, U9, E9⟩ := put4 C1.out HC3.out HU3.out (by omega) (.int .i64 0) (.int .i64 0) (.int .i64 0) (.int .i64 0)
  have k0 := (blk_cell E9 0).trans (rfl : _ = some (Value.int .i64 0))
  have k1 := (blk_cell E9 1).trans (rfl : _ = some (Value.int .i64 0))
  have k2 := (blk_cell E9 2).trans (rfl : _ = some (Value.int .i64 0))
  have k3 := (blk_cell E9 3).trans (rfl : _ = some (Value.int .i64 0))
  refine bodyPost_ret (v := .tuple #[.agg #[.int .i64 0, .int .i64 0, .int .i64 0, .int .i64 0], .int .i64 34]) (by simp [results, Tryz.results79, go_sem, k0, k1, k2, k3]) rfl ⟨rfl, C9, U9⟩
set_option maxHeartbeats 4000000 in
set_option maxRecDepth 100000 in
theorem stand_no (lv fr l du now : Int) (w : World) (h : ClkAt w n kb ab pb cb off week closed) (hn : n ≤ w.heap.size) (hk : CalOk off week closed) (hl : l ≤ 9223372036854775807) (hx : du ≠ 0) (hy : ¬ du ≤ now) (x e : Int) (hr : restR off week closed fr l now = (x, e)) (he : e ≠ 0) :
    Calls Tryz.prog 79 #[.pointer (some ⟨kb, 0, none⟩), .agg #[.int .i64 lv, .int .i64 fr, .int .i64 l, .int .i64 du], .int .i64 now] w fun r w' => r = .returned (.tuple #[.agg #[.int .i64 0, .int .i64 0, .int .i64 0, .int .i64 0], .int .i64 e]) ∧ ClkAt w' n kb ab pb cb off week closed ∧ Upd cb w w' := by
  have hcb := h.lt
  have hnot : ∀ (x : Bool) (w : World), (Op.unary .not (.bool x)).run Tryz.prog w = .ok (.bool (!x)) w := fun _ _ => rfl
  have hmf : ∀ (fn : Fn) (first cap : Array Value) (w : World), (Instr.makeFunc fn first cap).run Tryz.prog w = .ok (.func fn first cap) w := fun _ _ _ _ => rfl
  have C0 : Aside0 (((w.alloc (.cells #[.int .i64 lv, .int .i64 fr, .int .i64 l, .int .i64 du] 75)).alloc (.cells #[.int .i64 0, .int .i64 0, .int .i64 0, .int .i64 0] 75)).heap[w.heap.size]? = some (.cells #[.int .i64 lv, .int .i64 fr, .int .i64 l, .int .i64 du] 75 (0, 0))) := ⟨blk_alloc (blk_new w _) _⟩
  have C1 : Aside0 (((w.alloc (.cells #[.int .i64 lv, .int .i64 fr, .int .i64 l, .int .i64 du] 75)).alloc (.cells #[.int .i64 0, .int .i64 0, .int .i64 0, .int .i64 0] 75)).heap[w.heap.size + 1]? = some (.cells #[.int .i64 0, .int .i64 0, .int .i64 0, .int .i64 0] 75 (0, 0))) := ⟨by simpa using blk_new (w.alloc (.cells #[.int .i64 lv, .int .i64 fr, .int .i64 l, .int .i64 du] 75)) (.cells #[.int .i64 0, .int .i64 0, .int .i64 0, .int .i64 0] 75)⟩
  have HB := below_alloc (below_alloc (Below.refl w.heap.size w) (.cells #[.int .i64 lv, .int .i64 fr, .int .i64 l, .int .i64 du] 75)) (.cells #[.int .i64 0, .int .i64 0, .int .i64 0, .int .i64 0] 75)
  have HC := Aside0.mk (h.below HB)
  have HU := Aside0.mk (Upd.of_below (b := cb) HB)
  have HN := Aside0.mk (Nat.le_trans hn HB.size)
  clear h HB
  have HK := Aside0.mk hk
  have HR := Aside0.mk hr
  have hd : (du != 0) = true := by simp [hx]
  have he2 : (e != 0) = true := bne_iff_ne.mpr he
  clear hx hr hk he
  go_enter Tryz.func79, Tryz.ntmps79
  go_wp2_with fail
  generalize ((w.alloc (.cells #[.int .i64 lv, .int .i64 fr, .int .i64 l, .int .i64 du] 75)).alloc (.cells #[.int .i64 0, .int .i64 0, .int .i64 0, .int .i64 0] 75)) = w2 at C0 C1 HC HU HN ⊢
  have c0 : w2.cell? ⟨w.heap.size, 0, none⟩ = some (.int .i64 lv) := (blk_cell C0.out 0).trans rfl
  have c1 : w2.cell? ⟨w.heap.size, 1, none⟩ = some (.int .i64 fr) := (blk_cell C0.out 1).trans rfl
  have c2 : w2.cell? ⟨w.heap.size, 2, none⟩ = some (.int .i64 l) := (blk_cell C0.out 2).trans rfl
  have c3 : w2.cell? ⟨w.heap.size, 3, none⟩ = some (.int .i64 du) := (blk_cell C0.out 3).trans rfl
  have r0 : w2.cell? ⟨w.heap.size + 1, 0, none⟩ = some (.int .i64 0) := (blk_cell C1.out 0).trans rfl
  have r1 : w2.cell? ⟨w.heap.size + 1, 1, none⟩ = some (.int .i64 0) := (blk_cell C1.out 1).trans rfl
  have r2 : w2.cell? ⟨w.heap.size + 1, 2, none⟩ = some (.int .i64 0) := (blk_cell C1.out 2).trans rfl
  have r3 : w2.cell? ⟨w.heap.size + 1, 3, none⟩ = some (.int .i64 0) := (blk_cell C1.out 3).trans rfl
  have g0 : w2.frozen? ⟨w.heap.size + 1, 0, none⟩ = false := blk_frozen C1.out 0
  have g1 : w2.frozen? ⟨w.heap.size + 1, 1, none⟩ = false := blk_frozen C1.out 1
  have g2 : w2.frozen? ⟨w.heap.size + 1, 2, none⟩ = false := blk_frozen C1.out 2
  have g3 : w2.frozen? ⟨w.heap.size + 1, 3, none⟩ = false := blk_frozen C1.out 3
  go_wp2_with (first | (go_at_call 117; refine (chain_Step_going.calls lv fr l du _ w2 rfl).mono ?_; rintro e w3 ⟨rfl, hb⟩; have HC3 := Aside0.mk (HC.out.below hb); have HU3 := Aside0.mk (HU.out.then hb); have HN3 := Aside0.mk (Nat.le_trans HN.out hb.size); have n0 := Aside0.mk (blk_below C0.out hb); have n1 := Aside0.mk (blk_below C1.out hb); clear hb C0 C1 c0 c1 c2 c3 r0 r1 r2 r3 g0 g1 g2 g3; have C0 := n0; have C1 := n1; clear n0 n1; have c0 : w3.cell? ⟨w.heap.size, 0, none⟩ = some (.int .i64 lv) := (blk_cell C0.out 0).trans rfl; have c1 : w3.cell? ⟨w.heap.size, 1, none⟩ = some (.int .i64 fr) := (blk_cell C0.out 1).trans rfl; have c2 : w3.cell? ⟨w.heap.size, 2, none⟩ = some (.int .i64 l) := (blk_cell C0.out 2).trans rfl; have c3 : w3.cell? ⟨w.heap.size, 3, none⟩ = some (.int .i64 du) := (blk_cell C0.out 3).trans rfl; have r0 : w3.cell? ⟨w.heap.size + 1, 0, none⟩ = some (.int .i64 0) := (blk_cell C1.out 0).trans rfl; have r1 : w3.cell? ⟨w.heap.size + 1, 1, none⟩ = some (.int .i64 0) := (blk_cell C1.out 1).trans rfl; have r2 : w3.cell? ⟨w.heap.size + 1, 2, none⟩ = some (.int .i64 0) := (blk_cell C1.out 2).trans rfl; have r3 : w3.cell? ⟨w.heap.size + 1, 3, none⟩ = some (.int .i64 0) := (blk_cell C1.out 3).trans rfl; have g0 : w3.frozen? ⟨w.heap.size + 1, 0, none⟩ = false := blk_frozen C1.out 0; have g1 : w3.frozen? ⟨w.heap.size + 1, 1, none⟩ = false := blk_frozen C1.out 1; have g2 : w3.frozen? ⟨w.heap.size + 1, 2, none⟩ = false := blk_frozen C1.out 2; have g3 : w3.frozen? ⟨w.heap.size + 1, 3, none⟩ = false := blk_frozen C1.out 3) | (go_at_call 118; refine (rest2 HK.out fr l now w3 HC3.out HN3.out hl).mono ?_; rintro e w4 ⟨rfl, CK, UK⟩; rw [HR.out]; have n0 := Aside0.mk (UK.blk C0.out (by omega)); have n1 := Aside0.mk (UK.blk C1.out (by omega)); have HC4 := Aside0.mk CK; have HU4 := Aside0.mk (HU3.out.trans UK); clear CK UK C0 C1 c0 c1 c2 c3 r0 r1 r2 r3 g0 g1 g2 g3; have C0 := n0; have C1 := n1; clear n0 n1; have c0 : w4.cell? ⟨w.heap.size, 0, none⟩ = some (.int .i64 lv) := (blk_cell C0.out 0).trans rfl; have c1 : w4.cell? ⟨w.heap.size, 1, none⟩ = some (.int .i64 fr) := (blk_cell C0.out 1).trans rfl; have c2 : w4.cell? ⟨w.heap.size, 2, none⟩ = some (.int .i64 l) := (blk_cell C0.out 2).trans rfl; have c3 : w4.cell? ⟨w.heap.size, 3, none⟩ = some (.int .i64 du) := (blk_cell C0.out 3).trans rfl; have r0 : w4.cell? ⟨w.heap.size + 1, 0, none⟩ = some (.int .i64 0) := (blk_cell C1.out 0).trans rfl; have r1 : w4.cell? ⟨w.heap.size + 1, 1, none⟩ = some (.int .i64 0) := (blk_cell C1.out 1).trans rfl; have r2 : w4.cell? ⟨w.heap.size + 1, 2, none⟩ = some (.int .i64 0) := (blk_cell C1.out 2).trans rfl; have r3 : w4.cell? ⟨w.heap.size + 1, 3, none⟩ = some (.int .i64 0) := (blk_cell C1.out 3).trans rfl; have g0 : w4.frozen? ⟨w.heap.size + 1, 0, none⟩ = false := blk_frozen C1.out 0; have g1 : w4.frozen? ⟨w.heap.size + 1, 1, none⟩ = false := blk_frozen C1.out 1; have g2 : w4.frozen? ⟨w.heap.size + 1, 2, none⟩ = false := blk_frozen C1.out 2; have g3 : w4.frozen? ⟨w.heap.size + 1, 3, none⟩ = false := blk_frozen C1.out 3))
  obtain ⟨C9, U9, E9⟩ := put4 C1.out HC4.out HU4.out (by omega) (.int .i64 0) (.int .i64 0) (.int .i64 0) (.int .i64 0)
  have k0 := (blk_cell E9 0).trans (rfl : _ = some (Value.int .i64 0))
  have k1 := (blk_cell E9 1).trans (rfl : _ = some (Value.int .i64 0))
  have k2 := (blk_cell E9 2).trans (rfl : _ = some (Value.int .i64 0))
  have k3 := (blk_cell E9 3).trans (rfl : _ = some (Value.int .i64 0))
  refine bodyPost_ret (v := .tuple #[.agg #[.int .i64 0, .int .i64 0, .int .i64 0, .int .i64 0], .int .i64 e]) (by simp [results, Tryz.results79, go_sem, k0, k1, k2, k3]) rfl ⟨rfl, C9, U9⟩
set_option maxHeartbeats 4000000 in
set_option maxRecDepth 100000 in
theorem stand_ok (lv fr l du now : Int) (w : World) (h : ClkAt w n kb ab pb cb off week closed) (hn : n ≤ w.heap.size) (hk : CalOk off week closed) (hl : l ≤ 9223372036854775807) (hx : du ≠ 0) (hy : ¬ du ≤ now) (x : Int) (hr : restR off week closed fr l now = (x, 0)) :
    Calls Tryz.prog 79 #[.pointer (some ⟨kb, 0, none⟩), .agg #[.int .i64 lv, .int .i64 fr, .int .i64 l, .int .i64 du], .int .i64 now] w fun r w' => r = .returned (.tuple #[.agg #[.int .i64 lv, .int .i64 now, .int .i64 x, .int .i64 0], .int .i64 0]) ∧ ClkAt w' n kb ab pb cb off week closed ∧ Upd cb w w' := by
  have hcb := h.lt
  have hnot : ∀ (x : Bool) (w : World), (Op.unary .not (.bool x)).run Tryz.prog w = .ok (.bool (!x)) w := fun _ _ => rfl
  have hmf : ∀ (fn : Fn) (first cap : Array Value) (w : World), (Instr.makeFunc fn first cap).run Tryz.prog w = .ok (.func fn first cap) w := fun _ _ _ _ => rfl
  have C0 : Aside0 (((w.alloc (.cells #[.int .i64 lv, .int .i64 fr, .int .i64 l, .int .i64 du] 75)).alloc (.cells #[.int .i64 0, .int .i64 0, .int .i64 0, .int .i64 0] 75)).heap[w.heap.size]? = some (.cells #[.int .i64 lv, .int .i64 fr, .int .i64 l, .int .i64 du] 75 (0, 0))) := ⟨blk_alloc (blk_new w _) _⟩
  have C1 : Aside0 (((w.alloc (.cells #[.int .i64 lv, .int .i64 fr, .int .i64 l, .int .i64 du] 75)).alloc (.cells #[.int .i64 0, .int .i64 0, .int .i64 0, .int .i64 0] 75)).heap[w.heap.size + 1]? = some (.cells #[.int .i64 0, .int .i64 0, .int .i64 0, .int .i64 0] 75 (0, 0))) := ⟨by simpa using blk_new (w.alloc (.cells #[.int .i64 lv, .int .i64 fr, .int .i64 l, .int .i64 du] 75)) (.cells #[.int .i64 0, .int .i64 0, .int .i64 0, .int .i64 0] 75)⟩
  have HB := below_alloc (below_alloc (Below.refl w.heap.size w) (.cells #[.int .i64 lv, .int .i64 fr, .int .i64 l, .int .i64 du] 75)) (.cells #[.int .i64 0, .int .i64 0, .int .i64 0, .int .i64 0] 75)
  have HC := Aside0.mk (h.below HB)
  have HU := Aside0.mk (Upd.of_below (b := cb) HB)
  have HN := Aside0.mk (Nat.le_trans hn HB.size)
  clear h HB
  have HK := Aside0.mk hk
  have HR := Aside0.mk hr
  have hd : (du != 0) = true := by simp [hx]
  clear hx hr hk
  go_enter Tryz.func79, Tryz.ntmps79
  go_wp2_with fail
  generalize ((w.alloc (.cells #[.int .i64 lv, .int .i64 fr, .int .i64 l, .int .i64 du] 75)).alloc (.cells #[.int .i64 0, .int .i64 0, .int .i64 0, .int .i64 0] 75)) = w2 at C0 C1 HC HU HN ⊢
  have c0 : w2.cell? ⟨w.heap.size, 0, none⟩ = some (.int .i64 lv) := (blk_cell C0.out 0).trans rfl
  have c1 : w2.cell? ⟨w.heap.size, 1, none⟩ = some (.int .i64 fr) := (blk_cell C0.out 1).trans rfl
  have c2 : w2.cell? ⟨w.heap.size, 2, none⟩ = some (.int .i64 l) := (blk_cell C0.out 2).trans rfl
  have c3 : w2.cell? ⟨w.heap.size, 3, none⟩ = some (.int .i64 du) := (blk_cell C0.out 3).trans rfl
  have r0 : w2.cell? ⟨w.heap.size + 1, 0, none⟩ = some (.int .i64 0) := (blk_cell C1.out 0).trans rfl
  have r1 : w2.cell? ⟨w.heap.size + 1, 1, none⟩ = some (.int .i64 0) := (blk_cell C1.out 1).trans rfl
  have r2 : w2.cell? ⟨w.heap.size + 1, 2, none⟩ = some (.int .i64 0) := (blk_cell C1.out 2).trans rfl
  have r3 : w2.cell? ⟨w.heap.size + 1, 3, none⟩ = some (.int .i64 0) := (blk_cell C1.out 3).trans rfl
  have g0 : w2.frozen? ⟨w.heap.size + 1, 0, none⟩ = false := blk_frozen C1.out 0
  have g1 : w2.frozen? ⟨w.heap.size + 1, 1, none⟩ = false := blk_frozen C1.out 1
  have g2 : w2.frozen? ⟨w.heap.size + 1, 2, none⟩ = false := blk_frozen C1.out 2
  have g3 : w2.frozen? ⟨w.heap.size + 1, 3, none⟩ = false := blk_frozen C1.out 3
  go_wp2_with (first | (go_at_call 117; refine (chain_Step_going.calls lv fr l du _ w2 rfl).mono ?_; rintro e w3 ⟨rfl, hb⟩; have HC3 := Aside0.mk (HC.out.below hb); have HU3 := Aside0.mk (HU.out.then hb); have HN3 := Aside0.mk (Nat.le_trans HN.out hb.size); have n0 := Aside0.mk (blk_below C0.out hb); have n1 := Aside0.mk (blk_below C1.out hb); clear hb C0 C1 c0 c1 c2 c3 r0 r1 r2 r3 g0 g1 g2 g3; have C0 := n0; have C1 := n1; clear n0 n1; have c0 : w3.cell? ⟨w.heap.size, 0, none⟩ = some (.int .i64 lv) := (blk_cell C0.out 0).trans rfl; have c1 : w3.cell? ⟨w.heap.size, 1, none⟩ = some (.int .i64 fr) := (blk_cell C0.out 1).trans rfl; have c2 : w3.cell? ⟨w.heap.size, 2, none⟩ = some (.int .i64 l) := (blk_cell C0.out 2).trans rfl; have c3 : w3.cell? ⟨w.heap.size, 3, none⟩ = some (.int .i64 du) := (blk_cell C0.out 3).trans rfl; have r0 : w3.cell? ⟨w.heap.size + 1, 0, none⟩ = some (.int .i64 0) := (blk_cell C1.out 0).trans rfl; have r1 : w3.cell? ⟨w.heap.size + 1, 1, none⟩ = some (.int .i64 0) := (blk_cell C1.out 1).trans rfl; have r2 : w3.cell? ⟨w.heap.size + 1, 2, none⟩ = some (.int .i64 0) := (blk_cell C1.out 2).trans rfl; have r3 : w3.cell? ⟨w.heap.size + 1, 3, none⟩ = some (.int .i64 0) := (blk_cell C1.out 3).trans rfl; have g0 : w3.frozen? ⟨w.heap.size + 1, 0, none⟩ = false := blk_frozen C1.out 0; have g1 : w3.frozen? ⟨w.heap.size + 1, 1, none⟩ = false := blk_frozen C1.out 1; have g2 : w3.frozen? ⟨w.heap.size + 1, 2, none⟩ = false := blk_frozen C1.out 2; have g3 : w3.frozen? ⟨w.heap.size + 1, 3, none⟩ = false := blk_frozen C1.out 3) | (go_at_call 118; refine (rest2 HK.out fr l now w3 HC3.out HN3.out hl).mono ?_; rintro e w4 ⟨rfl, CK, UK⟩; rw [HR.out]; have n0 := Aside0.mk (UK.blk C0.out (by omega)); have n1 := Aside0.mk (UK.blk C1.out (by omega)); have HC4 := Aside0.mk CK; have HU4 := Aside0.mk (HU3.out.trans UK); clear CK UK C0 C1 c0 c1 c2 c3 r0 r1 r2 r3 g0 g1 g2 g3; have C0 := n0; have C1 := n1; clear n0 n1; have c0 : w4.cell? ⟨w.heap.size, 0, none⟩ = some (.int .i64 lv) := (blk_cell C0.out 0).trans rfl; have c1 : w4.cell? ⟨w.heap.size, 1, none⟩ = some (.int .i64 fr) := (blk_cell C0.out 1).trans rfl; have c2 : w4.cell? ⟨w.heap.size, 2, none⟩ = some (.int .i64 l) := (blk_cell C0.out 2).trans rfl; have c3 : w4.cell? ⟨w.heap.size, 3, none⟩ = some (.int .i64 du) := (blk_cell C0.out 3).trans rfl; have r0 : w4.cell? ⟨w.heap.size + 1, 0, none⟩ = some (.int .i64 0) := (blk_cell C1.out 0).trans rfl; have r1 : w4.cell? ⟨w.heap.size + 1, 1, none⟩ = some (.int .i64 0) := (blk_cell C1.out 1).trans rfl; have r2 : w4.cell? ⟨w.heap.size + 1, 2, none⟩ = some (.int .i64 0) := (blk_cell C1.out 2).trans rfl; have r3 : w4.cell? ⟨w.heap.size + 1, 3, none⟩ = some (.int .i64 0) := (blk_cell C1.out 3).trans rfl; have g0 : w4.frozen? ⟨w.heap.size + 1, 0, none⟩ = false := blk_frozen C1.out 0; have g1 : w4.frozen? ⟨w.heap.size + 1, 1, none⟩ = false := blk_frozen C1.out 1; have g2 : w4.frozen? ⟨w.heap.size + 1, 2, none⟩ = false := blk_frozen C1.out 2; have g3 : w4.frozen? ⟨w.heap.size + 1, 3, none⟩ = false := blk_frozen C1.out 3))
  obtain ⟨C9, U9, E9⟩ := put4 C1.out HC4.out HU4.out (by omega) (.int .i64 lv) (.int .i64 now) (.int .i64 x) (.int .i64 0)
  have k0 := (blk_cell E9 0).trans (rfl : _ = some (Value.int .i64 lv))
  have k1 := (blk_cell E9 1).trans (rfl : _ = some (Value.int .i64 now))
  have k2 := (blk_cell E9 2).trans (rfl : _ = some (Value.int .i64 x))
  have k3 := (blk_cell E9 3).trans (rfl : _ = some (Value.int .i64 0))
  refine bodyPost_ret (v := .tuple #[.agg #[.int .i64 lv, .int .i64 now, .int .i64 x, .int .i64 0], .int .i64 0]) (by simp [results, Tryz.results79, go_sem, k0, k1, k2, k3]) rfl ⟨rfl, C9, U9⟩
set_option maxHeartbeats 4000000 in
set_option maxRecDepth 100000 in
theorem go_state (lv fr l du now : Int) (w : World) (h : ClkAt w n kb ab pb cb off week closed) (hn : n ≤ w.heap.size) (hx : du ≠ 0) :
    Calls Tryz.prog 80 #[.pointer (some ⟨kb, 0, none⟩), .agg #[.int .i64 lv, .int .i64 fr, .int .i64 l, .int .i64 du], .int .i64 now] w fun r w' => r = .returned (.tuple #[.agg #[.int .i64 0, .int .i64 0, .int .i64 0, .int .i64 0], .int .i64 33]) ∧ ClkAt w' n kb ab pb cb off week closed ∧ Upd cb w w' := by
  have hcb := h.lt
  have hnot : ∀ (x : Bool) (w : World), (Op.unary .not (.bool x)).run Tryz.prog w = .ok (.bool (!x)) w := fun _ _ => rfl
  have hmf : ∀ (fn : Fn) (first cap : Array Value) (w : World), (Instr.makeFunc fn first cap).run Tryz.prog w = .ok (.func fn first cap) w := fun _ _ _ _ => rfl
  have C0 : Aside0 (((w.alloc (.cells #[.int .i64 lv, .int .i64 fr, .int .i64 l, .int .i64 du] 75)).alloc (.cells #[.int .i64 0, .int .i64 0, .int .i64 0, .int .i64 0] 75)).heap[w.heap.size]? = some (.cells #[.int .i64 lv, .int .i64 fr, .int .i64 l, .int .i64 du] 75 (0, 0))) := ⟨blk_alloc (blk_new w _) _⟩
  have C1 : Aside0 (((w.alloc (.cells #[.int .i64 lv, .int .i64 fr, .int .i64 l, .int .i64 du] 75)).alloc (.cells #[.int .i64 0, .int .i64 0, .int .i64 0, .int .i64 0] 75)).heap[w.heap.size + 1]? = some (.cells #[.int .i64 0, .int .i64 0, .int .i64 0, .int .i64 0] 75 (0, 0))) := ⟨by simpa using blk_new (w.alloc (.cells #[.int .i64 lv, .int .i64 fr, .int .i64 l, .int .i64 du] 75)) (.cells #[.int .i64 0, .int .i64 0, .int .i64 0, .int .i64 0] 75)⟩
  have HB := below_alloc (below_alloc (Below.refl w.heap.size w) (.cells #[.int .i64 lv, .int .i64 fr, .int .i64 l, .int .i64 du] 75)) (.cells #[.int .i64 0, .int .i64 0, .int .i64 0, .int .i64 0] 75)
  have HC := Aside0.mk (h.below HB)
  have HU := Aside0.mk (Upd.of_below (b := cb) HB)
  have HN := Aside0.mk (Nat.le_trans hn HB.size)
  clear h HB
  have hd : (du != 0) = true := by simp [hx]
  clear hx
  go_enter Tryz.func80, Tryz.ntmps80
  go_wp2_with fail
  generalize ((w.alloc (.cells #[.int .i64 lv, .int .i64 fr, .int .i64 l, .int .i64 du] 75)).alloc (.cells #[.int .i64 0, .int .i64 0, .int .i64 0, .int .i64 0] 75)) = w2 at C0 C1 HC HU HN ⊢
  have c0 : w2.cell? ⟨w.heap.size, 0, none⟩ = some (.int .i64 lv) := (blk_cell C0.out 0).trans rfl
  have c1 : w2.cell? ⟨w.heap.size, 1, none⟩ = some (.int .i64 fr) := (blk_cell C0.out 1).trans rfl
  have c2 : w2.cell? ⟨w.heap.size, 2, none⟩ = some (.int .i64 l) := (blk_cell C0.out 2).trans rfl
  have c3 : w2.cell? ⟨w.heap.size, 3, none⟩ = some (.int .i64 du) := (blk_cell C0.out 3).trans rfl
  have r0 : w2.cell? ⟨w.heap.size + 1, 0, none⟩ = some (.int .i64 0) := (blk_cell C1.out 0).trans rfl
  have r1 : w2.cell? ⟨w.heap.size + 1, 1, none⟩ = some (.int .i64 0) := (blk_cell C1.out 1).trans rfl
  have r2 : w2.cell? ⟨w.heap.size + 1, 2, none⟩ = some (.int .i64 0) := (blk_cell C1.out 2).trans rfl
  have r3 : w2.cell? ⟨w.heap.size + 1, 3, none⟩ = some (.int .i64 0) := (blk_cell C1.out 3).trans rfl
  have g0 : w2.frozen? ⟨w.heap.size + 1, 0, none⟩ = false := blk_frozen C1.out 0
  have g1 : w2.frozen? ⟨w.heap.size + 1, 1, none⟩ = false := blk_frozen C1.out 1
  have g2 : w2.frozen? ⟨w.heap.size + 1, 2, none⟩ = false := blk_frozen C1.out 2
  have g3 : w2.frozen? ⟨w.heap.size + 1, 3, none⟩ = false := blk_frozen C1.out 3
  go_wp2_with (go_at_call 117; refine (chain_Step_going.calls lv fr l du _ w2 rfl).mono ?_; rintro e w3 ⟨rfl, hb⟩; have HC3 := Aside0.mk (HC.out.below hb); have HU3 := Aside0.mk (HU.out.then hb); have HN3 := Aside0.mk (Nat.le_trans HN.out hb.size); have n0 := Aside0.mk (blk_below C0.out hb); have n1 := Aside0.mk (blk_below C1.out hb); clear hb C0 C1 c0 c1 c2 c3 r0 r1 r2 r3 g0 g1 g2 g3; have C0 := n0; have C1 := n1; clear n0 n1; have c0 : w3.cell? ⟨w.heap.size, 0, none⟩ = some (.int .i64 lv) := (blk_cell C0.out 0).trans rfl; have c1 : w3.cell? ⟨w.heap.size, 1, none⟩ = some (.int .i64 fr) := (blk_cell C0.out 1).trans rfl; have c2 : w3.cell? ⟨w.heap.size, 2, none⟩ = some (.int .i64 l) := (blk_cell C0.out 2).trans rfl; have c3 : w3.cell? ⟨w.heap.size, 3, none⟩ = some (.int .i64 du) := (blk_cell C0.out 3).trans rfl; have r0 : w3.cell? ⟨w.heap.size + 1, 0, none⟩ = some (.int .i64 0) := (blk_cell C1.out 0).trans rfl; have r1 : w3.cell? ⟨w.heap.size + 1, 1, none⟩ = some (.int .i64 0) := (blk_cell C1.out 1).trans rfl; have r2 : w3.cell? ⟨w.heap.size + 1, 2, none⟩ = some (.int .i64 0) := (blk_cell C1.out 2).trans rfl; have r3 : w3.cell? ⟨w.heap.size + 1, 3, none⟩ = some (.int .i64 0) := (blk_cell C1.out 3).trans rfl; have g0 : w3.frozen? ⟨w.heap.size + 1, 0, none⟩ = false := blk_frozen C1.out 0; have g1 : w3.frozen? ⟨w.heap.size + 1, 1, none⟩ = false := blk_frozen C1.out 1; have g2 : w3.frozen? ⟨w.heap.size + 1, 2, none⟩ = false := blk_frozen C1.out 2; have g3 : w3.frozen? ⟨w.heap.size + 1, 3, none⟩ = false := blk_frozen C1.out 3)
  obtain ⟨C9, U9, E9⟩ := put4 C1.out HC3.out HU3.out (by omega) (.int .i64 0) (.int .i64 0) (.int .i64 0) (.int .i64 0)
  have k0 := (blk_cell E9 0).trans (rfl : _ = some (Value.int .i64 0))
  have k1 := (blk_cell E9 1).trans (rfl : _ = some (Value.int .i64 0))
  have k2 := (blk_cell E9 2).trans (rfl : _ = some (Value.int .i64 0))
  have k3 := (blk_cell E9 3).trans (rfl : _ = some (Value.int .i64 0))
  refine bodyPost_ret (v := .tuple #[.agg #[.int .i64 0, .int .i64 0, .int .i64 0, .int .i64 0], .int .i64 33]) (by simp [results, Tryz.results80, go_sem, k0, k1, k2, k3]) rfl ⟨rfl, C9, U9⟩
set_option maxHeartbeats 4000000 in
set_option maxRecDepth 100000 in
theorem go_arg (lv fr l du now : Int) (w : World) (h : ClkAt w n kb ab pb cb off week closed) (hn : n ≤ w.heap.size) (hx : du = 0) (hy : l < 1) :
    Calls Tryz.prog 80 #[.pointer (some ⟨kb, 0, none⟩), .agg #[.int .i64 lv, .int .i64 fr, .int .i64 l, .int .i64 du], .int .i64 now] w fun r w' => r = .returned (.tuple #[.agg #[.int .i64 0, .int .i64 0, .int .i64 0, .int .i64 0], .int .i64 2]) ∧ ClkAt w' n kb ab pb cb off week closed ∧ Upd cb w w' := by
  have hcb := h.lt
  have hnot : ∀ (x : Bool) (w : World), (Op.unary .not (.bool x)).run Tryz.prog w = .ok (.bool (!x)) w := fun _ _ => rfl
  have hmf : ∀ (fn : Fn) (first cap : Array Value) (w : World), (Instr.makeFunc fn first cap).run Tryz.prog w = .ok (.func fn first cap) w := fun _ _ _ _ => rfl
  have C0 : Aside0 (((w.alloc (.cells #[.int .i64 lv, .int .i64 fr, .int .i64 l, .int .i64 du] 75)).alloc (.cells #[.int .i64 0, .int .i64 0, .int .i64 0, .int .i64 0] 75)).heap[w.heap.size]? = some (.cells #[.int .i64 lv, .int .i64 fr, .int .i64 l, .int .i64 du] 75 (0, 0))) := ⟨blk_alloc (blk_new w _) _⟩
  have C1 : Aside0 (((w.alloc (.cells #[.int .i64 lv, .int .i64 fr, .int .i64 l, .int .i64 du] 75)).alloc (.cells #[.int .i64 0, .int .i64 0, .int .i64 0, .int .i64 0] 75)).heap[w.heap.size + 1]? = some (.cells #[.int .i64 0, .int .i64 0, .int .i64 0, .int .i64 0] 75 (0, 0))) := ⟨by simpa using blk_new (w.alloc (.cells #[.int .i64 lv, .int .i64 fr, .int .i64 l, .int .i64 du] 75)) (.cells #[.int .i64 0, .int .i64 0, .int .i64 0, .int .i64 0] 75)⟩
  have HB := below_alloc (below_alloc (Below.refl w.heap.size w) (.cells #[.int .i64 lv, .int .i64 fr, .int .i64 l, .int .i64 du] 75)) (.cells #[.int .i64 0, .int .i64 0, .int .i64 0, .int .i64 0] 75)
  have HC := Aside0.mk (h.below HB)
  have HU := Aside0.mk (Upd.of_below (b := cb) HB)
  have HN := Aside0.mk (Nat.le_trans hn HB.size)
  clear h HB
  have hd : (du != 0) = false := by simp [hx]
  clear hx
  go_enter Tryz.func80, Tryz.ntmps80
  go_wp2_with fail
  generalize ((w.alloc (.cells #[.int .i64 lv, .int .i64 fr, .int .i64 l, .int .i64 du] 75)).alloc (.cells #[.int .i64 0, .int .i64 0, .int .i64 0, .int .i64 0] 75)) = w2 at C0 C1 HC HU HN ⊢
  have c0 : w2.cell? ⟨w.heap.size, 0, none⟩ = some (.int .i64 lv) := (blk_cell C0.out 0).trans rfl
  have c1 : w2.cell? ⟨w.heap.size, 1, none⟩ = some (.int .i64 fr) := (blk_cell C0.out 1).trans rfl
  have c2 : w2.cell? ⟨w.heap.size, 2, none⟩ = some (.int .i64 l) := (blk_cell C0.out 2).trans rfl
  have c3 : w2.cell? ⟨w.heap.size, 3, none⟩ = some (.int .i64 du) := (blk_cell C0.out 3).trans rfl
  have r0 : w2.cell? ⟨w.heap.size + 1, 0, none⟩ = some (.int .i64 0) := (blk_cell C1.out 0).trans rfl
  have r1 : w2.cell? ⟨w.heap.size + 1, 1, none⟩ = some (.int .i64 0) := (blk_cell C1.out 1).trans rfl
  have r2 : w2.cell? ⟨w.heap.size + 1, 2, none⟩ = some (.int .i64 0) := (blk_cell C1.out 2).trans rfl
  have r3 : w2.cell? ⟨w.heap.size + 1, 3, none⟩ = some (.int .i64 0) := (blk_cell C1.out 3).trans rfl
  have g0 : w2.frozen? ⟨w.heap.size + 1, 0, none⟩ = false := blk_frozen C1.out 0
  have g1 : w2.frozen? ⟨w.heap.size + 1, 1, none⟩ = false := blk_frozen C1.out 1
  have g2 : w2.frozen? ⟨w.heap.size + 1, 2, none⟩ = false := blk_frozen C1.out 2
  have g3 : w2.frozen? ⟨w.heap.size + 1, 3, none⟩ = false := blk_frozen C1.out 3
  go_wp2_with (go_at_call 117; refine (chain_Step_going.calls lv fr l du _ w2 rfl).mono ?_; rintro e w3 ⟨rfl, hb⟩; have HC3 := Aside0.mk (HC.out.below hb); have HU3 := Aside0.mk (HU.out.then hb); have HN3 := Aside0.mk (Nat.le_trans HN.out hb.size); have n0 := Aside0.mk (blk_below C0.out hb); have n1 := Aside0.mk (blk_below C1.out hb); clear hb C0 C1 c0 c1 c2 c3 r0 r1 r2 r3 g0 g1 g2 g3; have C0 := n0; have C1 := n1; clear n0 n1; have c0 : w3.cell? ⟨w.heap.size, 0, none⟩ = some (.int .i64 lv) := (blk_cell C0.out 0).trans rfl; have c1 : w3.cell? ⟨w.heap.size, 1, none⟩ = some (.int .i64 fr) := (blk_cell C0.out 1).trans rfl; have c2 : w3.cell? ⟨w.heap.size, 2, none⟩ = some (.int .i64 l) := (blk_cell C0.out 2).trans rfl; have c3 : w3.cell? ⟨w.heap.size, 3, none⟩ = some (.int .i64 du) := (blk_cell C0.out 3).trans rfl; have r0 : w3.cell? ⟨w.heap.size + 1, 0, none⟩ = some (.int .i64 0) := (blk_cell C1.out 0).trans rfl; have r1 : w3.cell? ⟨w.heap.size + 1, 1, none⟩ = some (.int .i64 0) := (blk_cell C1.out 1).trans rfl; have r2 : w3.cell? ⟨w.heap.size + 1, 2, none⟩ = some (.int .i64 0) := (blk_cell C1.out 2).trans rfl; have r3 : w3.cell? ⟨w.heap.size + 1, 3, none⟩ = some (.int .i64 0) := (blk_cell C1.out 3).trans rfl; have g0 : w3.frozen? ⟨w.heap.size + 1, 0, none⟩ = false := blk_frozen C1.out 0; have g1 : w3.frozen? ⟨w.heap.size + 1, 1, none⟩ = false := blk_frozen C1.out 1; have g2 : w3.frozen? ⟨w.heap.size + 1, 2, none⟩ = false := blk_frozen C1.out 2; have g3 : w3.frozen? ⟨w.heap.size + 1, 3, none⟩ = false := blk_frozen C1.out 3)
  obtain ⟨C9, U9, E9⟩ := put4 C1.out HC3.out HU3.out (by omega) (.int .i64 0) (.int .i64 0) (.int .i64 0) (.int .i64 0)
  have k0 := (blk_cell E9 0).trans (rfl : _ = some (Value.int .i64 0))
  have k1 := (blk_cell E9 1).trans (rfl : _ = some (Value.int .i64 0))
  have k2 := (blk_cell E9 2).trans (rfl : _ = some (Value.int .i64 0))
  have k3 := (blk_cell E9 3).trans (rfl : _ = some (Value.int .i64 0))
  refine bodyPost_ret (v := .tuple #[.agg #[.int .i64 0, .int .i64 0, .int .i64 0, .int .i64 0], .int .i64 2]) (by simp [results, Tryz.results80, go_sem, k0, k1, k2, k3]) rfl ⟨rfl, C9, U9⟩
set_option maxHeartbeats 4000000 in
set_option maxRecDepth 100000 in
theorem go_ok (lv fr l du now : Int) (w : World) (h : ClkAt w n kb ab pb cb off week closed) (hn : n ≤ w.heap.size) (hl : l ≤ 9223372036854775807) (hx : du = 0) (hy : ¬ l < 1) (a b c d e : Int) (ha : atS off week closed lv l now = (a, b, c, d, e)) :
    Calls Tryz.prog 80 #[.pointer (some ⟨kb, 0, none⟩), .agg #[.int .i64 lv, .int .i64 fr, .int .i64 l, .int .i64 du], .int .i64 now] w fun r w' => r = .returned (.tuple #[.agg #[.int .i64 a, .int .i64 b, .int .i64 c, .int .i64 d], .int .i64 e]) ∧ ClkAt w' n kb ab pb cb off week closed ∧ Upd cb w w' := by
  have hcb := h.lt
  have hnot : ∀ (x : Bool) (w : World), (Op.unary .not (.bool x)).run Tryz.prog w = .ok (.bool (!x)) w := fun _ _ => rfl
  have hmf : ∀ (fn : Fn) (first cap : Array Value) (w : World), (Instr.makeFunc fn first cap).run Tryz.prog w = .ok (.func fn first cap) w := fun _ _ _ _ => rfl
  have C0 : Aside0 (((w.alloc (.cells #[.int .i64 lv, .int .i64 fr, .int .i64 l, .int .i64 du] 75)).alloc (.cells #[.int .i64 0, .int .i64 0, .int .i64 0, .int .i64 0] 75)).heap[w.heap.size]? = some (.cells #[.int .i64 lv, .int .i64 fr, .int .i64 l, .int .i64 du] 75 (0, 0))) := ⟨blk_alloc (blk_new w _) _⟩
  have C1 : Aside0 (((w.alloc (.cells #[.int .i64 lv, .int .i64 fr, .int .i64 l, .int .i64 du] 75)).alloc (.cells #[.int .i64 0, .int .i64 0, .int .i64 0, .int .i64 0] 75)).heap[w.heap.size + 1]? = some (.cells #[.int .i64 0, .int .i64 0, .int .i64 0, .int .i64 0] 75 (0, 0))) := ⟨by simpa using blk_new (w.alloc (.cells #[.int .i64 lv, .int .i64 fr, .int .i64 l, .int .i64 du] 75)) (.cells #[.int .i64 0, .int .i64 0, .int .i64 0, .int .i64 0] 75)⟩
  have HB := below_alloc (below_alloc (Below.refl w.heap.size w) (.cells #[.int .i64 lv, .int .i64 fr, .int .i64 l, .int .i64 du] 75)) (.cells #[.int .i64 0, .int .i64 0, .int .i64 0, .int .i64 0] 75)
  have HC := Aside0.mk (h.below HB)
  have HU := Aside0.mk (Upd.of_below (b := cb) HB)
  have HN := Aside0.mk (Nat.le_trans hn HB.size)
  clear h HB
  have HA := Aside0.mk ha
  have hd : (du != 0) = false := by simp [hx]
  clear hx ha
  go_enter Tryz.func80, Tryz.ntmps80
  go_wp2_with fail
  generalize ((w.alloc (.cells #[.int .i64 lv, .int .i64 fr, .int .i64 l, .int .i64 du] 75)).alloc (.cells #[.int .i64 0, .int .i64 0, .int .i64 0, .int .i64 0] 75)) = w2 at C0 C1 HC HU HN ⊢
  have c0 : w2.cell? ⟨w.heap.size, 0, none⟩ = some (.int .i64 lv) := (blk_cell C0.out 0).trans rfl
  have c1 : w2.cell? ⟨w.heap.size, 1, none⟩ = some (.int .i64 fr) := (blk_cell C0.out 1).trans rfl
  have c2 : w2.cell? ⟨w.heap.size, 2, none⟩ = some (.int .i64 l) := (blk_cell C0.out 2).trans rfl
  have c3 : w2.cell? ⟨w.heap.size, 3, none⟩ = some (.int .i64 du) := (blk_cell C0.out 3).trans rfl
  have r0 : w2.cell? ⟨w.heap.size + 1, 0, none⟩ = some (.int .i64 0) := (blk_cell C1.out 0).trans rfl
  have r1 : w2.cell? ⟨w.heap.size + 1, 1, none⟩ = some (.int .i64 0) := (blk_cell C1.out 1).trans rfl
  have r2 : w2.cell? ⟨w.heap.size + 1, 2, none⟩ = some (.int .i64 0) := (blk_cell C1.out 2).trans rfl
  have r3 : w2.cell? ⟨w.heap.size + 1, 3, none⟩ = some (.int .i64 0) := (blk_cell C1.out 3).trans rfl
  have g0 : w2.frozen? ⟨w.heap.size + 1, 0, none⟩ = false := blk_frozen C1.out 0
  have g1 : w2.frozen? ⟨w.heap.size + 1, 1, none⟩ = false := blk_frozen C1.out 1
  have g2 : w2.frozen? ⟨w.heap.size + 1, 2, none⟩ = false := blk_frozen C1.out 2
  have g3 : w2.frozen? ⟨w.heap.size + 1, 3, none⟩ = false := blk_frozen C1.out 3
  go_wp2_with (first | (go_at_call 117; refine (chain_Step_going.calls lv fr l du _ w2 rfl).mono ?_; rintro e w3 ⟨rfl, hb⟩; have HC3 := Aside0.mk (HC.out.below hb); have HU3 := Aside0.mk (HU.out.then hb); have HN3 := Aside0.mk (Nat.le_trans HN.out hb.size); have n0 := Aside0.mk (blk_below C0.out hb); have n1 := Aside0.mk (blk_below C1.out hb); clear hb C0 C1 c0 c1 c2 c3 r0 r1 r2 r3 g0 g1 g2 g3; have C0 := n0; have C1 := n1; clear n0 n1; have c0 : w3.cell? ⟨w.heap.size, 0, none⟩ = some (.int .i64 lv) := (blk_cell C0.out 0).trans rfl; have c1 : w3.cell? ⟨w.heap.size, 1, none⟩ = some (.int .i64 fr) := (blk_cell C0.out 1).trans rfl; have c2 : w3.cell? ⟨w.heap.size, 2, none⟩ = some (.int .i64 l) := (blk_cell C0.out 2).trans rfl; have c3 : w3.cell? ⟨w.heap.size, 3, none⟩ = some (.int .i64 du) := (blk_cell C0.out 3).trans rfl; have r0 : w3.cell? ⟨w.heap.size + 1, 0, none⟩ = some (.int .i64 0) := (blk_cell C1.out 0).trans rfl; have r1 : w3.cell? ⟨w.heap.size + 1, 1, none⟩ = some (.int .i64 0) := (blk_cell C1.out 1).trans rfl; have r2 : w3.cell? ⟨w.heap.size + 1, 2, none⟩ = some (.int .i64 0) := (blk_cell C1.out 2).trans rfl; have r3 : w3.cell? ⟨w.heap.size + 1, 3, none⟩ = some (.int .i64 0) := (blk_cell C1.out 3).trans rfl; have g0 : w3.frozen? ⟨w.heap.size + 1, 0, none⟩ = false := blk_frozen C1.out 0; have g1 : w3.frozen? ⟨w.heap.size + 1, 1, none⟩ = false := blk_frozen C1.out 1; have g2 : w3.frozen? ⟨w.heap.size + 1, 2, none⟩ = false := blk_frozen C1.out 2; have g3 : w3.frozen? ⟨w.heap.size + 1, 3, none⟩ = false := blk_frozen C1.out 3) | (go_at_call 116; refine (stepat_any lv fr l du now a b c d e w3 HC3.out HN3.out hl HA.out).mono ?_; rintro r w4 ⟨rfl, CK, UK⟩; have n0 := Aside0.mk (UK.blk C0.out (by omega)); have n1 := Aside0.mk (UK.blk C1.out (by omega)); have HC4 := Aside0.mk CK; have HU4 := Aside0.mk (HU3.out.trans UK); clear CK UK C0 C1 c0 c1 c2 c3 r0 r1 r2 r3 g0 g1 g2 g3; have C0 := n0; have C1 := n1; clear n0 n1; have c0 : w4.cell? ⟨w.heap.size, 0, none⟩ = some (.int .i64 lv) := (blk_cell C0.out 0).trans rfl; have c1 : w4.cell? ⟨w.heap.size, 1, none⟩ = some (.int .i64 fr) := (blk_cell C0.out 1).trans rfl; have c2 : w4.cell? ⟨w.heap.size, 2, none⟩ = some (.int .i64 l) := (blk_cell C0.out 2).trans rfl; have c3 : w4.cell? ⟨w.heap.size, 3, none⟩ = some (.int .i64 du) := (blk_cell C0.out 3).trans rfl; have r0 : w4.cell? ⟨w.heap.size + 1, 0, none⟩ = some (.int .i64 0) := (blk_cell C1.out 0).trans rfl; have r1 : w4.cell? ⟨w.heap.size + 1, 1, none⟩ = some (.int .i64 0) := (blk_cell C1.out 1).trans rfl; have r2 : w4.cell? ⟨w.heap.size + 1, 2, none⟩ = some (.int .i64 0) := (blk_cell C1.out 2).trans rfl; have r3 : w4.cell? ⟨w.heap.size + 1, 3, none⟩ = some (.int .i64 0) := (blk_cell C1.out 3).trans rfl; have g0 : w4.frozen? ⟨w.heap.size + 1, 0, none⟩ = false := blk_frozen C1.out 0; have g1 : w4.frozen? ⟨w.heap.size + 1, 1, none⟩ = false := blk_frozen C1.out 1; have g2 : w4.frozen? ⟨w.heap.size + 1, 2, none⟩ = false := blk_frozen C1.out 2; have g3 : w4.frozen? ⟨w.heap.size + 1, 3, none⟩ = false := blk_frozen C1.out 3))
  obtain ⟨C9, U9, E9⟩ := put4 C1.out HC4.out HU4.out (by omega) (.int .i64 a) (.int .i64 b) (.int .i64 c) (.int .i64 d)
  have k0 := (blk_cell E9 0).trans (rfl : _ = some (Value.int .i64 a))
  have k1 := (blk_cell E9 1).trans (rfl : _ = some (Value.int .i64 b))
  have k2 := (blk_cell E9 2).trans (rfl : _ = some (Value.int .i64 c))
  have k3 := (blk_cell E9 3).trans (rfl : _ = some (Value.int .i64 d))
  refine bodyPost_ret (v := .tuple #[.agg #[.int .i64 a, .int .i64 b, .int .i64 c, .int .i64 d], .int .i64 e]) (by simp [results, Tryz.results80, go_sem, k0, k1, k2, k3]) rfl ⟨rfl, C9, U9⟩
theorem stand_any (hk : CalOk off week closed) (lv fr l du now a b c d e : Int) (w : World) (h : ClkAt w n kb ab pb cb off week closed) (hn : n ≤ w.heap.size) (hl : l ≤ 9223372036854775807) (hd : standP off week closed lv fr l du now = (a, b, c, d, e)) :
    Calls Tryz.prog 79 #[.pointer (some ⟨kb, 0, none⟩), .agg #[.int .i64 lv, .int .i64 fr, .int .i64 l, .int .i64 du], .int .i64 now] w fun r w' => r = .returned (.tuple #[.agg #[.int .i64 a, .int .i64 b, .int .i64 c, .int .i64 d], .int .i64 e]) ∧ ClkAt w' n kb ab pb cb off week closed ∧ Upd cb w w' := by
  unfold standP at hd
  by_cases h1 : du = 0
  · rw [if_pos h1] at hd; cases hd; exact stand_state lv fr l du now w h hn h1
  · rw [if_neg h1] at hd
    by_cases h2 : du ≤ now
    · rw [if_pos h2] at hd; cases hd; exact stand_old lv fr l du now w h hn h1 h2
    · rw [if_neg h2] at hd
      by_cases h3 : (restR off week closed fr l now).2 = 0
      · rw [if_pos h3] at hd; cases hd; exact stand_ok lv fr l du now w h hn hk hl h1 h2 _ (Prod.ext rfl h3)
      · rw [if_neg h3] at hd; cases hd; exact stand_no lv fr l du now w h hn hk hl h1 h2 _ _ rfl h3
theorem go_any (lv fr l du now a b c d e : Int) (w : World) (h : ClkAt w n kb ab pb cb off week closed) (hn : n ≤ w.heap.size) (hl : l ≤ 9223372036854775807) (hd : goP off week closed lv l du now = (a, b, c, d, e)) :
    Calls Tryz.prog 80 #[.pointer (some ⟨kb, 0, none⟩), .agg #[.int .i64 lv, .int .i64 fr, .int .i64 l, .int .i64 du], .int .i64 now] w fun r w' => r = .returned (.tuple #[.agg #[.int .i64 a, .int .i64 b, .int .i64 c, .int .i64 d], .int .i64 e]) ∧ ClkAt w' n kb ab pb cb off week closed ∧ Upd cb w w' := by
  unfold goP at hd
  by_cases h1 : du = 0
  · rw [if_neg (show ¬ du ≠ 0 by simpa using h1)] at hd
    by_cases h2 : l < 1
    · rw [if_pos h2] at hd; cases hd; exact go_arg lv fr l du now w h hn h1 h2
    · rw [if_neg h2] at hd; exact go_ok lv fr l du now w h hn hl h1 h2 a b c d e hd
  · rw [if_pos h1] at hd; cases hd; exact go_state lv fr l du now w h hn h1
end Go.Proofs.YtepldlnmeenlbaaGreat.Own
namespace Go.Proofs.YtepldlnmeenlbaaGreat.Own
open Go.RowKit Go.Proofs Go.Proofs.YtepldlnmeenlbaaGreatW.PrintWords Go.Proofs.YtepldlnmeenlbaaGreatW.PrintLast Go.Proofs.YtepldlnmeenlbaaGreatW.PrintMore Go.Proofs.YtepldlnmeenlbaaGreat.Base
variable {w w' : World} {n kb ab pb cb : Nat} {off : Int} {week closed : List S114} {A : Option Addr} {k : Nat} {ls : List S71}
set_option maxHeartbeats 4000000 in
set_option maxRecDepth 100000 in
theorem first_no (cal re ba now : Int) (w : World) (h : ClkAt w n kb ab pb cb off week closed) (hn : n ≤ w.heap.size) (h1 : Kd.C k71 w A ls.length ls ∧ ls.length ≤ k) (hg : goodP cal ls re ba = false) :
    Calls Tryz.prog 78 #[.pointer (some ⟨kb, 0, none⟩), .agg #[.int .i64 cal, .slice A ls.length k, .int .i64 re, .int .i64 ba], .int .i64 now] w fun r w' => r = .returned (.tuple #[.agg #[.int .i64 0, .int .i64 0, .int .i64 0, .int .i64 0], .int .i64 2]) ∧ ClkAt w' n kb ab pb cb off week closed ∧ Upd cb w w' := by
  have HG := Aside0.mk (show (if goodP cal ls re ba = true then (0 : Int) else 2) = 2 by rw [hg]; rfl)
  clear hg
  have hcb := h.lt
  have C0 : Aside0 (((w.alloc (.cells #[.int .i64 cal, .slice A ls.length k, .int .i64 re, .int .i64 ba] 48)).alloc (.cells #[.int .i64 0, .int .i64 0, .int .i64 0, .int .i64 0] 75)).heap[w.heap.size]? = some (.cells #[.int .i64 cal, .slice A ls.length k, .int .i64 re, .int .i64 ba] 48 (0, 0))) := ⟨blk_alloc (blk_new w _) _⟩
  have C1 : Aside0 (((w.alloc (.cells #[.int .i64 cal, .slice A ls.length k, .int .i64 re, .int .i64 ba] 48)).alloc (.cells #[.int .i64 0, .int .i64 0, .int .i64 0, .int .i64 0] 75)).heap[w.heap.size + 1]? = some (.cells #[.int .i64 0, .int .i64 0, .int .i64 0, .int .i64 0] 75 (0, 0))) := ⟨by simpa using blk_new (w.alloc (.cells #[.int .i64 cal, .slice A ls.length k, .int .i64 re, .int .i64 ba] 48)) (.cells #[.int .i64 0, .int .i64 0, .int .i64 0, .int .i64 0] 75)⟩
  have HB := below_alloc (below_alloc (Below.refl w.heap.size w) (.cells #[.int .i64 cal, .slice A ls.length k, .int .i64 re, .int .i64 ba] 48)) (.cells #[.int .i64 0, .int .i64 0, .int .i64 0, .int .i64 0] 75)
  have HC := Aside0.mk (h.below HB)
  have HU := Aside0.mk (Upd.of_below (b := cb) HB)
  have HN := Aside0.mk (Nat.le_trans hn HB.size)
  have HL : Aside0 (Kd.C k71 _ A ls.length ls ∧ ls.length ≤ k) := ⟨⟨Kd.C_below h1.1 HB, h1.2⟩⟩
  clear h HB h1
  go_enter Tryz.func78, Tryz.ntmps78
  go_wp2_with fail
  generalize ((w.alloc (.cells #[.int .i64 cal, .slice A ls.length k, .int .i64 re, .int .i64 ba] 48)).alloc (.cells #[.int .i64 0, .int .i64 0, .int .i64 0, .int .i64 0] 75)) = w2 at C0 C1 HC HU HN HL ⊢
  have c0 : w2.cell? ⟨w.heap.size, 0, none⟩ = some (.int .i64 cal) := (blk_cell C0.out 0).trans rfl
  have c1 : w2.cell? ⟨w.heap.size, 1, none⟩ = some (.slice A ls.length k) := (blk_cell C0.out 1).trans rfl
  have c2 : w2.cell? ⟨w.heap.size, 2, none⟩ = some (.int .i64 re) := (blk_cell C0.out 2).trans rfl
  have c3 : w2.cell? ⟨w.heap.size, 3, none⟩ = some (.int .i64 ba) := (blk_cell C0.out 3).trans rfl
  have r0 : w2.cell? ⟨w.heap.size + 1, 0, none⟩ = some (.int .i64 0) := (blk_cell C1.out 0).trans rfl
  have r1 : w2.cell? ⟨w.heap.size + 1, 1, none⟩ = some (.int .i64 0) := (blk_cell C1.out 1).trans rfl
  have r2 : w2.cell? ⟨w.heap.size + 1, 2, none⟩ = some (.int .i64 0) := (blk_cell C1.out 2).trans rfl
  have r3 : w2.cell? ⟨w.heap.size + 1, 3, none⟩ = some (.int .i64 0) := (blk_cell C1.out 3).trans rfl
  have g0 : w2.frozen? ⟨w.heap.size + 1, 0, none⟩ = false := blk_frozen C1.out 0
  have g1 : w2.frozen? ⟨w.heap.size + 1, 1, none⟩ = false := blk_frozen C1.out 1
  have g2 : w2.frozen? ⟨w.heap.size + 1, 2, none⟩ = false := blk_frozen C1.out 2
  have g3 : w2.frozen? ⟨w.heap.size + 1, 3, none⟩ = false := blk_frozen C1.out 3
  go_wp2_with (go_at_call 24; refine (check14_any w2 HL.out).mono ?_; rintro e w3 ⟨rfl, hb⟩; rw [HG.out]; have HC3 := Aside0.mk (HC.out.below hb); have HU3 := Aside0.mk (HU.out.then hb); have HN3 := Aside0.mk (Nat.le_trans HN.out hb.size); have HL3 : Aside0 (Kd.C k71 w3 A ls.length ls ∧ ls.length ≤ k) := ⟨⟨Kd.C_below HL.out.1 hb, HL.out.2⟩⟩; have n0 := Aside0.mk (blk_below C0.out hb); have n1 := Aside0.mk (blk_below C1.out hb); clear hb; clear C0 C1 c0 c1 c2 c3 r0 r1 r2 r3 g0 g1 g2 g3; have C0 := n0; have C1 := n1; clear n0 n1; have c0 : w3.cell? ⟨w.heap.size, 0, none⟩ = some (.int .i64 cal) := (blk_cell C0.out 0).trans rfl; have c1 : w3.cell? ⟨w.heap.size, 1, none⟩ = some (.slice A ls.length k) := (blk_cell C0.out 1).trans rfl; have c2 : w3.cell? ⟨w.heap.size, 2, none⟩ = some (.int .i64 re) := (blk_cell C0.out 2).trans rfl; have c3 : w3.cell? ⟨w.heap.size, 3, none⟩ = some (.int .i64 ba) := (blk_cell C0.out 3).trans rfl; have r0 : w3.cell? ⟨w.heap.size + 1, 0, none⟩ = some (.int .i64 0) := (blk_cell C1.out 0).trans rfl; have r1 : w3.cell? ⟨w.heap.size + 1, 1, none⟩ = some (.int .i64 0) := (blk_cell C1.out 1).trans rfl; have r2 : w3.cell? ⟨w.heap.size + 1, 2, none⟩ = some (.int .i64 0) := (blk_cell C1.out 2).trans rfl; have r3 : w3.cell? ⟨w.heap.size + 1, 3, none⟩ = some (.int .i64 0) := (blk_cell C1.out 3).trans rfl; have g0 : w3.frozen? ⟨w.heap.size + 1, 0, none⟩ = false := blk_frozen C1.out 0; have g1 : w3.frozen? ⟨w.heap.size + 1, 1, none⟩ = false := blk_frozen C1.out 1; have g2 : w3.frozen? ⟨w.heap.size + 1, 2, none⟩ = false := blk_frozen C1.out 2; have g3 : w3.frozen? ⟨w.heap.size + 1, 3, none⟩ = false := blk_frozen C1.out 3)
  obtain ⟨C9, U9, E9⟩ := put4 C1.out HC3.out HU3.out (by omega) (.int .i64 0) (.int .i64 0) (.int .i64 0) (.int .i64 0)
  have k0 := (blk_cell E9 0).trans (rfl : _ = some (Value.int .i64 0))
  have k1 := (blk_cell E9 1).trans (rfl : _ = some (Value.int .i64 0))
  have k2 := (blk_cell E9 2).trans (rfl : _ = some (Value.int .i64 0))
  have k3 := (blk_cell E9 3).trans (rfl : _ = some (Value.int .i64 0))
  refine bodyPost_ret (v := .tuple #[.agg #[.int .i64 0, .int .i64 0, .int .i64 0, .int .i64 0], .int .i64 2]) (by simp [results, Tryz.results78, go_sem, k0, k1, k2, k3]) rfl ⟨rfl, C9, U9⟩
set_option maxHeartbeats 4000000 in
set_option maxRecDepth 100000 in
theorem first_ok (cal re ba now : Int) (w : World) (h : ClkAt w n kb ab pb cb off week closed) (hn : n ≤ w.heap.size) (h1 : Kd.C k71 w A ls.length ls ∧ ls.length ≤ k) (hg : goodP cal ls re ba = true) (a b c d e : Int) (ha : atS off week closed 0 (rd_T71 ls 0).f0 now = (a, b, c, d, e)) :
    Calls Tryz.prog 78 #[.pointer (some ⟨kb, 0, none⟩), .agg #[.int .i64 cal, .slice A ls.length k, .int .i64 re, .int .i64 ba], .int .i64 now] w fun r w' => r = .returned (.tuple #[.agg #[.int .i64 a, .int .i64 b, .int .i64 c, .int .i64 d], .int .i64 e]) ∧ ClkAt w' n kb ab pb cb off week closed ∧ Upd cb w w' := by
  have HG := Aside0.mk (show (if goodP cal ls re ba = true then (0 : Int) else 2) = 0 by rw [hg]; rfl)
  obtain ⟨gg, gl⟩ := goodP_iff.1 hg
  have p0 : (0 : Int) < ls.length := by omega
  have p1 : 0 < ls.length := by omega
  have hm := gl (rd_T71 ls ((0 : Nat) : Int)) (by rw [rdL_at ls 0 (by omega)]; exact List.getElem_mem _)
  rw [Int.natCast_zero] at hm
  obtain ⟨b0, b1, _, _⟩ := hm
  obtain ⟨ad, e1, hx0, hx1⟩ := at_T71 h1.1 0 (Int.le_refl _) (by omega)
  subst e1
  generalize (rd_T71 ls 0).f0 = B at ha b0 b1 hx0
  have HA := Aside0.mk ha
  have HX : Aside0 (w.cell? ad = some (.int .i64 B)) := ⟨by have := hx0; rwa [show ad.add ((0 : Int).toNat * 2) = ad from by simp [Addr.add]] at this⟩
  clear hg gg gl hx0 hx1 ha
  have hcb := h.lt
  have C0 : Aside0 (((w.alloc (.cells #[.int .i64 cal, .slice (some ad) ls.length k, .int .i64 re, .int .i64 ba] 48)).alloc (.cells #[.int .i64 0, .int .i64 0, .int .i64 0, .int .i64 0] 75)).heap[w.heap.size]? = some (.cells #[.int .i64 cal, .slice (some ad) ls.length k, .int .i64 re, .int .i64 ba] 48 (0, 0))) := ⟨blk_alloc (blk_new w _) _⟩
  have C1 : Aside0 (((w.alloc (.cells #[.int .i64 cal, .slice (some ad) ls.length k, .int .i64 re, .int .i64 ba] 48)).alloc (.cells #[.int .i64 0, .int .i64 0, .int .i64 0, .int .i64 0] 75)).heap[w.heap.size + 1]? = some (.cells #[.int .i64 0, .int .i64 0, .int .i64 0, .int .i64 0] 75 (0, 0))) := ⟨by simpa using blk_new (w.alloc (.cells #[.int .i64 cal, .slice (some ad) ls.length k, .int .i64 re, .int .i64 ba] 48)) (.cells #[.int .i64 0, .int .i64 0, .int .i64 0, .int .i64 0] 75)⟩
  have HB := below_alloc (below_alloc (Below.refl w.heap.size w) (.cells #[.int .i64 cal, .slice (some ad) ls.length k, .int .i64 re, .int .i64 ba] 48)) (.cells #[.int .i64 0, .int .i64 0, .int .i64 0, .int .i64 0] 75)
  have HC := Aside0.mk (h.below HB)
  have HU := Aside0.mk (Upd.of_below (b := cb) HB)
  have HN := Aside0.mk (Nat.le_trans hn HB.size)
  have HL : Aside0 (Kd.C k71 _ (some ad) ls.length ls ∧ ls.length ≤ k) := ⟨⟨Kd.C_below h1.1 HB, h1.2⟩⟩
  have X0 := Aside0.mk ((HB.cell (World.block_lt_of_cell? w _ HX.out)).trans HX.out)
  clear h HB h1 HX
  go_enter Tryz.func78, Tryz.ntmps78
  go_wp2_with fail
  generalize ((w.alloc (.cells #[.int .i64 cal, .slice (some ad) ls.length k, .int .i64 re, .int .i64 ba] 48)).alloc (.cells #[.int .i64 0, .int .i64 0, .int .i64 0, .int .i64 0] 75)) = w2 at C0 C1 HC HU HN HL X0 ⊢
  have c0 : w2.cell? ⟨w.heap.size, 0, none⟩ = some (.int .i64 cal) := (blk_cell C0.out 0).trans rfl
  have c1 : w2.cell? ⟨w.heap.size, 1, none⟩ = some (.slice (some ad) ls.length k) := (blk_cell C0.out 1).trans rfl
  have c2 : w2.cell? ⟨w.heap.size, 2, none⟩ = some (.int .i64 re) := (blk_cell C0.out 2).trans rfl
  have c3 : w2.cell? ⟨w.heap.size, 3, none⟩ = some (.int .i64 ba) := (blk_cell C0.out 3).trans rfl
  have r0 : w2.cell? ⟨w.heap.size + 1, 0, none⟩ = some (.int .i64 0) := (blk_cell C1.out 0).trans rfl
  have r1 : w2.cell? ⟨w.heap.size + 1, 1, none⟩ = some (.int .i64 0) := (blk_cell C1.out 1).trans rfl
  have r2 : w2.cell? ⟨w.heap.size + 1, 2, none⟩ = some (.int .i64 0) := (blk_cell C1.out 2).trans rfl
  have r3 : w2.cell? ⟨w.heap.size + 1, 3, none⟩ = some (.int .i64 0) := (blk_cell C1.out 3).trans rfl
  have g0 : w2.frozen? ⟨w.heap.size + 1, 0, none⟩ = false := blk_frozen C1.out 0
  have g1 : w2.frozen? ⟨w.heap.size + 1, 1, none⟩ = false := blk_frozen C1.out 1
  have g2 : w2.frozen? ⟨w.heap.size + 1, 2, none⟩ = false := blk_frozen C1.out 2
  have g3 : w2.frozen? ⟨w.heap.size + 1, 3, none⟩ = false := blk_frozen C1.out 3
  go_wp2_with (first | (go_at_call 24; refine (check14_any w2 HL.out).mono ?_; rintro e w3 ⟨rfl, hb⟩; rw [HG.out]; have HC3 := Aside0.mk (HC.out.below hb); have HU3 := Aside0.mk (HU.out.then hb); have HN3 := Aside0.mk (Nat.le_trans HN.out hb.size); have HL3 : Aside0 (Kd.C k71 w3 (some ad) ls.length ls ∧ ls.length ≤ k) := ⟨⟨Kd.C_below HL.out.1 hb, HL.out.2⟩⟩; have n0 := Aside0.mk (blk_below C0.out hb); have n1 := Aside0.mk (blk_below C1.out hb); have y0 : w3.cell? ad = some (.int .i64 B) := (hb.cell (World.block_lt_of_cell? w2 _ X0.out)).trans X0.out; clear hb X0; clear C0 C1 c0 c1 c2 c3 r0 r1 r2 r3 g0 g1 g2 g3; have C0 := n0; have C1 := n1; clear n0 n1; have c0 : w3.cell? ⟨w.heap.size, 0, none⟩ = some (.int .i64 cal) := (blk_cell C0.out 0).trans rfl; have c1 : w3.cell? ⟨w.heap.size, 1, none⟩ = some (.slice (some ad) ls.length k) := (blk_cell C0.out 1).trans rfl; have c2 : w3.cell? ⟨w.heap.size, 2, none⟩ = some (.int .i64 re) := (blk_cell C0.out 2).trans rfl; have c3 : w3.cell? ⟨w.heap.size, 3, none⟩ = some (.int .i64 ba) := (blk_cell C0.out 3).trans rfl; have r0 : w3.cell? ⟨w.heap.size + 1, 0, none⟩ = some (.int .i64 0) := (blk_cell C1.out 0).trans rfl; have r1 : w3.cell? ⟨w.heap.size + 1, 1, none⟩ = some (.int .i64 0) := (blk_cell C1.out 1).trans rfl; have r2 : w3.cell? ⟨w.heap.size + 1, 2, none⟩ = some (.int .i64 0) := (blk_cell C1.out 2).trans rfl; have r3 : w3.cell? ⟨w.heap.size + 1, 3, none⟩ = some (.int .i64 0) := (blk_cell C1.out 3).trans rfl; have g0 : w3.frozen? ⟨w.heap.size + 1, 0, none⟩ = false := blk_frozen C1.out 0; have g1 : w3.frozen? ⟨w.heap.size + 1, 1, none⟩ = false := blk_frozen C1.out 1; have g2 : w3.frozen? ⟨w.heap.size + 1, 2, none⟩ = false := blk_frozen C1.out 2; have g3 : w3.frozen? ⟨w.heap.size + 1, 3, none⟩ = false := blk_frozen C1.out 3) | (go_at_call 116; refine (stepat_any 0 0 B 0 now a b c d e w3 HC3.out HN3.out (by omega) HA.out).mono ?_; rintro r w4 ⟨rfl, CK, UK⟩; have n0 := Aside0.mk (UK.blk C0.out (by omega)); have n1 := Aside0.mk (UK.blk C1.out (by omega)); have HC4 := Aside0.mk CK; have HU4 := Aside0.mk (HU3.out.trans UK); clear CK UK; clear C0 y0 C1 c0 c1 c2 c3 r0 r1 r2 r3 g0 g1 g2 g3; have C0 := n0; have C1 := n1; clear n0 n1; have c0 : w4.cell? ⟨w.heap.size, 0, none⟩ = some (.int .i64 cal) := (blk_cell C0.out 0).trans rfl; have c1 : w4.cell? ⟨w.heap.size, 1, none⟩ = some (.slice (some ad) ls.length k) := (blk_cell C0.out 1).trans rfl; have c2 : w4.cell? ⟨w.heap.size, 2, none⟩ = some (.int .i64 re) := (blk_cell C0.out 2).trans rfl; have c3 : w4.cell? ⟨w.heap.size, 3, none⟩ = some (.int .i64 ba) := (blk_cell C0.out 3).trans rfl; have r0 : w4.cell? ⟨w.heap.size + 1, 0, none⟩ = some (.int .i64 0) := (blk_cell C1.out 0).trans rfl; have r1 : w4.cell? ⟨w.heap.size + 1, 1, none⟩ = some (.int .i64 0) := (blk_cell C1.out 1).trans rfl; have r2 : w4.cell? ⟨w.heap.size + 1, 2, none⟩ = some (.int .i64 0) := (blk_cell C1.out 2).trans rfl; have r3 : w4.cell? ⟨w.heap.size + 1, 3, none⟩ = some (.int .i64 0) := (blk_cell C1.out 3).trans rfl; have g0 : w4.frozen? ⟨w.heap.size + 1, 0, none⟩ = false := blk_frozen C1.out 0; have g1 : w4.frozen? ⟨w.heap.size + 1, 1, none⟩ = false := blk_frozen C1.out 1; have g2 : w4.frozen? ⟨w.heap.size + 1, 2, none⟩ = false := blk_frozen C1.out 2; have g3 : w4.frozen? ⟨w.heap.size + 1, 3, none⟩ = false := blk_frozen C1.out 3))
  obtain ⟨C9, U9, E9⟩ := put4 C1.out HC4.out HU4.out (by omega) (.int .i64 a) (.int .i64 b) (.int .i64 c) (.int .i64 d)
  have k0 := (blk_cell E9 0).trans (rfl : _ = some (Value.int .i64 a))
  have k1 := (blk_cell E9 1).trans (rfl : _ = some (Value.int .i64 b))
  have k2 := (blk_cell E9 2).trans (rfl : _ = some (Value.int .i64 c))
  have k3 := (blk_cell E9 3).trans (rfl : _ = some (Value.int .i64 d))
  refine bodyPost_ret (v := .tuple #[.agg #[.int .i64 a, .int .i64 b, .int .i64 c, .int .i64 d], .int .i64 e]) (by simp [results, Tryz.results78, go_sem, k0, k1, k2, k3]) rfl ⟨rfl, C9, U9⟩
theorem first_any (cal re ba now a b c d e : Int) (w : World) (h : ClkAt w n kb ab pb cb off week closed) (hn : n ≤ w.heap.size) (h1 : Kd.C k71 w A ls.length ls ∧ ls.length ≤ k) (hd : firstP off week closed cal ls re ba now = (a, b, c, d, e)) :
    Calls Tryz.prog 78 #[.pointer (some ⟨kb, 0, none⟩), .agg #[.int .i64 cal, .slice A ls.length k, .int .i64 re, .int .i64 ba], .int .i64 now] w fun r w' => r = .returned (.tuple #[.agg #[.int .i64 a, .int .i64 b, .int .i64 c, .int .i64 d], .int .i64 e]) ∧ ClkAt w' n kb ab pb cb off week closed ∧ Upd cb w w' := by
  unfold firstP at hd
  by_cases h0 : goodP cal ls re ba = true
  · rw [if_pos h0] at hd; exact first_ok cal re ba now w h hn h1 h0 a b c d e hd
  · rw [if_neg h0] at hd; cases hd; exact first_no cal re ba now w h hn h1 (by simpa using h0)
end Go.Proofs.YtepldlnmeenlbaaGreat.Own
