/- TicketSound, part 5: what the claim needs of Base9, Tkf, Tks, Wr, Rd. -/
import Derived.Test.YtepldlnmeenlbaaTicketSound4
import Derived.Test.YtepldlnmeenlbaaProg
import Derived.Below
import Derived.Deep.Draws
import Derived.Deep.AppendLies
import Derived.Maps.AppendAt
import Derived.OwnWalk
import Derived.Laws.BytesArg
import Derived.Laws.MakeOwn
import Derived.Laws.OwnMore
import Derived.Deep.OwnRows
import Derived.Tactics
import Derived.Lib.ConvBytes
import Derived.Laws.Slices
import Derived.WalkKit
import Derived.KernelRfl
import Derived.RowKit3
import Derived.Deep.LoopGhost
import Derived.Deep.QuietTactic
import Derived.BigQuiet
import Derived.WideLaws
import Derived.Deep.DeepCutAuto
import Derived.Deep.CutBlock
import Derived.Deep.RegionHeld3
import Derived.Laws.Rows
import Derived.Lib.AppendStr
import Derived.ArgAppend
import Derived.Laws.IdiomCopy
import Derived.OrdersHeld
import Derived.Laws.BitsLemmas
import Derived.RowKit
import Derived.Laws.StructEq
import Derived.Tactics2
import Derived.Defers
import Derived.Laws.Pointers
import Derived.Laws.LoneSync
import Derived.Laws.NewBlocks
import Derived.RegionTactic
import Derived.RegionCalls
import Derived.ChangeAlike
import Derived.StillTailTactics
import Derived.Outline
import Derived.Handy
import Derived.SizedLaws
import Derived.ChangeSlices
import Derived.Laws.EntriesVeiled
import Derived.WalkSpells
import Derived.RangeFuncNested
import Derived.RangeFuncBound
import Derived.RangeFuncCalls
import Derived.RangeFuncLeaves
import Derived.Shelf.Abstract
import Derived.Shelf.RegionOpen
import Derived.OwnWalkIn
import Derived.TacticsInMore
import Derived.LoopNIn
import Derived.LoopIn
import Derived.OrdersIn
set_option linter.unusedVariables false
set_option linter.unusedSimpArgs false
namespace Go.Proofs.Ytepldlnmeenlbaa.Base
open Go.RowKit Go.Proofs.YtepldlnmeenlbaaW.PrintWords Go.Proofs.YtepldlnmeenlbaaW.PrintLast Go.Proofs.YtepldlnmeenlbaaW.PrintMore
attribute [local go_sem] max2_int min2_int max_two min_two max_three min_three max_four min_four   -- for this text's walks alone
attribute [local go_sem high] eqA143
def ticket_with.f (a0_0 : Int) (a0_1 : Int) (a0_2 : Int) (a0_3 : Int) (a0_4 : Int) (a0_5 : Int) (a0_6 : Int) (a0_7 : Int) (a0_8 : Int) (a1 : Int) (a2_0 : Int) (a2_1 : Int) (a2_2 : Int) (a2_3 : Int) (a3 : Int) : Option (Int × Int × Int × Int × Int × Int × Int × Int × Int × Int) := if a3 = 0 then (some (a0_0, a0_1, a1, a2_0, 0, a2_1, a2_2, a2_3, a0_8, 0)) else (some (0, 0, 0, 0, 0, 0, 0, 0, 0, a3))
def ticket_with.T4 : Bool × List (List Nat × List Nat) := (true, [([], []), ([0], [0]), ([], []), ([2], [2]), ([], []), ([4], [4]), ([], []), ([6], [6]), ([0, 1], []), ([8, 1, 0, 1], [1, 8]), ([0, 1, 2, 3, 8, 9], []), ([10, 3, 9, 0, 1, 2, 3, 8, 9], [3, 10]), ([0, 1, 2, 3, 4, 5, 8, 9, 10, 11], []), ([12, 5, 11, 0, 1, 2, 3, 4, 5, 8, 9, 10, 11], [5, 12]), ([0, 1, 2, 3, 4, 5, 6, 7, 8, 9, 10, 11, 12, 13], []), ([14, 7, 13, 0, 1, 2, 3, 4, 5, 6, 7, 8, 9, 10, 11, 12, 13], [7, 14])])
def ticket_with.B4 : List Nat := [0, 1, 0, 4, 0, 16, 0, 64, 3, 259, 783, 1807, 3903, 7999, 16383, 32767]
theorem ticket_with.tab4 : rtab .any (opsOf Try.f57 4) = ticket_with.T4 := by kernel_rfl
theorem ticket_with.bits4 : waitsOk ticket_with.T4.2 ticket_with.B4 = true := by kernel_rfl
set_option maxHeartbeats 8000000 in
set_option maxRecDepth 100000 in
theorem ticket_with.calls (a0_0 : Int) (a0_1 : Int) (a0_2 : Int) (a0_3 : Int) (a0_4 : Int) (a0_5 : Int) (a0_6 : Int) (a0_7 : Int) (a0_8 : Int) (a1 : Int) (a2_0 : Int) (a2_1 : Int) (a2_2 : Int) (a2_3 : Int) (a3 : Int) (r1 : Int) (r2 : Int) (r3 : Int) (r4 : Int) (r5 : Int) (r6 : Int) (r7 : Int) (r8 : Int) (r9 : Int) (r10 : Int) (w : World) (h : ticket_with.f a0_0 a0_1 a0_2 a0_3 a0_4 a0_5 a0_6 a0_7 a0_8 a1 a2_0 a2_1 a2_2 a2_3 a3 = some (r1, r2, r3, r4, r5, r6, r7, r8, r9, r10)) :
    Calls Try.prog 57 #[.agg #[.int .u64 a0_0, .int .i64 a0_1, .int .i64 a0_2, .int .i64 a0_3, .int .u64 a0_4, .int .i64 a0_5, .int .i64 a0_6, .int .i64 a0_7, .int .i64 a0_8], .int .i64 a1, .agg #[.int .i64 a2_0, .int .i64 a2_1, .int .i64 a2_2, .int .i64 a2_3], .int .i64 a3] w fun e w' => e = .returned (.tuple #[.agg #[.int .u64 r1, .int .i64 r2, .int .i64 r3, .int .i64 r4, .int .u64 r5, .int .i64 r6, .int .i64 r7, .int .i64 r8, .int .i64 r9], .int .i64 r10]) ∧ Below w.heap.size w w' := by
  have hu24 := Try.underlying24
  have hu108 := Try.underlying108
  have HB := Aside0.mk (Below.refl w.heap.size w)
  have H : (if a3 = 0 then (some (a0_0, a0_1, a1, a2_0, 0, a2_1, a2_2, a2_3, a0_8, 0)) else (some (0, 0, 0, 0, 0, 0, 0, 0, 0, a3))) = some (r1, r2, r3, r4, r5, r6, r7, r8, r9, r10) := h
  clear h
  by_cases c5 : a3 = 0
  · rw [if_pos c5] at H
    have c5b0 : (a3 == 0) = true := beq_iff_eq.mpr c5
    have c5b1 : (a3 != 0) = false := bne_eq_false_iff_eq.mpr c5
    clear c5
    simp only [Option.some.injEq, Prod.mk.injEq] at H
    obtain ⟨rfl, rfl, rfl, rfl, rfl, rfl, rfl, rfl, rfl, rfl⟩ := H
    go_enter Try.func57, Try.ntmps57
    try go_wp2_with (first | ((with_reducible refine gate_dst (N := 4) rfl ?_); refine box_event ?hg (N := 4) ?hd (cs := #[.int .u64 a0_0, .int .i64 a0_1, .int .i64 a0_2, .int .i64 a0_3, .int .u64 a0_4, .int .i64 a0_5, .int .i64 a0_6, .int .i64 a0_7, .int .i64 a0_8]) (t := 24) ?hr ?_; (case hd => rfl); (case hg => rfl); (case hr => first | (go_simp; done) | (go_simp; rfl)); intro gb180 hg w6 hbox hb; have n0_ := Aside0.mk (below_step (by repeat (first | (with_reducible first | exact HB.out | apply below_alloc | apply pw_below_drewN | apply below_drew1) | exact HB.out)) hb); have n1_ := Aside0.mk (hbox); have n2_ := Aside0.mk ((by rw [hg]; exact (below_size (by repeat (first | (with_reducible first | exact HB.out | apply below_alloc | apply pw_below_drewN | apply below_drew1) | exact HB.out))) : w.heap.size ≤ gb180)); have n3_ := Aside0.mk ((by rw [hg]; exact (below_size (by repeat (first | (with_reducible first | exact HB.out | apply below_alloc | apply pw_below_drewN | apply below_drew1) | exact HB.out))) : w.heap.size ≤ gb180)); clear HB; have HB := n0_; have BK180 := n1_; have GW180 := n2_; have GE180 := n3_; clear n0_ n1_ n2_ n3_; clear hb hbox hg) | ((with_reducible refine gate_dst (N := 6) rfl ?_); refine box_event ?hg (N := 6) ?hd (cs := #[.int .i64 a2_0, .int .i64 a2_1, .int .i64 a2_2, .int .i64 a2_3]) (t := 108) ?hr ?_; (case hd => rfl); (case hg => rfl); (case hr => first | (go_simp; done) | (go_simp; rfl)); intro gb181 hg w7 hbox hb; have n0_ := Aside0.mk (blk_below (g := gb180) (o := .cells #[.int .u64 a0_0, .int .i64 a0_1, .int .i64 a0_2, .int .i64 a0_3, .int .u64 a0_4, .int .i64 a0_5, .int .i64 a0_6, .int .i64 a0_7, .int .i64 a0_8] 24 (0, 0)) (by (with_reducible repeat (first | refine blk_drewN ?_ _ | refine blk_drew ?_ | refine blk_alloc ?_ _)); exact BK180.out) hb); have n1_ := Aside0.mk (below_step (by repeat (first | (with_reducible first | exact HB.out | apply below_alloc | apply pw_below_drewN | apply below_drew1 | refine below_set ?_ GE180.out) | exact HB.out)) hb); have n2_ := Aside0.mk (hbox); have n3_ := Aside0.mk ((by rw [hg]; exact (below_size (by repeat (first | (with_reducible first | exact HB.out | apply below_alloc | apply pw_below_drewN | apply below_drew1 | refine below_set ?_ GE180.out) | exact HB.out))) : w.heap.size ≤ gb181)); have n4_ := Aside0.mk ((by rw [hg]; exact (below_size (by repeat (first | (with_reducible first | exact HB.out | apply below_alloc | apply pw_below_drewN | apply below_drew1 | refine below_set ?_ GE180.out) | exact HB.out))) : w.heap.size ≤ gb181)); have n5_ := Aside0.mk ((by rw [hg]; exact Nat.ne_of_lt (blk_lt (g := gb180) (o := .cells #[.int .u64 a0_0, .int .i64 a0_1, .int .i64 a0_2, .int .i64 a0_3, .int .u64 a0_4, .int .i64 a0_5, .int .i64 a0_6, .int .i64 a0_7, .int .i64 a0_8] 24 (0, 0)) (by (with_reducible repeat (first | refine blk_drewN ?_ _ | refine blk_drew ?_ | refine blk_alloc ?_ _)); exact BK180.out)) : gb180 ≠ gb181)); have n6_ := Aside0.mk ((by rw [hg]; exact Nat.ne_of_gt (blk_lt (g := gb180) (o := .cells #[.int .u64 a0_0, .int .i64 a0_1, .int .i64 a0_2, .int .i64 a0_3, .int .u64 a0_4, .int .i64 a0_5, .int .i64 a0_6, .int .i64 a0_7, .int .i64 a0_8] 24 (0, 0)) (by (with_reducible repeat (first | refine blk_drewN ?_ _ | refine blk_drew ?_ | refine blk_alloc ?_ _)); exact BK180.out)) : gb181 ≠ gb180)); clear BK180; clear HB; have BK180 := n0_; have HB := n1_; have BK181 := n2_; have GW181 := n3_; have GE181 := n4_; have NB180_181 := n5_; have NB181_180 := n6_; clear n0_ n1_ n2_ n3_ n4_ n5_ n6_; clear hb hbox hg) | ((with_reducible refine gate_dst (N := 8) rfl ?_); refine box_event ?hg (N := 8) ?hd (cs := #[.int .u64 0, .int .i64 0, .int .i64 0, .int .i64 0, .int .u64 0, .int .i64 0, .int .i64 0, .int .i64 0, .int .i64 0]) (t := 24) ?hr ?_; (case hd => rfl); (case hg => rfl); (case hr => first | (go_simp; done) | (go_simp; rfl)); intro gb182 hg w8 hbox hb; have n0_ := Aside0.mk (blk_below (g := gb180) (o := .cells #[.int .u64 a0_0, .int .i64 a0_1, .int .i64 a0_2, .int .i64 a0_3, .int .u64 a0_4, .int .i64 a0_5, .int .i64 a0_6, .int .i64 a0_7, .int .i64 a0_8] 24 (0, 0)) (by (with_reducible repeat (first | refine blk_drewN ?_ _ | refine blk_drew ?_ | refine blk_alloc ?_ _)); exact BK180.out) hb); have n1_ := Aside0.mk (blk_below (g := gb181) (o := .cells #[.int .i64 a2_0, .int .i64 a2_1, .int .i64 a2_2, .int .i64 a2_3] 108 (0, 0)) (by (with_reducible repeat (first | refine blk_drewN ?_ _ | refine blk_drew ?_ | refine blk_alloc ?_ _)); exact BK181.out) hb); have n2_ := Aside0.mk (below_step (by repeat (first | (with_reducible first | exact HB.out | apply below_alloc | apply pw_below_drewN | apply below_drew1 | refine below_set ?_ GE180.out | refine below_set ?_ GE181.out) | exact HB.out)) hb); have n3_ := Aside0.mk (hbox); have n4_ := Aside0.mk ((by rw [hg]; exact (below_size (by repeat (first | (with_reducible first | exact HB.out | apply below_alloc | apply pw_below_drewN | apply below_drew1 | refine below_set ?_ GE180.out | refine below_set ?_ GE181.out) | exact HB.out))) : w.heap.size ≤ gb182)); have n5_ := Aside0.mk ((by rw [hg]; exact (below_size (by repeat (first | (with_reducible first | exact HB.out | apply below_alloc | apply pw_below_drewN | apply below_drew1 | refine below_set ?_ GE180.out | refine below_set ?_ GE181.out) | exact HB.out))) : w.heap.size ≤ gb182)); have n6_ := Aside0.mk ((by rw [hg]; exact Nat.ne_of_lt (blk_lt (g := gb180) (o := .cells #[.int .u64 a0_0, .int .i64 a0_1, .int .i64 a0_2, .int .i64 a0_3, .int .u64 a0_4, .int .i64 a0_5, .int .i64 a0_6, .int .i64 a0_7, .int .i64 a0_8] 24 (0, 0)) (by (with_reducible repeat (first | refine blk_drewN ?_ _ | refine blk_drew ?_ | refine blk_alloc ?_ _)); exact BK180.out)) : gb180 ≠ gb182)); have n7_ := Aside0.mk ((by rw [hg]; exact Nat.ne_of_gt (blk_lt (g := gb180) (o := .cells #[.int .u64 a0_0, .int .i64 a0_1, .int .i64 a0_2, .int .i64 a0_3, .int .u64 a0_4, .int .i64 a0_5, .int .i64 a0_6, .int .i64 a0_7, .int .i64 a0_8] 24 (0, 0)) (by (with_reducible repeat (first | refine blk_drewN ?_ _ | refine blk_drew ?_ | refine blk_alloc ?_ _)); exact BK180.out)) : gb182 ≠ gb180)); have n8_ := Aside0.mk ((by rw [hg]; exact Nat.ne_of_lt (blk_lt (g := gb181) (o := .cells #[.int .i64 a2_0, .int .i64 a2_1, .int .i64 a2_2, .int .i64 a2_3] 108 (0, 0)) (by (with_reducible repeat (first | refine blk_drewN ?_ _ | refine blk_drew ?_ | refine blk_alloc ?_ _)); exact BK181.out)) : gb181 ≠ gb182)); have n9_ := Aside0.mk ((by rw [hg]; exact Nat.ne_of_gt (blk_lt (g := gb181) (o := .cells #[.int .i64 a2_0, .int .i64 a2_1, .int .i64 a2_2, .int .i64 a2_3] 108 (0, 0)) (by (with_reducible repeat (first | refine blk_drewN ?_ _ | refine blk_drew ?_ | refine blk_alloc ?_ _)); exact BK181.out)) : gb182 ≠ gb181)); clear BK180; clear BK181; clear HB; have BK180 := n0_; have BK181 := n1_; have HB := n2_; have BK182 := n3_; have GW182 := n4_; have GE182 := n5_; have NB180_182 := n6_; have NB182_180 := n7_; have NB181_182 := n8_; have NB182_181 := n9_; clear n0_ n1_ n2_ n3_ n4_ n5_ n6_ n7_ n8_ n9_; clear hb hbox hg; have hnb9 := NB180_181.out; have hnc9 := NB181_180.out; have hnb10 := NB180_182.out; have hnc10 := NB182_180.out; have hcz11_0 : w8.cell? ⟨gb180, 0, none⟩ = some (.int .u64 a0_0) := (blk_cell BK180.out 0).trans rfl; have hcz11_1 : w8.cell? ⟨gb180, 1, none⟩ = some (.int .i64 a0_1) := (blk_cell BK180.out 1).trans rfl; have hcz11_2 : w8.cell? ⟨gb180, 2, none⟩ = some (.int .i64 a0_2) := (blk_cell BK180.out 2).trans rfl; have hcz11_3 : w8.cell? ⟨gb180, 3, none⟩ = some (.int .i64 a0_3) := (blk_cell BK180.out 3).trans rfl; have hcz11_4 : w8.cell? ⟨gb180, 4, none⟩ = some (.int .u64 a0_4) := (blk_cell BK180.out 4).trans rfl; have hcz11_5 : w8.cell? ⟨gb180, 5, none⟩ = some (.int .i64 a0_5) := (blk_cell BK180.out 5).trans rfl; have hcz11_6 : w8.cell? ⟨gb180, 6, none⟩ = some (.int .i64 a0_6) := (blk_cell BK180.out 6).trans rfl; have hcz11_7 : w8.cell? ⟨gb180, 7, none⟩ = some (.int .i64 a0_7) := (blk_cell BK180.out 7).trans rfl; have hcz11_8 : w8.cell? ⟨gb180, 8, none⟩ = some (.int .i64 a0_8) := (blk_cell BK180.out 8).trans rfl; have hfz11_0 := blk_frozen BK180.out 0; have hfz11_1 := blk_frozen BK180.out 1; have hfz11_2 := blk_frozen BK180.out 2; have hfz11_3 := blk_frozen BK180.out 3; have hfz11_4 := blk_frozen BK180.out 4; have hfz11_5 := blk_frozen BK180.out 5; have hfz11_6 := blk_frozen BK180.out 6; have hfz11_7 := blk_frozen BK180.out 7; have hfz11_8 := blk_frozen BK180.out 8))
    have n0_ : Aside0 (((w8.setCell ⟨gb180, 2, none⟩ (.int .i64 a1)).setCell ⟨gb180, 4, none⟩ (.int .u64 0)).heap[gb180]? = some (.cells #[.int .u64 a0_0, .int .i64 a0_1, .int .i64 a1, .int .i64 a0_3, .int .u64 0, .int .i64 a0_5, .int .i64 a0_6, .int .i64 a0_7, .int .i64 a0_8] 24 (0, 0))) := ⟨by (with_reducible repeat (first | refine blk_drewN ?_ _ | refine blk_drew ?_ | refine blk_alloc ?_ _)); refine blk_put (cs := #[.int .u64 a0_0, .int .i64 a0_1, .int .i64 a1, .int .i64 a0_3, .int .u64 a0_4, .int .i64 a0_5, .int .i64 a0_6, .int .i64 a0_7, .int .i64 a0_8]) ?_ 4 _ rfl; (with_reducible repeat (first | refine blk_drewN ?_ _ | refine blk_drew ?_ | refine blk_alloc ?_ _)); refine blk_put (cs := #[.int .u64 a0_0, .int .i64 a0_1, .int .i64 a0_2, .int .i64 a0_3, .int .u64 a0_4, .int .i64 a0_5, .int .i64 a0_6, .int .i64 a0_7, .int .i64 a0_8]) ?_ 2 _ rfl; (with_reducible repeat (first | refine blk_drewN ?_ _ | refine blk_drew ?_ | refine blk_alloc ?_ _)); exact BK180.out⟩
    have n1_ : Aside0 (((w8.setCell ⟨gb180, 2, none⟩ (.int .i64 a1)).setCell ⟨gb180, 4, none⟩ (.int .u64 0)).heap[gb181]? = some (.cells #[.int .i64 a2_0, .int .i64 a2_1, .int .i64 a2_2, .int .i64 a2_3] 108 (0, 0))) := ⟨by (with_reducible repeat (first | refine blk_drewN ?_ _ | refine blk_drew ?_ | refine blk_alloc ?_ _)); refine blk_far ?_ NB181_180.out _; (with_reducible repeat (first | refine blk_drewN ?_ _ | refine blk_drew ?_ | refine blk_alloc ?_ _)); refine blk_far ?_ NB181_180.out _; (with_reducible repeat (first | refine blk_drewN ?_ _ | refine blk_drew ?_ | refine blk_alloc ?_ _)); exact BK181.out⟩
    have n2_ : Aside0 (((w8.setCell ⟨gb180, 2, none⟩ (.int .i64 a1)).setCell ⟨gb180, 4, none⟩ (.int .u64 0)).heap[gb182]? = some (.cells #[.int .u64 0, .int .i64 0, .int .i64 0, .int .i64 0, .int .u64 0, .int .i64 0, .int .i64 0, .int .i64 0, .int .i64 0] 24 (0, 0))) := ⟨by (with_reducible repeat (first | refine blk_drewN ?_ _ | refine blk_drew ?_ | refine blk_alloc ?_ _)); refine blk_far ?_ NB182_180.out _; (with_reducible repeat (first | refine blk_drewN ?_ _ | refine blk_drew ?_ | refine blk_alloc ?_ _)); refine blk_far ?_ NB182_180.out _; (with_reducible repeat (first | refine blk_drewN ?_ _ | refine blk_drew ?_ | refine blk_alloc ?_ _)); exact BK182.out⟩
    have n3_ : Aside0 (Below w.heap.size w ((w8.setCell ⟨gb180, 2, none⟩ (.int .i64 a1)).setCell ⟨gb180, 4, none⟩ (.int .u64 0))) := ⟨by repeat (first | (with_reducible first | exact HB.out | apply below_alloc | apply pw_below_drewN | apply below_drew1 | refine below_set ?_ GE180.out | refine below_set ?_ GE181.out | refine below_set ?_ GE182.out) | exact HB.out)⟩
    (try clear BK180)
    (try clear BK181)
    (try clear BK182)
    (try clear HB)
    generalize ((w8.setCell ⟨gb180, 2, none⟩ (.int .i64 a1)).setCell ⟨gb180, 4, none⟩ (.int .u64 0)) = w12 at n0_ n1_ n2_ n3_ ⊢
    have BK180 := n0_
    have BK181 := n1_
    have BK182 := n2_
    have HB := n3_
    clear n0_ n1_ n2_ n3_
    have n0_ := Aside0.mk (blk_drew BK180.out)
    have n1_ := Aside0.mk (blk_drew BK181.out)
    have n2_ := Aside0.mk (blk_drew BK182.out)
    have n3_ := Aside0.mk (below_drew1 HB.out)
    clear BK180
    clear BK181
    clear BK182
    clear HB
    have BK180 := n0_
    have BK181 := n1_
    have BK182 := n2_
    have HB := n3_
    clear n0_ n1_ n2_ n3_
    refine start_ (n := 16) (S := fun w' => w'.cell? ⟨gb181, 0, none⟩ = some (.int .i64 a2_0) ∧ w'.cell? ⟨gb181, 1, none⟩ = some (.int .i64 a2_1) ∧ w'.cell? ⟨gb181, 2, none⟩ = some (.int .i64 a2_2) ∧ w'.cell? ⟨gb181, 3, none⟩ = some (.int .i64 a2_3)) (ds := []) #[false, false, false, false, false, false, false, false, false, false, false, false, false, false, false, false] (by kernel_rfl) rfl rfl ⟨(blk_cell BK181.out 0).trans rfl, (blk_cell BK181.out 1).trans rfl, (blk_cell BK181.out 2).trans rfl, (blk_cell BK181.out 3).trans rfl⟩ (fun hHeld => ?_); refine with_tabW ticket_with.tab4 ticket_with.bits4 (fun HT_ HW_ => ?_)
    generalize w12.drew = w13 at BK180 BK181 BK182 HB hHeld ⊢
    refine pure_ (i := 0) (N := some 17) (v := ?_) (a' := ?_) #[true, false, false, false, false, false, false, false, false, false, false, false, false, false, false, false] rfl rfl (any_of HT_.out (by kernel_rfl)) (fun _ _ _ h => h) (Or.inl ⟨by rfl, ?_⟩) ?_ ?_
    rotate_left
    · intro w'
      go_simp
      with_reducible rfl
    rotate_left
    · simp only [Act.put, List.setIfInBounds_toArray, List.set_cons_zero, List.set_cons_succ, i64_w, i32_w]
      rfl
    refine pure_ (i := 2) (N := some 19) (v := ?_) (a' := ?_) #[true, false, true, false, false, false, false, false, false, false, false, false, false, false, false, false] rfl rfl (any_of HT_.out (by kernel_rfl)) (fun _ _ _ h => h) (Or.inl ⟨by rfl, ?_⟩) ?_ ?_
    rotate_left
    · intro w'
      go_simp
      with_reducible rfl
    rotate_left
    · simp only [Act.put, List.setIfInBounds_toArray, List.set_cons_zero, List.set_cons_succ, i64_w, i32_w]
      rfl
    refine pure_ (i := 4) (N := some 21) (v := ?_) (a' := ?_) #[true, false, true, false, true, false, false, false, false, false, false, false, false, false, false, false] rfl rfl (any_of HT_.out (by kernel_rfl)) (fun _ _ _ h => h) (Or.inl ⟨by rfl, ?_⟩) ?_ ?_
    rotate_left
    · intro w'
      go_simp
      with_reducible rfl
    rotate_left
    · simp only [Act.put, List.setIfInBounds_toArray, List.set_cons_zero, List.set_cons_succ, i64_w, i32_w]
      rfl
    refine pure_ (i := 6) (N := some 23) (v := ?_) (a' := ?_) #[true, false, true, false, true, false, true, false, false, false, false, false, false, false, false, false] rfl rfl (any_of HT_.out (by kernel_rfl)) (fun _ _ _ h => h) (Or.inl ⟨by rfl, ?_⟩) ?_ ?_
    rotate_left
    · intro w'
      go_simp
      with_reducible rfl
    rotate_left
    · simp only [Act.put, List.setIfInBounds_toArray, List.set_cons_zero, List.set_cons_succ, i64_w, i32_w]
      rfl
    refine take_ (i := 1) (N := some 18) (v := ?_) (a' := ?_) #[true, true, true, false, true, false, true, false, false, false, false, false, false, false, false, false] rfl rfl (take_ofW HT_.out HW_.out (by kernel_rfl)) (fun _ _ _ h => h) (Or.inl ⟨by rfl, ?_⟩) hHeld ?_ ?_
    rotate_left
    · rintro w' ⟨s0, s1, s2, s3⟩
      go_simp
      with_reducible rfl
    rotate_left
    · simp only [Act.put, List.setIfInBounds_toArray, List.set_cons_zero, List.set_cons_succ, i64_w, i32_w]
      rfl
    refine pure_ (i := 8) (N := some 25) (v := ?_) (a' := ?_) #[true, true, true, false, true, false, true, false, true, false, false, false, false, false, false, false] rfl rfl (any_of HT_.out (by kernel_rfl)) (fun _ _ _ h => h) (Or.inl ⟨by rfl, ?_⟩) ?_ ?_
    rotate_left
    · intro w'
      go_simp
      with_reducible rfl
    rotate_left
    · simp only [Act.put, List.setIfInBounds_toArray, List.set_cons_zero, List.set_cons_succ, i64_w, i32_w]
      rfl
    refine take_ (i := 3) (N := some 20) (v := ?_) (a' := ?_) #[true, true, true, true, true, false, true, false, true, false, false, false, false, false, false, false] rfl rfl (take_ofW HT_.out HW_.out (by kernel_rfl)) (fun _ _ _ h => h) (Or.inl ⟨by rfl, ?_⟩) hHeld ?_ ?_
    rotate_left
    · rintro w' ⟨s0, s1, s2, s3⟩
      go_simp
      with_reducible rfl
    rotate_left
    · simp only [Act.put, List.setIfInBounds_toArray, List.set_cons_zero, List.set_cons_succ, i64_w, i32_w]
      rfl
    refine take_ (i := 5) (N := some 22) (v := ?_) (a' := ?_) #[true, true, true, true, true, true, true, false, true, false, false, false, false, false, false, false] rfl rfl (take_ofW HT_.out HW_.out (by kernel_rfl)) (fun _ _ _ h => h) (Or.inl ⟨by rfl, ?_⟩) hHeld ?_ ?_
    rotate_left
    · rintro w' ⟨s0, s1, s2, s3⟩
      go_simp
      with_reducible rfl
    rotate_left
    · simp only [Act.put, List.setIfInBounds_toArray, List.set_cons_zero, List.set_cons_succ, i64_w, i32_w]
      rfl
    refine take_ (i := 7) (N := some 24) (v := ?_) (a' := ?_) #[true, true, true, true, true, true, true, true, true, false, false, false, false, false, false, false] rfl rfl (take_ofW HT_.out HW_.out (by kernel_rfl)) (fun _ _ _ h => h) (Or.inl ⟨by rfl, ?_⟩) hHeld ?_ ?_
    rotate_left
    · rintro w' ⟨s0, s1, s2, s3⟩
      go_simp
      with_reducible rfl
    rotate_left
    · simp only [Act.put, List.setIfInBounds_toArray, List.set_cons_zero, List.set_cons_succ, i64_w, i32_w]
      rfl
    refine one_ (i := 9) (N := none) #[true, true, true, true, true, true, true, true, true, true, false, false, false, false, false, false] rfl rfl (one_of HT_.out (by kernel_rfl)) (by decide) (fun K hK => ?_)
    have hs14 : w13.cell? ⟨gb180, 3, none⟩ = some (.int .i64 a0_3) := (blk_cell BK180.out 3).trans rfl
    have hfs14 := blk_frozen BK180.out 3
    have hns14_1 := NB181_180.out
    have hns14_2 := NB182_180.out
    have hms14_1 := NB180_181.out
    have hms14_2 := NB180_182.out
    refine skip_ (w1 := ?_) (by rfl) rfl ?_ ?_
    rotate_left
    · go_simp
      rfl
    refine hK.out _ _ ⟨((cell_far (p := ⟨gb180, _, none⟩) NB181_180.out _).trans (hHeld.1)), ((cell_far (p := ⟨gb180, _, none⟩) NB181_180.out _).trans (hHeld.2.1)), ((cell_far (p := ⟨gb180, _, none⟩) NB181_180.out _).trans (hHeld.2.2.1)), ((cell_far (p := ⟨gb180, _, none⟩) NB181_180.out _).trans (hHeld.2.2.2))⟩ (fun hHeld => ?_)
    clear hK K
    refine pure_ (i := 10) (N := some 26) (v := ?_) (a' := ?_) #[true, true, true, true, true, true, true, true, true, true, true, false, false, false, false, false] rfl rfl (any_of HT_.out (by kernel_rfl)) (fun _ _ _ h => h) (Or.inl ⟨by rfl, ?_⟩) ?_ ?_
    rotate_left
    · intro w'
      go_simp
      with_reducible rfl
    rotate_left
    · simp only [Act.put, List.setIfInBounds_toArray, List.set_cons_zero, List.set_cons_succ, i64_w, i32_w]
      rfl
    refine one_ (i := 11) (N := none) #[true, true, true, true, true, true, true, true, true, true, true, true, false, false, false, false] rfl rfl (one_of HT_.out (by kernel_rfl)) (by decide) (fun K hK => ?_)
    have hs15 : w13.cell? ⟨gb180, 5, none⟩ = some (.int .i64 a0_5) := (blk_cell BK180.out 5).trans rfl
    have hfs15 := blk_frozen BK180.out 5
    have hns15_1 := NB181_180.out
    have hns15_2 := NB182_180.out
    have hms15_1 := NB180_181.out
    have hms15_2 := NB180_182.out
    refine skip_ (w1 := ?_) (by rfl) rfl ?_ ?_
    rotate_left
    · go_simp
      rfl
    refine hK.out _ _ ⟨((cell_far (p := ⟨gb180, _, none⟩) NB181_180.out _).trans (hHeld.1)), ((cell_far (p := ⟨gb180, _, none⟩) NB181_180.out _).trans (hHeld.2.1)), ((cell_far (p := ⟨gb180, _, none⟩) NB181_180.out _).trans (hHeld.2.2.1)), ((cell_far (p := ⟨gb180, _, none⟩) NB181_180.out _).trans (hHeld.2.2.2))⟩ (fun hHeld => ?_)
    clear hK K
    refine pure_ (i := 12) (N := some 27) (v := ?_) (a' := ?_) #[true, true, true, true, true, true, true, true, true, true, true, true, true, false, false, false] rfl rfl (any_of HT_.out (by kernel_rfl)) (fun _ _ _ h => h) (Or.inl ⟨by rfl, ?_⟩) ?_ ?_
    rotate_left
    · intro w'
      go_simp
      with_reducible rfl
    rotate_left
    · simp only [Act.put, List.setIfInBounds_toArray, List.set_cons_zero, List.set_cons_succ, i64_w, i32_w]
      rfl
    refine one_ (i := 13) (N := none) #[true, true, true, true, true, true, true, true, true, true, true, true, true, true, false, false] rfl rfl (one_of HT_.out (by kernel_rfl)) (by decide) (fun K hK => ?_)
    have hs16 : w13.cell? ⟨gb180, 6, none⟩ = some (.int .i64 a0_6) := (blk_cell BK180.out 6).trans rfl
    have hfs16 := blk_frozen BK180.out 6
    have hns16_1 := NB181_180.out
    have hns16_2 := NB182_180.out
    have hms16_1 := NB180_181.out
    have hms16_2 := NB180_182.out
    refine skip_ (w1 := ?_) (by rfl) rfl ?_ ?_
    rotate_left
    · go_simp
      rfl
    refine hK.out _ _ ⟨((cell_far (p := ⟨gb180, _, none⟩) NB181_180.out _).trans (hHeld.1)), ((cell_far (p := ⟨gb180, _, none⟩) NB181_180.out _).trans (hHeld.2.1)), ((cell_far (p := ⟨gb180, _, none⟩) NB181_180.out _).trans (hHeld.2.2.1)), ((cell_far (p := ⟨gb180, _, none⟩) NB181_180.out _).trans (hHeld.2.2.2))⟩ (fun hHeld => ?_)
    clear hK K
    refine pure_ (i := 14) (N := some 28) (v := ?_) (a' := ?_) #[true, true, true, true, true, true, true, true, true, true, true, true, true, true, true, false] rfl rfl (any_of HT_.out (by kernel_rfl)) (fun _ _ _ h => h) (Or.inl ⟨by rfl, ?_⟩) ?_ ?_
    rotate_left
    · intro w'
      go_simp
      with_reducible rfl
    rotate_left
    · simp only [Act.put, List.setIfInBounds_toArray, List.set_cons_zero, List.set_cons_succ, i64_w, i32_w]
      rfl
    refine one_ (i := 15) (N := none) #[true, true, true, true, true, true, true, true, true, true, true, true, true, true, true, true] rfl rfl (one_of HT_.out (by kernel_rfl)) (by decide) (fun K hK => ?_)
    have hs17 : w13.cell? ⟨gb180, 7, none⟩ = some (.int .i64 a0_7) := (blk_cell BK180.out 7).trans rfl
    have hfs17 := blk_frozen BK180.out 7
    have hns17_1 := NB181_180.out
    have hns17_2 := NB182_180.out
    have hms17_1 := NB180_181.out
    have hms17_2 := NB180_182.out
    refine skip_ (w1 := ?_) (by rfl) rfl ?_ ?_
    rotate_left
    · go_simp
      rfl
    refine hK.out _ _ ⟨((cell_far (p := ⟨gb180, _, none⟩) NB181_180.out _).trans (hHeld.1)), ((cell_far (p := ⟨gb180, _, none⟩) NB181_180.out _).trans (hHeld.2.1)), ((cell_far (p := ⟨gb180, _, none⟩) NB181_180.out _).trans (hHeld.2.2.1)), ((cell_far (p := ⟨gb180, _, none⟩) NB181_180.out _).trans (hHeld.2.2.2))⟩ (fun hHeld => ?_)
    clear hK K
    refine done_ (done_of HT_.out (by kernel_rfl)) ?_
    have hcz18_0 : w13.cell? ⟨gb180, 0, none⟩ = some (.int .u64 a0_0) := (blk_cell BK180.out 0).trans rfl
    have hcz18_1 : w13.cell? ⟨gb180, 1, none⟩ = some (.int .i64 a0_1) := (blk_cell BK180.out 1).trans rfl
    have hcz18_2 : w13.cell? ⟨gb180, 2, none⟩ = some (.int .i64 a1) := (blk_cell BK180.out 2).trans rfl
    have hcz18_3 : w13.cell? ⟨gb180, 3, none⟩ = some (.int .i64 a0_3) := (blk_cell BK180.out 3).trans rfl
    have hcz18_4 : w13.cell? ⟨gb180, 4, none⟩ = some (.int .u64 0) := (blk_cell BK180.out 4).trans rfl
    have hcz18_5 : w13.cell? ⟨gb180, 5, none⟩ = some (.int .i64 a0_5) := (blk_cell BK180.out 5).trans rfl
    have hcz18_6 : w13.cell? ⟨gb180, 6, none⟩ = some (.int .i64 a0_6) := (blk_cell BK180.out 6).trans rfl
    have hcz18_7 : w13.cell? ⟨gb180, 7, none⟩ = some (.int .i64 a0_7) := (blk_cell BK180.out 7).trans rfl
    have hcz18_8 : w13.cell? ⟨gb180, 8, none⟩ = some (.int .i64 a0_8) := (blk_cell BK180.out 8).trans rfl
    have hfz18_0 := blk_frozen BK180.out 0
    have hfz18_1 := blk_frozen BK180.out 1
    have hfz18_2 := blk_frozen BK180.out 2
    have hfz18_3 := blk_frozen BK180.out 3
    have hfz18_4 := blk_frozen BK180.out 4
    have hfz18_5 := blk_frozen BK180.out 5
    have hfz18_6 := blk_frozen BK180.out 6
    have hfz18_7 := blk_frozen BK180.out 7
    have hfz18_8 := blk_frozen BK180.out 8
    have hnb19 := NB182_181.out
    have hnc19 := NB181_182.out
    have hcz20_0 : w13.cell? ⟨gb182, 0, none⟩ = some (.int .u64 0) := (blk_cell BK182.out 0).trans rfl
    have hcz20_1 : w13.cell? ⟨gb182, 1, none⟩ = some (.int .i64 0) := (blk_cell BK182.out 1).trans rfl
    have hcz20_2 : w13.cell? ⟨gb182, 2, none⟩ = some (.int .i64 0) := (blk_cell BK182.out 2).trans rfl
    have hcz20_3 : w13.cell? ⟨gb182, 3, none⟩ = some (.int .i64 0) := (blk_cell BK182.out 3).trans rfl
    have hcz20_4 : w13.cell? ⟨gb182, 4, none⟩ = some (.int .u64 0) := (blk_cell BK182.out 4).trans rfl
    have hcz20_5 : w13.cell? ⟨gb182, 5, none⟩ = some (.int .i64 0) := (blk_cell BK182.out 5).trans rfl
    have hcz20_6 : w13.cell? ⟨gb182, 6, none⟩ = some (.int .i64 0) := (blk_cell BK182.out 6).trans rfl
    have hcz20_7 : w13.cell? ⟨gb182, 7, none⟩ = some (.int .i64 0) := (blk_cell BK182.out 7).trans rfl
    have hcz20_8 : w13.cell? ⟨gb182, 8, none⟩ = some (.int .i64 0) := (blk_cell BK182.out 8).trans rfl
    have hfz20_0 := blk_frozen BK182.out 0
    have hfz20_1 := blk_frozen BK182.out 1
    have hfz20_2 := blk_frozen BK182.out 2
    have hfz20_3 := blk_frozen BK182.out 3
    have hfz20_4 := blk_frozen BK182.out 4
    have hfz20_5 := blk_frozen BK182.out 5
    have hfz20_6 := blk_frozen BK182.out 6
    have hfz20_7 := blk_frozen BK182.out 7
    have hfz20_8 := blk_frozen BK182.out 8
    try go_wp2
    refine bodyPost_ret (results_ct rfl _ _ gb182 24 #[.int .u64 a0_0, .int .i64 a0_1, .int .i64 a1, .int .i64 a2_0, .int .u64 0, .int .i64 a2_1, .int .i64 a2_2, .int .i64 a2_3, .int .i64 a0_8] (0, 0) _ rfl (by (with_reducible repeat (first | refine blk_drewN ?_ _ | refine blk_drew ?_ | refine blk_alloc ?_ _)); refine blk_put (cs := #[.int .u64 a0_0, .int .i64 a0_1, .int .i64 a1, .int .i64 a2_0, .int .u64 0, .int .i64 a2_1, .int .i64 a2_2, .int .i64 a2_3, .int .i64 0]) ?_ 8 _ rfl; (with_reducible repeat (first | refine blk_drewN ?_ _ | refine blk_drew ?_ | refine blk_alloc ?_ _)); refine blk_put (cs := #[.int .u64 a0_0, .int .i64 a0_1, .int .i64 a1, .int .i64 a2_0, .int .u64 0, .int .i64 a2_1, .int .i64 a2_2, .int .i64 0, .int .i64 0]) ?_ 7 _ rfl; (with_reducible repeat (first | refine blk_drewN ?_ _ | refine blk_drew ?_ | refine blk_alloc ?_ _)); refine blk_put (cs := #[.int .u64 a0_0, .int .i64 a0_1, .int .i64 a1, .int .i64 a2_0, .int .u64 0, .int .i64 a2_1, .int .i64 0, .int .i64 0, .int .i64 0]) ?_ 6 _ rfl; (with_reducible repeat (first | refine blk_drewN ?_ _ | refine blk_drew ?_ | refine blk_alloc ?_ _)); refine blk_put (cs := #[.int .u64 a0_0, .int .i64 a0_1, .int .i64 a1, .int .i64 a2_0, .int .u64 0, .int .i64 0, .int .i64 0, .int .i64 0, .int .i64 0]) ?_ 5 _ rfl; (with_reducible repeat (first | refine blk_drewN ?_ _ | refine blk_drew ?_ | refine blk_alloc ?_ _)); refine blk_put (cs := #[.int .u64 a0_0, .int .i64 a0_1, .int .i64 a1, .int .i64 a2_0, .int .u64 0, .int .i64 0, .int .i64 0, .int .i64 0, .int .i64 0]) ?_ 4 _ rfl; (with_reducible repeat (first | refine blk_drewN ?_ _ | refine blk_drew ?_ | refine blk_alloc ?_ _)); refine blk_put (cs := #[.int .u64 a0_0, .int .i64 a0_1, .int .i64 a1, .int .i64 0, .int .u64 0, .int .i64 0, .int .i64 0, .int .i64 0, .int .i64 0]) ?_ 3 _ rfl; (with_reducible repeat (first | refine blk_drewN ?_ _ | refine blk_drew ?_ | refine blk_alloc ?_ _)); refine blk_put (cs := #[.int .u64 a0_0, .int .i64 a0_1, .int .i64 0, .int .i64 0, .int .u64 0, .int .i64 0, .int .i64 0, .int .i64 0, .int .i64 0]) ?_ 2 _ rfl; (with_reducible repeat (first | refine blk_drewN ?_ _ | refine blk_drew ?_ | refine blk_alloc ?_ _)); refine blk_put (cs := #[.int .u64 a0_0, .int .i64 0, .int .i64 0, .int .i64 0, .int .u64 0, .int .i64 0, .int .i64 0, .int .i64 0, .int .i64 0]) ?_ 1 _ rfl; (with_reducible repeat (first | refine blk_drewN ?_ _ | refine blk_drew ?_ | refine blk_alloc ?_ _)); refine blk_put (cs := #[.int .u64 0, .int .i64 0, .int .i64 0, .int .i64 0, .int .u64 0, .int .i64 0, .int .i64 0, .int .i64 0, .int .i64 0]) ?_ 0 _ rfl; (with_reducible repeat (first | refine blk_drewN ?_ _ | refine blk_drew ?_ | refine blk_alloc ?_ _)); refine blk_far ?_ NB182_180.out _; (with_reducible repeat (first | refine blk_drewN ?_ _ | refine blk_drew ?_ | refine blk_alloc ?_ _)); refine blk_far ?_ NB182_180.out _; (with_reducible repeat (first | refine blk_drewN ?_ _ | refine blk_drew ?_ | refine blk_alloc ?_ _)); refine blk_far ?_ NB182_180.out _; (with_reducible repeat (first | refine blk_drewN ?_ _ | refine blk_drew ?_ | refine blk_alloc ?_ _)); refine blk_far ?_ NB182_180.out _; (with_reducible repeat (first | refine blk_drewN ?_ _ | refine blk_drew ?_ | refine blk_alloc ?_ _)); exact BK182.out) Try.underlying24 rfl (by kernel_rfl)) rfl ?_
    exact ⟨by first | rfl | (simp [errW_none, errW_some] <;> rfl) | (simp [*, errW_none, errW_some] <;> rfl), by repeat (first | (with_reducible first | exact HB.out | apply below_alloc | apply pw_below_drewN | apply below_drew1 | refine below_set ?_ GE180.out | refine below_set ?_ GE181.out | refine below_set ?_ GE182.out) | exact HB.out)⟩
  · rw [if_neg c5] at H
    have c5b0 : (a3 == 0) = false := beq_eq_false_iff_ne.mpr c5
    have c5b1 : (a3 != 0) = true := bne_iff_ne.mpr c5
    simp only [Option.some.injEq, Prod.mk.injEq] at H
    obtain ⟨rfl, rfl, rfl, rfl, rfl, rfl, rfl, rfl, rfl, rfl⟩ := H
    go_enter Try.func57, Try.ntmps57
    go_wp2_with (first | ((with_reducible refine gate_dst (N := 4) rfl ?_); refine box_event ?hg (N := 4) ?hd (cs := #[.int .u64 a0_0, .int .i64 a0_1, .int .i64 a0_2, .int .i64 a0_3, .int .u64 a0_4, .int .i64 a0_5, .int .i64 a0_6, .int .i64 a0_7, .int .i64 a0_8]) (t := 24) ?hr ?_; (case hd => rfl); (case hg => rfl); (case hr => first | (go_simp; done) | (go_simp; rfl)); intro gb180 hg w21 hbox hb; have n0_ := Aside0.mk (below_step (by repeat (first | (with_reducible first | exact HB.out | apply below_alloc | apply pw_below_drewN | apply below_drew1) | exact HB.out)) hb); have n1_ := Aside0.mk (hbox); have n2_ := Aside0.mk ((by rw [hg]; exact (below_size (by repeat (first | (with_reducible first | exact HB.out | apply below_alloc | apply pw_below_drewN | apply below_drew1) | exact HB.out))) : w.heap.size ≤ gb180)); have n3_ := Aside0.mk ((by rw [hg]; exact (below_size (by repeat (first | (with_reducible first | exact HB.out | apply below_alloc | apply pw_below_drewN | apply below_drew1) | exact HB.out))) : w.heap.size ≤ gb180)); clear HB; have HB := n0_; have BK180 := n1_; have GW180 := n2_; have GE180 := n3_; clear n0_ n1_ n2_ n3_; clear hb hbox hg) | ((with_reducible refine gate_dst (N := 6) rfl ?_); refine box_event ?hg (N := 6) ?hd (cs := #[.int .i64 a2_0, .int .i64 a2_1, .int .i64 a2_2, .int .i64 a2_3]) (t := 108) ?hr ?_; (case hd => rfl); (case hg => rfl); (case hr => first | (go_simp; done) | (go_simp; rfl)); intro gb181 hg w22 hbox hb; have n0_ := Aside0.mk (blk_below (g := gb180) (o := .cells #[.int .u64 a0_0, .int .i64 a0_1, .int .i64 a0_2, .int .i64 a0_3, .int .u64 a0_4, .int .i64 a0_5, .int .i64 a0_6, .int .i64 a0_7, .int .i64 a0_8] 24 (0, 0)) (by (with_reducible repeat (first | refine blk_drewN ?_ _ | refine blk_drew ?_ | refine blk_alloc ?_ _)); exact BK180.out) hb); have n1_ := Aside0.mk (below_step (by repeat (first | (with_reducible first | exact HB.out | apply below_alloc | apply pw_below_drewN | apply below_drew1 | refine below_set ?_ GE180.out) | exact HB.out)) hb); have n2_ := Aside0.mk (hbox); have n3_ := Aside0.mk ((by rw [hg]; exact (below_size (by repeat (first | (with_reducible first | exact HB.out | apply below_alloc | apply pw_below_drewN | apply below_drew1 | refine below_set ?_ GE180.out) | exact HB.out))) : w.heap.size ≤ gb181)); have n4_ := Aside0.mk ((by rw [hg]; exact (below_size (by repeat (first | (with_reducible first | exact HB.out | apply below_alloc | apply pw_below_drewN | apply below_drew1 | refine below_set ?_ GE180.out) | exact HB.out))) : w.heap.size ≤ gb181)); have n5_ := Aside0.mk ((by rw [hg]; exact Nat.ne_of_lt (blk_lt (g := gb180) (o := .cells #[.int .u64 a0_0, .int .i64 a0_1, .int .i64 a0_2, .int .i64 a0_3, .int .u64 a0_4, .int .i64 a0_5, .int .i64 a0_6, .int .i64 a0_7, .int .i64 a0_8] 24 (0, 0)) (by (with_reducible repeat (first | refine blk_drewN ?_ _ | refine blk_drew ?_ | refine blk_alloc ?_ _)); exact BK180.out)) : gb180 ≠ gb181)); have n6_ := Aside0.mk ((by rw [hg]; exact Nat.ne_of_gt (blk_lt (g := gb180) (o := .cells #[.int .u64 a0_0, .int .i64 a0_1, .int .i64 a0_2, .int .i64 a0_3, .int .u64 a0_4, .int .i64 a0_5, .int .i64 a0_6, .int .i64 a0_7, .int .i64 a0_8] 24 (0, 0)) (by (with_reducible repeat (first | refine blk_drewN ?_ _ | refine blk_drew ?_ | refine blk_alloc ?_ _)); exact BK180.out)) : gb181 ≠ gb180)); clear BK180; clear HB; have BK180 := n0_; have HB := n1_; have BK181 := n2_; have GW181 := n3_; have GE181 := n4_; have NB180_181 := n5_; have NB181_180 := n6_; clear n0_ n1_ n2_ n3_ n4_ n5_ n6_; clear hb hbox hg) | ((with_reducible refine gate_dst (N := 8) rfl ?_); refine box_event ?hg (N := 8) ?hd (cs := #[.int .u64 0, .int .i64 0, .int .i64 0, .int .i64 0, .int .u64 0, .int .i64 0, .int .i64 0, .int .i64 0, .int .i64 0]) (t := 24) ?hr ?_; (case hd => rfl); (case hg => rfl); (case hr => first | (go_simp; done) | (go_simp; rfl)); intro gb182 hg w23 hbox hb; have n0_ := Aside0.mk (blk_below (g := gb180) (o := .cells #[.int .u64 a0_0, .int .i64 a0_1, .int .i64 a0_2, .int .i64 a0_3, .int .u64 a0_4, .int .i64 a0_5, .int .i64 a0_6, .int .i64 a0_7, .int .i64 a0_8] 24 (0, 0)) (by (with_reducible repeat (first | refine blk_drewN ?_ _ | refine blk_drew ?_ | refine blk_alloc ?_ _)); exact BK180.out) hb); have n1_ := Aside0.mk (blk_below (g := gb181) (o := .cells #[.int .i64 a2_0, .int .i64 a2_1, .int .i64 a2_2, .int .i64 a2_3] 108 (0, 0)) (by (with_reducible repeat (first | refine blk_drewN ?_ _ | refine blk_drew ?_ | refine blk_alloc ?_ _)); exact BK181.out) hb); have n2_ := Aside0.mk (below_step (by repeat (first | (with_reducible first | exact HB.out | apply below_alloc | apply pw_below_drewN | apply below_drew1 | refine below_set ?_ GE180.out | refine below_set ?_ GE181.out) | exact HB.out)) hb); have n3_ := Aside0.mk (hbox); have n4_ := Aside0.mk ((by rw [hg]; exact (below_size (by repeat (first | (with_reducible first | exact HB.out | apply below_alloc | apply pw_below_drewN | apply below_drew1 | refine below_set ?_ GE180.out | refine below_set ?_ GE181.out) | exact HB.out))) : w.heap.size ≤ gb182)); have n5_ := Aside0.mk ((by rw [hg]; exact (below_size (by repeat (first | (with_reducible first | exact HB.out | apply below_alloc | apply pw_below_drewN | apply below_drew1 | refine below_set ?_ GE180.out | refine below_set ?_ GE181.out) | exact HB.out))) : w.heap.size ≤ gb182)); have n6_ := Aside0.mk ((by rw [hg]; exact Nat.ne_of_lt (blk_lt (g := gb180) (o := .cells #[.int .u64 a0_0, .int .i64 a0_1, .int .i64 a0_2, .int .i64 a0_3, .int .u64 a0_4, .int .i64 a0_5, .int .i64 a0_6, .int .i64 a0_7, .int .i64 a0_8] 24 (0, 0)) (by (with_reducible repeat (first | refine blk_drewN ?_ _ | refine blk_drew ?_ | refine blk_alloc ?_ _)); exact BK180.out)) : gb180 ≠ gb182)); have n7_ := Aside0.mk ((by rw [hg]; exact Nat.ne_of_gt (blk_lt (g := gb180) (o := .cells #[.int .u64 a0_0, .int .i64 a0_1, .int .i64 a0_2, .int .i64 a0_3, .int .u64 a0_4, .int .i64 a0_5, .int .i64 a0_6, .int .i64 a0_7, .int .i64 a0_8] 24 (0, 0)) (by (with_reducible repeat (first | refine blk_drewN ?_ _ | refine blk_drew ?_ | refine blk_alloc ?_ _)); exact BK180.out)) : gb182 ≠ gb180)); have n8_ := Aside0.mk ((by rw [hg]; exact Nat.ne_of_lt (blk_lt (g := gb181) (o := .cells #[.int .i64 a2_0, .int .i64 a2_1, .int .i64 a2_2, .int .i64 a2_3] 108 (0, 0)) (by (with_reducible repeat (first | refine blk_drewN ?_ _ | refine blk_drew ?_ | refine blk_alloc ?_ _)); exact BK181.out)) : gb181 ≠ gb182)); have n9_ := Aside0.mk ((by rw [hg]; exact Nat.ne_of_gt (blk_lt (g := gb181) (o := .cells #[.int .i64 a2_0, .int .i64 a2_1, .int .i64 a2_2, .int .i64 a2_3] 108 (0, 0)) (by (with_reducible repeat (first | refine blk_drewN ?_ _ | refine blk_drew ?_ | refine blk_alloc ?_ _)); exact BK181.out)) : gb182 ≠ gb181)); clear BK180; clear BK181; clear HB; have BK180 := n0_; have BK181 := n1_; have HB := n2_; have BK182 := n3_; have GW182 := n4_; have GE182 := n5_; have NB180_182 := n6_; have NB182_180 := n7_; have NB181_182 := n8_; have NB182_181 := n9_; clear n0_ n1_ n2_ n3_ n4_ n5_ n6_ n7_ n8_ n9_; clear hb hbox hg; have hnb24 := NB182_180.out; have hnc24 := NB180_182.out; have hnb25 := NB182_181.out; have hnc25 := NB181_182.out; have hcz26_0 : w23.cell? ⟨gb182, 0, none⟩ = some (.int .u64 0) := (blk_cell BK182.out 0).trans rfl; have hcz26_1 : w23.cell? ⟨gb182, 1, none⟩ = some (.int .i64 0) := (blk_cell BK182.out 1).trans rfl; have hcz26_2 : w23.cell? ⟨gb182, 2, none⟩ = some (.int .i64 0) := (blk_cell BK182.out 2).trans rfl; have hcz26_3 : w23.cell? ⟨gb182, 3, none⟩ = some (.int .i64 0) := (blk_cell BK182.out 3).trans rfl; have hcz26_4 : w23.cell? ⟨gb182, 4, none⟩ = some (.int .u64 0) := (blk_cell BK182.out 4).trans rfl; have hcz26_5 : w23.cell? ⟨gb182, 5, none⟩ = some (.int .i64 0) := (blk_cell BK182.out 5).trans rfl; have hcz26_6 : w23.cell? ⟨gb182, 6, none⟩ = some (.int .i64 0) := (blk_cell BK182.out 6).trans rfl; have hcz26_7 : w23.cell? ⟨gb182, 7, none⟩ = some (.int .i64 0) := (blk_cell BK182.out 7).trans rfl; have hcz26_8 : w23.cell? ⟨gb182, 8, none⟩ = some (.int .i64 0) := (blk_cell BK182.out 8).trans rfl; have hfz26_0 := blk_frozen BK182.out 0; have hfz26_1 := blk_frozen BK182.out 1; have hfz26_2 := blk_frozen BK182.out 2; have hfz26_3 := blk_frozen BK182.out 3; have hfz26_4 := blk_frozen BK182.out 4; have hfz26_5 := blk_frozen BK182.out 5; have hfz26_6 := blk_frozen BK182.out 6; have hfz26_7 := blk_frozen BK182.out 7; have hfz26_8 := blk_frozen BK182.out 8))
    refine bodyPost_ret (results_ct rfl _ _ gb182 24 #[.int .u64 0, .int .i64 0, .int .i64 0, .int .i64 0, .int .u64 0, .int .i64 0, .int .i64 0, .int .i64 0, .int .i64 0] (0, 0) _ rfl (by (with_reducible repeat (first | refine blk_drewN ?_ _ | refine blk_drew ?_ | refine blk_alloc ?_ _)); refine blk_put (cs := #[.int .u64 0, .int .i64 0, .int .i64 0, .int .i64 0, .int .u64 0, .int .i64 0, .int .i64 0, .int .i64 0, .int .i64 0]) ?_ 8 _ rfl; (with_reducible repeat (first | refine blk_drewN ?_ _ | refine blk_drew ?_ | refine blk_alloc ?_ _)); refine blk_put (cs := #[.int .u64 0, .int .i64 0, .int .i64 0, .int .i64 0, .int .u64 0, .int .i64 0, .int .i64 0, .int .i64 0, .int .i64 0]) ?_ 7 _ rfl; (with_reducible repeat (first | refine blk_drewN ?_ _ | refine blk_drew ?_ | refine blk_alloc ?_ _)); refine blk_put (cs := #[.int .u64 0, .int .i64 0, .int .i64 0, .int .i64 0, .int .u64 0, .int .i64 0, .int .i64 0, .int .i64 0, .int .i64 0]) ?_ 6 _ rfl; (with_reducible repeat (first | refine blk_drewN ?_ _ | refine blk_drew ?_ | refine blk_alloc ?_ _)); refine blk_put (cs := #[.int .u64 0, .int .i64 0, .int .i64 0, .int .i64 0, .int .u64 0, .int .i64 0, .int .i64 0, .int .i64 0, .int .i64 0]) ?_ 5 _ rfl; (with_reducible repeat (first | refine blk_drewN ?_ _ | refine blk_drew ?_ | refine blk_alloc ?_ _)); refine blk_put (cs := #[.int .u64 0, .int .i64 0, .int .i64 0, .int .i64 0, .int .u64 0, .int .i64 0, .int .i64 0, .int .i64 0, .int .i64 0]) ?_ 4 _ rfl; (with_reducible repeat (first | refine blk_drewN ?_ _ | refine blk_drew ?_ | refine blk_alloc ?_ _)); refine blk_put (cs := #[.int .u64 0, .int .i64 0, .int .i64 0, .int .i64 0, .int .u64 0, .int .i64 0, .int .i64 0, .int .i64 0, .int .i64 0]) ?_ 3 _ rfl; (with_reducible repeat (first | refine blk_drewN ?_ _ | refine blk_drew ?_ | refine blk_alloc ?_ _)); refine blk_put (cs := #[.int .u64 0, .int .i64 0, .int .i64 0, .int .i64 0, .int .u64 0, .int .i64 0, .int .i64 0, .int .i64 0, .int .i64 0]) ?_ 2 _ rfl; (with_reducible repeat (first | refine blk_drewN ?_ _ | refine blk_drew ?_ | refine blk_alloc ?_ _)); refine blk_put (cs := #[.int .u64 0, .int .i64 0, .int .i64 0, .int .i64 0, .int .u64 0, .int .i64 0, .int .i64 0, .int .i64 0, .int .i64 0]) ?_ 1 _ rfl; (with_reducible repeat (first | refine blk_drewN ?_ _ | refine blk_drew ?_ | refine blk_alloc ?_ _)); refine blk_put (cs := #[.int .u64 0, .int .i64 0, .int .i64 0, .int .i64 0, .int .u64 0, .int .i64 0, .int .i64 0, .int .i64 0, .int .i64 0]) ?_ 0 _ rfl; (with_reducible repeat (first | refine blk_drewN ?_ _ | refine blk_drew ?_ | refine blk_alloc ?_ _)); exact BK182.out) Try.underlying24 rfl (by kernel_rfl)) rfl ?_
    exact ⟨by first | rfl | (simp [errW_none, errW_some] <;> rfl) | (simp [*, errW_none, errW_some] <;> rfl), by repeat (first | (with_reducible first | exact HB.out | apply below_alloc | apply pw_below_drewN | apply below_drew1 | refine below_set ?_ GE180.out | refine below_set ?_ GE181.out | refine below_set ?_ GE182.out) | exact HB.out)⟩
def ticket_step.f (a0_0 : Int) (a0_1 : Int) (a0_2 : Int) (a0_3 : Int) (a0_4 : Int) (a0_5 : Int) (a0_6 : Int) (a0_7 : Int) (a0_8 : Int) : Option (Int × Int × Int × Int) := some (a0_3, a0_5, a0_6, a0_7)
set_option maxHeartbeats 8000000 in
set_option maxRecDepth 100000 in
theorem ticket_step.calls (a0_0 : Int) (a0_1 : Int) (a0_2 : Int) (a0_3 : Int) (a0_4 : Int) (a0_5 : Int) (a0_6 : Int) (a0_7 : Int) (a0_8 : Int) (r1 : Int) (r2 : Int) (r3 : Int) (r4 : Int) (w : World) (h : ticket_step.f a0_0 a0_1 a0_2 a0_3 a0_4 a0_5 a0_6 a0_7 a0_8 = some (r1, r2, r3, r4)) :
    Calls Try.prog 59 #[.agg #[.int .u64 a0_0, .int .i64 a0_1, .int .i64 a0_2, .int .i64 a0_3, .int .u64 a0_4, .int .i64 a0_5, .int .i64 a0_6, .int .i64 a0_7, .int .i64 a0_8]] w fun e w' => e = .returned (.agg #[.int .i64 r1, .int .i64 r2, .int .i64 r3, .int .i64 r4]) ∧ Below w.heap.size w w' := by
  have hu24 := Try.underlying24
  have hu108 := Try.underlying108
  have HB := Aside0.mk (Below.refl w.heap.size w)
  have H : (some (a0_3, a0_5, a0_6, a0_7)) = some (r1, r2, r3, r4) := h
  clear h
  simp only [Option.some.injEq, Prod.mk.injEq] at H
  obtain ⟨rfl, rfl, rfl, rfl⟩ := H
  go_enter Try.func59, Try.ntmps59
  go_wp2_with (first | ((with_reducible refine gate_dst (N := 1) rfl ?_); refine box_event ?hg (N := 1) ?hd (cs := #[.int .u64 a0_0, .int .i64 a0_1, .int .i64 a0_2, .int .i64 a0_3, .int .u64 a0_4, .int .i64 a0_5, .int .i64 a0_6, .int .i64 a0_7, .int .i64 a0_8]) (t := 24) ?hr ?_; (case hd => rfl); (case hg => rfl); (case hr => first | (go_simp; done) | (go_simp; rfl)); intro gb217 hg w2 hbox hb; have n0_ := Aside0.mk (below_step (by repeat (first | (with_reducible first | exact HB.out | apply below_alloc | apply pw_below_drewN | apply below_drew1) | exact HB.out)) hb); have n1_ := Aside0.mk (hbox); have n2_ := Aside0.mk ((by rw [hg]; exact (below_size (by repeat (first | (with_reducible first | exact HB.out | apply below_alloc | apply pw_below_drewN | apply below_drew1) | exact HB.out))) : w.heap.size ≤ gb217)); have n3_ := Aside0.mk ((by rw [hg]; exact (below_size (by repeat (first | (with_reducible first | exact HB.out | apply below_alloc | apply pw_below_drewN | apply below_drew1) | exact HB.out))) : w.heap.size ≤ gb217)); clear HB; have HB := n0_; have BK217 := n1_; have GW217 := n2_; have GE217 := n3_; clear n0_ n1_ n2_ n3_; clear hb hbox hg) | ((with_reducible refine gate_dst (N := 2) rfl ?_); refine box_event ?hg (N := 2) ?hd (cs := #[.int .i64 0, .int .i64 0, .int .i64 0, .int .i64 0]) (t := 108) ?hr ?_; (case hd => rfl); (case hg => rfl); (case hr => first | (go_simp; done) | (go_simp; rfl)); intro gb218 hg w3 hbox hb; have n0_ := Aside0.mk (blk_below (g := gb217) (o := .cells #[.int .u64 a0_0, .int .i64 a0_1, .int .i64 a0_2, .int .i64 a0_3, .int .u64 a0_4, .int .i64 a0_5, .int .i64 a0_6, .int .i64 a0_7, .int .i64 a0_8] 24 (0, 0)) (by (with_reducible repeat (first | refine blk_drewN ?_ _ | refine blk_drew ?_ | refine blk_alloc ?_ _)); exact BK217.out) hb); have n1_ := Aside0.mk (below_step (by repeat (first | (with_reducible first | exact HB.out | apply below_alloc | apply pw_below_drewN | apply below_drew1 | refine below_set ?_ GE217.out) | exact HB.out)) hb); have n2_ := Aside0.mk (hbox); have n3_ := Aside0.mk ((by rw [hg]; exact (below_size (by repeat (first | (with_reducible first | exact HB.out | apply below_alloc | apply pw_below_drewN | apply below_drew1 | refine below_set ?_ GE217.out) | exact HB.out))) : w.heap.size ≤ gb218)); have n4_ := Aside0.mk ((by rw [hg]; exact (below_size (by repeat (first | (with_reducible first | exact HB.out | apply below_alloc | apply pw_below_drewN | apply below_drew1 | refine below_set ?_ GE217.out) | exact HB.out))) : w.heap.size ≤ gb218)); have n5_ := Aside0.mk ((by rw [hg]; exact Nat.ne_of_lt (blk_lt (g := gb217) (o := .cells #[.int .u64 a0_0, .int .i64 a0_1, .int .i64 a0_2, .int .i64 a0_3, .int .u64 a0_4, .int .i64 a0_5, .int .i64 a0_6, .int .i64 a0_7, .int .i64 a0_8] 24 (0, 0)) (by (with_reducible repeat (first | refine blk_drewN ?_ _ | refine blk_drew ?_ | refine blk_alloc ?_ _)); exact BK217.out)) : gb217 ≠ gb218)); have n6_ := Aside0.mk ((by rw [hg]; exact Nat.ne_of_gt (blk_lt (g := gb217) (o := .cells #[.int .u64 a0_0, .int .i64 a0_1, .int .i64 a0_2, .int .i64 a0_3, .int .u64 a0_4, .int .i64 a0_5, .int .i64 a0_6, .int .i64 a0_7, .int .i64 a0_8] 24 (0, 0)) (by (with_reducible repeat (first | refine blk_drewN ?_ _ | refine blk_drew ?_ | refine blk_alloc ?_ _)); exact BK217.out)) : gb218 ≠ gb217)); clear BK217; clear HB; have BK217 := n0_; have HB := n1_; have BK218 := n2_; have GW218 := n3_; have GE218 := n4_; have NB217_218 := n5_; have NB218_217 := n6_; clear n0_ n1_ n2_ n3_ n4_ n5_ n6_; clear hb hbox hg; have hnb4 := NB217_218.out; have hnc4 := NB218_217.out; have hcz5_0 : w3.cell? ⟨gb217, 0, none⟩ = some (.int .u64 a0_0) := (blk_cell BK217.out 0).trans rfl; have hcz5_1 : w3.cell? ⟨gb217, 1, none⟩ = some (.int .i64 a0_1) := (blk_cell BK217.out 1).trans rfl; have hcz5_2 : w3.cell? ⟨gb217, 2, none⟩ = some (.int .i64 a0_2) := (blk_cell BK217.out 2).trans rfl; have hcz5_3 : w3.cell? ⟨gb217, 3, none⟩ = some (.int .i64 a0_3) := (blk_cell BK217.out 3).trans rfl; have hcz5_4 : w3.cell? ⟨gb217, 4, none⟩ = some (.int .u64 a0_4) := (blk_cell BK217.out 4).trans rfl; have hcz5_5 : w3.cell? ⟨gb217, 5, none⟩ = some (.int .i64 a0_5) := (blk_cell BK217.out 5).trans rfl; have hcz5_6 : w3.cell? ⟨gb217, 6, none⟩ = some (.int .i64 a0_6) := (blk_cell BK217.out 6).trans rfl; have hcz5_7 : w3.cell? ⟨gb217, 7, none⟩ = some (.int .i64 a0_7) := (blk_cell BK217.out 7).trans rfl; have hcz5_8 : w3.cell? ⟨gb217, 8, none⟩ = some (.int .i64 a0_8) := (blk_cell BK217.out 8).trans rfl; have hfz5_0 := blk_frozen BK217.out 0; have hfz5_1 := blk_frozen BK217.out 1; have hfz5_2 := blk_frozen BK217.out 2; have hfz5_3 := blk_frozen BK217.out 3; have hfz5_4 := blk_frozen BK217.out 4; have hfz5_5 := blk_frozen BK217.out 5; have hfz5_6 := blk_frozen BK217.out 6; have hfz5_7 := blk_frozen BK217.out 7; have hfz5_8 := blk_frozen BK217.out 8; have hcz6_0 : w3.cell? ⟨gb218, 0, none⟩ = some (.int .i64 0) := (blk_cell BK218.out 0).trans rfl; have hcz6_1 : w3.cell? ⟨gb218, 1, none⟩ = some (.int .i64 0) := (blk_cell BK218.out 1).trans rfl; have hcz6_2 : w3.cell? ⟨gb218, 2, none⟩ = some (.int .i64 0) := (blk_cell BK218.out 2).trans rfl; have hcz6_3 : w3.cell? ⟨gb218, 3, none⟩ = some (.int .i64 0) := (blk_cell BK218.out 3).trans rfl; have hfz6_0 := blk_frozen BK218.out 0; have hfz6_1 := blk_frozen BK218.out 1; have hfz6_2 := blk_frozen BK218.out 2; have hfz6_3 := blk_frozen BK218.out 3))
  refine bodyPost_ret (results_cell_row rfl _ _ gb218 108 #[.int .i64 a0_3, .int .i64 a0_5, .int .i64 a0_6, .int .i64 a0_7] (0, 0) _ rfl (by (with_reducible repeat (first | refine blk_drewN ?_ _ | refine blk_drew ?_ | refine blk_alloc ?_ _)); refine blk_put (cs := #[.int .i64 a0_3, .int .i64 a0_5, .int .i64 a0_6, .int .i64 0]) ?_ 3 _ rfl; (with_reducible repeat (first | refine blk_drewN ?_ _ | refine blk_drew ?_ | refine blk_alloc ?_ _)); refine blk_put (cs := #[.int .i64 a0_3, .int .i64 a0_5, .int .i64 0, .int .i64 0]) ?_ 2 _ rfl; (with_reducible repeat (first | refine blk_drewN ?_ _ | refine blk_drew ?_ | refine blk_alloc ?_ _)); refine blk_put (cs := #[.int .i64 a0_3, .int .i64 0, .int .i64 0, .int .i64 0]) ?_ 1 _ rfl; (with_reducible repeat (first | refine blk_drewN ?_ _ | refine blk_drew ?_ | refine blk_alloc ?_ _)); refine blk_put (cs := #[.int .i64 0, .int .i64 0, .int .i64 0, .int .i64 0]) ?_ 0 _ rfl; (with_reducible repeat (first | refine blk_drewN ?_ _ | refine blk_drew ?_ | refine blk_alloc ?_ _)); exact BK218.out) Try.underlying108 rfl (by kernel_rfl)) rfl ?_
  exact ⟨by first | rfl | (simp [errW_none, errW_some] <;> rfl) | (simp [*, errW_none, errW_some] <;> rfl), by repeat (first | (with_reducible first | exact HB.out | apply below_alloc | apply pw_below_drewN | apply below_drew1 | refine below_set ?_ GE217.out | refine below_set ?_ GE218.out) | exact HB.out)⟩
end Go.Proofs.Ytepldlnmeenlbaa.Base
namespace Go.Proofs.Ytepldlnmeenlbaa.Own
open Go.RowKit Go.Proofs Go.Proofs.YtepldlnmeenlbaaW.PrintWords Go.Proofs.YtepldlnmeenlbaaW.PrintLast Go.Proofs.YtepldlnmeenlbaaW.PrintMore Go.Proofs.Ytepldlnmeenlbaa.Base
variable {w w' : World} {n kb ab pb cb : Nat} {off : Int} {week closed : List S143} {A : Option Addr} {k : Nat} {ls : List S98}
set_option maxHeartbeats 4000000 in
set_option maxRecDepth 100000 in
theorem tkopen_any (cal re ba now id co a b c d e r1 r2 r3 r4 r5 r6 r7 r8 r9 r10 : Int) (w : World) (h : ClkAt w n kb ab pb cb off week closed) (hn : n ≤ w.heap.size) (hq : Kd.C k98 w A ls.length ls ∧ ls.length ≤ k) (c0 : 0 ≤ co) (c1 : co < 16) (hd : firstP off week closed cal ls re ba now = (a, b, c, d, e)) (hw : ticket_with.f id co 0 0 0 0 0 0 0 1 a b c d e = some (r1, r2, r3, r4, r5, r6, r7, r8, r9, r10)) :
    Calls Try.prog 23 #[.int .u64 id, .int .i64 co, .pointer (some ⟨kb, 0, none⟩), .agg #[.int .i64 cal, .slice A ls.length k, .int .i64 re, .int .i64 ba], .int .i64 now] w fun r w' => r = .returned (.tuple #[.agg #[.int .u64 r1, .int .i64 r2, .int .i64 r3, .int .i64 r4, .int .u64 r5, .int .i64 r6, .int .i64 r7, .int .i64 r8, .int .i64 r9], .int .i64 r10]) ∧ ClkAt w' n kb ab pb cb off week closed ∧ Upd cb w w' := by
  have HD := Aside0.mk hd
  have HW := Aside0.mk hw
  have f1_ : decide (co < 0) = false := decide_eq_false (by omega)
  have f2_ : decide (16 ≤ co) = false := decide_eq_false (by omega)
  clear hd hw
  have HB0 : Below w.heap.size w ((w.alloc (.cells #[.int .i64 cal, .slice A ls.length k, .int .i64 re, .int .i64 ba] 49)).alloc (.cells #[.int .u64 0, .int .i64 0, .int .i64 0, .int .i64 0, .int .u64 0, .int .i64 0, .int .i64 0, .int .i64 0, .int .i64 0] 24)) := (below_alloc (below_alloc (Below.refl w.heap.size w) (.cells #[.int .i64 cal, .slice A ls.length k, .int .i64 re, .int .i64 ba] 49)) (.cells #[.int .u64 0, .int .i64 0, .int .i64 0, .int .i64 0, .int .u64 0, .int .i64 0, .int .i64 0, .int .i64 0, .int .i64 0] 24))
  have HC_1 := Aside0.mk (h.below HB0)
  have HU_1 := Aside0.mk (Upd.of_below (b := cb) HB0)
  have hs_1 : w.heap.size ≤ ((w.alloc (.cells #[.int .i64 cal, .slice A ls.length k, .int .i64 re, .int .i64 ba] 49)).alloc (.cells #[.int .u64 0, .int .i64 0, .int .i64 0, .int .i64 0, .int .u64 0, .int .i64 0, .int .i64 0, .int .i64 0, .int .i64 0] 24)).heap.size := HB0.size
  have HLq_1 : Aside0 (Kd.C k98 ((w.alloc (.cells #[.int .i64 cal, .slice A ls.length k, .int .i64 re, .int .i64 ba] 49)).alloc (.cells #[.int .u64 0, .int .i64 0, .int .i64 0, .int .i64 0, .int .u64 0, .int .i64 0, .int .i64 0, .int .i64 0, .int .i64 0] 24)) A ls.length ls ∧ ls.length ≤ k) := ⟨⟨Kd.C_below hq.1 HB0, hq.2⟩⟩
  have Bq_1 : Aside0 (((w.alloc (.cells #[.int .i64 cal, .slice A ls.length k, .int .i64 re, .int .i64 ba] 49)).alloc (.cells #[.int .u64 0, .int .i64 0, .int .i64 0, .int .i64 0, .int .u64 0, .int .i64 0, .int .i64 0, .int .i64 0, .int .i64 0] 24)).heap[w.heap.size]? = some (.cells #[.int .i64 cal, .slice A ls.length k, .int .i64 re, .int .i64 ba] 49 (0, 0))) := ⟨(blk_alloc (blk_new w _) _)⟩
  have Bz_1 : Aside0 (((w.alloc (.cells #[.int .i64 cal, .slice A ls.length k, .int .i64 re, .int .i64 ba] 49)).alloc (.cells #[.int .u64 0, .int .i64 0, .int .i64 0, .int .i64 0, .int .u64 0, .int .i64 0, .int .i64 0, .int .i64 0, .int .i64 0] 24)).heap[w.heap.size + 1]? = some (.cells #[.int .u64 0, .int .i64 0, .int .i64 0, .int .i64 0, .int .u64 0, .int .i64 0, .int .i64 0, .int .i64 0, .int .i64 0] 24 (0, 0))) := ⟨(by simpa using blk_new (w.alloc (.cells #[.int .i64 cal, .slice A ls.length k, .int .i64 re, .int .i64 ba] 49)) (.cells #[.int .u64 0, .int .i64 0, .int .i64 0, .int .i64 0, .int .u64 0, .int .i64 0, .int .i64 0, .int .i64 0, .int .i64 0] 24))⟩
  have hz_1 : w.heap.size + 1 < ((w.alloc (.cells #[.int .i64 cal, .slice A ls.length k, .int .i64 re, .int .i64 ba] 49)).alloc (.cells #[.int .u64 0, .int .i64 0, .int .i64 0, .int .i64 0, .int .u64 0, .int .i64 0, .int .i64 0, .int .i64 0, .int .i64 0] 24)).heap.size := blk_lt Bz_1.out
  have hcb := h.lt
  clear h HB0 hq
  go_enter Try.func23, Try.ntmps23
  go_wp2_with fail
  generalize ((w.alloc (.cells #[.int .i64 cal, .slice A ls.length k, .int .i64 re, .int .i64 ba] 49)).alloc (.cells #[.int .u64 0, .int .i64 0, .int .i64 0, .int .i64 0, .int .u64 0, .int .i64 0, .int .i64 0, .int .i64 0, .int .i64 0] 24)) = w1 at HC_1 HU_1 hs_1 HLq_1 Bq_1 Bz_1 hz_1 ⊢
  obtain ⟨dq0, dq1, dq2, dq3⟩ := cells4 Bq_1.out
  go_upto_region 4 with (go_at_call 56; with_reducible refine (first_any cal re ba now a b c d e w1 HC_1.out (by omega) HLq_1.out HD.out).mono ?_; rintro e w2 ⟨rfl, q1, q2⟩; clear dq0 dq1 dq2 dq3; have HC_2 := Aside0.mk q1; have HU_2 := Aside0.mk (HU_1.out.trans q2); have hs_2 : w1.heap.size ≤ w2.heap.size := q2.size; have Bq_2 := Aside0.mk (q2.blk Bq_1.out (by omega)); have Bz_2 := Aside0.mk (q2.blk Bz_1.out (by omega)); clear q1 q2)
  have hb : Below w2.heap.size w2 (w2.alloc (.cells #[.int .i64 a, .int .i64 b, .int .i64 c, .int .i64 d] 108)) := below_alloc (Below.refl _ _) _
  have HC_3 := Aside0.mk (HC_2.out.below hb)
  have HU_3 := Aside0.mk (HU_2.out.then hb)
  have hs_3 : w2.heap.size ≤ (w2.alloc (.cells #[.int .i64 a, .int .i64 b, .int .i64 c, .int .i64 d] 108)).heap.size := hb.size
  have Bq_3 := Aside0.mk (blk_below Bq_2.out hb)
  have Bz_3 := Aside0.mk (blk_below Bz_2.out hb)
  clear hb
  have Bs_3 := Aside0.mk (blk_new w2 (.cells #[.int .i64 a, .int .i64 b, .int .i64 c, .int .i64 d] 108))
  have hz_3 : w2.heap.size < (w2.alloc (.cells #[.int .i64 a, .int .i64 b, .int .i64 c, .int .i64 d] 108)).heap.size := blk_lt Bs_3.out
  generalize (w2.alloc (.cells #[.int .i64 a, .int .i64 b, .int .i64 c, .int .i64 d] 108)) = w3 at HC_3 HU_3 hs_3 Bq_3 Bz_3 Bs_3 hz_3 ⊢
  obtain ⟨ds0, ds1, ds2, ds3⟩ := cells4 Bs_3.out
  go_wp2_with (go_at_call 57; with_reducible refine (ticket_with.calls id co 0 0 0 0 0 0 0 1 a b c d e r1 r2 r3 r4 r5 r6 r7 r8 r9 r10 w3 HW.out).mono ?_; rintro e w4 ⟨rfl, q1⟩; clear ds0 ds1 ds2 ds3; have HC_4 := Aside0.mk (HC_3.out.below q1); have HU_4 := Aside0.mk (HU_3.out.then q1); have hs_4 : w3.heap.size ≤ w4.heap.size := q1.size; have Bq_4 := Aside0.mk (blk_below Bq_3.out q1); have Bz_4 := Aside0.mk (blk_below Bz_3.out q1); have Bs_4 := Aside0.mk (blk_below Bs_3.out q1); clear q1; obtain ⟨dz0, dz1, dz2, dz3, dz4, dz5, dz6, dz7, dz8⟩ := cells9 Bz_4.out; have fz := blk_frozen Bz_4.out; obtain ⟨ds0, ds1, ds2, ds3⟩ := cells4 Bs_4.out)
  clear dz0 dz1 dz2 dz3 dz4 dz5 dz6 dz7 dz8 fz ds0 ds1 ds2 ds3
  obtain ⟨dz0, dz1, dz2, dz3, dz4, dz5, dz6, dz7, dz8⟩ := cells9 Bz_4.out
  have fz := blk_frozen Bz_4.out
  clear dz0 dz1 dz2 dz3 dz4 dz5 dz6 dz7 dz8 fz
  obtain ⟨S1, S2, S3, S4, hs_5⟩ := step_set9 (.int .u64 r1) (.int .i64 r2) (.int .i64 r3) (.int .i64 r4) (.int .u64 r5) (.int .i64 r6) (.int .i64 r7) (.int .i64 r8) (.int .i64 r9) HC_4.out HU_4.out Bz_4.out ⟨by decide, by decide, by decide, by decide, by decide, by decide⟩ (by omega)
  have HC_5 := Aside0.mk S1
  have HU_5 := Aside0.mk S2
  have Bz_5 := Aside0.mk S3
  have Bq_5 := Aside0.mk (S4 (g := w.heap.size) (by omega) Bq_4.out)
  have Bs_5 := Aside0.mk (S4 (g := w2.heap.size) (by omega) Bs_4.out)
  clear S1 S2 S3 S4
  generalize (((((((((w4.setCell ⟨w.heap.size + 1, 0, none⟩ (.int .u64 r1)).setCell ⟨w.heap.size + 1, 1, none⟩ (.int .i64 r2)).setCell ⟨w.heap.size + 1, 2, none⟩ (.int .i64 r3)).setCell ⟨w.heap.size + 1, 3, none⟩ (.int .i64 r4)).setCell ⟨w.heap.size + 1, 4, none⟩ (.int .u64 r5)).setCell ⟨w.heap.size + 1, 5, none⟩ (.int .i64 r6)).setCell ⟨w.heap.size + 1, 6, none⟩ (.int .i64 r7)).setCell ⟨w.heap.size + 1, 7, none⟩ (.int .i64 r8)).setCell ⟨w.heap.size + 1, 8, none⟩ (.int .i64 r9)) = w5 at HC_5 HU_5 hs_5 Bq_5 Bz_5 Bs_5 ⊢
  obtain ⟨dz0, dz1, dz2, dz3, dz4, dz5, dz6, dz7, dz8⟩ := cells9 Bz_5.out
  have fz := blk_frozen Bz_5.out
  refine bodyPost_ret (v := .tuple #[.agg #[.int .u64 r1, .int .i64 r2, .int .i64 r3, .int .i64 r4, .int .u64 r5, .int .i64 r6, .int .i64 r7, .int .i64 r8, .int .i64 r9], .int .i64 r10]) (by simp [results, Try.results23, go_sem, dz0, dz1, dz2, dz3, dz4, dz5, dz6, dz7, dz8]) rfl ⟨rfl, HC_5.out, HU_5.out⟩
def fire_T9 : Bool × List (List Nat × List Nat) := (true, [([], []), ([], []), ([], []), ([2], [2]), ([], []), ([0, 1, 3, 4, 3], [0, 1, 3, 4]), ([5], [5]), ([6], [6]), ([6], [6]), ([6], [6]), ([], []), ([10, 7, 5, 0, 1, 2, 3, 4, 5, 6, 7, 10], [7, 10]), ([8, 11, 0, 1, 2, 3, 4, 5, 6, 7, 8, 10, 11], [8]), ([9, 12, 0, 1, 2, 3, 4, 5, 6, 7, 8, 9, 10, 11, 12], [9])])
def fire_B9 : List Nat := [0, 0, 0, 4, 0, 31, 63, 127, 127, 127, 0, 1279, 3583, 8191]
theorem fire_tab9 : rtab .any (opsOf Try.f27 9) = fire_T9 := by kernel_rfl
theorem fire_bits9 : waitsOk fire_T9.2 fire_B9 = true := by kernel_rfl
set_option maxHeartbeats 4000000 in
set_option maxRecDepth 100000 in
theorem tkfire_more (cal re ba now id co lv gn fr lf du tl a b c d e : Int) (w : World) (h : ClkAt w n kb ab pb cb off week closed) (hn : n ≤ w.heap.size) (hq : Kd.C k98 w A ls.length ls ∧ ls.length ≤ k) (hg : goodP cal ls re ba = true) (l0 : 0 ≤ lv) (l1 : lv < ls.length) (hx : du ≤ now) (hd : nextP off week closed cal ls re ba lv now = (a, b, c, d, e)) (hm : moreP off week closed cal ls re ba lv now = true) (t0 : 0 ≤ tl) (t1 : tl ≤ 2147483646) :
    Calls Try.prog 27 #[.agg #[.int .u64 id, .int .i64 co, .int .i64 1, .int .i64 lv, .int .u64 gn, .int .i64 fr, .int .i64 lf, .int .i64 du, .int .i64 tl], .pointer (some ⟨kb, 0, none⟩), .agg #[.int .i64 cal, .slice A ls.length k, .int .i64 re, .int .i64 ba], .int .i64 now] w fun r w' => r = .returned (.tuple #[.agg #[.int .u64 id, .int .i64 co, .int .i64 1, .int .i64 a, .int .u64 0, .int .i64 b, .int .i64 c, .int .i64 d, .int .i64 (tl + 1)], .int .i64 lv, .int .i64 0]) ∧ ClkAt w' n kb ab pb cb off week closed ∧ Upd cb w w' := by
  have HD := Aside0.mk hd
  have HM := Aside0.mk hm
  have HW := Aside0.mk (wrap_id (show -9223372036854775808 ≤ tl + 1 by omega) (show tl + 1 ≤ 9223372036854775807 by omega))
  have HG := Aside0.mk (show (if goodP cal ls re ba = true then (0 : Int) else 2) = 0 by rw [hg]; rfl)
  have f1_ : decide (now < du) = false := decide_eq_false (by omega)
  have f2_ : decide (lv < 0) = false := decide_eq_false (by omega)
  have f3_ : decide ((ls.length : Int) ≤ lv) = false := decide_eq_false (by omega)
  have hnot : ∀ (x : Bool) (w : World), (Op.unary .not (.bool x)).run Try.prog w = .ok (.bool (!x)) w := fun _ _ => rfl
  clear hd hm hg
  have HB0 : Below w.heap.size w (((w.alloc (.cells #[.int .u64 id, .int .i64 co, .int .i64 1, .int .i64 lv, .int .u64 gn, .int .i64 fr, .int .i64 lf, .int .i64 du, .int .i64 tl] 24)).alloc (.cells #[.int .i64 cal, .slice A ls.length k, .int .i64 re, .int .i64 ba] 49)).alloc (.cells #[.int .u64 0, .int .i64 0, .int .i64 0, .int .i64 0, .int .u64 0, .int .i64 0, .int .i64 0, .int .i64 0, .int .i64 0] 24)) := (below_alloc (below_alloc (below_alloc (Below.refl w.heap.size w) (.cells #[.int .u64 id, .int .i64 co, .int .i64 1, .int .i64 lv, .int .u64 gn, .int .i64 fr, .int .i64 lf, .int .i64 du, .int .i64 tl] 24)) (.cells #[.int .i64 cal, .slice A ls.length k, .int .i64 re, .int .i64 ba] 49)) (.cells #[.int .u64 0, .int .i64 0, .int .i64 0, .int .i64 0, .int .u64 0, .int .i64 0, .int .i64 0, .int .i64 0, .int .i64 0] 24))
  have HC_1 := Aside0.mk (h.below HB0)
  have HU_1 := Aside0.mk (Upd.of_below (b := cb) HB0)
  have hs_1 : w.heap.size ≤ (((w.alloc (.cells #[.int .u64 id, .int .i64 co, .int .i64 1, .int .i64 lv, .int .u64 gn, .int .i64 fr, .int .i64 lf, .int .i64 du, .int .i64 tl] 24)).alloc (.cells #[.int .i64 cal, .slice A ls.length k, .int .i64 re, .int .i64 ba] 49)).alloc (.cells #[.int .u64 0, .int .i64 0, .int .i64 0, .int .i64 0, .int .u64 0, .int .i64 0, .int .i64 0, .int .i64 0, .int .i64 0] 24)).heap.size := HB0.size
  have HLq_1 : Aside0 (Kd.C k98 (((w.alloc (.cells #[.int .u64 id, .int .i64 co, .int .i64 1, .int .i64 lv, .int .u64 gn, .int .i64 fr, .int .i64 lf, .int .i64 du, .int .i64 tl] 24)).alloc (.cells #[.int .i64 cal, .slice A ls.length k, .int .i64 re, .int .i64 ba] 49)).alloc (.cells #[.int .u64 0, .int .i64 0, .int .i64 0, .int .i64 0, .int .u64 0, .int .i64 0, .int .i64 0, .int .i64 0, .int .i64 0] 24)) A ls.length ls ∧ ls.length ≤ k) := ⟨⟨Kd.C_below hq.1 HB0, hq.2⟩⟩
  have Bt_1 : Aside0 ((((w.alloc (.cells #[.int .u64 id, .int .i64 co, .int .i64 1, .int .i64 lv, .int .u64 gn, .int .i64 fr, .int .i64 lf, .int .i64 du, .int .i64 tl] 24)).alloc (.cells #[.int .i64 cal, .slice A ls.length k, .int .i64 re, .int .i64 ba] 49)).alloc (.cells #[.int .u64 0, .int .i64 0, .int .i64 0, .int .i64 0, .int .u64 0, .int .i64 0, .int .i64 0, .int .i64 0, .int .i64 0] 24)).heap[w.heap.size]? = some (.cells #[.int .u64 id, .int .i64 co, .int .i64 1, .int .i64 lv, .int .u64 gn, .int .i64 fr, .int .i64 lf, .int .i64 du, .int .i64 tl] 24 (0, 0))) := ⟨(blk_alloc (blk_alloc (blk_new w _) _) _)⟩
  have Bq_1 : Aside0 ((((w.alloc (.cells #[.int .u64 id, .int .i64 co, .int .i64 1, .int .i64 lv, .int .u64 gn, .int .i64 fr, .int .i64 lf, .int .i64 du, .int .i64 tl] 24)).alloc (.cells #[.int .i64 cal, .slice A ls.length k, .int .i64 re, .int .i64 ba] 49)).alloc (.cells #[.int .u64 0, .int .i64 0, .int .i64 0, .int .i64 0, .int .u64 0, .int .i64 0, .int .i64 0, .int .i64 0, .int .i64 0] 24)).heap[w.heap.size + 1]? = some (.cells #[.int .i64 cal, .slice A ls.length k, .int .i64 re, .int .i64 ba] 49 (0, 0))) := ⟨(blk_alloc (by simpa using blk_new (w.alloc (.cells #[.int .u64 id, .int .i64 co, .int .i64 1, .int .i64 lv, .int .u64 gn, .int .i64 fr, .int .i64 lf, .int .i64 du, .int .i64 tl] 24)) (.cells #[.int .i64 cal, .slice A ls.length k, .int .i64 re, .int .i64 ba] 49)) _)⟩
  have Bz_1 : Aside0 ((((w.alloc (.cells #[.int .u64 id, .int .i64 co, .int .i64 1, .int .i64 lv, .int .u64 gn, .int .i64 fr, .int .i64 lf, .int .i64 du, .int .i64 tl] 24)).alloc (.cells #[.int .i64 cal, .slice A ls.length k, .int .i64 re, .int .i64 ba] 49)).alloc (.cells #[.int .u64 0, .int .i64 0, .int .i64 0, .int .i64 0, .int .u64 0, .int .i64 0, .int .i64 0, .int .i64 0, .int .i64 0] 24)).heap[w.heap.size + 1 + 1]? = some (.cells #[.int .u64 0, .int .i64 0, .int .i64 0, .int .i64 0, .int .u64 0, .int .i64 0, .int .i64 0, .int .i64 0, .int .i64 0] 24 (0, 0))) := ⟨(by simpa using blk_new ((w.alloc (.cells #[.int .u64 id, .int .i64 co, .int .i64 1, .int .i64 lv, .int .u64 gn, .int .i64 fr, .int .i64 lf, .int .i64 du, .int .i64 tl] 24)).alloc (.cells #[.int .i64 cal, .slice A ls.length k, .int .i64 re, .int .i64 ba] 49)) (.cells #[.int .u64 0, .int .i64 0, .int .i64 0, .int .i64 0, .int .u64 0, .int .i64 0, .int .i64 0, .int .i64 0, .int .i64 0] 24))⟩
  have hz_1 : w.heap.size + 1 + 1 < (((w.alloc (.cells #[.int .u64 id, .int .i64 co, .int .i64 1, .int .i64 lv, .int .u64 gn, .int .i64 fr, .int .i64 lf, .int .i64 du, .int .i64 tl] 24)).alloc (.cells #[.int .i64 cal, .slice A ls.length k, .int .i64 re, .int .i64 ba] 49)).alloc (.cells #[.int .u64 0, .int .i64 0, .int .i64 0, .int .i64 0, .int .u64 0, .int .i64 0, .int .i64 0, .int .i64 0, .int .i64 0] 24)).heap.size := blk_lt Bz_1.out
  have hcb := h.lt
  clear h HB0 hq
  go_enter Try.func27, Try.ntmps27
  go_wp2_with fail
  generalize (((w.alloc (.cells #[.int .u64 id, .int .i64 co, .int .i64 1, .int .i64 lv, .int .u64 gn, .int .i64 fr, .int .i64 lf, .int .i64 du, .int .i64 tl] 24)).alloc (.cells #[.int .i64 cal, .slice A ls.length k, .int .i64 re, .int .i64 ba] 49)).alloc (.cells #[.int .u64 0, .int .i64 0, .int .i64 0, .int .i64 0, .int .u64 0, .int .i64 0, .int .i64 0, .int .i64 0, .int .i64 0] 24)) = w1 at HC_1 HU_1 hs_1 HLq_1 Bt_1 Bq_1 Bz_1 hz_1 ⊢
  obtain ⟨_, _, dt2, dt3, _, _, _, dt7, _⟩ := cells9 Bt_1.out
  obtain ⟨dq0, dq1, dq2, dq3⟩ := cells4 Bq_1.out
  go_wp2_with (go_at_call 60; with_reducible refine (check14_any w1 HLq_1.out).mono ?_; rintro e w2 ⟨rfl, q1⟩; rw [HG.out]; clear dt2 dt3 dt7 dq0 dq1 dq2 dq3; have HC_2 := Aside0.mk (HC_1.out.below q1); have HU_2 := Aside0.mk (HU_1.out.then q1); have hs_2 : w1.heap.size ≤ w2.heap.size := q1.size; have HLq_2 : Aside0 (Kd.C k98 w2 A ls.length ls ∧ ls.length ≤ k) := ⟨⟨Kd.C_below HLq_1.out.1 q1, HLq_1.out.2⟩⟩; have Bt_2 := Aside0.mk (blk_below Bt_1.out q1); have Bq_2 := Aside0.mk (blk_below Bq_1.out q1); have Bz_2 := Aside0.mk (blk_below Bz_1.out q1); clear q1; obtain ⟨_, _, dt2, dt3, _, _, _, dt7, _⟩ := cells9 Bt_2.out; obtain ⟨dq0, dq1, dq2, dq3⟩ := cells4 Bq_2.out)
  have hb4 : Below w2.heap.size w2 w2.drew := below_drew1 (Below.refl _ _)
  clear dt2 dt3 dt7 dq0 dq1 dq2 dq3
  have HC_3 := Aside0.mk (HC_2.out.below hb4)
  have HU_3 := Aside0.mk (HU_2.out.then hb4)
  have hs_3 : w2.heap.size ≤ w2.drew.heap.size := hb4.size
  have HLq_3 : Aside0 (Kd.C k98 w2.drew A ls.length ls ∧ ls.length ≤ k) := ⟨⟨Kd.C_below HLq_2.out.1 hb4, HLq_2.out.2⟩⟩
  have Bt_3 := Aside0.mk (blk_below Bt_2.out hb4)
  have Bq_3 := Aside0.mk (blk_below Bq_2.out hb4)
  have Bz_3 := Aside0.mk (blk_below Bz_2.out hb4)
  clear hb4
  have z0 : w2.drew.cell? ⟨w.heap.size + 1, 0, none⟩ = some (.int .i64 cal) := (blk_cell Bq_3.out 0).trans rfl
  have z1 : w2.drew.cell? ⟨w.heap.size + 1, 1, none⟩ = some (.slice A ls.length k) := (blk_cell Bq_3.out 1).trans rfl
  have z2 : w2.drew.cell? ⟨w.heap.size + 1, 2, none⟩ = some (.int .i64 re) := (blk_cell Bq_3.out 2).trans rfl
  have z3 : w2.drew.cell? ⟨w.heap.size + 1, 3, none⟩ = some (.int .i64 ba) := (blk_cell Bq_3.out 3).trans rfl
  have z4 : w2.drew.cell? ⟨w.heap.size, 0, none⟩ = some (.int .u64 id) := (blk_cell Bt_3.out 0).trans rfl
  have z5 : w2.drew.cell? ⟨w.heap.size, 1, none⟩ = some (.int .i64 co) := (blk_cell Bt_3.out 1).trans rfl
  have z6 : w2.drew.cell? ⟨w.heap.size, 2, none⟩ = some (.int .i64 1) := (blk_cell Bt_3.out 2).trans rfl
  have z7 : w2.drew.cell? ⟨w.heap.size, 3, none⟩ = some (.int .i64 lv) := (blk_cell Bt_3.out 3).trans rfl
  have z8 : w2.drew.cell? ⟨w.heap.size, 4, none⟩ = some (.int .u64 gn) := (blk_cell Bt_3.out 4).trans rfl
  have z9 : w2.drew.cell? ⟨w.heap.size, 5, none⟩ = some (.int .i64 fr) := (blk_cell Bt_3.out 5).trans rfl
  have z10 : w2.drew.cell? ⟨w.heap.size, 6, none⟩ = some (.int .i64 lf) := (blk_cell Bt_3.out 6).trans rfl
  have z11 : w2.drew.cell? ⟨w.heap.size, 7, none⟩ = some (.int .i64 du) := (blk_cell Bt_3.out 7).trans rfl
  have z12 : w2.drew.cell? ⟨w.heap.size, 8, none⟩ = some (.int .i64 tl) := (blk_cell Bt_3.out 8).trans rfl
  refine start_ (n := 14) (S := fun w' => w'.cell? ⟨w.heap.size + 1, 0, none⟩ = some (.int .i64 cal) ∧ w'.cell? ⟨w.heap.size + 1, 1, none⟩ = some (.slice A ls.length k) ∧ w'.cell? ⟨w.heap.size + 1, 2, none⟩ = some (.int .i64 re) ∧ w'.cell? ⟨w.heap.size + 1, 3, none⟩ = some (.int .i64 ba) ∧ w'.cell? ⟨w.heap.size, 0, none⟩ = some (.int .u64 id) ∧ w'.cell? ⟨w.heap.size, 1, none⟩ = some (.int .i64 co) ∧ w'.cell? ⟨w.heap.size, 2, none⟩ = some (.int .i64 1) ∧ w'.cell? ⟨w.heap.size, 3, none⟩ = some (.int .i64 lv) ∧ w'.cell? ⟨w.heap.size, 4, none⟩ = some (.int .u64 gn) ∧ w'.cell? ⟨w.heap.size, 5, none⟩ = some (.int .i64 fr) ∧ w'.cell? ⟨w.heap.size, 6, none⟩ = some (.int .i64 lf) ∧ w'.cell? ⟨w.heap.size, 7, none⟩ = some (.int .i64 du) ∧ w'.cell? ⟨w.heap.size, 8, none⟩ = some (.int .i64 tl)) (ds := [11]) #[false, false, false, false, false, false, false, false, false, false, false, false, false, false] (by kernel_rfl) rfl rfl ⟨z0, z1, z2, z3, z4, z5, z6, z7, z8, z9, z10, z11, z12⟩ (fun hHeld => ?_); refine with_tabW fire_tab9 fire_bits9 (fun HT_ HW_ => ?_)
  clear z0 z1 z2 z3 z4 z5 z6 z7 z8 z9 z10 z11 z12
  generalize w2.drew = w3 at HC_3 HU_3 hs_3 HLq_3 Bt_3 Bq_3 Bz_3 hHeld ⊢
  refine pure_ (i := 0) (N := some 46) (v := ?_) (a' := ?_) #[true, false, false, false, false, false, false, false, false, false, false, false, false, false] rfl rfl (any_of HT_.out (by kernel_rfl)) (fun _ _ _ h => h) (Or.inl ⟨by rfl, ?_⟩) ?_ ?_
  rotate_left
  · intro w'
    go_simp
    with_reducible rfl
  rotate_left
  · simp only [Act.put, List.setIfInBounds_toArray, List.set_cons_zero, List.set_cons_succ, i64_w, i32_w]
    rfl
  refine pure_ (i := 4) (N := some 50) (v := ?_) (a' := ?_) #[true, false, false, false, true, false, false, false, false, false, false, false, false, false] rfl rfl (any_of HT_.out (by kernel_rfl)) (fun _ _ _ h => h) (Or.inl ⟨by rfl, ?_⟩) ?_ ?_
  rotate_left
  · intro w'
    go_simp
    with_reducible rfl
  rotate_left
  · simp only [Act.put, List.setIfInBounds_toArray, List.set_cons_zero, List.set_cons_succ, i64_w, i32_w]
    rfl
  refine take_ (i := 1) (N := some 47) (v := ?_) (a' := ?_) #[true, true, false, false, true, false, false, false, false, false, false, false, false, false] rfl rfl (take_ofW HT_.out HW_.out (by kernel_rfl)) (fun _ _ _ h => h) (Or.inl ⟨by rfl, ?_⟩) hHeld ?_ ?_
  rotate_left
  · rintro w' ⟨s0, s1, s2, s3, s4, s5, s6, s7, s8, s9, s10, s11, s12⟩
    go_simp
    with_reducible rfl
  rotate_left
  · simp only [Act.put, List.setIfInBounds_toArray, List.set_cons_zero, List.set_cons_succ, i64_w, i32_w]
    rfl
  refine take_ (i := 2) (N := some 48) (v := ?_) (a' := ?_) #[true, true, true, false, true, false, false, false, false, false, false, false, false, false] rfl rfl (take_ofW HT_.out HW_.out (by kernel_rfl)) (fun _ _ _ h => h) (Or.inl ⟨by rfl, ?_⟩) hHeld ?_ ?_
  rotate_left
  · rintro w' ⟨s0, s1, s2, s3, s4, s5, s6, s7, s8, s9, s10, s11, s12⟩
    go_simp
    with_reducible rfl
  rotate_left
  · simp only [Act.put, List.setIfInBounds_toArray, List.set_cons_zero, List.set_cons_succ, i64_w, i32_w]
    rfl
  refine join_ (σ := Nat) 3 #[true, true, true, true, true, true, true, true, true, true, true, false, false, false] (fun s_ => [(46, .pointer (some ⟨kb, 0, none⟩)), (50, .int .i64 now), (48, .agg #[.int .u64 id, .int .i64 co, .int .i64 1, .int .i64 lv, .int .u64 gn, .int .i64 fr, .int .i64 lf, .int .i64 du, .int .i64 tl]), (47, .agg #[.int .i64 cal, .slice A ls.length k, .int .i64 re, .int .i64 ba]), (49, .agg #[.int .i64 lv, .int .i64 fr, .int .i64 lf, .int .i64 du]), (51, .tuple #[.agg #[.int .i64 a, .int .i64 b, .int .i64 c, .int .i64 d], .bool true, .int .i64 e]), (45, .tuple #[.agg #[.int .i64 a, .int .i64 b, .int .i64 c, .int .i64 d], .bool true, .int .i64 e]), (52, .agg #[.int .i64 a, .int .i64 b, .int .i64 c, .int .i64 d]), (53, .bool true), (54, .int .i64 e), (13, .pointer (some ⟨s_, 0, none⟩))]) (fun s_ w' => (w'.cell? ⟨w.heap.size + 1, 0, none⟩ = some (.int .i64 cal) ∧ w'.cell? ⟨w.heap.size + 1, 1, none⟩ = some (.slice A ls.length k) ∧ w'.cell? ⟨w.heap.size + 1, 2, none⟩ = some (.int .i64 re) ∧ w'.cell? ⟨w.heap.size + 1, 3, none⟩ = some (.int .i64 ba) ∧ w'.cell? ⟨w.heap.size, 0, none⟩ = some (.int .u64 id) ∧ w'.cell? ⟨w.heap.size, 1, none⟩ = some (.int .i64 co) ∧ w'.cell? ⟨w.heap.size, 2, none⟩ = some (.int .i64 1) ∧ w'.cell? ⟨w.heap.size, 3, none⟩ = some (.int .i64 lv) ∧ w'.cell? ⟨w.heap.size, 4, none⟩ = some (.int .u64 gn) ∧ w'.cell? ⟨w.heap.size, 5, none⟩ = some (.int .i64 fr) ∧ w'.cell? ⟨w.heap.size, 6, none⟩ = some (.int .i64 lf) ∧ w'.cell? ⟨w.heap.size, 7, none⟩ = some (.int .i64 du) ∧ w'.cell? ⟨w.heap.size, 8, none⟩ = some (.int .i64 tl)) ∧ ClkAt w' n kb ab pb cb off week closed ∧ Upd cb w w' ∧ w'.heap[w.heap.size]? = some (.cells #[.int .u64 id, .int .i64 co, .int .i64 1, .int .i64 lv, .int .u64 gn, .int .i64 fr, .int .i64 lf, .int .i64 du, .int .i64 tl] 24 (0, 0)) ∧ w'.heap[w.heap.size + 1]? = some (.cells #[.int .i64 cal, .slice A ls.length k, .int .i64 re, .int .i64 ba] 49 (0, 0)) ∧ w'.heap[w.heap.size + 1 + 1]? = some (.cells #[.int .u64 0, .int .i64 0, .int .i64 0, .int .i64 0, .int .u64 0, .int .i64 0, .int .i64 0, .int .i64 0, .int .i64 0] 24 (0, 0)) ∧ w'.heap[s_]? = some (.cells #[.int .i64 0, .int .i64 0, .int .i64 0, .int .i64 0] 108 (0, 0)) ∧ w.heap.size + 1 + 1 < s_) ?_ ?_
  rotate_left
  · intro hCont
    refine two_ (i := 3) (j := 10) (Ni := some 49) (Nj := some 13) #[true, true, true, true, true, false, false, false, false, false, false, false, false, false] #[true, true, true, false, true, false, false, false, false, false, true, false, false, false] rfl rfl rfl rfl (two_of HT_.out (by kernel_rfl)) (by decide) (by decide) (fun K hK => ?_) (fun K hK => ?_)
    · skip
      refine goes_ Try.func59 (by kernel_rfl) rfl #[.agg #[.int .u64 id, .int .i64 co, .int .i64 1, .int .i64 lv, .int .u64 gn, .int .i64 fr, .int .i64 lf, .int .i64 du, .int .i64 tl]] (by rfl) rfl rfl (by (try simp only [List.map_toArray, List.map_cons, List.map_nil]); first | done | rfl) ?_
      refine (ticket_step.calls id co 1 lv gn fr lf du tl lv fr lf du _ rfl).mono ?_
      rintro e w4 ⟨rfl, q1⟩
      refine ⟨_, rfl, ?_⟩
      have HC_4 := Aside0.mk (HC_3.out.below q1)
      have HU_4 := Aside0.mk (HU_3.out.then q1)
      have hs_4 : w3.heap.size ≤ w4.heap.size := q1.size
      have HLq_4 : Aside0 (Kd.C k98 w4 A ls.length ls ∧ ls.length ≤ k) := ⟨⟨Kd.C_below HLq_3.out.1 q1, HLq_3.out.2⟩⟩
      have Bt_4 := Aside0.mk (blk_below Bt_3.out q1)
      have Bq_4 := Aside0.mk (blk_below Bq_3.out q1)
      have Bz_4 := Aside0.mk (blk_below Bz_3.out q1)
      clear q1
      refine hK.out _ _ ⟨(blk_cell Bq_4.out 0).trans rfl, (blk_cell Bq_4.out 1).trans rfl, (blk_cell Bq_4.out 2).trans rfl, (blk_cell Bq_4.out 3).trans rfl, (blk_cell Bt_4.out 0).trans rfl, (blk_cell Bt_4.out 1).trans rfl, (blk_cell Bt_4.out 2).trans rfl, (blk_cell Bt_4.out 3).trans rfl, (blk_cell Bt_4.out 4).trans rfl, (blk_cell Bt_4.out 5).trans rfl, (blk_cell Bt_4.out 6).trans rfl, (blk_cell Bt_4.out 7).trans rfl, (blk_cell Bt_4.out 8).trans rfl⟩ (fun hHeld => ?_)
      clear hK K
      refine norm_ (a' := ?_) ?_ ?_
      rotate_left
      · show Act.put _ (some 49) _ = _
        simp only [Act.put, List.setIfInBounds_toArray, List.set_cons_zero, List.set_cons_succ, i64_w, i32_w]
        rfl
      refine two_ (i := 5) (j := 10) (Ni := some 51) (Nj := some 13) #[true, true, true, true, true, true, false, false, false, false, false, false, false, false] #[true, true, true, true, true, false, false, false, false, false, true, false, false, false] rfl rfl rfl rfl (two_of HT_.out (by kernel_rfl)) (by decide) (by decide) (fun K hK => ?_) (fun K hK => ?_)
      · skip
        refine goes_ Try.func61 (by kernel_rfl) rfl #[.pointer (some ⟨kb, 0, none⟩), .agg #[.int .i64 cal, .slice A ls.length k, .int .i64 re, .int .i64 ba], .agg #[.int .i64 lv, .int .i64 fr, .int .i64 lf, .int .i64 du], .int .i64 now] (by rfl) rfl rfl (by (try simp only [List.map_toArray, List.map_cons, List.map_nil]); first | done | rfl) ?_
        refine (stepnext_any cal re ba lv fr lf du now a b c d e true _ HC_4.out (by omega) HLq_4.out HD.out HM.out).mono ?_
        rintro e w5 ⟨rfl, q1, q2⟩
        refine ⟨_, rfl, ?_⟩
        have HC_5 := Aside0.mk q1
        have HU_5 := Aside0.mk (HU_4.out.trans q2)
        have hs_5 : w4.heap.size ≤ w5.heap.size := q2.size
        have Bt_5 := Aside0.mk (q2.blk Bt_4.out (by omega))
        have Bq_5 := Aside0.mk (q2.blk Bq_4.out (by omega))
        have Bz_5 := Aside0.mk (q2.blk Bz_4.out (by omega))
        clear q1 q2
        refine hK.out _ _ ⟨(blk_cell Bq_5.out 0).trans rfl, (blk_cell Bq_5.out 1).trans rfl, (blk_cell Bq_5.out 2).trans rfl, (blk_cell Bq_5.out 3).trans rfl, (blk_cell Bt_5.out 0).trans rfl, (blk_cell Bt_5.out 1).trans rfl, (blk_cell Bt_5.out 2).trans rfl, (blk_cell Bt_5.out 3).trans rfl, (blk_cell Bt_5.out 4).trans rfl, (blk_cell Bt_5.out 5).trans rfl, (blk_cell Bt_5.out 6).trans rfl, (blk_cell Bt_5.out 7).trans rfl, (blk_cell Bt_5.out 8).trans rfl⟩ (fun hHeld => ?_)
        clear hK K
        refine norm_ (a' := ?_) ?_ ?_
        rotate_left
        · show Act.put _ (some 51) _ = _
          simp only [Act.put, List.setIfInBounds_toArray, List.set_cons_zero, List.set_cons_succ, i64_w, i32_w]
          rfl
        refine pure_ (i := 6) (N := some 45) (v := ?_) (a' := ?_) #[true, true, true, true, true, true, true, false, false, false, false, false, false, false] rfl rfl (any_of HT_.out (by kernel_rfl)) (fun _ _ _ h => h) (Or.inl ⟨by rfl, ?_⟩) ?_ ?_
        rotate_left
        · intro w'
          go_simp
          with_reducible rfl
        rotate_left
        · simp only [Act.put, List.setIfInBounds_toArray, List.set_cons_zero, List.set_cons_succ, i64_w, i32_w]
          rfl
        refine pure_ (i := 7) (N := some 52) (v := ?_) (a' := ?_) #[true, true, true, true, true, true, true, true, false, false, false, false, false, false] rfl rfl (any_of HT_.out (by kernel_rfl)) (fun _ _ _ h => h) (Or.inl ⟨by rfl, ?_⟩) ?_ ?_
        rotate_left
        · intro w'
          go_simp
          with_reducible rfl
        rotate_left
        · simp only [Act.put, List.setIfInBounds_toArray, List.set_cons_zero, List.set_cons_succ, i64_w, i32_w]
          rfl
        refine pure_ (i := 8) (N := some 53) (v := ?_) (a' := ?_) #[true, true, true, true, true, true, true, true, true, false, false, false, false, false] rfl rfl (any_of HT_.out (by kernel_rfl)) (fun _ _ _ h => h) (Or.inl ⟨by rfl, ?_⟩) ?_ ?_
        rotate_left
        · intro w'
          go_simp
          with_reducible rfl
        rotate_left
        · simp only [Act.put, List.setIfInBounds_toArray, List.set_cons_zero, List.set_cons_succ, i64_w, i32_w]
          rfl
        refine pure_ (i := 9) (N := some 54) (v := ?_) (a' := ?_) #[true, true, true, true, true, true, true, true, true, true, false, false, false, false] rfl rfl (any_of HT_.out (by kernel_rfl)) (fun _ _ _ h => h) (Or.inl ⟨by rfl, ?_⟩) ?_ ?_
        rotate_left
        · intro w'
          go_simp
          with_reducible rfl
        rotate_left
        · simp only [Act.put, List.setIfInBounds_toArray, List.set_cons_zero, List.set_cons_succ, i64_w, i32_w]
          rfl
        refine one_ (i := 10) (N := some 13) #[true, true, true, true, true, true, true, true, true, true, true, false, false, false] rfl rfl (one_of HT_.out (by kernel_rfl)) (by decide) (fun K hK => ?_)
        refine box_step ?hg (N := 13) ?hd (cs := #[.int .i64 0, .int .i64 0, .int .i64 0, .int .i64 0]) (t := 108) ?hr ?_; (case hd => rfl); (case hg => rfl); (case hr => first | (go_simp; done) | (go_simp; rfl))
        intro gs hg w6 hbox hb
        have hgz : w.heap.size + 1 + 1 < gs := by rw [hg]; exact blk_lt Bz_5.out
        have HC_6 := Aside0.mk (HC_5.out.below hb)
        have HU_6 := Aside0.mk (HU_5.out.then hb)
        have hs_6 : w5.heap.size ≤ w6.heap.size := hb.size
        have Bt_6 := Aside0.mk (blk_below Bt_5.out hb)
        have Bq_6 := Aside0.mk (blk_below Bq_5.out hb)
        have Bz_6 := Aside0.mk (blk_below Bz_5.out hb)
        clear hb
        have Bs_6 := Aside0.mk hbox
        clear hbox hg
        refine hK.out _ _ ⟨(blk_cell Bq_6.out 0).trans rfl, (blk_cell Bq_6.out 1).trans rfl, (blk_cell Bq_6.out 2).trans rfl, (blk_cell Bq_6.out 3).trans rfl, (blk_cell Bt_6.out 0).trans rfl, (blk_cell Bt_6.out 1).trans rfl, (blk_cell Bt_6.out 2).trans rfl, (blk_cell Bt_6.out 3).trans rfl, (blk_cell Bt_6.out 4).trans rfl, (blk_cell Bt_6.out 5).trans rfl, (blk_cell Bt_6.out 6).trans rfl, (blk_cell Bt_6.out 7).trans rfl, (blk_cell Bt_6.out 8).trans rfl⟩ (fun hHeld => ?_)
        clear hK K
        refine norm_ (a' := ?_) ?_ ?_
        rotate_left
        · show Act.put _ (some 13) _ = _
          simp only [Act.put, List.setIfInBounds_toArray, List.set_cons_zero, List.set_cons_succ, i64_w, i32_w]
          rfl
        exact norm_ (by simp only [putAll, Act.put, List.setIfInBounds_toArray, List.set_cons_zero, List.set_cons_succ]) (hCont gs _ ⟨hHeld, HC_6.out, HU_6.out, Bt_6.out, Bq_6.out, Bz_6.out, Bs_6.out, hgz⟩)
      · skip
        refine box_step ?hg (N := 13) ?hd (cs := #[.int .i64 0, .int .i64 0, .int .i64 0, .int .i64 0]) (t := 108) ?hr ?_; (case hd => rfl); (case hg => rfl); (case hr => first | (go_simp; done) | (go_simp; rfl))
        intro gs hg w5 hbox hb
        have hgz : w.heap.size + 1 + 1 < gs := by rw [hg]; exact blk_lt Bz_4.out
        have HC_5 := Aside0.mk (HC_4.out.below hb)
        have HU_5 := Aside0.mk (HU_4.out.then hb)
        have hs_5 : w4.heap.size ≤ w5.heap.size := hb.size
        have HLq_5 : Aside0 (Kd.C k98 w5 A ls.length ls ∧ ls.length ≤ k) := ⟨⟨Kd.C_below HLq_4.out.1 hb, HLq_4.out.2⟩⟩
        have Bt_5 := Aside0.mk (blk_below Bt_4.out hb)
        have Bq_5 := Aside0.mk (blk_below Bq_4.out hb)
        have Bz_5 := Aside0.mk (blk_below Bz_4.out hb)
        clear hb
        have Bs_5 := Aside0.mk hbox
        clear hbox hg
        refine hK.out _ _ ⟨(blk_cell Bq_5.out 0).trans rfl, (blk_cell Bq_5.out 1).trans rfl, (blk_cell Bq_5.out 2).trans rfl, (blk_cell Bq_5.out 3).trans rfl, (blk_cell Bt_5.out 0).trans rfl, (blk_cell Bt_5.out 1).trans rfl, (blk_cell Bt_5.out 2).trans rfl, (blk_cell Bt_5.out 3).trans rfl, (blk_cell Bt_5.out 4).trans rfl, (blk_cell Bt_5.out 5).trans rfl, (blk_cell Bt_5.out 6).trans rfl, (blk_cell Bt_5.out 7).trans rfl, (blk_cell Bt_5.out 8).trans rfl⟩ (fun hHeld => ?_)
        clear hK K
        refine norm_ (a' := ?_) ?_ ?_
        rotate_left
        · show Act.put _ (some 13) _ = _
          simp only [Act.put, List.setIfInBounds_toArray, List.set_cons_zero, List.set_cons_succ, i64_w, i32_w]
          rfl
        refine one_ (i := 5) (N := some 51) #[true, true, true, true, true, true, false, false, false, false, true, false, false, false] rfl rfl (one_of HT_.out (by kernel_rfl)) (by decide) (fun K hK => ?_)
        refine goes_ Try.func61 (by kernel_rfl) rfl #[.pointer (some ⟨kb, 0, none⟩), .agg #[.int .i64 cal, .slice A ls.length k, .int .i64 re, .int .i64 ba], .agg #[.int .i64 lv, .int .i64 fr, .int .i64 lf, .int .i64 du], .int .i64 now] (by rfl) rfl rfl (by (try simp only [List.map_toArray, List.map_cons, List.map_nil]); first | done | rfl) ?_
        refine (stepnext_any cal re ba lv fr lf du now a b c d e true _ HC_5.out (by omega) HLq_5.out HD.out HM.out).mono ?_
        rintro e w6 ⟨rfl, q1, q2⟩
        refine ⟨_, rfl, ?_⟩
        have HC_6 := Aside0.mk q1
        have HU_6 := Aside0.mk (HU_5.out.trans q2)
        have hs_6 : w5.heap.size ≤ w6.heap.size := q2.size
        have Bt_6 := Aside0.mk (q2.blk Bt_5.out (by omega))
        have Bq_6 := Aside0.mk (q2.blk Bq_5.out (by omega))
        have Bz_6 := Aside0.mk (q2.blk Bz_5.out (by omega))
        have Bs_6 := Aside0.mk (q2.blk Bs_5.out (by omega))
        clear q1 q2
        obtain ⟨ds0, ds1, ds2, ds3⟩ := cells4 Bs_6.out
        refine hK.out _ _ ⟨(blk_cell Bq_6.out 0).trans rfl, (blk_cell Bq_6.out 1).trans rfl, (blk_cell Bq_6.out 2).trans rfl, (blk_cell Bq_6.out 3).trans rfl, (blk_cell Bt_6.out 0).trans rfl, (blk_cell Bt_6.out 1).trans rfl, (blk_cell Bt_6.out 2).trans rfl, (blk_cell Bt_6.out 3).trans rfl, (blk_cell Bt_6.out 4).trans rfl, (blk_cell Bt_6.out 5).trans rfl, (blk_cell Bt_6.out 6).trans rfl, (blk_cell Bt_6.out 7).trans rfl, (blk_cell Bt_6.out 8).trans rfl⟩ (fun hHeld => ?_)
        clear hK K
        refine norm_ (a' := ?_) ?_ ?_
        rotate_left
        · show Act.put _ (some 51) _ = _
          simp only [Act.put, List.setIfInBounds_toArray, List.set_cons_zero, List.set_cons_succ, i64_w, i32_w]
          rfl
        refine pure_ (i := 6) (N := some 45) (v := ?_) (a' := ?_) #[true, true, true, true, true, true, true, false, false, false, true, false, false, false] rfl rfl (any_of HT_.out (by kernel_rfl)) (fun _ _ _ h => h) (Or.inl ⟨by rfl, ?_⟩) ?_ ?_
        rotate_left
        · intro w'
          go_simp
          with_reducible rfl
        rotate_left
        · simp only [Act.put, List.setIfInBounds_toArray, List.set_cons_zero, List.set_cons_succ, i64_w, i32_w]
          rfl
        refine pure_ (i := 7) (N := some 52) (v := ?_) (a' := ?_) #[true, true, true, true, true, true, true, true, false, false, true, false, false, false] rfl rfl (any_of HT_.out (by kernel_rfl)) (fun _ _ _ h => h) (Or.inl ⟨by rfl, ?_⟩) ?_ ?_
        rotate_left
        · intro w'
          go_simp
          with_reducible rfl
        rotate_left
        · simp only [Act.put, List.setIfInBounds_toArray, List.set_cons_zero, List.set_cons_succ, i64_w, i32_w]
          rfl
        refine pure_ (i := 8) (N := some 53) (v := ?_) (a' := ?_) #[true, true, true, true, true, true, true, true, true, false, true, false, false, false] rfl rfl (any_of HT_.out (by kernel_rfl)) (fun _ _ _ h => h) (Or.inl ⟨by rfl, ?_⟩) ?_ ?_
        rotate_left
        · intro w'
          go_simp
          with_reducible rfl
        rotate_left
        · simp only [Act.put, List.setIfInBounds_toArray, List.set_cons_zero, List.set_cons_succ, i64_w, i32_w]
          rfl
        refine pure_ (i := 9) (N := some 54) (v := ?_) (a' := ?_) #[true, true, true, true, true, true, true, true, true, true, true, false, false, false] rfl rfl (any_of HT_.out (by kernel_rfl)) (fun _ _ _ h => h) (Or.inl ⟨by rfl, ?_⟩) ?_ ?_
        rotate_left
        · intro w'
          go_simp
          with_reducible rfl
        rotate_left
        · simp only [Act.put, List.setIfInBounds_toArray, List.set_cons_zero, List.set_cons_succ, i64_w, i32_w]
          rfl
        exact norm_ (by simp only [putAll, Act.put, List.setIfInBounds_toArray, List.set_cons_zero, List.set_cons_succ]) (hCont gs _ ⟨hHeld, HC_6.out, HU_6.out, Bt_6.out, Bq_6.out, Bz_6.out, Bs_6.out, hgz⟩)
    · skip
      refine box_step ?hg (N := 13) ?hd (cs := #[.int .i64 0, .int .i64 0, .int .i64 0, .int .i64 0]) (t := 108) ?hr ?_; (case hd => rfl); (case hg => rfl); (case hr => first | (go_simp; done) | (go_simp; rfl))
      intro gs hg w4 hbox hb
      have hgz : w.heap.size + 1 + 1 < gs := by rw [hg]; exact blk_lt Bz_3.out
      have HC_4 := Aside0.mk (HC_3.out.below hb)
      have HU_4 := Aside0.mk (HU_3.out.then hb)
      have hs_4 : w3.heap.size ≤ w4.heap.size := hb.size
      have HLq_4 : Aside0 (Kd.C k98 w4 A ls.length ls ∧ ls.length ≤ k) := ⟨⟨Kd.C_below HLq_3.out.1 hb, HLq_3.out.2⟩⟩
      have Bt_4 := Aside0.mk (blk_below Bt_3.out hb)
      have Bq_4 := Aside0.mk (blk_below Bq_3.out hb)
      have Bz_4 := Aside0.mk (blk_below Bz_3.out hb)
      clear hb
      have Bs_4 := Aside0.mk hbox
      clear hbox hg
      refine hK.out _ _ ⟨(blk_cell Bq_4.out 0).trans rfl, (blk_cell Bq_4.out 1).trans rfl, (blk_cell Bq_4.out 2).trans rfl, (blk_cell Bq_4.out 3).trans rfl, (blk_cell Bt_4.out 0).trans rfl, (blk_cell Bt_4.out 1).trans rfl, (blk_cell Bt_4.out 2).trans rfl, (blk_cell Bt_4.out 3).trans rfl, (blk_cell Bt_4.out 4).trans rfl, (blk_cell Bt_4.out 5).trans rfl, (blk_cell Bt_4.out 6).trans rfl, (blk_cell Bt_4.out 7).trans rfl, (blk_cell Bt_4.out 8).trans rfl⟩ (fun hHeld => ?_)
      clear hK K
      refine norm_ (a' := ?_) ?_ ?_
      rotate_left
      · show Act.put _ (some 13) _ = _
        simp only [Act.put, List.setIfInBounds_toArray, List.set_cons_zero, List.set_cons_succ, i64_w, i32_w]
        rfl
      refine one_ (i := 3) (N := some 49) #[true, true, true, true, true, false, false, false, false, false, true, false, false, false] rfl rfl (one_of HT_.out (by kernel_rfl)) (by decide) (fun K hK => ?_)
      refine goes_ Try.func59 (by kernel_rfl) rfl #[.agg #[.int .u64 id, .int .i64 co, .int .i64 1, .int .i64 lv, .int .u64 gn, .int .i64 fr, .int .i64 lf, .int .i64 du, .int .i64 tl]] (by rfl) rfl rfl (by (try simp only [List.map_toArray, List.map_cons, List.map_nil]); first | done | rfl) ?_
      refine (ticket_step.calls id co 1 lv gn fr lf du tl lv fr lf du _ rfl).mono ?_
      rintro e w5 ⟨rfl, q1⟩
      refine ⟨_, rfl, ?_⟩
      have HC_5 := Aside0.mk (HC_4.out.below q1)
      have HU_5 := Aside0.mk (HU_4.out.then q1)
      have hs_5 : w4.heap.size ≤ w5.heap.size := q1.size
      have HLq_5 : Aside0 (Kd.C k98 w5 A ls.length ls ∧ ls.length ≤ k) := ⟨⟨Kd.C_below HLq_4.out.1 q1, HLq_4.out.2⟩⟩
      have Bt_5 := Aside0.mk (blk_below Bt_4.out q1)
      have Bq_5 := Aside0.mk (blk_below Bq_4.out q1)
      have Bz_5 := Aside0.mk (blk_below Bz_4.out q1)
      have Bs_5 := Aside0.mk (blk_below Bs_4.out q1)
      clear q1
      obtain ⟨ds0, ds1, ds2, ds3⟩ := cells4 Bs_5.out
      refine hK.out _ _ ⟨(blk_cell Bq_5.out 0).trans rfl, (blk_cell Bq_5.out 1).trans rfl, (blk_cell Bq_5.out 2).trans rfl, (blk_cell Bq_5.out 3).trans rfl, (blk_cell Bt_5.out 0).trans rfl, (blk_cell Bt_5.out 1).trans rfl, (blk_cell Bt_5.out 2).trans rfl, (blk_cell Bt_5.out 3).trans rfl, (blk_cell Bt_5.out 4).trans rfl, (blk_cell Bt_5.out 5).trans rfl, (blk_cell Bt_5.out 6).trans rfl, (blk_cell Bt_5.out 7).trans rfl, (blk_cell Bt_5.out 8).trans rfl⟩ (fun hHeld => ?_)
      clear hK K
      refine norm_ (a' := ?_) ?_ ?_
      rotate_left
      · show Act.put _ (some 49) _ = _
        simp only [Act.put, List.setIfInBounds_toArray, List.set_cons_zero, List.set_cons_succ, i64_w, i32_w]
        rfl
      refine one_ (i := 5) (N := some 51) #[true, true, true, true, true, true, false, false, false, false, true, false, false, false] rfl rfl (one_of HT_.out (by kernel_rfl)) (by decide) (fun K hK => ?_)
      refine goes_ Try.func61 (by kernel_rfl) rfl #[.pointer (some ⟨kb, 0, none⟩), .agg #[.int .i64 cal, .slice A ls.length k, .int .i64 re, .int .i64 ba], .agg #[.int .i64 lv, .int .i64 fr, .int .i64 lf, .int .i64 du], .int .i64 now] (by rfl) rfl rfl (by (try simp only [List.map_toArray, List.map_cons, List.map_nil]); first | done | rfl) ?_
      refine (stepnext_any cal re ba lv fr lf du now a b c d e true _ HC_5.out (by omega) HLq_5.out HD.out HM.out).mono ?_
      rintro e w6 ⟨rfl, q1, q2⟩
      refine ⟨_, rfl, ?_⟩
      have HC_6 := Aside0.mk q1
      have HU_6 := Aside0.mk (HU_5.out.trans q2)
      have hs_6 : w5.heap.size ≤ w6.heap.size := q2.size
      have Bt_6 := Aside0.mk (q2.blk Bt_5.out (by omega))
      have Bq_6 := Aside0.mk (q2.blk Bq_5.out (by omega))
      have Bz_6 := Aside0.mk (q2.blk Bz_5.out (by omega))
      have Bs_6 := Aside0.mk (q2.blk Bs_5.out (by omega))
      clear q1 q2
      obtain ⟨ds0, ds1, ds2, ds3⟩ := cells4 Bs_6.out
      refine hK.out _ _ ⟨(blk_cell Bq_6.out 0).trans rfl, (blk_cell Bq_6.out 1).trans rfl, (blk_cell Bq_6.out 2).trans rfl, (blk_cell Bq_6.out 3).trans rfl, (blk_cell Bt_6.out 0).trans rfl, (blk_cell Bt_6.out 1).trans rfl, (blk_cell Bt_6.out 2).trans rfl, (blk_cell Bt_6.out 3).trans rfl, (blk_cell Bt_6.out 4).trans rfl, (blk_cell Bt_6.out 5).trans rfl, (blk_cell Bt_6.out 6).trans rfl, (blk_cell Bt_6.out 7).trans rfl, (blk_cell Bt_6.out 8).trans rfl⟩ (fun hHeld => ?_)
      clear hK K
      refine norm_ (a' := ?_) ?_ ?_
      rotate_left
      · show Act.put _ (some 51) _ = _
        simp only [Act.put, List.setIfInBounds_toArray, List.set_cons_zero, List.set_cons_succ, i64_w, i32_w]
        rfl
      refine pure_ (i := 6) (N := some 45) (v := ?_) (a' := ?_) #[true, true, true, true, true, true, true, false, false, false, true, false, false, false] rfl rfl (any_of HT_.out (by kernel_rfl)) (fun _ _ _ h => h) (Or.inl ⟨by rfl, ?_⟩) ?_ ?_
      rotate_left
      · intro w'
        go_simp
        with_reducible rfl
      rotate_left
      · simp only [Act.put, List.setIfInBounds_toArray, List.set_cons_zero, List.set_cons_succ, i64_w, i32_w]
        rfl
      refine pure_ (i := 7) (N := some 52) (v := ?_) (a' := ?_) #[true, true, true, true, true, true, true, true, false, false, true, false, false, false] rfl rfl (any_of HT_.out (by kernel_rfl)) (fun _ _ _ h => h) (Or.inl ⟨by rfl, ?_⟩) ?_ ?_
      rotate_left
      · intro w'
        go_simp
        with_reducible rfl
      rotate_left
      · simp only [Act.put, List.setIfInBounds_toArray, List.set_cons_zero, List.set_cons_succ, i64_w, i32_w]
        rfl
      refine pure_ (i := 8) (N := some 53) (v := ?_) (a' := ?_) #[true, true, true, true, true, true, true, true, true, false, true, false, false, false] rfl rfl (any_of HT_.out (by kernel_rfl)) (fun _ _ _ h => h) (Or.inl ⟨by rfl, ?_⟩) ?_ ?_
      rotate_left
      · intro w'
        go_simp
        with_reducible rfl
      rotate_left
      · simp only [Act.put, List.setIfInBounds_toArray, List.set_cons_zero, List.set_cons_succ, i64_w, i32_w]
        rfl
      refine pure_ (i := 9) (N := some 54) (v := ?_) (a' := ?_) #[true, true, true, true, true, true, true, true, true, true, true, false, false, false] rfl rfl (any_of HT_.out (by kernel_rfl)) (fun _ _ _ h => h) (Or.inl ⟨by rfl, ?_⟩) ?_ ?_
      rotate_left
      · intro w'
        go_simp
        with_reducible rfl
      rotate_left
      · simp only [Act.put, List.setIfInBounds_toArray, List.set_cons_zero, List.set_cons_succ, i64_w, i32_w]
        rfl
      exact norm_ (by simp only [putAll, Act.put, List.setIfInBounds_toArray, List.set_cons_zero, List.set_cons_succ]) (hCont gs _ ⟨hHeld, HC_6.out, HU_6.out, Bt_6.out, Bq_6.out, Bz_6.out, Bs_6.out, hgz⟩)
  rintro s_ w90 ⟨_, q1, q2, qb0, qb1, qb2, qb3, hgz⟩
  have HC_90 := Aside0.mk q1
  have HU_90 := Aside0.mk q2
  have hs_90 : w.heap.size ≤ w90.heap.size := q2.size
  have Bt_90 := Aside0.mk qb0
  have Bq_90 := Aside0.mk qb1
  have Bz_90 := Aside0.mk qb2
  have Bs_90 := Aside0.mk qb3
  clear q1 q2 qb0 qb1 qb2 qb3
  obtain ⟨ds0, ds1, ds2, ds3⟩ := cells4 Bs_90.out
  have fs := blk_frozen Bs_90.out
  simp only [putAll, Act.put, List.setIfInBounds_toArray, List.set_cons_zero, List.set_cons_succ]
  refine last_ (i := 11) (N := none) #[true, true, true, true, true, true, true, true, true, true, true, true, false, false] rfl rfl (one_of HT_.out (by kernel_rfl)) (by decide) (fun K hK => ?_)
  refine skip_ (w1 := ?_) (by rfl) rfl ?_ ?_
  rotate_left 1
  · go_simp
    rfl
  refine hK.out _ _ ?_
  clear hK K
  refine pure_ (i := 12) (N := some 14) (v := ?_) (a' := ?_) #[true, true, true, true, true, true, true, true, true, true, true, true, true, false] rfl rfl (any_of HT_.out (by kernel_rfl)) (fun _ _ _ h => h) (Or.inl ⟨by rfl, ?_⟩) ?_ ?_
  rotate_left
  · intro w'
    go_simp
    with_reducible rfl
  rotate_left
  · simp only [Act.put, List.setIfInBounds_toArray, List.set_cons_zero, List.set_cons_succ, i64_w, i32_w]
    rfl
  refine pure_ (i := 13) (N := some 15) (v := ?_) (a' := ?_) #[true, true, true, true, true, true, true, true, true, true, true, true, true, true] rfl rfl (any_of HT_.out (by kernel_rfl)) (fun _ _ _ h => h) (Or.inl ⟨by rfl, ?_⟩) ?_ ?_
  rotate_left
  · intro w'
    go_simp
    with_reducible rfl
  rotate_left
  · simp only [Act.put, List.setIfInBounds_toArray, List.set_cons_zero, List.set_cons_succ, i64_w, i32_w]
    rfl
  refine done_ (done_of HT_.out (by kernel_rfl)) ?_
  clear HT_ HW_
  clear ds0 ds1 ds2 ds3 fs
  obtain ⟨S1, S2, S3, S4, hs_91⟩ := step_set4 (.int .i64 a) (.int .i64 b) (.int .i64 c) (.int .i64 d) HC_90.out HU_90.out Bs_90.out ⟨by decide, by decide, by decide, by decide, by decide, by decide⟩ (by omega)
  have HC_91 := Aside0.mk S1
  have HU_91 := Aside0.mk S2
  have Bs_91 := Aside0.mk S3
  have Bt_91 := Aside0.mk (S4 (g := w.heap.size) (by omega) Bt_90.out)
  have Bq_91 := Aside0.mk (S4 (g := w.heap.size + 1) (by omega) Bq_90.out)
  have Bz_91 := Aside0.mk (S4 (g := w.heap.size + 1 + 1) (by omega) Bz_90.out)
  clear S1 S2 S3 S4
  generalize ((((w90.setCell ⟨s_, 0, none⟩ (.int .i64 a)).setCell ⟨s_, 1, none⟩ (.int .i64 b)).setCell ⟨s_, 2, none⟩ (.int .i64 c)).setCell ⟨s_, 3, none⟩ (.int .i64 d)) = w91 at HC_91 HU_91 hs_91 Bt_91 Bq_91 Bz_91 Bs_91 ⊢
  obtain ⟨ds0, ds1, ds2, ds3⟩ := cells4 Bs_91.out
  have fs := blk_frozen Bs_91.out
  clear ds0 ds1 ds2 ds3 fs
  obtain ⟨dt0, dt1, dt2, dt3, dt4, dt5, dt6, dt7, dt8⟩ := cells9 Bt_91.out
  have ft := blk_frozen Bt_91.out
  obtain ⟨ds0, ds1, ds2, ds3⟩ := cells4 Bs_91.out
  go_upto_region 13 with (go_at_call 57; with_reducible refine (ticket_with.calls id co 1 lv gn fr lf du tl 1 a b c d 0 id co 1 a 0 b c d tl 0 w91 rfl).mono ?_; rintro e w92 ⟨rfl, q1⟩; clear dt0 dt1 dt2 dt3 dt4 dt5 dt6 dt7 dt8 ft ds0 ds1 ds2 ds3; have HC_92 := Aside0.mk (HC_91.out.below q1); have HU_92 := Aside0.mk (HU_91.out.then q1); have hs_92 : w91.heap.size ≤ w92.heap.size := q1.size; have Bt_92 := Aside0.mk (blk_below Bt_91.out q1); have Bq_92 := Aside0.mk (blk_below Bq_91.out q1); have Bz_92 := Aside0.mk (blk_below Bz_91.out q1); have Bs_92 := Aside0.mk (blk_below Bs_91.out q1); clear q1; obtain ⟨dt0, dt1, dt2, dt3, dt4, dt5, dt6, dt7, dt8⟩ := cells9 Bt_92.out; have ft := blk_frozen Bt_92.out; obtain ⟨ds0, ds1, ds2, ds3⟩ := cells4 Bs_92.out)
  clear dt0 dt1 dt2 dt3 dt4 dt5 dt6 dt7 dt8 ft ds0 ds1 ds2 ds3
  obtain ⟨dt0, dt1, dt2, dt3, dt4, dt5, dt6, dt7, dt8⟩ := cells9 Bt_92.out
  have ft := blk_frozen Bt_92.out
  clear dt0 dt1 dt2 dt3 dt4 dt5 dt6 dt7 dt8 ft
  obtain ⟨S1, S2, S3, S4, hs_93⟩ := step_set9 (.int .u64 id) (.int .i64 co) (.int .i64 1) (.int .i64 a) (.int .u64 0) (.int .i64 b) (.int .i64 c) (.int .i64 d) (.int .i64 tl) HC_92.out HU_92.out Bt_92.out ⟨by decide, by decide, by decide, by decide, by decide, by decide⟩ (by omega)
  have HC_93 := Aside0.mk S1
  have HU_93 := Aside0.mk S2
  have Bt_93 := Aside0.mk S3
  have Bq_93 := Aside0.mk (S4 (g := w.heap.size + 1) (by omega) Bq_92.out)
  have Bz_93 := Aside0.mk (S4 (g := w.heap.size + 1 + 1) (by omega) Bz_92.out)
  have Bs_93 := Aside0.mk (S4 (g := s_) (by omega) Bs_92.out)
  clear S1 S2 S3 S4
  generalize (((((((((w92.setCell ⟨w.heap.size, 0, none⟩ (.int .u64 id)).setCell ⟨w.heap.size, 1, none⟩ (.int .i64 co)).setCell ⟨w.heap.size, 2, none⟩ (.int .i64 1)).setCell ⟨w.heap.size, 3, none⟩ (.int .i64 a)).setCell ⟨w.heap.size, 4, none⟩ (.int .u64 0)).setCell ⟨w.heap.size, 5, none⟩ (.int .i64 b)).setCell ⟨w.heap.size, 6, none⟩ (.int .i64 c)).setCell ⟨w.heap.size, 7, none⟩ (.int .i64 d)).setCell ⟨w.heap.size, 8, none⟩ (.int .i64 tl)) = w93 at HC_93 HU_93 hs_93 Bt_93 Bq_93 Bz_93 Bs_93 ⊢
  have dt8 : w93.cell? ⟨w.heap.size, 8, none⟩ = some (.int .i64 tl) := (blk_cell Bt_93.out 8).trans rfl
  have ft := blk_frozen Bt_93.out
  have hW := HW.out
  have hmin : (2147483647 < tl) = False := eq_false (by omega)
  go_upto_region 14 with fail
  clear dt8 ft
  have S_0 := And.intro HC_93.out HU_93.out
  have S_1 := step_set S_0.1 S_0.2 Bt_93.out ⟨by decide, by decide, by decide, by decide, by decide, by decide⟩ (by omega) 8 (.int .i64 (tl + 1))
  have G_0 := blk_put (cs' := #[.int .u64 id, .int .i64 co, .int .i64 1, .int .i64 a, .int .u64 0, .int .i64 b, .int .i64 c, .int .i64 d, .int .i64 (tl + 1)]) Bt_93.out 8 (.int .i64 (tl + 1)) rfl
  have HC_94 := Aside0.mk S_1.1
  have HU_94 := Aside0.mk S_1.2
  have Bt_94 := Aside0.mk G_0
  have hs_94 : w93.heap.size ≤ (w93.setCell ⟨w.heap.size, 8, none⟩ (.int .i64 (tl + 1))).heap.size := by simp
  have Bq_94 : Aside0 ((w93.setCell ⟨w.heap.size, 8, none⟩ (.int .i64 (tl + 1))).heap[w.heap.size + 1]? = _) := ⟨((Below.heap_setCell _ _ _ _ (by show w.heap.size + 1 ≠ w.heap.size; omega)).trans Bq_93.out)⟩
  have Bz_94 : Aside0 ((w93.setCell ⟨w.heap.size, 8, none⟩ (.int .i64 (tl + 1))).heap[w.heap.size + 1 + 1]? = _) := ⟨((Below.heap_setCell _ _ _ _ (by show w.heap.size + 1 + 1 ≠ w.heap.size; omega)).trans Bz_93.out)⟩
  have Bs_94 : Aside0 ((w93.setCell ⟨w.heap.size, 8, none⟩ (.int .i64 (tl + 1))).heap[s_]? = _) := ⟨((Below.heap_setCell _ _ _ _ (by show s_ ≠ w.heap.size; omega)).trans Bs_93.out)⟩
  clear S_0 S_1 G_0
  generalize (w93.setCell ⟨w.heap.size, 8, none⟩ (.int .i64 (tl + 1))) = w94 at HC_94 HU_94 hs_94 Bt_94 Bq_94 Bz_94 Bs_94 ⊢
  have dt8 : w94.cell? ⟨w.heap.size, 8, none⟩ = some (.int .i64 (tl + 1)) := (blk_cell Bt_94.out 8).trans rfl
  have ft := blk_frozen Bt_94.out
  clear hW hmin
  clear dt8 ft
  obtain ⟨dt0, dt1, dt2, dt3, dt4, dt5, dt6, dt7, dt8⟩ := cells9 Bt_94.out
  obtain ⟨dz0, dz1, dz2, dz3, dz4, dz5, dz6, dz7, dz8⟩ := cells9 Bz_94.out
  have fz := blk_frozen Bz_94.out
  go_wp2
  clear dt0 dt1 dt2 dt3 dt4 dt5 dt6 dt7 dt8 dz0 dz1 dz2 dz3 dz4 dz5 dz6 dz7 dz8 fz
  obtain ⟨S1, S2, S3, S4, hs_95⟩ := step_set9 (.int .u64 id) (.int .i64 co) (.int .i64 1) (.int .i64 a) (.int .u64 0) (.int .i64 b) (.int .i64 c) (.int .i64 d) (.int .i64 (tl + 1)) HC_94.out HU_94.out Bz_94.out ⟨by decide, by decide, by decide, by decide, by decide, by decide⟩ (by omega)
  have HC_95 := Aside0.mk S1
  have HU_95 := Aside0.mk S2
  have Bz_95 := Aside0.mk S3
  have Bt_95 := Aside0.mk (S4 (g := w.heap.size) (by omega) Bt_94.out)
  have Bq_95 := Aside0.mk (S4 (g := w.heap.size + 1) (by omega) Bq_94.out)
  have Bs_95 := Aside0.mk (S4 (g := s_) (by omega) Bs_94.out)
  clear S1 S2 S3 S4
  generalize (((((((((w94.setCell ⟨w.heap.size + 1 + 1, 0, none⟩ (.int .u64 id)).setCell ⟨w.heap.size + 1 + 1, 1, none⟩ (.int .i64 co)).setCell ⟨w.heap.size + 1 + 1, 2, none⟩ (.int .i64 1)).setCell ⟨w.heap.size + 1 + 1, 3, none⟩ (.int .i64 a)).setCell ⟨w.heap.size + 1 + 1, 4, none⟩ (.int .u64 0)).setCell ⟨w.heap.size + 1 + 1, 5, none⟩ (.int .i64 b)).setCell ⟨w.heap.size + 1 + 1, 6, none⟩ (.int .i64 c)).setCell ⟨w.heap.size + 1 + 1, 7, none⟩ (.int .i64 d)).setCell ⟨w.heap.size + 1 + 1, 8, none⟩ (.int .i64 (tl + 1))) = w95 at HC_95 HU_95 hs_95 Bt_95 Bq_95 Bz_95 Bs_95 ⊢
  obtain ⟨dt0, dt1, dt2, dt3, dt4, dt5, dt6, dt7, dt8⟩ := cells9 Bt_95.out
  obtain ⟨dz0, dz1, dz2, dz3, dz4, dz5, dz6, dz7, dz8⟩ := cells9 Bz_95.out
  have fz := blk_frozen Bz_95.out
  refine bodyPost_ret (v := .tuple #[.agg #[.int .u64 id, .int .i64 co, .int .i64 1, .int .i64 a, .int .u64 0, .int .i64 b, .int .i64 c, .int .i64 d, .int .i64 (tl + 1)], .int .i64 lv, .int .i64 0]) (by simp [results, Try.results27, go_sem, dz0, dz1, dz2, dz3, dz4, dz5, dz6, dz7, dz8]) rfl ⟨rfl, HC_95.out, HU_95.out⟩
set_option maxHeartbeats 4000000 in
set_option maxRecDepth 100000 in
theorem tkfire_last (cal re ba now id co lv gn fr lf du tl a b c d e : Int) (w : World) (h : ClkAt w n kb ab pb cb off week closed) (hn : n ≤ w.heap.size) (hq : Kd.C k98 w A ls.length ls ∧ ls.length ≤ k) (hg : goodP cal ls re ba = true) (l0 : 0 ≤ lv) (l1 : lv < ls.length) (hx : du ≤ now) (hd : nextP off week closed cal ls re ba lv now = (a, b, c, d, e)) (hm : moreP off week closed cal ls re ba lv now = false) (t0 : 0 ≤ tl) (t1 : tl ≤ 2147483646) :
    Calls Try.prog 27 #[.agg #[.int .u64 id, .int .i64 co, .int .i64 1, .int .i64 lv, .int .u64 gn, .int .i64 fr, .int .i64 lf, .int .i64 du, .int .i64 tl], .pointer (some ⟨kb, 0, none⟩), .agg #[.int .i64 cal, .slice A ls.length k, .int .i64 re, .int .i64 ba], .int .i64 now] w fun r w' => r = .returned (.tuple #[.agg #[.int .u64 id, .int .i64 co, .int .i64 3, .int .i64 lv, .int .u64 0, .int .i64 0, .int .i64 0, .int .i64 0, .int .i64 (tl + 1)], .int .i64 lv, .int .i64 0]) ∧ ClkAt w' n kb ab pb cb off week closed ∧ Upd cb w w' := by
  have HD := Aside0.mk hd
  have HM := Aside0.mk hm
  have HW := Aside0.mk (wrap_id (show -9223372036854775808 ≤ tl + 1 by omega) (show tl + 1 ≤ 9223372036854775807 by omega))
  have HG := Aside0.mk (show (if goodP cal ls re ba = true then (0 : Int) else 2) = 0 by rw [hg]; rfl)
  have f1_ : decide (now < du) = false := decide_eq_false (by omega)
  have f2_ : decide (lv < 0) = false := decide_eq_false (by omega)
  have f3_ : decide ((ls.length : Int) ≤ lv) = false := decide_eq_false (by omega)
  have hnot : ∀ (x : Bool) (w : World), (Op.unary .not (.bool x)).run Try.prog w = .ok (.bool (!x)) w := fun _ _ => rfl
  clear hd hm hg
  have HB0 : Below w.heap.size w (((w.alloc (.cells #[.int .u64 id, .int .i64 co, .int .i64 1, .int .i64 lv, .int .u64 gn, .int .i64 fr, .int .i64 lf, .int .i64 du, .int .i64 tl] 24)).alloc (.cells #[.int .i64 cal, .slice A ls.length k, .int .i64 re, .int .i64 ba] 49)).alloc (.cells #[.int .u64 0, .int .i64 0, .int .i64 0, .int .i64 0, .int .u64 0, .int .i64 0, .int .i64 0, .int .i64 0, .int .i64 0] 24)) := (below_alloc (below_alloc (below_alloc (Below.refl w.heap.size w) (.cells #[.int .u64 id, .int .i64 co, .int .i64 1, .int .i64 lv, .int .u64 gn, .int .i64 fr, .int .i64 lf, .int .i64 du, .int .i64 tl] 24)) (.cells #[.int .i64 cal, .slice A ls.length k, .int .i64 re, .int .i64 ba] 49)) (.cells #[.int .u64 0, .int .i64 0, .int .i64 0, .int .i64 0, .int .u64 0, .int .i64 0, .int .i64 0, .int .i64 0, .int .i64 0] 24))
  have HC_1 := Aside0.mk (h.below HB0)
  have HU_1 := Aside0.mk (Upd.of_below (b := cb) HB0)
  have hs_1 : w.heap.size ≤ (((w.alloc (.cells #[.int .u64 id, .int .i64 co, .int .i64 1, .int .i64 lv, .int .u64 gn, .int .i64 fr, .int .i64 lf, .int .i64 du, .int .i64 tl] 24)).alloc (.cells #[.int .i64 cal, .slice A ls.length k, .int .i64 re, .int .i64 ba] 49)).alloc (.cells #[.int .u64 0, .int .i64 0, .int .i64 0, .int .i64 0, .int .u64 0, .int .i64 0, .int .i64 0, .int .i64 0, .int .i64 0] 24)).heap.size := HB0.size
  have HLq_1 : Aside0 (Kd.C k98 (((w.alloc (.cells #[.int .u64 id, .int .i64 co, .int .i64 1, .int .i64 lv, .int .u64 gn, .int .i64 fr, .int .i64 lf, .int .i64 du, .int .i64 tl] 24)).alloc (.cells #[.int .i64 cal, .slice A ls.length k, .int .i64 re, .int .i64 ba] 49)).alloc (.cells #[.int .u64 0, .int .i64 0, .int .i64 0, .int .i64 0, .int .u64 0, .int .i64 0, .int .i64 0, .int .i64 0, .int .i64 0] 24)) A ls.length ls ∧ ls.length ≤ k) := ⟨⟨Kd.C_below hq.1 HB0, hq.2⟩⟩
  have Bt_1 : Aside0 ((((w.alloc (.cells #[.int .u64 id, .int .i64 co, .int .i64 1, .int .i64 lv, .int .u64 gn, .int .i64 fr, .int .i64 lf, .int .i64 du, .int .i64 tl] 24)).alloc (.cells #[.int .i64 cal, .slice A ls.length k, .int .i64 re, .int .i64 ba] 49)).alloc (.cells #[.int .u64 0, .int .i64 0, .int .i64 0, .int .i64 0, .int .u64 0, .int .i64 0, .int .i64 0, .int .i64 0, .int .i64 0] 24)).heap[w.heap.size]? = some (.cells #[.int .u64 id, .int .i64 co, .int .i64 1, .int .i64 lv, .int .u64 gn, .int .i64 fr, .int .i64 lf, .int .i64 du, .int .i64 tl] 24 (0, 0))) := ⟨(blk_alloc (blk_alloc (blk_new w _) _) _)⟩
  have Bq_1 : Aside0 ((((w.alloc (.cells #[.int .u64 id, .int .i64 co, .int .i64 1, .int .i64 lv, .int .u64 gn, .int .i64 fr, .int .i64 lf, .int .i64 du, .int .i64 tl] 24)).alloc (.cells #[.int .i64 cal, .slice A ls.length k, .int .i64 re, .int .i64 ba] 49)).alloc (.cells #[.int .u64 0, .int .i64 0, .int .i64 0, .int .i64 0, .int .u64 0, .int .i64 0, .int .i64 0, .int .i64 0, .int .i64 0] 24)).heap[w.heap.size + 1]? = some (.cells #[.int .i64 cal, .slice A ls.length k, .int .i64 re, .int .i64 ba] 49 (0, 0))) := ⟨(blk_alloc (by simpa using blk_new (w.alloc (.cells #[.int .u64 id, .int .i64 co, .int .i64 1, .int .i64 lv, .int .u64 gn, .int .i64 fr, .int .i64 lf, .int .i64 du, .int .i64 tl] 24)) (.cells #[.int .i64 cal, .slice A ls.length k, .int .i64 re, .int .i64 ba] 49)) _)⟩
  have Bz_1 : Aside0 ((((w.alloc (.cells #[.int .u64 id, .int .i64 co, .int .i64 1, .int .i64 lv, .int .u64 gn, .int .i64 fr, .int .i64 lf, .int .i64 du, .int .i64 tl] 24)).alloc (.cells #[.int .i64 cal, .slice A ls.length k, .int .i64 re, .int .i64 ba] 49)).alloc (.cells #[.int .u64 0, .int .i64 0, .int .i64 0, .int .i64 0, .int .u64 0, .int .i64 0, .int .i64 0, .int .i64 0, .int .i64 0] 24)).heap[w.heap.size + 1 + 1]? = some (.cells #[.int .u64 0, .int .i64 0, .int .i64 0, .int .i64 0, .int .u64 0, .int .i64 0, .int .i64 0, .int .i64 0, .int .i64 0] 24 (0, 0))) := ⟨(by simpa using blk_new ((w.alloc (.cells #[.int .u64 id, .int .i64 co, .int .i64 1, .int .i64 lv, .int .u64 gn, .int .i64 fr, .int .i64 lf, .int .i64 du, .int .i64 tl] 24)).alloc (.cells #[.int .i64 cal, .slice A ls.length k, .int .i64 re, .int .i64 ba] 49)) (.cells #[.int .u64 0, .int .i64 0, .int .i64 0, .int .i64 0, .int .u64 0, .int .i64 0, .int .i64 0, .int .i64 0, .int .i64 0] 24))⟩
  have hz_1 : w.heap.size + 1 + 1 < (((w.alloc (.cells #[.int .u64 id, .int .i64 co, .int .i64 1, .int .i64 lv, .int .u64 gn, .int .i64 fr, .int .i64 lf, .int .i64 du, .int .i64 tl] 24)).alloc (.cells #[.int .i64 cal, .slice A ls.length k, .int .i64 re, .int .i64 ba] 49)).alloc (.cells #[.int .u64 0, .int .i64 0, .int .i64 0, .int .i64 0, .int .u64 0, .int .i64 0, .int .i64 0, .int .i64 0, .int .i64 0] 24)).heap.size := blk_lt Bz_1.out
  have hcb := h.lt
  clear h HB0 hq
  go_enter Try.func27, Try.ntmps27
  go_wp2_with fail
  generalize (((w.alloc (.cells #[.int .u64 id, .int .i64 co, .int .i64 1, .int .i64 lv, .int .u64 gn, .int .i64 fr, .int .i64 lf, .int .i64 du, .int .i64 tl] 24)).alloc (.cells #[.int .i64 cal, .slice A ls.length k, .int .i64 re, .int .i64 ba] 49)).alloc (.cells #[.int .u64 0, .int .i64 0, .int .i64 0, .int .i64 0, .int .u64 0, .int .i64 0, .int .i64 0, .int .i64 0, .int .i64 0] 24)) = w1 at HC_1 HU_1 hs_1 HLq_1 Bt_1 Bq_1 Bz_1 hz_1 ⊢
  obtain ⟨_, _, dt2, dt3, _, _, _, dt7, _⟩ := cells9 Bt_1.out
  obtain ⟨dq0, dq1, dq2, dq3⟩ := cells4 Bq_1.out
  go_wp2_with (go_at_call 60; with_reducible refine (check14_any w1 HLq_1.out).mono ?_; rintro e w2 ⟨rfl, q1⟩; rw [HG.out]; clear dt2 dt3 dt7 dq0 dq1 dq2 dq3; have HC_2 := Aside0.mk (HC_1.out.below q1); have HU_2 := Aside0.mk (HU_1.out.then q1); have hs_2 : w1.heap.size ≤ w2.heap.size := q1.size; have HLq_2 : Aside0 (Kd.C k98 w2 A ls.length ls ∧ ls.length ≤ k) := ⟨⟨Kd.C_below HLq_1.out.1 q1, HLq_1.out.2⟩⟩; have Bt_2 := Aside0.mk (blk_below Bt_1.out q1); have Bq_2 := Aside0.mk (blk_below Bq_1.out q1); have Bz_2 := Aside0.mk (blk_below Bz_1.out q1); clear q1; obtain ⟨_, _, dt2, dt3, _, _, _, dt7, _⟩ := cells9 Bt_2.out; obtain ⟨dq0, dq1, dq2, dq3⟩ := cells4 Bq_2.out)
  have hb4 : Below w2.heap.size w2 w2.drew := below_drew1 (Below.refl _ _)
  clear dt2 dt3 dt7 dq0 dq1 dq2 dq3
  have HC_3 := Aside0.mk (HC_2.out.below hb4)
  have HU_3 := Aside0.mk (HU_2.out.then hb4)
  have hs_3 : w2.heap.size ≤ w2.drew.heap.size := hb4.size
  have HLq_3 : Aside0 (Kd.C k98 w2.drew A ls.length ls ∧ ls.length ≤ k) := ⟨⟨Kd.C_below HLq_2.out.1 hb4, HLq_2.out.2⟩⟩
  have Bt_3 := Aside0.mk (blk_below Bt_2.out hb4)
  have Bq_3 := Aside0.mk (blk_below Bq_2.out hb4)
  have Bz_3 := Aside0.mk (blk_below Bz_2.out hb4)
  clear hb4
  have z0 : w2.drew.cell? ⟨w.heap.size + 1, 0, none⟩ = some (.int .i64 cal) := (blk_cell Bq_3.out 0).trans rfl
  have z1 : w2.drew.cell? ⟨w.heap.size + 1, 1, none⟩ = some (.slice A ls.length k) := (blk_cell Bq_3.out 1).trans rfl
  have z2 : w2.drew.cell? ⟨w.heap.size + 1, 2, none⟩ = some (.int .i64 re) := (blk_cell Bq_3.out 2).trans rfl
  have z3 : w2.drew.cell? ⟨w.heap.size + 1, 3, none⟩ = some (.int .i64 ba) := (blk_cell Bq_3.out 3).trans rfl
  have z4 : w2.drew.cell? ⟨w.heap.size, 0, none⟩ = some (.int .u64 id) := (blk_cell Bt_3.out 0).trans rfl
  have z5 : w2.drew.cell? ⟨w.heap.size, 1, none⟩ = some (.int .i64 co) := (blk_cell Bt_3.out 1).trans rfl
  have z6 : w2.drew.cell? ⟨w.heap.size, 2, none⟩ = some (.int .i64 1) := (blk_cell Bt_3.out 2).trans rfl
  have z7 : w2.drew.cell? ⟨w.heap.size, 3, none⟩ = some (.int .i64 lv) := (blk_cell Bt_3.out 3).trans rfl
  have z8 : w2.drew.cell? ⟨w.heap.size, 4, none⟩ = some (.int .u64 gn) := (blk_cell Bt_3.out 4).trans rfl
  have z9 : w2.drew.cell? ⟨w.heap.size, 5, none⟩ = some (.int .i64 fr) := (blk_cell Bt_3.out 5).trans rfl
  have z10 : w2.drew.cell? ⟨w.heap.size, 6, none⟩ = some (.int .i64 lf) := (blk_cell Bt_3.out 6).trans rfl
  have z11 : w2.drew.cell? ⟨w.heap.size, 7, none⟩ = some (.int .i64 du) := (blk_cell Bt_3.out 7).trans rfl
  have z12 : w2.drew.cell? ⟨w.heap.size, 8, none⟩ = some (.int .i64 tl) := (blk_cell Bt_3.out 8).trans rfl
  refine start_ (n := 14) (S := fun w' => w'.cell? ⟨w.heap.size + 1, 0, none⟩ = some (.int .i64 cal) ∧ w'.cell? ⟨w.heap.size + 1, 1, none⟩ = some (.slice A ls.length k) ∧ w'.cell? ⟨w.heap.size + 1, 2, none⟩ = some (.int .i64 re) ∧ w'.cell? ⟨w.heap.size + 1, 3, none⟩ = some (.int .i64 ba) ∧ w'.cell? ⟨w.heap.size, 0, none⟩ = some (.int .u64 id) ∧ w'.cell? ⟨w.heap.size, 1, none⟩ = some (.int .i64 co) ∧ w'.cell? ⟨w.heap.size, 2, none⟩ = some (.int .i64 1) ∧ w'.cell? ⟨w.heap.size, 3, none⟩ = some (.int .i64 lv) ∧ w'.cell? ⟨w.heap.size, 4, none⟩ = some (.int .u64 gn) ∧ w'.cell? ⟨w.heap.size, 5, none⟩ = some (.int .i64 fr) ∧ w'.cell? ⟨w.heap.size, 6, none⟩ = some (.int .i64 lf) ∧ w'.cell? ⟨w.heap.size, 7, none⟩ = some (.int .i64 du) ∧ w'.cell? ⟨w.heap.size, 8, none⟩ = some (.int .i64 tl)) (ds := [11]) #[false, false, false, false, false, false, false, false, false, false, false, false, false, false] (by kernel_rfl) rfl rfl ⟨z0, z1, z2, z3, z4, z5, z6, z7, z8, z9, z10, z11, z12⟩ (fun hHeld => ?_); refine with_tabW fire_tab9 fire_bits9 (fun HT_ HW_ => ?_)
  clear z0 z1 z2 z3 z4 z5 z6 z7 z8 z9 z10 z11 z12
  generalize w2.drew = w3 at HC_3 HU_3 hs_3 HLq_3 Bt_3 Bq_3 Bz_3 hHeld ⊢
  refine pure_ (i := 0) (N := some 46) (v := ?_) (a' := ?_) #[true, false, false, false, false, false, false, false, false, false, false, false, false, false] rfl rfl (any_of HT_.out (by kernel_rfl)) (fun _ _ _ h => h) (Or.inl ⟨by rfl, ?_⟩) ?_ ?_
  rotate_left
  · intro w'
    go_simp
    with_reducible rfl
  rotate_left
  · simp only [Act.put, List.setIfInBounds_toArray, List.set_cons_zero, List.set_cons_succ, i64_w, i32_w]
    rfl
  refine pure_ (i := 4) (N := some 50) (v := ?_) (a' := ?_) #[true, false, false, false, true, false, false, false, false, false, false, false, false, false] rfl rfl (any_of HT_.out (by kernel_rfl)) (fun _ _ _ h => h) (Or.inl ⟨by rfl, ?_⟩) ?_ ?_
  rotate_left
  · intro w'
    go_simp
    with_reducible rfl
  rotate_left
  · simp only [Act.put, List.setIfInBounds_toArray, List.set_cons_zero, List.set_cons_succ, i64_w, i32_w]
    rfl
  refine take_ (i := 1) (N := some 47) (v := ?_) (a' := ?_) #[true, true, false, false, true, false, false, false, false, false, false, false, false, false] rfl rfl (take_ofW HT_.out HW_.out (by kernel_rfl)) (fun _ _ _ h => h) (Or.inl ⟨by rfl, ?_⟩) hHeld ?_ ?_
  rotate_left
  · rintro w' ⟨s0, s1, s2, s3, s4, s5, s6, s7, s8, s9, s10, s11, s12⟩
    go_simp
    with_reducible rfl
  rotate_left
  · simp only [Act.put, List.setIfInBounds_toArray, List.set_cons_zero, List.set_cons_succ, i64_w, i32_w]
    rfl
  refine take_ (i := 2) (N := some 48) (v := ?_) (a' := ?_) #[true, true, true, false, true, false, false, false, false, false, false, false, false, false] rfl rfl (take_ofW HT_.out HW_.out (by kernel_rfl)) (fun _ _ _ h => h) (Or.inl ⟨by rfl, ?_⟩) hHeld ?_ ?_
  rotate_left
  · rintro w' ⟨s0, s1, s2, s3, s4, s5, s6, s7, s8, s9, s10, s11, s12⟩
    go_simp
    with_reducible rfl
  rotate_left
  · simp only [Act.put, List.setIfInBounds_toArray, List.set_cons_zero, List.set_cons_succ, i64_w, i32_w]
    rfl
  refine join_ (σ := Nat) 3 #[true, true, true, true, true, true, true, true, true, true, true, false, false, false] (fun s_ => [(46, .pointer (some ⟨kb, 0, none⟩)), (50, .int .i64 now), (48, .agg #[.int .u64 id, .int .i64 co, .int .i64 1, .int .i64 lv, .int .u64 gn, .int .i64 fr, .int .i64 lf, .int .i64 du, .int .i64 tl]), (47, .agg #[.int .i64 cal, .slice A ls.length k, .int .i64 re, .int .i64 ba]), (49, .agg #[.int .i64 lv, .int .i64 fr, .int .i64 lf, .int .i64 du]), (51, .tuple #[.agg #[.int .i64 a, .int .i64 b, .int .i64 c, .int .i64 d], .bool false, .int .i64 e]), (45, .tuple #[.agg #[.int .i64 a, .int .i64 b, .int .i64 c, .int .i64 d], .bool false, .int .i64 e]), (52, .agg #[.int .i64 a, .int .i64 b, .int .i64 c, .int .i64 d]), (53, .bool false), (54, .int .i64 e), (13, .pointer (some ⟨s_, 0, none⟩))]) (fun s_ w' => (w'.cell? ⟨w.heap.size + 1, 0, none⟩ = some (.int .i64 cal) ∧ w'.cell? ⟨w.heap.size + 1, 1, none⟩ = some (.slice A ls.length k) ∧ w'.cell? ⟨w.heap.size + 1, 2, none⟩ = some (.int .i64 re) ∧ w'.cell? ⟨w.heap.size + 1, 3, none⟩ = some (.int .i64 ba) ∧ w'.cell? ⟨w.heap.size, 0, none⟩ = some (.int .u64 id) ∧ w'.cell? ⟨w.heap.size, 1, none⟩ = some (.int .i64 co) ∧ w'.cell? ⟨w.heap.size, 2, none⟩ = some (.int .i64 1) ∧ w'.cell? ⟨w.heap.size, 3, none⟩ = some (.int .i64 lv) ∧ w'.cell? ⟨w.heap.size, 4, none⟩ = some (.int .u64 gn) ∧ w'.cell? ⟨w.heap.size, 5, none⟩ = some (.int .i64 fr) ∧ w'.cell? ⟨w.heap.size, 6, none⟩ = some (.int .i64 lf) ∧ w'.cell? ⟨w.heap.size, 7, none⟩ = some (.int .i64 du) ∧ w'.cell? ⟨w.heap.size, 8, none⟩ = some (.int .i64 tl)) ∧ ClkAt w' n kb ab pb cb off week closed ∧ Upd cb w w' ∧ w'.heap[w.heap.size]? = some (.cells #[.int .u64 id, .int .i64 co, .int .i64 1, .int .i64 lv, .int .u64 gn, .int .i64 fr, .int .i64 lf, .int .i64 du, .int .i64 tl] 24 (0, 0)) ∧ w'.heap[w.heap.size + 1]? = some (.cells #[.int .i64 cal, .slice A ls.length k, .int .i64 re, .int .i64 ba] 49 (0, 0)) ∧ w'.heap[w.heap.size + 1 + 1]? = some (.cells #[.int .u64 0, .int .i64 0, .int .i64 0, .int .i64 0, .int .u64 0, .int .i64 0, .int .i64 0, .int .i64 0, .int .i64 0] 24 (0, 0)) ∧ w'.heap[s_]? = some (.cells #[.int .i64 0, .int .i64 0, .int .i64 0, .int .i64 0] 108 (0, 0)) ∧ w.heap.size + 1 + 1 < s_) ?_ ?_
  rotate_left
  · intro hCont
    refine two_ (i := 3) (j := 10) (Ni := some 49) (Nj := some 13) #[true, true, true, true, true, false, false, false, false, false, false, false, false, false] #[true, true, true, false, true, false, false, false, false, false, true, false, false, false] rfl rfl rfl rfl (two_of HT_.out (by kernel_rfl)) (by decide) (by decide) (fun K hK => ?_) (fun K hK => ?_)
    · skip
      refine goes_ Try.func59 (by kernel_rfl) rfl #[.agg #[.int .u64 id, .int .i64 co, .int .i64 1, .int .i64 lv, .int .u64 gn, .int .i64 fr, .int .i64 lf, .int .i64 du, .int .i64 tl]] (by rfl) rfl rfl (by (try simp only [List.map_toArray, List.map_cons, List.map_nil]); first | done | rfl) ?_
      refine (ticket_step.calls id co 1 lv gn fr lf du tl lv fr lf du _ rfl).mono ?_
      rintro e w4 ⟨rfl, q1⟩
      refine ⟨_, rfl, ?_⟩
      have HC_4 := Aside0.mk (HC_3.out.below q1)
      have HU_4 := Aside0.mk (HU_3.out.then q1)
      have hs_4 : w3.heap.size ≤ w4.heap.size := q1.size
      have HLq_4 : Aside0 (Kd.C k98 w4 A ls.length ls ∧ ls.length ≤ k) := ⟨⟨Kd.C_below HLq_3.out.1 q1, HLq_3.out.2⟩⟩
      have Bt_4 := Aside0.mk (blk_below Bt_3.out q1)
      have Bq_4 := Aside0.mk (blk_below Bq_3.out q1)
      have Bz_4 := Aside0.mk (blk_below Bz_3.out q1)
      clear q1
      refine hK.out _ _ ⟨(blk_cell Bq_4.out 0).trans rfl, (blk_cell Bq_4.out 1).trans rfl, (blk_cell Bq_4.out 2).trans rfl, (blk_cell Bq_4.out 3).trans rfl, (blk_cell Bt_4.out 0).trans rfl, (blk_cell Bt_4.out 1).trans rfl, (blk_cell Bt_4.out 2).trans rfl, (blk_cell Bt_4.out 3).trans rfl, (blk_cell Bt_4.out 4).trans rfl, (blk_cell Bt_4.out 5).trans rfl, (blk_cell Bt_4.out 6).trans rfl, (blk_cell Bt_4.out 7).trans rfl, (blk_cell Bt_4.out 8).trans rfl⟩ (fun hHeld => ?_)
      clear hK K
      refine norm_ (a' := ?_) ?_ ?_
      rotate_left
      · show Act.put _ (some 49) _ = _
        simp only [Act.put, List.setIfInBounds_toArray, List.set_cons_zero, List.set_cons_succ, i64_w, i32_w]
        rfl
      refine two_ (i := 5) (j := 10) (Ni := some 51) (Nj := some 13) #[true, true, true, true, true, true, false, false, false, false, false, false, false, false] #[true, true, true, true, true, false, false, false, false, false, true, false, false, false] rfl rfl rfl rfl (two_of HT_.out (by kernel_rfl)) (by decide) (by decide) (fun K hK => ?_) (fun K hK => ?_)
      · skip
        refine goes_ Try.func61 (by kernel_rfl) rfl #[.pointer (some ⟨kb, 0, none⟩), .agg #[.int .i64 cal, .slice A ls.length k, .int .i64 re, .int .i64 ba], .agg #[.int .i64 lv, .int .i64 fr, .int .i64 lf, .int .i64 du], .int .i64 now] (by rfl) rfl rfl (by (try simp only [List.map_toArray, List.map_cons, List.map_nil]); first | done | rfl) ?_
        refine (stepnext_any cal re ba lv fr lf du now a b c d e false _ HC_4.out (by omega) HLq_4.out HD.out HM.out).mono ?_
        rintro e w5 ⟨rfl, q1, q2⟩
        refine ⟨_, rfl, ?_⟩
        have HC_5 := Aside0.mk q1
        have HU_5 := Aside0.mk (HU_4.out.trans q2)
        have hs_5 : w4.heap.size ≤ w5.heap.size := q2.size
        have Bt_5 := Aside0.mk (q2.blk Bt_4.out (by omega))
        have Bq_5 := Aside0.mk (q2.blk Bq_4.out (by omega))
        have Bz_5 := Aside0.mk (q2.blk Bz_4.out (by omega))
        clear q1 q2
        refine hK.out _ _ ⟨(blk_cell Bq_5.out 0).trans rfl, (blk_cell Bq_5.out 1).trans rfl, (blk_cell Bq_5.out 2).trans rfl, (blk_cell Bq_5.out 3).trans rfl, (blk_cell Bt_5.out 0).trans rfl, (blk_cell Bt_5.out 1).trans rfl, (blk_cell Bt_5.out 2).trans rfl, (blk_cell Bt_5.out 3).trans rfl, (blk_cell Bt_5.out 4).trans rfl, (blk_cell Bt_5.out 5).trans rfl, (blk_cell Bt_5.out 6).trans rfl, (blk_cell Bt_5.out 7).trans rfl, (blk_cell Bt_5.out 8).trans rfl⟩ (fun hHeld => ?_)
        clear hK K
        refine norm_ (a' := ?_) ?_ ?_
        rotate_left
        · show Act.put _ (some 51) _ = _
          simp only [Act.put, List.setIfInBounds_toArray, List.set_cons_zero, List.set_cons_succ, i64_w, i32_w]
          rfl
        refine pure_ (i := 6) (N := some 45) (v := ?_) (a' := ?_) #[true, true, true, true, true, true, true, false, false, false, false, false, false, false] rfl rfl (any_of HT_.out (by kernel_rfl)) (fun _ _ _ h => h) (Or.inl ⟨by rfl, ?_⟩) ?_ ?_
        rotate_left
        · intro w'
          go_simp
          with_reducible rfl
        rotate_left
        · simp only [Act.put, List.setIfInBounds_toArray, List.set_cons_zero, List.set_cons_succ, i64_w, i32_w]
          rfl
        refine pure_ (i := 7) (N := some 52) (v := ?_) (a' := ?_) #[true, true, true, true, true, true, true, true, false, false, false, false, false, false] rfl rfl (any_of HT_.out (by kernel_rfl)) (fun _ _ _ h => h) (Or.inl ⟨by rfl, ?_⟩) ?_ ?_
        rotate_left
        · intro w'
          go_simp
          with_reducible rfl
        rotate_left
        · simp only [Act.put, List.setIfInBounds_toArray, List.set_cons_zero, List.set_cons_succ, i64_w, i32_w]
          rfl
        refine pure_ (i := 8) (N := some 53) (v := ?_) (a' := ?_) #[true, true, true, true, true, true, true, true, true, false, false, false, false, false] rfl rfl (any_of HT_.out (by kernel_rfl)) (fun _ _ _ h => h) (Or.inl ⟨by rfl, ?_⟩) ?_ ?_
        rotate_left
        · intro w'
          go_simp
          with_reducible rfl
        rotate_left
        · simp only [Act.put, List.setIfInBounds_toArray, List.set_cons_zero, List.set_cons_succ, i64_w, i32_w]
          rfl
        refine pure_ (i := 9) (N := some 54) (v := ?_) (a' := ?_) #[true, true, true, true, true, true, true, true, true, true, false, false, false, false] rfl rfl (any_of HT_.out (by kernel_rfl)) (fun _ _ _ h => h) (Or.inl ⟨by rfl, ?_⟩) ?_ ?_
        rotate_left
        · intro w'
          go_simp
          with_reducible rfl
        rotate_left
        · simp only [Act.put, List.setIfInBounds_toArray, List.set_cons_zero, List.set_cons_succ, i64_w, i32_w]
          rfl
        refine one_ (i := 10) (N := some 13) #[true, true, true, true, true, true, true, true, true, true, true, false, false, false] rfl rfl (one_of HT_.out (by kernel_rfl)) (by decide) (fun K hK => ?_)
        refine box_step ?hg (N := 13) ?hd (cs := #[.int .i64 0, .int .i64 0, .int .i64 0, .int .i64 0]) (t := 108) ?hr ?_; (case hd => rfl); (case hg => rfl); (case hr => first | (go_simp; done) | (go_simp; rfl))
        intro gs hg w6 hbox hb
        have hgz : w.heap.size + 1 + 1 < gs := by rw [hg]; exact blk_lt Bz_5.out
        have HC_6 := Aside0.mk (HC_5.out.below hb)
        have HU_6 := Aside0.mk (HU_5.out.then hb)
        have hs_6 : w5.heap.size ≤ w6.heap.size := hb.size
        have Bt_6 := Aside0.mk (blk_below Bt_5.out hb)
        have Bq_6 := Aside0.mk (blk_below Bq_5.out hb)
        have Bz_6 := Aside0.mk (blk_below Bz_5.out hb)
        clear hb
        have Bs_6 := Aside0.mk hbox
        clear hbox hg
        refine hK.out _ _ ⟨(blk_cell Bq_6.out 0).trans rfl, (blk_cell Bq_6.out 1).trans rfl, (blk_cell Bq_6.out 2).trans rfl, (blk_cell Bq_6.out 3).trans rfl, (blk_cell Bt_6.out 0).trans rfl, (blk_cell Bt_6.out 1).trans rfl, (blk_cell Bt_6.out 2).trans rfl, (blk_cell Bt_6.out 3).trans rfl, (blk_cell Bt_6.out 4).trans rfl, (blk_cell Bt_6.out 5).trans rfl, (blk_cell Bt_6.out 6).trans rfl, (blk_cell Bt_6.out 7).trans rfl, (blk_cell Bt_6.out 8).trans rfl⟩ (fun hHeld => ?_)
        clear hK K
        refine norm_ (a' := ?_) ?_ ?_
        rotate_left
        · show Act.put _ (some 13) _ = _
          simp only [Act.put, List.setIfInBounds_toArray, List.set_cons_zero, List.set_cons_succ, i64_w, i32_w]
          rfl
        exact norm_ (by simp only [putAll, Act.put, List.setIfInBounds_toArray, List.set_cons_zero, List.set_cons_succ]) (hCont gs _ ⟨hHeld, HC_6.out, HU_6.out, Bt_6.out, Bq_6.out, Bz_6.out, Bs_6.out, hgz⟩)
      · skip
        refine box_step ?hg (N := 13) ?hd (cs := #[.int .i64 0, .int .i64 0, .int .i64 0, .int .i64 0]) (t := 108) ?hr ?_; (case hd => rfl); (case hg => rfl); (case hr => first | (go_simp; done) | (go_simp; rfl))
        intro gs hg w5 hbox hb
        have hgz : w.heap.size + 1 + 1 < gs := by rw [hg]; exact blk_lt Bz_4.out
        have HC_5 := Aside0.mk (HC_4.out.below hb)
        have HU_5 := Aside0.mk (HU_4.out.then hb)
        have hs_5 : w4.heap.size ≤ w5.heap.size := hb.size
        have HLq_5 : Aside0 (Kd.C k98 w5 A ls.length ls ∧ ls.length ≤ k) := ⟨⟨Kd.C_below HLq_4.out.1 hb, HLq_4.out.2⟩⟩
        have Bt_5 := Aside0.mk (blk_below Bt_4.out hb)
        have Bq_5 := Aside0.mk (blk_below Bq_4.out hb)
        have Bz_5 := Aside0.mk (blk_below Bz_4.out hb)
        clear hb
        have Bs_5 := Aside0.mk hbox
        clear hbox hg
        refine hK.out _ _ ⟨(blk_cell Bq_5.out 0).trans rfl, (blk_cell Bq_5.out 1).trans rfl, (blk_cell Bq_5.out 2).trans rfl, (blk_cell Bq_5.out 3).trans rfl, (blk_cell Bt_5.out 0).trans rfl, (blk_cell Bt_5.out 1).trans rfl, (blk_cell Bt_5.out 2).trans rfl, (blk_cell Bt_5.out 3).trans rfl, (blk_cell Bt_5.out 4).trans rfl, (blk_cell Bt_5.out 5).trans rfl, (blk_cell Bt_5.out 6).trans rfl, (blk_cell Bt_5.out 7).trans rfl, (blk_cell Bt_5.out 8).trans rfl⟩ (fun hHeld => ?_)
        clear hK K
        refine norm_ (a' := ?_) ?_ ?_
        rotate_left
        · show Act.put _ (some 13) _ = _
          simp only [Act.put, List.setIfInBounds_toArray, List.set_cons_zero, List.set_cons_succ, i64_w, i32_w]
          rfl
        refine one_ (i := 5) (N := some 51) #[true, true, true, true, true, true, false, false, false, false, true, false, false, false] rfl rfl (one_of HT_.out (by kernel_rfl)) (by decide) (fun K hK => ?_)
        refine goes_ Try.func61 (by kernel_rfl) rfl #[.pointer (some ⟨kb, 0, none⟩), .agg #[.int .i64 cal, .slice A ls.length k, .int .i64 re, .int .i64 ba], .agg #[.int .i64 lv, .int .i64 fr, .int .i64 lf, .int .i64 du], .int .i64 now] (by rfl) rfl rfl (by (try simp only [List.map_toArray, List.map_cons, List.map_nil]); first | done | rfl) ?_
        refine (stepnext_any cal re ba lv fr lf du now a b c d e false _ HC_5.out (by omega) HLq_5.out HD.out HM.out).mono ?_
        rintro e w6 ⟨rfl, q1, q2⟩
        refine ⟨_, rfl, ?_⟩
        have HC_6 := Aside0.mk q1
        have HU_6 := Aside0.mk (HU_5.out.trans q2)
        have hs_6 : w5.heap.size ≤ w6.heap.size := q2.size
        have Bt_6 := Aside0.mk (q2.blk Bt_5.out (by omega))
        have Bq_6 := Aside0.mk (q2.blk Bq_5.out (by omega))
        have Bz_6 := Aside0.mk (q2.blk Bz_5.out (by omega))
        have Bs_6 := Aside0.mk (q2.blk Bs_5.out (by omega))
        clear q1 q2
        obtain ⟨ds0, ds1, ds2, ds3⟩ := cells4 Bs_6.out
        refine hK.out _ _ ⟨(blk_cell Bq_6.out 0).trans rfl, (blk_cell Bq_6.out 1).trans rfl, (blk_cell Bq_6.out 2).trans rfl, (blk_cell Bq_6.out 3).trans rfl, (blk_cell Bt_6.out 0).trans rfl, (blk_cell Bt_6.out 1).trans rfl, (blk_cell Bt_6.out 2).trans rfl, (blk_cell Bt_6.out 3).trans rfl, (blk_cell Bt_6.out 4).trans rfl, (blk_cell Bt_6.out 5).trans rfl, (blk_cell Bt_6.out 6).trans rfl, (blk_cell Bt_6.out 7).trans rfl, (blk_cell Bt_6.out 8).trans rfl⟩ (fun hHeld => ?_)
        clear hK K
        refine norm_ (a' := ?_) ?_ ?_
        rotate_left
        · show Act.put _ (some 51) _ = _
          simp only [Act.put, List.setIfInBounds_toArray, List.set_cons_zero, List.set_cons_succ, i64_w, i32_w]
          rfl
        refine pure_ (i := 6) (N := some 45) (v := ?_) (a' := ?_) #[true, true, true, true, true, true, true, false, false, false, true, false, false, false] rfl rfl (any_of HT_.out (by kernel_rfl)) (fun _ _ _ h => h) (Or.inl ⟨by rfl, ?_⟩) ?_ ?_
        rotate_left
        · intro w'
          go_simp
          with_reducible rfl
        rotate_left
        · simp only [Act.put, List.setIfInBounds_toArray, List.set_cons_zero, List.set_cons_succ, i64_w, i32_w]
          rfl
        refine pure_ (i := 7) (N := some 52) (v := ?_) (a' := ?_) #[true, true, true, true, true, true, true, true, false, false, true, false, false, false] rfl rfl (any_of HT_.out (by kernel_rfl)) (fun _ _ _ h => h) (Or.inl ⟨by rfl, ?_⟩) ?_ ?_
        rotate_left
        · intro w'
          go_simp
          with_reducible rfl
        rotate_left
        · simp only [Act.put, List.setIfInBounds_toArray, List.set_cons_zero, List.set_cons_succ, i64_w, i32_w]
          rfl
        refine pure_ (i := 8) (N := some 53) (v := ?_) (a' := ?_) #[true, true, true, true, true, true, true, true, true, false, true, false, false, false] rfl rfl (any_of HT_.out (by kernel_rfl)) (fun _ _ _ h => h) (Or.inl ⟨by rfl, ?_⟩) ?_ ?_
        rotate_left
        · intro w'
          go_simp
          with_reducible rfl
        rotate_left
        · simp only [Act.put, List.setIfInBounds_toArray, List.set_cons_zero, List.set_cons_succ, i64_w, i32_w]
          rfl
        refine pure_ (i := 9) (N := some 54) (v := ?_) (a' := ?_) #[true, true, true, true, true, true, true, true, true, true, true, false, false, false] rfl rfl (any_of HT_.out (by kernel_rfl)) (fun _ _ _ h => h) (Or.inl ⟨by rfl, ?_⟩) ?_ ?_
        rotate_left
        · intro w'
          go_simp
          with_reducible rfl
        rotate_left
        · simp only [Act.put, List.setIfInBounds_toArray, List.set_cons_zero, List.set_cons_succ, i64_w, i32_w]
          rfl
        exact norm_ (by simp only [putAll, Act.put, List.setIfInBounds_toArray, List.set_cons_zero, List.set_cons_succ]) (hCont gs _ ⟨hHeld, HC_6.out, HU_6.out, Bt_6.out, Bq_6.out, Bz_6.out, Bs_6.out, hgz⟩)
    · skip
      refine box_step ?hg (N := 13) ?hd (cs := #[.int .i64 0, .int .i64 0, .int .i64 0, .int .i64 0]) (t := 108) ?hr ?_; (case hd => rfl); (case hg => rfl); (case hr => first | (go_simp; done) | (go_simp; rfl))
      intro gs hg w4 hbox hb
      have hgz : w.heap.size + 1 + 1 < gs := by rw [hg]; exact blk_lt Bz_3.out
      have HC_4 := Aside0.mk (HC_3.out.below hb)
      have HU_4 := Aside0.mk (HU_3.out.then hb)
      have hs_4 : w3.heap.size ≤ w4.heap.size := hb.size
      have HLq_4 : Aside0 (Kd.C k98 w4 A ls.length ls ∧ ls.length ≤ k) := ⟨⟨Kd.C_below HLq_3.out.1 hb, HLq_3.out.2⟩⟩
      have Bt_4 := Aside0.mk (blk_below Bt_3.out hb)
      have Bq_4 := Aside0.mk (blk_below Bq_3.out hb)
      have Bz_4 := Aside0.mk (blk_below Bz_3.out hb)
      clear hb
      have Bs_4 := Aside0.mk hbox
      clear hbox hg
      refine hK.out _ _ ⟨(blk_cell Bq_4.out 0).trans rfl, (blk_cell Bq_4.out 1).trans rfl, (blk_cell Bq_4.out 2).trans rfl, (blk_cell Bq_4.out 3).trans rfl, (blk_cell Bt_4.out 0).trans rfl, (blk_cell Bt_4.out 1).trans rfl, (blk_cell Bt_4.out 2).trans rfl, (blk_cell Bt_4.out 3).trans rfl, (blk_cell Bt_4.out 4).trans rfl, (blk_cell Bt_4.out 5).trans rfl, (blk_cell Bt_4.out 6).trans rfl, (blk_cell Bt_4.out 7).trans rfl, (blk_cell Bt_4.out 8).trans rfl⟩ (fun hHeld => ?_)
      clear hK K
      refine norm_ (a' := ?_) ?_ ?_
      rotate_left
      · show Act.put _ (some 13) _ = _
        simp only [Act.put, List.setIfInBounds_toArray, List.set_cons_zero, List.set_cons_succ, i64_w, i32_w]
        rfl
      refine one_ (i := 3) (N := some 49) #[true, true, true, true, true, false, false, false, false, false, true, false, false, false] rfl rfl (one_of HT_.out (by kernel_rfl)) (by decide) (fun K hK => ?_)
      refine goes_ Try.func59 (by kernel_rfl) rfl #[.agg #[.int .u64 id, .int .i64 co, .int .i64 1, .int .i64 lv, .int .u64 gn, .int .i64 fr, .int .i64 lf, .int .i64 du, .int .i64 tl]] (by rfl) rfl rfl (by (try simp only [List.map_toArray, List.map_cons, List.map_nil]); first | done | rfl) ?_
      refine (ticket_step.calls id co 1 lv gn fr lf du tl lv fr lf du _ rfl).mono ?_
      rintro e w5 ⟨rfl, q1⟩
      refine ⟨_, rfl, ?_⟩
      have HC_5 := Aside0.mk (HC_4.out.below q1)
      have HU_5 := Aside0.mk (HU_4.out.then q1)
      have hs_5 : w4.heap.size ≤ w5.heap.size := q1.size
      have HLq_5 : Aside0 (Kd.C k98 w5 A ls.length ls ∧ ls.length ≤ k) := ⟨⟨Kd.C_below HLq_4.out.1 q1, HLq_4.out.2⟩⟩
      have Bt_5 := Aside0.mk (blk_below Bt_4.out q1)
      have Bq_5 := Aside0.mk (blk_below Bq_4.out q1)
      have Bz_5 := Aside0.mk (blk_below Bz_4.out q1)
      have Bs_5 := Aside0.mk (blk_below Bs_4.out q1)
      clear q1
      obtain ⟨ds0, ds1, ds2, ds3⟩ := cells4 Bs_5.out
      refine hK.out _ _ ⟨(blk_cell Bq_5.out 0).trans rfl, (blk_cell Bq_5.out 1).trans rfl, (blk_cell Bq_5.out 2).trans rfl, (blk_cell Bq_5.out 3).trans rfl, (blk_cell Bt_5.out 0).trans rfl, (blk_cell Bt_5.out 1).trans rfl, (blk_cell Bt_5.out 2).trans rfl, (blk_cell Bt_5.out 3).trans rfl, (blk_cell Bt_5.out 4).trans rfl, (blk_cell Bt_5.out 5).trans rfl, (blk_cell Bt_5.out 6).trans rfl, (blk_cell Bt_5.out 7).trans rfl, (blk_cell Bt_5.out 8).trans rfl⟩ (fun hHeld => ?_)
      clear hK K
      refine norm_ (a' := ?_) ?_ ?_
      rotate_left
      · show Act.put _ (some 49) _ = _
        simp only [Act.put, List.setIfInBounds_toArray, List.set_cons_zero, List.set_cons_succ, i64_w, i32_w]
        rfl
      refine one_ (i := 5) (N := some 51) #[true, true, true, true, true, true, false, false, false, false, true, false, false, false] rfl rfl (one_of HT_.out (by kernel_rfl)) (by decide) (fun K hK => ?_)
      refine goes_ Try.func61 (by kernel_rfl) rfl #[.pointer (some ⟨kb, 0, none⟩), .agg #[.int .i64 cal, .slice A ls.length k, .int .i64 re, .int .i64 ba], .agg #[.int .i64 lv, .int .i64 fr, .int .i64 lf, .int .i64 du], .int .i64 now] (by rfl) rfl rfl (by (try simp only [List.map_toArray, List.map_cons, List.map_nil]); first | done | rfl) ?_
      refine (stepnext_any cal re ba lv fr lf du now a b c d e false _ HC_5.out (by omega) HLq_5.out HD.out HM.out).mono ?_
      rintro e w6 ⟨rfl, q1, q2⟩
      refine ⟨_, rfl, ?_⟩
      have HC_6 := Aside0.mk q1
      have HU_6 := Aside0.mk (HU_5.out.trans q2)
      have hs_6 : w5.heap.size ≤ w6.heap.size := q2.size
      have Bt_6 := Aside0.mk (q2.blk Bt_5.out (by omega))
      have Bq_6 := Aside0.mk (q2.blk Bq_5.out (by omega))
      have Bz_6 := Aside0.mk (q2.blk Bz_5.out (by omega))
      have Bs_6 := Aside0.mk (q2.blk Bs_5.out (by omega))
      clear q1 q2
      obtain ⟨ds0, ds1, ds2, ds3⟩ := cells4 Bs_6.out
      refine hK.out _ _ ⟨(blk_cell Bq_6.out 0).trans rfl, (blk_cell Bq_6.out 1).trans rfl, (blk_cell Bq_6.out 2).trans rfl, (blk_cell Bq_6.out 3).trans rfl, (blk_cell Bt_6.out 0).trans rfl, (blk_cell Bt_6.out 1).trans rfl, (blk_cell Bt_6.out 2).trans rfl, (blk_cell Bt_6.out 3).trans rfl, (blk_cell Bt_6.out 4).trans rfl, (blk_cell Bt_6.out 5).trans rfl, (blk_cell Bt_6.out 6).trans rfl, (blk_cell Bt_6.out 7).trans rfl, (blk_cell Bt_6.out 8).trans rfl⟩ (fun hHeld => ?_)
      clear hK K
      refine norm_ (a' := ?_) ?_ ?_
      rotate_left
      · show Act.put _ (some 51) _ = _
        simp only [Act.put, List.setIfInBounds_toArray, List.set_cons_zero, List.set_cons_succ, i64_w, i32_w]
        rfl
      refine pure_ (i := 6) (N := some 45) (v := ?_) (a' := ?_) #[true, true, true, true, true, true, true, false, false, false, true, false, false, false] rfl rfl (any_of HT_.out (by kernel_rfl)) (fun _ _ _ h => h) (Or.inl ⟨by rfl, ?_⟩) ?_ ?_
      rotate_left
      · intro w'
        go_simp
        with_reducible rfl
      rotate_left
      · simp only [Act.put, List.setIfInBounds_toArray, List.set_cons_zero, List.set_cons_succ, i64_w, i32_w]
        rfl
      refine pure_ (i := 7) (N := some 52) (v := ?_) (a' := ?_) #[true, true, true, true, true, true, true, true, false, false, true, false, false, false] rfl rfl (any_of HT_.out (by kernel_rfl)) (fun _ _ _ h => h) (Or.inl ⟨by rfl, ?_⟩) ?_ ?_
      rotate_left
      · intro w'
        go_simp
        with_reducible rfl
      rotate_left
      · simp only [Act.put, List.setIfInBounds_toArray, List.set_cons_zero, List.set_cons_succ, i64_w, i32_w]
        rfl
      refine pure_ (i := 8) (N := some 53) (v := ?_) (a' := ?_) #[true, true, true, true, true, true, true, true, true, false, true, false, false, false] rfl rfl (any_of HT_.out (by kernel_rfl)) (fun _ _ _ h => h) (Or.inl ⟨by rfl, ?_⟩) ?_ ?_
      rotate_left
      · intro w'
        go_simp
        with_reducible rfl
      rotate_left
      · simp only [Act.put, List.setIfInBounds_toArray, List.set_cons_zero, List.set_cons_succ, i64_w, i32_w]
        rfl
      refine pure_ (i := 9) (N := some 54) (v := ?_) (a' := ?_) #[true, true, true, true, true, true, true, true, true, true, true, false, false, false] rfl rfl (any_of HT_.out (by kernel_rfl)) (fun _ _ _ h => h) (Or.inl ⟨by rfl, ?_⟩) ?_ ?_
      rotate_left
      · intro w'
        go_simp
        with_reducible rfl
      rotate_left
      · simp only [Act.put, List.setIfInBounds_toArray, List.set_cons_zero, List.set_cons_succ, i64_w, i32_w]
        rfl
      exact norm_ (by simp only [putAll, Act.put, List.setIfInBounds_toArray, List.set_cons_zero, List.set_cons_succ]) (hCont gs _ ⟨hHeld, HC_6.out, HU_6.out, Bt_6.out, Bq_6.out, Bz_6.out, Bs_6.out, hgz⟩)
  rintro s_ w90 ⟨_, q1, q2, qb0, qb1, qb2, qb3, hgz⟩
  have HC_90 := Aside0.mk q1
  have HU_90 := Aside0.mk q2
  have hs_90 : w.heap.size ≤ w90.heap.size := q2.size
  have Bt_90 := Aside0.mk qb0
  have Bq_90 := Aside0.mk qb1
  have Bz_90 := Aside0.mk qb2
  have Bs_90 := Aside0.mk qb3
  clear q1 q2 qb0 qb1 qb2 qb3
  obtain ⟨ds0, ds1, ds2, ds3⟩ := cells4 Bs_90.out
  have fs := blk_frozen Bs_90.out
  simp only [putAll, Act.put, List.setIfInBounds_toArray, List.set_cons_zero, List.set_cons_succ]
  refine last_ (i := 11) (N := none) #[true, true, true, true, true, true, true, true, true, true, true, true, false, false] rfl rfl (one_of HT_.out (by kernel_rfl)) (by decide) (fun K hK => ?_)
  refine skip_ (w1 := ?_) (by rfl) rfl ?_ ?_
  rotate_left 1
  · go_simp
    rfl
  refine hK.out _ _ ?_
  clear hK K
  refine pure_ (i := 12) (N := some 14) (v := ?_) (a' := ?_) #[true, true, true, true, true, true, true, true, true, true, true, true, true, false] rfl rfl (any_of HT_.out (by kernel_rfl)) (fun _ _ _ h => h) (Or.inl ⟨by rfl, ?_⟩) ?_ ?_
  rotate_left
  · intro w'
    go_simp
    with_reducible rfl
  rotate_left
  · simp only [Act.put, List.setIfInBounds_toArray, List.set_cons_zero, List.set_cons_succ, i64_w, i32_w]
    rfl
  refine pure_ (i := 13) (N := some 15) (v := ?_) (a' := ?_) #[true, true, true, true, true, true, true, true, true, true, true, true, true, true] rfl rfl (any_of HT_.out (by kernel_rfl)) (fun _ _ _ h => h) (Or.inl ⟨by rfl, ?_⟩) ?_ ?_
  rotate_left
  · intro w'
    go_simp
    with_reducible rfl
  rotate_left
  · simp only [Act.put, List.setIfInBounds_toArray, List.set_cons_zero, List.set_cons_succ, i64_w, i32_w]
    rfl
  refine done_ (done_of HT_.out (by kernel_rfl)) ?_
  clear HT_ HW_
  clear ds0 ds1 ds2 ds3 fs
  obtain ⟨S1, S2, S3, S4, hs_91⟩ := step_set4 (.int .i64 a) (.int .i64 b) (.int .i64 c) (.int .i64 d) HC_90.out HU_90.out Bs_90.out ⟨by decide, by decide, by decide, by decide, by decide, by decide⟩ (by omega)
  have HC_91 := Aside0.mk S1
  have HU_91 := Aside0.mk S2
  have Bs_91 := Aside0.mk S3
  have Bt_91 := Aside0.mk (S4 (g := w.heap.size) (by omega) Bt_90.out)
  have Bq_91 := Aside0.mk (S4 (g := w.heap.size + 1) (by omega) Bq_90.out)
  have Bz_91 := Aside0.mk (S4 (g := w.heap.size + 1 + 1) (by omega) Bz_90.out)
  clear S1 S2 S3 S4
  generalize ((((w90.setCell ⟨s_, 0, none⟩ (.int .i64 a)).setCell ⟨s_, 1, none⟩ (.int .i64 b)).setCell ⟨s_, 2, none⟩ (.int .i64 c)).setCell ⟨s_, 3, none⟩ (.int .i64 d)) = w91 at HC_91 HU_91 hs_91 Bt_91 Bq_91 Bz_91 Bs_91 ⊢
  obtain ⟨ds0, ds1, ds2, ds3⟩ := cells4 Bs_91.out
  have fs := blk_frozen Bs_91.out
  clear ds0 ds1 ds2 ds3 fs
  obtain ⟨dt0, dt1, dt2, dt3, dt4, dt5, dt6, dt7, dt8⟩ := cells9 Bt_91.out
  obtain ⟨ds0, ds1, ds2, ds3⟩ := cells4 Bs_91.out
  have fs := blk_frozen Bs_91.out
  go_upto_region 12 with fail
  clear dt0 dt1 dt2 dt3 dt4 dt5 dt6 dt7 dt8 ds0 ds1 ds2 ds3 fs
  obtain ⟨S1, S2, S3, S4, hs_92⟩ := step_set4 (.int .i64 lv) (.int .i64 0) (.int .i64 0) (.int .i64 0) HC_91.out HU_91.out Bs_91.out ⟨by decide, by decide, by decide, by decide, by decide, by decide⟩ (by omega)
  have HC_92 := Aside0.mk S1
  have HU_92 := Aside0.mk S2
  have Bs_92 := Aside0.mk S3
  have Bt_92 := Aside0.mk (S4 (g := w.heap.size) (by omega) Bt_91.out)
  have Bq_92 := Aside0.mk (S4 (g := w.heap.size + 1) (by omega) Bq_91.out)
  have Bz_92 := Aside0.mk (S4 (g := w.heap.size + 1 + 1) (by omega) Bz_91.out)
  clear S1 S2 S3 S4
  generalize ((((w91.setCell ⟨s_, 0, none⟩ (.int .i64 lv)).setCell ⟨s_, 1, none⟩ (.int .i64 0)).setCell ⟨s_, 2, none⟩ (.int .i64 0)).setCell ⟨s_, 3, none⟩ (.int .i64 0)) = w92 at HC_92 HU_92 hs_92 Bt_92 Bq_92 Bz_92 Bs_92 ⊢
  obtain ⟨dt0, dt1, dt2, dt3, dt4, dt5, dt6, dt7, dt8⟩ := cells9 Bt_92.out
  obtain ⟨ds0, ds1, ds2, ds3⟩ := cells4 Bs_92.out
  have fs := blk_frozen Bs_92.out
  go_upto_region 13 with (go_at_call 57; with_reducible refine (ticket_with.calls id co 1 lv gn fr lf du tl 3 lv 0 0 0 0 id co 3 lv 0 0 0 0 tl 0 w92 rfl).mono ?_; rintro e w93 ⟨rfl, q1⟩; clear dt0 dt1 dt2 dt3 dt4 dt5 dt6 dt7 dt8 ds0 ds1 ds2 ds3 fs; have HC_93 := Aside0.mk (HC_92.out.below q1); have HU_93 := Aside0.mk (HU_92.out.then q1); have hs_93 : w92.heap.size ≤ w93.heap.size := q1.size; have Bt_93 := Aside0.mk (blk_below Bt_92.out q1); have Bq_93 := Aside0.mk (blk_below Bq_92.out q1); have Bz_93 := Aside0.mk (blk_below Bz_92.out q1); have Bs_93 := Aside0.mk (blk_below Bs_92.out q1); clear q1; obtain ⟨dt0, dt1, dt2, dt3, dt4, dt5, dt6, dt7, dt8⟩ := cells9 Bt_93.out; have ft := blk_frozen Bt_93.out; obtain ⟨ds0, ds1, ds2, ds3⟩ := cells4 Bs_93.out)
  clear dt0 dt1 dt2 dt3 dt4 dt5 dt6 dt7 dt8 ft ds0 ds1 ds2 ds3
  obtain ⟨dt0, dt1, dt2, dt3, dt4, dt5, dt6, dt7, dt8⟩ := cells9 Bt_93.out
  have ft := blk_frozen Bt_93.out
  clear dt0 dt1 dt2 dt3 dt4 dt5 dt6 dt7 dt8 ft
  obtain ⟨S1, S2, S3, S4, hs_94⟩ := step_set9 (.int .u64 id) (.int .i64 co) (.int .i64 3) (.int .i64 lv) (.int .u64 0) (.int .i64 0) (.int .i64 0) (.int .i64 0) (.int .i64 tl) HC_93.out HU_93.out Bt_93.out ⟨by decide, by decide, by decide, by decide, by decide, by decide⟩ (by omega)
  have HC_94 := Aside0.mk S1
  have HU_94 := Aside0.mk S2
  have Bt_94 := Aside0.mk S3
  have Bq_94 := Aside0.mk (S4 (g := w.heap.size + 1) (by omega) Bq_93.out)
  have Bz_94 := Aside0.mk (S4 (g := w.heap.size + 1 + 1) (by omega) Bz_93.out)
  have Bs_94 := Aside0.mk (S4 (g := s_) (by omega) Bs_93.out)
  clear S1 S2 S3 S4
  generalize (((((((((w93.setCell ⟨w.heap.size, 0, none⟩ (.int .u64 id)).setCell ⟨w.heap.size, 1, none⟩ (.int .i64 co)).setCell ⟨w.heap.size, 2, none⟩ (.int .i64 3)).setCell ⟨w.heap.size, 3, none⟩ (.int .i64 lv)).setCell ⟨w.heap.size, 4, none⟩ (.int .u64 0)).setCell ⟨w.heap.size, 5, none⟩ (.int .i64 0)).setCell ⟨w.heap.size, 6, none⟩ (.int .i64 0)).setCell ⟨w.heap.size, 7, none⟩ (.int .i64 0)).setCell ⟨w.heap.size, 8, none⟩ (.int .i64 tl)) = w94 at HC_94 HU_94 hs_94 Bt_94 Bq_94 Bz_94 Bs_94 ⊢
  have dt8 : w94.cell? ⟨w.heap.size, 8, none⟩ = some (.int .i64 tl) := (blk_cell Bt_94.out 8).trans rfl
  have ft := blk_frozen Bt_94.out
  have hW := HW.out
  have hmin : (2147483647 < tl) = False := eq_false (by omega)
  go_upto_region 14 with fail
  clear dt8 ft
  have S_0 := And.intro HC_94.out HU_94.out
  have S_1 := step_set S_0.1 S_0.2 Bt_94.out ⟨by decide, by decide, by decide, by decide, by decide, by decide⟩ (by omega) 8 (.int .i64 (tl + 1))
  have G_0 := blk_put (cs' := #[.int .u64 id, .int .i64 co, .int .i64 3, .int .i64 lv, .int .u64 0, .int .i64 0, .int .i64 0, .int .i64 0, .int .i64 (tl + 1)]) Bt_94.out 8 (.int .i64 (tl + 1)) rfl
  have HC_95 := Aside0.mk S_1.1
  have HU_95 := Aside0.mk S_1.2
  have Bt_95 := Aside0.mk G_0
  have hs_95 : w94.heap.size ≤ (w94.setCell ⟨w.heap.size, 8, none⟩ (.int .i64 (tl + 1))).heap.size := by simp
  have Bq_95 : Aside0 ((w94.setCell ⟨w.heap.size, 8, none⟩ (.int .i64 (tl + 1))).heap[w.heap.size + 1]? = _) := ⟨((Below.heap_setCell _ _ _ _ (by show w.heap.size + 1 ≠ w.heap.size; omega)).trans Bq_94.out)⟩
  have Bz_95 : Aside0 ((w94.setCell ⟨w.heap.size, 8, none⟩ (.int .i64 (tl + 1))).heap[w.heap.size + 1 + 1]? = _) := ⟨((Below.heap_setCell _ _ _ _ (by show w.heap.size + 1 + 1 ≠ w.heap.size; omega)).trans Bz_94.out)⟩
  have Bs_95 : Aside0 ((w94.setCell ⟨w.heap.size, 8, none⟩ (.int .i64 (tl + 1))).heap[s_]? = _) := ⟨((Below.heap_setCell _ _ _ _ (by show s_ ≠ w.heap.size; omega)).trans Bs_94.out)⟩
  clear S_0 S_1 G_0
  generalize (w94.setCell ⟨w.heap.size, 8, none⟩ (.int .i64 (tl + 1))) = w95 at HC_95 HU_95 hs_95 Bt_95 Bq_95 Bz_95 Bs_95 ⊢
  have dt8 : w95.cell? ⟨w.heap.size, 8, none⟩ = some (.int .i64 (tl + 1)) := (blk_cell Bt_95.out 8).trans rfl
  have ft := blk_frozen Bt_95.out
  clear hW hmin
  clear dt8 ft
  obtain ⟨dt0, dt1, dt2, dt3, dt4, dt5, dt6, dt7, dt8⟩ := cells9 Bt_95.out
  obtain ⟨dz0, dz1, dz2, dz3, dz4, dz5, dz6, dz7, dz8⟩ := cells9 Bz_95.out
  have fz := blk_frozen Bz_95.out
  go_wp2
  clear dt0 dt1 dt2 dt3 dt4 dt5 dt6 dt7 dt8 dz0 dz1 dz2 dz3 dz4 dz5 dz6 dz7 dz8 fz
  obtain ⟨S1, S2, S3, S4, hs_96⟩ := step_set9 (.int .u64 id) (.int .i64 co) (.int .i64 3) (.int .i64 lv) (.int .u64 0) (.int .i64 0) (.int .i64 0) (.int .i64 0) (.int .i64 (tl + 1)) HC_95.out HU_95.out Bz_95.out ⟨by decide, by decide, by decide, by decide, by decide, by decide⟩ (by omega)
  have HC_96 := Aside0.mk S1
  have HU_96 := Aside0.mk S2
  have Bz_96 := Aside0.mk S3
  have Bt_96 := Aside0.mk (S4 (g := w.heap.size) (by omega) Bt_95.out)
  have Bq_96 := Aside0.mk (S4 (g := w.heap.size + 1) (by omega) Bq_95.out)
  have Bs_96 := Aside0.mk (S4 (g := s_) (by omega) Bs_95.out)
  clear S1 S2 S3 S4
  generalize (((((((((w95.setCell ⟨w.heap.size + 1 + 1, 0, none⟩ (.int .u64 id)).setCell ⟨w.heap.size + 1 + 1, 1, none⟩ (.int .i64 co)).setCell ⟨w.heap.size + 1 + 1, 2, none⟩ (.int .i64 3)).setCell ⟨w.heap.size + 1 + 1, 3, none⟩ (.int .i64 lv)).setCell ⟨w.heap.size + 1 + 1, 4, none⟩ (.int .u64 0)).setCell ⟨w.heap.size + 1 + 1, 5, none⟩ (.int .i64 0)).setCell ⟨w.heap.size + 1 + 1, 6, none⟩ (.int .i64 0)).setCell ⟨w.heap.size + 1 + 1, 7, none⟩ (.int .i64 0)).setCell ⟨w.heap.size + 1 + 1, 8, none⟩ (.int .i64 (tl + 1))) = w96 at HC_96 HU_96 hs_96 Bt_96 Bq_96 Bz_96 Bs_96 ⊢
  obtain ⟨dt0, dt1, dt2, dt3, dt4, dt5, dt6, dt7, dt8⟩ := cells9 Bt_96.out
  obtain ⟨dz0, dz1, dz2, dz3, dz4, dz5, dz6, dz7, dz8⟩ := cells9 Bz_96.out
  have fz := blk_frozen Bz_96.out
  refine bodyPost_ret (v := .tuple #[.agg #[.int .u64 id, .int .i64 co, .int .i64 3, .int .i64 lv, .int .u64 0, .int .i64 0, .int .i64 0, .int .i64 0, .int .i64 (tl + 1)], .int .i64 lv, .int .i64 0]) (by simp [results, Try.results27, go_sem, dz0, dz1, dz2, dz3, dz4, dz5, dz6, dz7, dz8]) rfl ⟨rfl, HC_96.out, HU_96.out⟩
end Go.Proofs.Ytepldlnmeenlbaa.Own
namespace Go.Proofs.Ytepldlnmeenlbaa.Own
open Go.RowKit Go.Proofs Go.Proofs.YtepldlnmeenlbaaW.PrintWords Go.Proofs.YtepldlnmeenlbaaW.PrintLast Go.Proofs.YtepldlnmeenlbaaW.PrintMore Go.Proofs.Ytepldlnmeenlbaa.Base
variable {w w' : World} {n kb ab pb cb : Nat} {off : Int} {week closed : List S143} {A : Option Addr} {k : Nat} {ls : List S98}
set_option maxHeartbeats 4000000 in
set_option maxRecDepth 100000 in
theorem tkpause_no (id co st lv gn fr lf du tl now : Int) (w : World) (h : ClkAt w n kb ab pb cb off week closed) (hn : n ≤ w.heap.size) (hs : st ≠ 1) :
    Calls Try.prog 28 #[.agg #[.int .u64 id, .int .i64 co, .int .i64 st, .int .i64 lv, .int .u64 gn, .int .i64 fr, .int .i64 lf, .int .i64 du, .int .i64 tl], .pointer (some ⟨kb, 0, none⟩), .int .i64 now] w fun r w' => r = .returned (.tuple #[.agg #[.int .u64 0, .int .i64 0, .int .i64 0, .int .i64 0, .int .u64 0, .int .i64 0, .int .i64 0, .int .i64 0, .int .i64 0], .int .i64 33]) ∧ ClkAt w' n kb ab pb cb off week closed ∧ Upd cb w w' := by
  have f1_ : (st != 1) = true := bne_iff_ne.mpr hs
  clear hs
  have HB0 : Below w.heap.size w ((w.alloc (.cells #[.int .u64 id, .int .i64 co, .int .i64 st, .int .i64 lv, .int .u64 gn, .int .i64 fr, .int .i64 lf, .int .i64 du, .int .i64 tl] 24)).alloc (.cells #[.int .u64 0, .int .i64 0, .int .i64 0, .int .i64 0, .int .u64 0, .int .i64 0, .int .i64 0, .int .i64 0, .int .i64 0] 24)) := (below_alloc (below_alloc (Below.refl w.heap.size w) (.cells #[.int .u64 id, .int .i64 co, .int .i64 st, .int .i64 lv, .int .u64 gn, .int .i64 fr, .int .i64 lf, .int .i64 du, .int .i64 tl] 24)) (.cells #[.int .u64 0, .int .i64 0, .int .i64 0, .int .i64 0, .int .u64 0, .int .i64 0, .int .i64 0, .int .i64 0, .int .i64 0] 24))
  have HC_1 := Aside0.mk (h.below HB0)
  have HU_1 := Aside0.mk (Upd.of_below (b := cb) HB0)
  have hs_1 : w.heap.size ≤ ((w.alloc (.cells #[.int .u64 id, .int .i64 co, .int .i64 st, .int .i64 lv, .int .u64 gn, .int .i64 fr, .int .i64 lf, .int .i64 du, .int .i64 tl] 24)).alloc (.cells #[.int .u64 0, .int .i64 0, .int .i64 0, .int .i64 0, .int .u64 0, .int .i64 0, .int .i64 0, .int .i64 0, .int .i64 0] 24)).heap.size := HB0.size
  have Bt_1 : Aside0 (((w.alloc (.cells #[.int .u64 id, .int .i64 co, .int .i64 st, .int .i64 lv, .int .u64 gn, .int .i64 fr, .int .i64 lf, .int .i64 du, .int .i64 tl] 24)).alloc (.cells #[.int .u64 0, .int .i64 0, .int .i64 0, .int .i64 0, .int .u64 0, .int .i64 0, .int .i64 0, .int .i64 0, .int .i64 0] 24)).heap[w.heap.size]? = some (.cells #[.int .u64 id, .int .i64 co, .int .i64 st, .int .i64 lv, .int .u64 gn, .int .i64 fr, .int .i64 lf, .int .i64 du, .int .i64 tl] 24 (0, 0))) := ⟨(blk_alloc (blk_new w _) _)⟩
  have Bz_1 : Aside0 (((w.alloc (.cells #[.int .u64 id, .int .i64 co, .int .i64 st, .int .i64 lv, .int .u64 gn, .int .i64 fr, .int .i64 lf, .int .i64 du, .int .i64 tl] 24)).alloc (.cells #[.int .u64 0, .int .i64 0, .int .i64 0, .int .i64 0, .int .u64 0, .int .i64 0, .int .i64 0, .int .i64 0, .int .i64 0] 24)).heap[w.heap.size + 1]? = some (.cells #[.int .u64 0, .int .i64 0, .int .i64 0, .int .i64 0, .int .u64 0, .int .i64 0, .int .i64 0, .int .i64 0, .int .i64 0] 24 (0, 0))) := ⟨(by simpa using blk_new (w.alloc (.cells #[.int .u64 id, .int .i64 co, .int .i64 st, .int .i64 lv, .int .u64 gn, .int .i64 fr, .int .i64 lf, .int .i64 du, .int .i64 tl] 24)) (.cells #[.int .u64 0, .int .i64 0, .int .i64 0, .int .i64 0, .int .u64 0, .int .i64 0, .int .i64 0, .int .i64 0, .int .i64 0] 24))⟩
  have hz_1 : w.heap.size + 1 < ((w.alloc (.cells #[.int .u64 id, .int .i64 co, .int .i64 st, .int .i64 lv, .int .u64 gn, .int .i64 fr, .int .i64 lf, .int .i64 du, .int .i64 tl] 24)).alloc (.cells #[.int .u64 0, .int .i64 0, .int .i64 0, .int .i64 0, .int .u64 0, .int .i64 0, .int .i64 0, .int .i64 0, .int .i64 0] 24)).heap.size := blk_lt Bz_1.out
  have hcb := h.lt
  clear h HB0 
  go_enter Try.func28, Try.ntmps28
  go_upto_region 1 with fail
  generalize ((w.alloc (.cells #[.int .u64 id, .int .i64 co, .int .i64 st, .int .i64 lv, .int .u64 gn, .int .i64 fr, .int .i64 lf, .int .i64 du, .int .i64 tl] 24)).alloc (.cells #[.int .u64 0, .int .i64 0, .int .i64 0, .int .i64 0, .int .u64 0, .int .i64 0, .int .i64 0, .int .i64 0, .int .i64 0] 24)) = w1 at HC_1 HU_1 hs_1 Bt_1 Bz_1 hz_1 ⊢
  have dt2 : w1.cell? ⟨w.heap.size, 2, none⟩ = some (.int .i64 st) := (blk_cell Bt_1.out 2).trans rfl
  obtain ⟨dz0, dz1, dz2, dz3, dz4, dz5, dz6, dz7, dz8⟩ := cells9 Bz_1.out
  have fz := blk_frozen Bz_1.out
  go_wp2
  clear dt2 dz0 dz1 dz2 dz3 dz4 dz5 dz6 dz7 dz8 fz
  obtain ⟨S1, S2, S3, S4, hs_2⟩ := step_set9 (.int .u64 0) (.int .i64 0) (.int .i64 0) (.int .i64 0) (.int .u64 0) (.int .i64 0) (.int .i64 0) (.int .i64 0) (.int .i64 0) HC_1.out HU_1.out Bz_1.out ⟨by decide, by decide, by decide, by decide, by decide, by decide⟩ (by omega)
  have HC_2 := Aside0.mk S1
  have HU_2 := Aside0.mk S2
  have Bz_2 := Aside0.mk S3
  have Bt_2 := Aside0.mk (S4 (g := w.heap.size) (by omega) Bt_1.out)
  clear S1 S2 S3 S4
  generalize (((((((((w1.setCell ⟨w.heap.size + 1, 0, none⟩ (.int .u64 0)).setCell ⟨w.heap.size + 1, 1, none⟩ (.int .i64 0)).setCell ⟨w.heap.size + 1, 2, none⟩ (.int .i64 0)).setCell ⟨w.heap.size + 1, 3, none⟩ (.int .i64 0)).setCell ⟨w.heap.size + 1, 4, none⟩ (.int .u64 0)).setCell ⟨w.heap.size + 1, 5, none⟩ (.int .i64 0)).setCell ⟨w.heap.size + 1, 6, none⟩ (.int .i64 0)).setCell ⟨w.heap.size + 1, 7, none⟩ (.int .i64 0)).setCell ⟨w.heap.size + 1, 8, none⟩ (.int .i64 0)) = w2 at HC_2 HU_2 hs_2 Bt_2 Bz_2 ⊢
  have dt2 : w2.cell? ⟨w.heap.size, 2, none⟩ = some (.int .i64 st) := (blk_cell Bt_2.out 2).trans rfl
  obtain ⟨dz0, dz1, dz2, dz3, dz4, dz5, dz6, dz7, dz8⟩ := cells9 Bz_2.out
  have fz := blk_frozen Bz_2.out
  refine bodyPost_ret (v := .tuple #[.agg #[.int .u64 0, .int .i64 0, .int .i64 0, .int .i64 0, .int .u64 0, .int .i64 0, .int .i64 0, .int .i64 0, .int .i64 0], .int .i64 33]) (by simp [results, Try.results28, go_sem, dz0, dz1, dz2, dz3, dz4, dz5, dz6, dz7, dz8]) rfl ⟨rfl, HC_2.out, HU_2.out⟩
set_option maxHeartbeats 4000000 in
set_option maxRecDepth 100000 in
theorem tkpause_ok (id co lv gn fr lf du tl now a b c d e r1 r2 r3 r4 r5 r6 r7 r8 r9 r10 : Int) (w : World) (h : ClkAt w n kb ab pb cb off week closed) (hn : n ≤ w.heap.size) (hk : CalOk off week closed) (hl : lf ≤ 9223372036854775807) (hd : standP off week closed lv fr lf du now = (a, b, c, d, e)) (hw : ticket_with.f id co 1 lv gn fr lf du tl 2 a b c d e = some (r1, r2, r3, r4, r5, r6, r7, r8, r9, r10)) :
    Calls Try.prog 28 #[.agg #[.int .u64 id, .int .i64 co, .int .i64 1, .int .i64 lv, .int .u64 gn, .int .i64 fr, .int .i64 lf, .int .i64 du, .int .i64 tl], .pointer (some ⟨kb, 0, none⟩), .int .i64 now] w fun r w' => r = .returned (.tuple #[.agg #[.int .u64 r1, .int .i64 r2, .int .i64 r3, .int .i64 r4, .int .u64 r5, .int .i64 r6, .int .i64 r7, .int .i64 r8, .int .i64 r9], .int .i64 r10]) ∧ ClkAt w' n kb ab pb cb off week closed ∧ Upd cb w w' := by
  have HD := Aside0.mk hd
  have HW := Aside0.mk hw
  have HK := Aside0.mk hk
  clear hd hw
  have HB0 : Below w.heap.size w ((w.alloc (.cells #[.int .u64 id, .int .i64 co, .int .i64 1, .int .i64 lv, .int .u64 gn, .int .i64 fr, .int .i64 lf, .int .i64 du, .int .i64 tl] 24)).alloc (.cells #[.int .u64 0, .int .i64 0, .int .i64 0, .int .i64 0, .int .u64 0, .int .i64 0, .int .i64 0, .int .i64 0, .int .i64 0] 24)) := (below_alloc (below_alloc (Below.refl w.heap.size w) (.cells #[.int .u64 id, .int .i64 co, .int .i64 1, .int .i64 lv, .int .u64 gn, .int .i64 fr, .int .i64 lf, .int .i64 du, .int .i64 tl] 24)) (.cells #[.int .u64 0, .int .i64 0, .int .i64 0, .int .i64 0, .int .u64 0, .int .i64 0, .int .i64 0, .int .i64 0, .int .i64 0] 24))
  have HC_1 := Aside0.mk (h.below HB0)
  have HU_1 := Aside0.mk (Upd.of_below (b := cb) HB0)
  have hs_1 : w.heap.size ≤ ((w.alloc (.cells #[.int .u64 id, .int .i64 co, .int .i64 1, .int .i64 lv, .int .u64 gn, .int .i64 fr, .int .i64 lf, .int .i64 du, .int .i64 tl] 24)).alloc (.cells #[.int .u64 0, .int .i64 0, .int .i64 0, .int .i64 0, .int .u64 0, .int .i64 0, .int .i64 0, .int .i64 0, .int .i64 0] 24)).heap.size := HB0.size
  have Bt_1 : Aside0 (((w.alloc (.cells #[.int .u64 id, .int .i64 co, .int .i64 1, .int .i64 lv, .int .u64 gn, .int .i64 fr, .int .i64 lf, .int .i64 du, .int .i64 tl] 24)).alloc (.cells #[.int .u64 0, .int .i64 0, .int .i64 0, .int .i64 0, .int .u64 0, .int .i64 0, .int .i64 0, .int .i64 0, .int .i64 0] 24)).heap[w.heap.size]? = some (.cells #[.int .u64 id, .int .i64 co, .int .i64 1, .int .i64 lv, .int .u64 gn, .int .i64 fr, .int .i64 lf, .int .i64 du, .int .i64 tl] 24 (0, 0))) := ⟨(blk_alloc (blk_new w _) _)⟩
  have Bz_1 : Aside0 (((w.alloc (.cells #[.int .u64 id, .int .i64 co, .int .i64 1, .int .i64 lv, .int .u64 gn, .int .i64 fr, .int .i64 lf, .int .i64 du, .int .i64 tl] 24)).alloc (.cells #[.int .u64 0, .int .i64 0, .int .i64 0, .int .i64 0, .int .u64 0, .int .i64 0, .int .i64 0, .int .i64 0, .int .i64 0] 24)).heap[w.heap.size + 1]? = some (.cells #[.int .u64 0, .int .i64 0, .int .i64 0, .int .i64 0, .int .u64 0, .int .i64 0, .int .i64 0, .int .i64 0, .int .i64 0] 24 (0, 0))) := ⟨(by simpa using blk_new (w.alloc (.cells #[.int .u64 id, .int .i64 co, .int .i64 1, .int .i64 lv, .int .u64 gn, .int .i64 fr, .int .i64 lf, .int .i64 du, .int .i64 tl] 24)) (.cells #[.int .u64 0, .int .i64 0, .int .i64 0, .int .i64 0, .int .u64 0, .int .i64 0, .int .i64 0, .int .i64 0, .int .i64 0] 24))⟩
  have hz_1 : w.heap.size + 1 < ((w.alloc (.cells #[.int .u64 id, .int .i64 co, .int .i64 1, .int .i64 lv, .int .u64 gn, .int .i64 fr, .int .i64 lf, .int .i64 du, .int .i64 tl] 24)).alloc (.cells #[.int .u64 0, .int .i64 0, .int .i64 0, .int .i64 0, .int .u64 0, .int .i64 0, .int .i64 0, .int .i64 0, .int .i64 0] 24)).heap.size := blk_lt Bz_1.out
  have hcb := h.lt
  clear h HB0 
  go_enter Try.func28, Try.ntmps28
  go_wp2_with fail
  generalize ((w.alloc (.cells #[.int .u64 id, .int .i64 co, .int .i64 1, .int .i64 lv, .int .u64 gn, .int .i64 fr, .int .i64 lf, .int .i64 du, .int .i64 tl] 24)).alloc (.cells #[.int .u64 0, .int .i64 0, .int .i64 0, .int .i64 0, .int .u64 0, .int .i64 0, .int .i64 0, .int .i64 0, .int .i64 0] 24)) = w1 at HC_1 HU_1 hs_1 Bt_1 Bz_1 hz_1 ⊢
  obtain ⟨dt0, dt1, dt2, dt3, dt4, dt5, dt6, dt7, dt8⟩ := cells9 Bt_1.out
  go_upto_region 4 with (first | (go_at_call 59; with_reducible refine (ticket_step.calls id co 1 lv gn fr lf du tl lv fr lf du w1 rfl).mono ?_; rintro e w2 ⟨rfl, q1⟩; clear dt0 dt1 dt2 dt3 dt4 dt5 dt6 dt7 dt8; have HC_2 := Aside0.mk (HC_1.out.below q1); have HU_2 := Aside0.mk (HU_1.out.then q1); have hs_2 : w1.heap.size ≤ w2.heap.size := q1.size; have Bt_2 := Aside0.mk (blk_below Bt_1.out q1); have Bz_2 := Aside0.mk (blk_below Bz_1.out q1); clear q1; obtain ⟨dt0, dt1, dt2, dt3, dt4, dt5, dt6, dt7, dt8⟩ := cells9 Bt_2.out) | (go_at_call 62; with_reducible refine (stand_any HK.out lv fr lf du now a b c d e w2 HC_2.out (by omega) (by omega) HD.out).mono ?_; rintro e w3 ⟨rfl, q1, q2⟩; clear dt0 dt1 dt2 dt3 dt4 dt5 dt6 dt7 dt8; have HC_3 := Aside0.mk q1; have HU_3 := Aside0.mk (HU_2.out.trans q2); have hs_3 : w2.heap.size ≤ w3.heap.size := q2.size; have Bt_3 := Aside0.mk (q2.blk Bt_2.out (by omega)); have Bz_3 := Aside0.mk (q2.blk Bz_2.out (by omega)); clear q1 q2; obtain ⟨dt0, dt1, dt2, dt3, dt4, dt5, dt6, dt7, dt8⟩ := cells9 Bt_3.out))
  have hb : Below w3.heap.size w3 (w3.alloc (.cells #[.int .i64 a, .int .i64 b, .int .i64 c, .int .i64 d] 108)) := below_alloc (Below.refl _ _) _
  clear dt0 dt1 dt2 dt3 dt4 dt5 dt6 dt7 dt8
  have HC_4 := Aside0.mk (HC_3.out.below hb)
  have HU_4 := Aside0.mk (HU_3.out.then hb)
  have hs_4 : w3.heap.size ≤ (w3.alloc (.cells #[.int .i64 a, .int .i64 b, .int .i64 c, .int .i64 d] 108)).heap.size := hb.size
  have Bt_4 := Aside0.mk (blk_below Bt_3.out hb)
  have Bz_4 := Aside0.mk (blk_below Bz_3.out hb)
  clear hb
  have Bs_4 := Aside0.mk (blk_new w3 (.cells #[.int .i64 a, .int .i64 b, .int .i64 c, .int .i64 d] 108))
  have hz_4 : w3.heap.size < (w3.alloc (.cells #[.int .i64 a, .int .i64 b, .int .i64 c, .int .i64 d] 108)).heap.size := blk_lt Bs_4.out
  generalize (w3.alloc (.cells #[.int .i64 a, .int .i64 b, .int .i64 c, .int .i64 d] 108)) = w4 at HC_4 HU_4 hs_4 Bt_4 Bz_4 Bs_4 hz_4 ⊢
  obtain ⟨dt0, dt1, dt2, dt3, dt4, dt5, dt6, dt7, dt8⟩ := cells9 Bt_4.out
  obtain ⟨ds0, ds1, ds2, ds3⟩ := cells4 Bs_4.out
  go_wp2_with (go_at_call 57; with_reducible refine (ticket_with.calls id co 1 lv gn fr lf du tl 2 a b c d e r1 r2 r3 r4 r5 r6 r7 r8 r9 r10 w4 HW.out).mono ?_; rintro e w5 ⟨rfl, q1⟩; clear dt0 dt1 dt2 dt3 dt4 dt5 dt6 dt7 dt8 ds0 ds1 ds2 ds3; have HC_5 := Aside0.mk (HC_4.out.below q1); have HU_5 := Aside0.mk (HU_4.out.then q1); have hs_5 : w4.heap.size ≤ w5.heap.size := q1.size; have Bt_5 := Aside0.mk (blk_below Bt_4.out q1); have Bz_5 := Aside0.mk (blk_below Bz_4.out q1); have Bs_5 := Aside0.mk (blk_below Bs_4.out q1); clear q1; obtain ⟨dz0, dz1, dz2, dz3, dz4, dz5, dz6, dz7, dz8⟩ := cells9 Bz_5.out; have fz := blk_frozen Bz_5.out)
  clear dz0 dz1 dz2 dz3 dz4 dz5 dz6 dz7 dz8 fz
  obtain ⟨S1, S2, S3, S4, hs_6⟩ := step_set9 (.int .u64 r1) (.int .i64 r2) (.int .i64 r3) (.int .i64 r4) (.int .u64 r5) (.int .i64 r6) (.int .i64 r7) (.int .i64 r8) (.int .i64 r9) HC_5.out HU_5.out Bz_5.out ⟨by decide, by decide, by decide, by decide, by decide, by decide⟩ (by omega)
  have HC_6 := Aside0.mk S1
  have HU_6 := Aside0.mk S2
  have Bz_6 := Aside0.mk S3
  have Bt_6 := Aside0.mk (S4 (g := w.heap.size) (by omega) Bt_5.out)
  have Bs_6 := Aside0.mk (S4 (g := w3.heap.size) (by omega) Bs_5.out)
  clear S1 S2 S3 S4
  generalize (((((((((w5.setCell ⟨w.heap.size + 1, 0, none⟩ (.int .u64 r1)).setCell ⟨w.heap.size + 1, 1, none⟩ (.int .i64 r2)).setCell ⟨w.heap.size + 1, 2, none⟩ (.int .i64 r3)).setCell ⟨w.heap.size + 1, 3, none⟩ (.int .i64 r4)).setCell ⟨w.heap.size + 1, 4, none⟩ (.int .u64 r5)).setCell ⟨w.heap.size + 1, 5, none⟩ (.int .i64 r6)).setCell ⟨w.heap.size + 1, 6, none⟩ (.int .i64 r7)).setCell ⟨w.heap.size + 1, 7, none⟩ (.int .i64 r8)).setCell ⟨w.heap.size + 1, 8, none⟩ (.int .i64 r9)) = w6 at HC_6 HU_6 hs_6 Bt_6 Bz_6 Bs_6 ⊢
  obtain ⟨dz0, dz1, dz2, dz3, dz4, dz5, dz6, dz7, dz8⟩ := cells9 Bz_6.out
  have fz := blk_frozen Bz_6.out
  refine bodyPost_ret (v := .tuple #[.agg #[.int .u64 r1, .int .i64 r2, .int .i64 r3, .int .i64 r4, .int .u64 r5, .int .i64 r6, .int .i64 r7, .int .i64 r8, .int .i64 r9], .int .i64 r10]) (by simp [results, Try.results28, go_sem, dz0, dz1, dz2, dz3, dz4, dz5, dz6, dz7, dz8]) rfl ⟨rfl, HC_6.out, HU_6.out⟩
set_option maxHeartbeats 4000000 in
set_option maxRecDepth 100000 in
theorem tkresume_no (id co st lv gn fr lf du tl now : Int) (w : World) (h : ClkAt w n kb ab pb cb off week closed) (hn : n ≤ w.heap.size) (hs : st ≠ 2) :
    Calls Try.prog 24 #[.agg #[.int .u64 id, .int .i64 co, .int .i64 st, .int .i64 lv, .int .u64 gn, .int .i64 fr, .int .i64 lf, .int .i64 du, .int .i64 tl], .pointer (some ⟨kb, 0, none⟩), .int .i64 now] w fun r w' => r = .returned (.tuple #[.agg #[.int .u64 0, .int .i64 0, .int .i64 0, .int .i64 0, .int .u64 0, .int .i64 0, .int .i64 0, .int .i64 0, .int .i64 0], .int .i64 33]) ∧ ClkAt w' n kb ab pb cb off week closed ∧ Upd cb w w' := by
  have f1_ : (st != 2) = true := bne_iff_ne.mpr hs
  clear hs
  have HB0 : Below w.heap.size w ((w.alloc (.cells #[.int .u64 id, .int .i64 co, .int .i64 st, .int .i64 lv, .int .u64 gn, .int .i64 fr, .int .i64 lf, .int .i64 du, .int .i64 tl] 24)).alloc (.cells #[.int .u64 0, .int .i64 0, .int .i64 0, .int .i64 0, .int .u64 0, .int .i64 0, .int .i64 0, .int .i64 0, .int .i64 0] 24)) := (below_alloc (below_alloc (Below.refl w.heap.size w) (.cells #[.int .u64 id, .int .i64 co, .int .i64 st, .int .i64 lv, .int .u64 gn, .int .i64 fr, .int .i64 lf, .int .i64 du, .int .i64 tl] 24)) (.cells #[.int .u64 0, .int .i64 0, .int .i64 0, .int .i64 0, .int .u64 0, .int .i64 0, .int .i64 0, .int .i64 0, .int .i64 0] 24))
  have HC_1 := Aside0.mk (h.below HB0)
  have HU_1 := Aside0.mk (Upd.of_below (b := cb) HB0)
  have hs_1 : w.heap.size ≤ ((w.alloc (.cells #[.int .u64 id, .int .i64 co, .int .i64 st, .int .i64 lv, .int .u64 gn, .int .i64 fr, .int .i64 lf, .int .i64 du, .int .i64 tl] 24)).alloc (.cells #[.int .u64 0, .int .i64 0, .int .i64 0, .int .i64 0, .int .u64 0, .int .i64 0, .int .i64 0, .int .i64 0, .int .i64 0] 24)).heap.size := HB0.size
  have Bt_1 : Aside0 (((w.alloc (.cells #[.int .u64 id, .int .i64 co, .int .i64 st, .int .i64 lv, .int .u64 gn, .int .i64 fr, .int .i64 lf, .int .i64 du, .int .i64 tl] 24)).alloc (.cells #[.int .u64 0, .int .i64 0, .int .i64 0, .int .i64 0, .int .u64 0, .int .i64 0, .int .i64 0, .int .i64 0, .int .i64 0] 24)).heap[w.heap.size]? = some (.cells #[.int .u64 id, .int .i64 co, .int .i64 st, .int .i64 lv, .int .u64 gn, .int .i64 fr, .int .i64 lf, .int .i64 du, .int .i64 tl] 24 (0, 0))) := ⟨(blk_alloc (blk_new w _) _)⟩
  have Bz_1 : Aside0 (((w.alloc (.cells #[.int .u64 id, .int .i64 co, .int .i64 st, .int .i64 lv, .int .u64 gn, .int .i64 fr, .int .i64 lf, .int .i64 du, .int .i64 tl] 24)).alloc (.cells #[.int .u64 0, .int .i64 0, .int .i64 0, .int .i64 0, .int .u64 0, .int .i64 0, .int .i64 0, .int .i64 0, .int .i64 0] 24)).heap[w.heap.size + 1]? = some (.cells #[.int .u64 0, .int .i64 0, .int .i64 0, .int .i64 0, .int .u64 0, .int .i64 0, .int .i64 0, .int .i64 0, .int .i64 0] 24 (0, 0))) := ⟨(by simpa using blk_new (w.alloc (.cells #[.int .u64 id, .int .i64 co, .int .i64 st, .int .i64 lv, .int .u64 gn, .int .i64 fr, .int .i64 lf, .int .i64 du, .int .i64 tl] 24)) (.cells #[.int .u64 0, .int .i64 0, .int .i64 0, .int .i64 0, .int .u64 0, .int .i64 0, .int .i64 0, .int .i64 0, .int .i64 0] 24))⟩
  have hz_1 : w.heap.size + 1 < ((w.alloc (.cells #[.int .u64 id, .int .i64 co, .int .i64 st, .int .i64 lv, .int .u64 gn, .int .i64 fr, .int .i64 lf, .int .i64 du, .int .i64 tl] 24)).alloc (.cells #[.int .u64 0, .int .i64 0, .int .i64 0, .int .i64 0, .int .u64 0, .int .i64 0, .int .i64 0, .int .i64 0, .int .i64 0] 24)).heap.size := blk_lt Bz_1.out
  have hcb := h.lt
  clear h HB0 
  go_enter Try.func24, Try.ntmps24
  go_upto_region 1 with fail
  generalize ((w.alloc (.cells #[.int .u64 id, .int .i64 co, .int .i64 st, .int .i64 lv, .int .u64 gn, .int .i64 fr, .int .i64 lf, .int .i64 du, .int .i64 tl] 24)).alloc (.cells #[.int .u64 0, .int .i64 0, .int .i64 0, .int .i64 0, .int .u64 0, .int .i64 0, .int .i64 0, .int .i64 0, .int .i64 0] 24)) = w1 at HC_1 HU_1 hs_1 Bt_1 Bz_1 hz_1 ⊢
  have dt2 : w1.cell? ⟨w.heap.size, 2, none⟩ = some (.int .i64 st) := (blk_cell Bt_1.out 2).trans rfl
  obtain ⟨dz0, dz1, dz2, dz3, dz4, dz5, dz6, dz7, dz8⟩ := cells9 Bz_1.out
  have fz := blk_frozen Bz_1.out
  go_wp2
  clear dt2 dz0 dz1 dz2 dz3 dz4 dz5 dz6 dz7 dz8 fz
  obtain ⟨S1, S2, S3, S4, hs_2⟩ := step_set9 (.int .u64 0) (.int .i64 0) (.int .i64 0) (.int .i64 0) (.int .u64 0) (.int .i64 0) (.int .i64 0) (.int .i64 0) (.int .i64 0) HC_1.out HU_1.out Bz_1.out ⟨by decide, by decide, by decide, by decide, by decide, by decide⟩ (by omega)
  have HC_2 := Aside0.mk S1
  have HU_2 := Aside0.mk S2
  have Bz_2 := Aside0.mk S3
  have Bt_2 := Aside0.mk (S4 (g := w.heap.size) (by omega) Bt_1.out)
  clear S1 S2 S3 S4
  generalize (((((((((w1.setCell ⟨w.heap.size + 1, 0, none⟩ (.int .u64 0)).setCell ⟨w.heap.size + 1, 1, none⟩ (.int .i64 0)).setCell ⟨w.heap.size + 1, 2, none⟩ (.int .i64 0)).setCell ⟨w.heap.size + 1, 3, none⟩ (.int .i64 0)).setCell ⟨w.heap.size + 1, 4, none⟩ (.int .u64 0)).setCell ⟨w.heap.size + 1, 5, none⟩ (.int .i64 0)).setCell ⟨w.heap.size + 1, 6, none⟩ (.int .i64 0)).setCell ⟨w.heap.size + 1, 7, none⟩ (.int .i64 0)).setCell ⟨w.heap.size + 1, 8, none⟩ (.int .i64 0)) = w2 at HC_2 HU_2 hs_2 Bt_2 Bz_2 ⊢
  have dt2 : w2.cell? ⟨w.heap.size, 2, none⟩ = some (.int .i64 st) := (blk_cell Bt_2.out 2).trans rfl
  obtain ⟨dz0, dz1, dz2, dz3, dz4, dz5, dz6, dz7, dz8⟩ := cells9 Bz_2.out
  have fz := blk_frozen Bz_2.out
  refine bodyPost_ret (v := .tuple #[.agg #[.int .u64 0, .int .i64 0, .int .i64 0, .int .i64 0, .int .u64 0, .int .i64 0, .int .i64 0, .int .i64 0, .int .i64 0], .int .i64 33]) (by simp [results, Try.results24, go_sem, dz0, dz1, dz2, dz3, dz4, dz5, dz6, dz7, dz8]) rfl ⟨rfl, HC_2.out, HU_2.out⟩
set_option maxHeartbeats 4000000 in
set_option maxRecDepth 100000 in
theorem tkresume_ok (id co lv gn fr lf du tl now a b c d e r1 r2 r3 r4 r5 r6 r7 r8 r9 r10 : Int) (w : World) (h : ClkAt w n kb ab pb cb off week closed) (hn : n ≤ w.heap.size) (hl : lf ≤ 9223372036854775807) (hd : goP off week closed lv lf du now = (a, b, c, d, e)) (hw : ticket_with.f id co 2 lv gn fr lf du tl 1 a b c d e = some (r1, r2, r3, r4, r5, r6, r7, r8, r9, r10)) :
    Calls Try.prog 24 #[.agg #[.int .u64 id, .int .i64 co, .int .i64 2, .int .i64 lv, .int .u64 gn, .int .i64 fr, .int .i64 lf, .int .i64 du, .int .i64 tl], .pointer (some ⟨kb, 0, none⟩), .int .i64 now] w fun r w' => r = .returned (.tuple #[.agg #[.int .u64 r1, .int .i64 r2, .int .i64 r3, .int .i64 r4, .int .u64 r5, .int .i64 r6, .int .i64 r7, .int .i64 r8, .int .i64 r9], .int .i64 r10]) ∧ ClkAt w' n kb ab pb cb off week closed ∧ Upd cb w w' := by
  have HD := Aside0.mk hd
  have HW := Aside0.mk hw
  clear hd hw
  have HB0 : Below w.heap.size w ((w.alloc (.cells #[.int .u64 id, .int .i64 co, .int .i64 2, .int .i64 lv, .int .u64 gn, .int .i64 fr, .int .i64 lf, .int .i64 du, .int .i64 tl] 24)).alloc (.cells #[.int .u64 0, .int .i64 0, .int .i64 0, .int .i64 0, .int .u64 0, .int .i64 0, .int .i64 0, .int .i64 0, .int .i64 0] 24)) := (below_alloc (below_alloc (Below.refl w.heap.size w) (.cells #[.int .u64 id, .int .i64 co, .int .i64 2, .int .i64 lv, .int .u64 gn, .int .i64 fr, .int .i64 lf, .int .i64 du, .int .i64 tl] 24)) (.cells #[.int .u64 0, .int .i64 0, .int .i64 0, .int .i64 0, .int .u64 0, .int .i64 0, .int .i64 0, .int .i64 0, .int .i64 0] 24))
  have HC_1 := Aside0.mk (h.below HB0)
  have HU_1 := Aside0.mk (Upd.of_below (b := cb) HB0)
  have hs_1 : w.heap.size ≤ ((w.alloc (.cells #[.int .u64 id, .int .i64 co, .int .i64 2, .int .i64 lv, .int .u64 gn, .int .i64 fr, .int .i64 lf, .int .i64 du, .int .i64 tl] 24)).alloc (.cells #[.int .u64 0, .int .i64 0, .int .i64 0, .int .i64 0, .int .u64 0, .int .i64 0, .int .i64 0, .int .i64 0, .int .i64 0] 24)).heap.size := HB0.size
  have Bt_1 : Aside0 (((w.alloc (.cells #[.int .u64 id, .int .i64 co, .int .i64 2, .int .i64 lv, .int .u64 gn, .int .i64 fr, .int .i64 lf, .int .i64 du, .int .i64 tl] 24)).alloc (.cells #[.int .u64 0, .int .i64 0, .int .i64 0, .int .i64 0, .int .u64 0, .int .i64 0, .int .i64 0, .int .i64 0, .int .i64 0] 24)).heap[w.heap.size]? = some (.cells #[.int .u64 id, .int .i64 co, .int .i64 2, .int .i64 lv, .int .u64 gn, .int .i64 fr, .int .i64 lf, .int .i64 du, .int .i64 tl] 24 (0, 0))) := ⟨(blk_alloc (blk_new w _) _)⟩
  have Bz_1 : Aside0 (((w.alloc (.cells #[.int .u64 id, .int .i64 co, .int .i64 2, .int .i64 lv, .int .u64 gn, .int .i64 fr, .int .i64 lf, .int .i64 du, .int .i64 tl] 24)).alloc (.cells #[.int .u64 0, .int .i64 0, .int .i64 0, .int .i64 0, .int .u64 0, .int .i64 0, .int .i64 0, .int .i64 0, .int .i64 0] 24)).heap[w.heap.size + 1]? = some (.cells #[.int .u64 0, .int .i64 0, .int .i64 0, .int .i64 0, .int .u64 0, .int .i64 0, .int .i64 0, .int .i64 0, .int .i64 0] 24 (0, 0))) := ⟨(by simpa using blk_new (w.alloc (.cells #[.int .u64 id, .int .i64 co, .int .i64 2, .int .i64 lv, .int .u64 gn, .int .i64 fr, .int .i64 lf, .int .i64 du, .int .i64 tl] 24)) (.cells #[.int .u64 0, .int .i64 0, .int .i64 0, .int .i64 0, .int .u64 0, .int .i64 0, .int .i64 0, .int .i64 0, .int .i64 0] 24))⟩
  have hz_1 : w.heap.size + 1 < ((w.alloc (.cells #[.int .u64 id, .int .i64 co, .int .i64 2, .int .i64 lv, .int .u64 gn, .int .i64 fr, .int .i64 lf, .int .i64 du, .int .i64 tl] 24)).alloc (.cells #[.int .u64 0, .int .i64 0, .int .i64 0, .int .i64 0, .int .u64 0, .int .i64 0, .int .i64 0, .int .i64 0, .int .i64 0] 24)).heap.size := blk_lt Bz_1.out
  have hcb := h.lt
  clear h HB0 
  go_enter Try.func24, Try.ntmps24
  go_wp2_with fail
  generalize ((w.alloc (.cells #[.int .u64 id, .int .i64 co, .int .i64 2, .int .i64 lv, .int .u64 gn, .int .i64 fr, .int .i64 lf, .int .i64 du, .int .i64 tl] 24)).alloc (.cells #[.int .u64 0, .int .i64 0, .int .i64 0, .int .i64 0, .int .u64 0, .int .i64 0, .int .i64 0, .int .i64 0, .int .i64 0] 24)) = w1 at HC_1 HU_1 hs_1 Bt_1 Bz_1 hz_1 ⊢
  obtain ⟨dt0, dt1, dt2, dt3, dt4, dt5, dt6, dt7, dt8⟩ := cells9 Bt_1.out
  go_upto_region 4 with (first | (go_at_call 59; with_reducible refine (ticket_step.calls id co 2 lv gn fr lf du tl lv fr lf du w1 rfl).mono ?_; rintro e w2 ⟨rfl, q1⟩; clear dt0 dt1 dt2 dt3 dt4 dt5 dt6 dt7 dt8; have HC_2 := Aside0.mk (HC_1.out.below q1); have HU_2 := Aside0.mk (HU_1.out.then q1); have hs_2 : w1.heap.size ≤ w2.heap.size := q1.size; have Bt_2 := Aside0.mk (blk_below Bt_1.out q1); have Bz_2 := Aside0.mk (blk_below Bz_1.out q1); clear q1; obtain ⟨dt0, dt1, dt2, dt3, dt4, dt5, dt6, dt7, dt8⟩ := cells9 Bt_2.out) | (go_at_call 58; with_reducible refine (go_any lv fr lf du now a b c d e w2 HC_2.out (by omega) (by omega) HD.out).mono ?_; rintro e w3 ⟨rfl, q1, q2⟩; clear dt0 dt1 dt2 dt3 dt4 dt5 dt6 dt7 dt8; have HC_3 := Aside0.mk q1; have HU_3 := Aside0.mk (HU_2.out.trans q2); have hs_3 : w2.heap.size ≤ w3.heap.size := q2.size; have Bt_3 := Aside0.mk (q2.blk Bt_2.out (by omega)); have Bz_3 := Aside0.mk (q2.blk Bz_2.out (by omega)); clear q1 q2; obtain ⟨dt0, dt1, dt2, dt3, dt4, dt5, dt6, dt7, dt8⟩ := cells9 Bt_3.out))
  have hb : Below w3.heap.size w3 (w3.alloc (.cells #[.int .i64 a, .int .i64 b, .int .i64 c, .int .i64 d] 108)) := below_alloc (Below.refl _ _) _
  clear dt0 dt1 dt2 dt3 dt4 dt5 dt6 dt7 dt8
  have HC_4 := Aside0.mk (HC_3.out.below hb)
  have HU_4 := Aside0.mk (HU_3.out.then hb)
  have hs_4 : w3.heap.size ≤ (w3.alloc (.cells #[.int .i64 a, .int .i64 b, .int .i64 c, .int .i64 d] 108)).heap.size := hb.size
  have Bt_4 := Aside0.mk (blk_below Bt_3.out hb)
  have Bz_4 := Aside0.mk (blk_below Bz_3.out hb)
  clear hb
  have Bs_4 := Aside0.mk (blk_new w3 (.cells #[.int .i64 a, .int .i64 b, .int .i64 c, .int .i64 d] 108))
  have hz_4 : w3.heap.size < (w3.alloc (.cells #[.int .i64 a, .int .i64 b, .int .i64 c, .int .i64 d] 108)).heap.size := blk_lt Bs_4.out
  generalize (w3.alloc (.cells #[.int .i64 a, .int .i64 b, .int .i64 c, .int .i64 d] 108)) = w4 at HC_4 HU_4 hs_4 Bt_4 Bz_4 Bs_4 hz_4 ⊢
  obtain ⟨dt0, dt1, dt2, dt3, dt4, dt5, dt6, dt7, dt8⟩ := cells9 Bt_4.out
  obtain ⟨ds0, ds1, ds2, ds3⟩ := cells4 Bs_4.out
  go_wp2_with (go_at_call 57; with_reducible refine (ticket_with.calls id co 2 lv gn fr lf du tl 1 a b c d e r1 r2 r3 r4 r5 r6 r7 r8 r9 r10 w4 HW.out).mono ?_; rintro e w5 ⟨rfl, q1⟩; clear dt0 dt1 dt2 dt3 dt4 dt5 dt6 dt7 dt8 ds0 ds1 ds2 ds3; have HC_5 := Aside0.mk (HC_4.out.below q1); have HU_5 := Aside0.mk (HU_4.out.then q1); have hs_5 : w4.heap.size ≤ w5.heap.size := q1.size; have Bt_5 := Aside0.mk (blk_below Bt_4.out q1); have Bz_5 := Aside0.mk (blk_below Bz_4.out q1); have Bs_5 := Aside0.mk (blk_below Bs_4.out q1); clear q1; obtain ⟨dz0, dz1, dz2, dz3, dz4, dz5, dz6, dz7, dz8⟩ := cells9 Bz_5.out; have fz := blk_frozen Bz_5.out)
  clear dz0 dz1 dz2 dz3 dz4 dz5 dz6 dz7 dz8 fz
  obtain ⟨S1, S2, S3, S4, hs_6⟩ := step_set9 (.int .u64 r1) (.int .i64 r2) (.int .i64 r3) (.int .i64 r4) (.int .u64 r5) (.int .i64 r6) (.int .i64 r7) (.int .i64 r8) (.int .i64 r9) HC_5.out HU_5.out Bz_5.out ⟨by decide, by decide, by decide, by decide, by decide, by decide⟩ (by omega)
  have HC_6 := Aside0.mk S1
  have HU_6 := Aside0.mk S2
  have Bz_6 := Aside0.mk S3
  have Bt_6 := Aside0.mk (S4 (g := w.heap.size) (by omega) Bt_5.out)
  have Bs_6 := Aside0.mk (S4 (g := w3.heap.size) (by omega) Bs_5.out)
  clear S1 S2 S3 S4
  generalize (((((((((w5.setCell ⟨w.heap.size + 1, 0, none⟩ (.int .u64 r1)).setCell ⟨w.heap.size + 1, 1, none⟩ (.int .i64 r2)).setCell ⟨w.heap.size + 1, 2, none⟩ (.int .i64 r3)).setCell ⟨w.heap.size + 1, 3, none⟩ (.int .i64 r4)).setCell ⟨w.heap.size + 1, 4, none⟩ (.int .u64 r5)).setCell ⟨w.heap.size + 1, 5, none⟩ (.int .i64 r6)).setCell ⟨w.heap.size + 1, 6, none⟩ (.int .i64 r7)).setCell ⟨w.heap.size + 1, 7, none⟩ (.int .i64 r8)).setCell ⟨w.heap.size + 1, 8, none⟩ (.int .i64 r9)) = w6 at HC_6 HU_6 hs_6 Bt_6 Bz_6 Bs_6 ⊢
  obtain ⟨dz0, dz1, dz2, dz3, dz4, dz5, dz6, dz7, dz8⟩ := cells9 Bz_6.out
  have fz := blk_frozen Bz_6.out
  refine bodyPost_ret (v := .tuple #[.agg #[.int .u64 r1, .int .i64 r2, .int .i64 r3, .int .i64 r4, .int .u64 r5, .int .i64 r6, .int .i64 r7, .int .i64 r8, .int .i64 r9], .int .i64 r10]) (by simp [results, Try.results24, go_sem, dz0, dz1, dz2, dz3, dz4, dz5, dz6, dz7, dz8]) rfl ⟨rfl, HC_6.out, HU_6.out⟩
set_option maxHeartbeats 4000000 in
set_option maxRecDepth 100000 in
theorem tkreopen_no (id co st lv gn fr lf du tl now cal re ba : Int) (w : World) (h : ClkAt w n kb ab pb cb off week closed) (hn : n ≤ w.heap.size) (hq : Kd.C k98 w A ls.length ls ∧ ls.length ≤ k) (hs : st ≠ 4) :
    Calls Try.prog 26 #[.agg #[.int .u64 id, .int .i64 co, .int .i64 st, .int .i64 lv, .int .u64 gn, .int .i64 fr, .int .i64 lf, .int .i64 du, .int .i64 tl], .pointer (some ⟨kb, 0, none⟩), .agg #[.int .i64 cal, .slice A ls.length k, .int .i64 re, .int .i64 ba], .int .i64 now] w fun r w' => r = .returned (.tuple #[.agg #[.int .u64 0, .int .i64 0, .int .i64 0, .int .i64 0, .int .u64 0, .int .i64 0, .int .i64 0, .int .i64 0, .int .i64 0], .int .i64 33]) ∧ ClkAt w' n kb ab pb cb off week closed ∧ Upd cb w w' := by
  have f1_ : (st != 4) = true := bne_iff_ne.mpr hs
  clear hs
  have HB0 : Below w.heap.size w (((w.alloc (.cells #[.int .u64 id, .int .i64 co, .int .i64 st, .int .i64 lv, .int .u64 gn, .int .i64 fr, .int .i64 lf, .int .i64 du, .int .i64 tl] 24)).alloc (.cells #[.int .i64 cal, .slice A ls.length k, .int .i64 re, .int .i64 ba] 49)).alloc (.cells #[.int .u64 0, .int .i64 0, .int .i64 0, .int .i64 0, .int .u64 0, .int .i64 0, .int .i64 0, .int .i64 0, .int .i64 0] 24)) := (below_alloc (below_alloc (below_alloc (Below.refl w.heap.size w) (.cells #[.int .u64 id, .int .i64 co, .int .i64 st, .int .i64 lv, .int .u64 gn, .int .i64 fr, .int .i64 lf, .int .i64 du, .int .i64 tl] 24)) (.cells #[.int .i64 cal, .slice A ls.length k, .int .i64 re, .int .i64 ba] 49)) (.cells #[.int .u64 0, .int .i64 0, .int .i64 0, .int .i64 0, .int .u64 0, .int .i64 0, .int .i64 0, .int .i64 0, .int .i64 0] 24))
  have HC_1 := Aside0.mk (h.below HB0)
  have HU_1 := Aside0.mk (Upd.of_below (b := cb) HB0)
  have hs_1 : w.heap.size ≤ (((w.alloc (.cells #[.int .u64 id, .int .i64 co, .int .i64 st, .int .i64 lv, .int .u64 gn, .int .i64 fr, .int .i64 lf, .int .i64 du, .int .i64 tl] 24)).alloc (.cells #[.int .i64 cal, .slice A ls.length k, .int .i64 re, .int .i64 ba] 49)).alloc (.cells #[.int .u64 0, .int .i64 0, .int .i64 0, .int .i64 0, .int .u64 0, .int .i64 0, .int .i64 0, .int .i64 0, .int .i64 0] 24)).heap.size := HB0.size
  have HLq_1 : Aside0 (Kd.C k98 (((w.alloc (.cells #[.int .u64 id, .int .i64 co, .int .i64 st, .int .i64 lv, .int .u64 gn, .int .i64 fr, .int .i64 lf, .int .i64 du, .int .i64 tl] 24)).alloc (.cells #[.int .i64 cal, .slice A ls.length k, .int .i64 re, .int .i64 ba] 49)).alloc (.cells #[.int .u64 0, .int .i64 0, .int .i64 0, .int .i64 0, .int .u64 0, .int .i64 0, .int .i64 0, .int .i64 0, .int .i64 0] 24)) A ls.length ls ∧ ls.length ≤ k) := ⟨⟨Kd.C_below hq.1 HB0, hq.2⟩⟩
  have Bt_1 : Aside0 ((((w.alloc (.cells #[.int .u64 id, .int .i64 co, .int .i64 st, .int .i64 lv, .int .u64 gn, .int .i64 fr, .int .i64 lf, .int .i64 du, .int .i64 tl] 24)).alloc (.cells #[.int .i64 cal, .slice A ls.length k, .int .i64 re, .int .i64 ba] 49)).alloc (.cells #[.int .u64 0, .int .i64 0, .int .i64 0, .int .i64 0, .int .u64 0, .int .i64 0, .int .i64 0, .int .i64 0, .int .i64 0] 24)).heap[w.heap.size]? = some (.cells #[.int .u64 id, .int .i64 co, .int .i64 st, .int .i64 lv, .int .u64 gn, .int .i64 fr, .int .i64 lf, .int .i64 du, .int .i64 tl] 24 (0, 0))) := ⟨(blk_alloc (blk_alloc (blk_new w _) _) _)⟩
  have Bq_1 : Aside0 ((((w.alloc (.cells #[.int .u64 id, .int .i64 co, .int .i64 st, .int .i64 lv, .int .u64 gn, .int .i64 fr, .int .i64 lf, .int .i64 du, .int .i64 tl] 24)).alloc (.cells #[.int .i64 cal, .slice A ls.length k, .int .i64 re, .int .i64 ba] 49)).alloc (.cells #[.int .u64 0, .int .i64 0, .int .i64 0, .int .i64 0, .int .u64 0, .int .i64 0, .int .i64 0, .int .i64 0, .int .i64 0] 24)).heap[w.heap.size + 1]? = some (.cells #[.int .i64 cal, .slice A ls.length k, .int .i64 re, .int .i64 ba] 49 (0, 0))) := ⟨(blk_alloc (by simpa using blk_new (w.alloc (.cells #[.int .u64 id, .int .i64 co, .int .i64 st, .int .i64 lv, .int .u64 gn, .int .i64 fr, .int .i64 lf, .int .i64 du, .int .i64 tl] 24)) (.cells #[.int .i64 cal, .slice A ls.length k, .int .i64 re, .int .i64 ba] 49)) _)⟩
  have Bz_1 : Aside0 ((((w.alloc (.cells #[.int .u64 id, .int .i64 co, .int .i64 st, .int .i64 lv, .int .u64 gn, .int .i64 fr, .int .i64 lf, .int .i64 du, .int .i64 tl] 24)).alloc (.cells #[.int .i64 cal, .slice A ls.length k, .int .i64 re, .int .i64 ba] 49)).alloc (.cells #[.int .u64 0, .int .i64 0, .int .i64 0, .int .i64 0, .int .u64 0, .int .i64 0, .int .i64 0, .int .i64 0, .int .i64 0] 24)).heap[w.heap.size + 1 + 1]? = some (.cells #[.int .u64 0, .int .i64 0, .int .i64 0, .int .i64 0, .int .u64 0, .int .i64 0, .int .i64 0, .int .i64 0, .int .i64 0] 24 (0, 0))) := ⟨(by simpa using blk_new ((w.alloc (.cells #[.int .u64 id, .int .i64 co, .int .i64 st, .int .i64 lv, .int .u64 gn, .int .i64 fr, .int .i64 lf, .int .i64 du, .int .i64 tl] 24)).alloc (.cells #[.int .i64 cal, .slice A ls.length k, .int .i64 re, .int .i64 ba] 49)) (.cells #[.int .u64 0, .int .i64 0, .int .i64 0, .int .i64 0, .int .u64 0, .int .i64 0, .int .i64 0, .int .i64 0, .int .i64 0] 24))⟩
  have hz_1 : w.heap.size + 1 + 1 < (((w.alloc (.cells #[.int .u64 id, .int .i64 co, .int .i64 st, .int .i64 lv, .int .u64 gn, .int .i64 fr, .int .i64 lf, .int .i64 du, .int .i64 tl] 24)).alloc (.cells #[.int .i64 cal, .slice A ls.length k, .int .i64 re, .int .i64 ba] 49)).alloc (.cells #[.int .u64 0, .int .i64 0, .int .i64 0, .int .i64 0, .int .u64 0, .int .i64 0, .int .i64 0, .int .i64 0, .int .i64 0] 24)).heap.size := blk_lt Bz_1.out
  have hcb := h.lt
  clear h HB0 hq
  go_enter Try.func26, Try.ntmps26
  go_upto_region 1 with fail
  generalize (((w.alloc (.cells #[.int .u64 id, .int .i64 co, .int .i64 st, .int .i64 lv, .int .u64 gn, .int .i64 fr, .int .i64 lf, .int .i64 du, .int .i64 tl] 24)).alloc (.cells #[.int .i64 cal, .slice A ls.length k, .int .i64 re, .int .i64 ba] 49)).alloc (.cells #[.int .u64 0, .int .i64 0, .int .i64 0, .int .i64 0, .int .u64 0, .int .i64 0, .int .i64 0, .int .i64 0, .int .i64 0] 24)) = w1 at HC_1 HU_1 hs_1 HLq_1 Bt_1 Bq_1 Bz_1 hz_1 ⊢
  have dt2 : w1.cell? ⟨w.heap.size, 2, none⟩ = some (.int .i64 st) := (blk_cell Bt_1.out 2).trans rfl
  obtain ⟨dz0, dz1, dz2, dz3, dz4, dz5, dz6, dz7, dz8⟩ := cells9 Bz_1.out
  have fz := blk_frozen Bz_1.out
  go_wp2
  clear dt2 dz0 dz1 dz2 dz3 dz4 dz5 dz6 dz7 dz8 fz
  obtain ⟨S1, S2, S3, S4, hs_2⟩ := step_set9 (.int .u64 0) (.int .i64 0) (.int .i64 0) (.int .i64 0) (.int .u64 0) (.int .i64 0) (.int .i64 0) (.int .i64 0) (.int .i64 0) HC_1.out HU_1.out Bz_1.out ⟨by decide, by decide, by decide, by decide, by decide, by decide⟩ (by omega)
  have HC_2 := Aside0.mk S1
  have HU_2 := Aside0.mk S2
  have Bz_2 := Aside0.mk S3
  have Bt_2 := Aside0.mk (S4 (g := w.heap.size) (by omega) Bt_1.out)
  have Bq_2 := Aside0.mk (S4 (g := w.heap.size + 1) (by omega) Bq_1.out)
  clear S1 S2 S3 S4
  generalize (((((((((w1.setCell ⟨w.heap.size + 1 + 1, 0, none⟩ (.int .u64 0)).setCell ⟨w.heap.size + 1 + 1, 1, none⟩ (.int .i64 0)).setCell ⟨w.heap.size + 1 + 1, 2, none⟩ (.int .i64 0)).setCell ⟨w.heap.size + 1 + 1, 3, none⟩ (.int .i64 0)).setCell ⟨w.heap.size + 1 + 1, 4, none⟩ (.int .u64 0)).setCell ⟨w.heap.size + 1 + 1, 5, none⟩ (.int .i64 0)).setCell ⟨w.heap.size + 1 + 1, 6, none⟩ (.int .i64 0)).setCell ⟨w.heap.size + 1 + 1, 7, none⟩ (.int .i64 0)).setCell ⟨w.heap.size + 1 + 1, 8, none⟩ (.int .i64 0)) = w2 at HC_2 HU_2 hs_2 Bt_2 Bq_2 Bz_2 ⊢
  have dt2 : w2.cell? ⟨w.heap.size, 2, none⟩ = some (.int .i64 st) := (blk_cell Bt_2.out 2).trans rfl
  obtain ⟨dz0, dz1, dz2, dz3, dz4, dz5, dz6, dz7, dz8⟩ := cells9 Bz_2.out
  have fz := blk_frozen Bz_2.out
  refine bodyPost_ret (v := .tuple #[.agg #[.int .u64 0, .int .i64 0, .int .i64 0, .int .i64 0, .int .u64 0, .int .i64 0, .int .i64 0, .int .i64 0, .int .i64 0], .int .i64 33]) (by simp [results, Try.results26, go_sem, dz0, dz1, dz2, dz3, dz4, dz5, dz6, dz7, dz8]) rfl ⟨rfl, HC_2.out, HU_2.out⟩
set_option maxHeartbeats 4000000 in
set_option maxRecDepth 100000 in
theorem tkreopen_ok (id co lv gn fr lf du tl now cal re ba a b c d e r1 r2 r3 r4 r5 r6 r7 r8 r9 r10 : Int) (w : World) (h : ClkAt w n kb ab pb cb off week closed) (hn : n ≤ w.heap.size) (hq : Kd.C k98 w A ls.length ls ∧ ls.length ≤ k) (hd : firstP off week closed cal ls re ba now = (a, b, c, d, e)) (hw : ticket_with.f id co 4 lv gn fr lf du tl 1 a b c d e = some (r1, r2, r3, r4, r5, r6, r7, r8, r9, r10)) :
    Calls Try.prog 26 #[.agg #[.int .u64 id, .int .i64 co, .int .i64 4, .int .i64 lv, .int .u64 gn, .int .i64 fr, .int .i64 lf, .int .i64 du, .int .i64 tl], .pointer (some ⟨kb, 0, none⟩), .agg #[.int .i64 cal, .slice A ls.length k, .int .i64 re, .int .i64 ba], .int .i64 now] w fun r w' => r = .returned (.tuple #[.agg #[.int .u64 r1, .int .i64 r2, .int .i64 r3, .int .i64 r4, .int .u64 r5, .int .i64 r6, .int .i64 r7, .int .i64 r8, .int .i64 r9], .int .i64 r10]) ∧ ClkAt w' n kb ab pb cb off week closed ∧ Upd cb w w' := by
  have HD := Aside0.mk hd
  have HW := Aside0.mk hw
  clear hd hw
  have HB0 : Below w.heap.size w (((w.alloc (.cells #[.int .u64 id, .int .i64 co, .int .i64 4, .int .i64 lv, .int .u64 gn, .int .i64 fr, .int .i64 lf, .int .i64 du, .int .i64 tl] 24)).alloc (.cells #[.int .i64 cal, .slice A ls.length k, .int .i64 re, .int .i64 ba] 49)).alloc (.cells #[.int .u64 0, .int .i64 0, .int .i64 0, .int .i64 0, .int .u64 0, .int .i64 0, .int .i64 0, .int .i64 0, .int .i64 0] 24)) := (below_alloc (below_alloc (below_alloc (Below.refl w.heap.size w) (.cells #[.int .u64 id, .int .i64 co, .int .i64 4, .int .i64 lv, .int .u64 gn, .int .i64 fr, .int .i64 lf, .int .i64 du, .int .i64 tl] 24)) (.cells #[.int .i64 cal, .slice A ls.length k, .int .i64 re, .int .i64 ba] 49)) (.cells #[.int .u64 0, .int .i64 0, .int .i64 0, .int .i64 0, .int .u64 0, .int .i64 0, .int .i64 0, .int .i64 0, .int .i64 0] 24))
  have HC_1 := Aside0.mk (h.below HB0)
  have HU_1 := Aside0.mk (Upd.of_below (b := cb) HB0)
  have hs_1 : w.heap.size ≤ (((w.alloc (.cells #[.int .u64 id, .int .i64 co, .int .i64 4, .int .i64 lv, .int .u64 gn, .int .i64 fr, .int .i64 lf, .int .i64 du, .int .i64 tl] 24)).alloc (.cells #[.int .i64 cal, .slice A ls.length k, .int .i64 re, .int .i64 ba] 49)).alloc (.cells #[.int .u64 0, .int .i64 0, .int .i64 0, .int .i64 0, .int .u64 0, .int .i64 0, .int .i64 0, .int .i64 0, .int .i64 0] 24)).heap.size := HB0.size
  have HLq_1 : Aside0 (Kd.C k98 (((w.alloc (.cells #[.int .u64 id, .int .i64 co, .int .i64 4, .int .i64 lv, .int .u64 gn, .int .i64 fr, .int .i64 lf, .int .i64 du, .int .i64 tl] 24)).alloc (.cells #[.int .i64 cal, .slice A ls.length k, .int .i64 re, .int .i64 ba] 49)).alloc (.cells #[.int .u64 0, .int .i64 0, .int .i64 0, .int .i64 0, .int .u64 0, .int .i64 0, .int .i64 0, .int .i64 0, .int .i64 0] 24)) A ls.length ls ∧ ls.length ≤ k) := ⟨⟨Kd.C_below hq.1 HB0, hq.2⟩⟩
  have Bt_1 : Aside0 ((((w.alloc (.cells #[.int .u64 id, .int .i64 co, .int .i64 4, .int .i64 lv, .int .u64 gn, .int .i64 fr, .int .i64 lf, .int .i64 du, .int .i64 tl] 24)).alloc (.cells #[.int .i64 cal, .slice A ls.length k, .int .i64 re, .int .i64 ba] 49)).alloc (.cells #[.int .u64 0, .int .i64 0, .int .i64 0, .int .i64 0, .int .u64 0, .int .i64 0, .int .i64 0, .int .i64 0, .int .i64 0] 24)).heap[w.heap.size]? = some (.cells #[.int .u64 id, .int .i64 co, .int .i64 4, .int .i64 lv, .int .u64 gn, .int .i64 fr, .int .i64 lf, .int .i64 du, .int .i64 tl] 24 (0, 0))) := ⟨(blk_alloc (blk_alloc (blk_new w _) _) _)⟩
  have Bq_1 : Aside0 ((((w.alloc (.cells #[.int .u64 id, .int .i64 co, .int .i64 4, .int .i64 lv, .int .u64 gn, .int .i64 fr, .int .i64 lf, .int .i64 du, .int .i64 tl] 24)).alloc (.cells #[.int .i64 cal, .slice A ls.length k, .int .i64 re, .int .i64 ba] 49)).alloc (.cells #[.int .u64 0, .int .i64 0, .int .i64 0, .int .i64 0, .int .u64 0, .int .i64 0, .int .i64 0, .int .i64 0, .int .i64 0] 24)).heap[w.heap.size + 1]? = some (.cells #[.int .i64 cal, .slice A ls.length k, .int .i64 re, .int .i64 ba] 49 (0, 0))) := ⟨(blk_alloc (by simpa using blk_new (w.alloc (.cells #[.int .u64 id, .int .i64 co, .int .i64 4, .int .i64 lv, .int .u64 gn, .int .i64 fr, .int .i64 lf, .int .i64 du, .int .i64 tl] 24)) (.cells #[.int .i64 cal, .slice A ls.length k, .int .i64 re, .int .i64 ba] 49)) _)⟩
  have Bz_1 : Aside0 ((((w.alloc (.cells #[.int .u64 id, .int .i64 co, .int .i64 4, .int .i64 lv, .int .u64 gn, .int .i64 fr, .int .i64 lf, .int .i64 du, .int .i64 tl] 24)).alloc (.cells #[.int .i64 cal, .slice A ls.length k, .int .i64 re, .int .i64 ba] 49)).alloc (.cells #[.int .u64 0, .int .i64 0, .int .i64 0, .int .i64 0, .int .u64 0, .int .i64 0, .int .i64 0, .int .i64 0, .int .i64 0] 24)).heap[w.heap.size + 1 + 1]? = some (.cells #[.int .u64 0, .int .i64 0, .int .i64 0, .int .i64 0, .int .u64 0, .int .i64 0, .int .i64 0, .int .i64 0, .int .i64 0] 24 (0, 0))) := ⟨(by simpa using blk_new ((w.alloc (.cells #[.int .u64 id, .int .i64 co, .int .i64 4, .int .i64 lv, .int .u64 gn, .int .i64 fr, .int .i64 lf, .int .i64 du, .int .i64 tl] 24)).alloc (.cells #[.int .i64 cal, .slice A ls.length k, .int .i64 re, .int .i64 ba] 49)) (.cells #[.int .u64 0, .int .i64 0, .int .i64 0, .int .i64 0, .int .u64 0, .int .i64 0, .int .i64 0, .int .i64 0, .int .i64 0] 24))⟩
  have hz_1 : w.heap.size + 1 + 1 < (((w.alloc (.cells #[.int .u64 id, .int .i64 co, .int .i64 4, .int .i64 lv, .int .u64 gn, .int .i64 fr, .int .i64 lf, .int .i64 du, .int .i64 tl] 24)).alloc (.cells #[.int .i64 cal, .slice A ls.length k, .int .i64 re, .int .i64 ba] 49)).alloc (.cells #[.int .u64 0, .int .i64 0, .int .i64 0, .int .i64 0, .int .u64 0, .int .i64 0, .int .i64 0, .int .i64 0, .int .i64 0] 24)).heap.size := blk_lt Bz_1.out
  have hcb := h.lt
  clear h HB0 hq
  go_enter Try.func26, Try.ntmps26
  go_wp2_with fail
  generalize (((w.alloc (.cells #[.int .u64 id, .int .i64 co, .int .i64 4, .int .i64 lv, .int .u64 gn, .int .i64 fr, .int .i64 lf, .int .i64 du, .int .i64 tl] 24)).alloc (.cells #[.int .i64 cal, .slice A ls.length k, .int .i64 re, .int .i64 ba] 49)).alloc (.cells #[.int .u64 0, .int .i64 0, .int .i64 0, .int .i64 0, .int .u64 0, .int .i64 0, .int .i64 0, .int .i64 0, .int .i64 0] 24)) = w1 at HC_1 HU_1 hs_1 HLq_1 Bt_1 Bq_1 Bz_1 hz_1 ⊢
  obtain ⟨dt0, dt1, dt2, dt3, dt4, dt5, dt6, dt7, dt8⟩ := cells9 Bt_1.out
  obtain ⟨dq0, dq1, dq2, dq3⟩ := cells4 Bq_1.out
  go_upto_region 4 with (first | (go_at_call 56; with_reducible refine (first_any cal re ba now a b c d e w1 HC_1.out (by omega) HLq_1.out HD.out).mono ?_; rintro e w2 ⟨rfl, q1, q2⟩; clear dt0 dt1 dt2 dt3 dt4 dt5 dt6 dt7 dt8 dq0 dq1 dq2 dq3; have HC_2 := Aside0.mk q1; have HU_2 := Aside0.mk (HU_1.out.trans q2); have hs_2 : w1.heap.size ≤ w2.heap.size := q2.size; have Bt_2 := Aside0.mk (q2.blk Bt_1.out (by omega)); have Bq_2 := Aside0.mk (q2.blk Bq_1.out (by omega)); have Bz_2 := Aside0.mk (q2.blk Bz_1.out (by omega)); clear q1 q2; obtain ⟨dt0, dt1, dt2, dt3, dt4, dt5, dt6, dt7, dt8⟩ := cells9 Bt_2.out; obtain ⟨dq0, dq1, dq2, dq3⟩ := cells4 Bq_2.out))
  have hb : Below w2.heap.size w2 (w2.alloc (.cells #[.int .i64 a, .int .i64 b, .int .i64 c, .int .i64 d] 108)) := below_alloc (Below.refl _ _) _
  clear dt0 dt1 dt2 dt3 dt4 dt5 dt6 dt7 dt8 dq0 dq1 dq2 dq3
  have HC_3 := Aside0.mk (HC_2.out.below hb)
  have HU_3 := Aside0.mk (HU_2.out.then hb)
  have hs_3 : w2.heap.size ≤ (w2.alloc (.cells #[.int .i64 a, .int .i64 b, .int .i64 c, .int .i64 d] 108)).heap.size := hb.size
  have Bt_3 := Aside0.mk (blk_below Bt_2.out hb)
  have Bq_3 := Aside0.mk (blk_below Bq_2.out hb)
  have Bz_3 := Aside0.mk (blk_below Bz_2.out hb)
  clear hb
  have Bs_3 := Aside0.mk (blk_new w2 (.cells #[.int .i64 a, .int .i64 b, .int .i64 c, .int .i64 d] 108))
  have hz_3 : w2.heap.size < (w2.alloc (.cells #[.int .i64 a, .int .i64 b, .int .i64 c, .int .i64 d] 108)).heap.size := blk_lt Bs_3.out
  generalize (w2.alloc (.cells #[.int .i64 a, .int .i64 b, .int .i64 c, .int .i64 d] 108)) = w3 at HC_3 HU_3 hs_3 Bt_3 Bq_3 Bz_3 Bs_3 hz_3 ⊢
  obtain ⟨dt0, dt1, dt2, dt3, dt4, dt5, dt6, dt7, dt8⟩ := cells9 Bt_3.out
  obtain ⟨dq0, dq1, dq2, dq3⟩ := cells4 Bq_3.out
  obtain ⟨ds0, ds1, ds2, ds3⟩ := cells4 Bs_3.out
  go_wp2_with (go_at_call 57; with_reducible refine (ticket_with.calls id co 4 lv gn fr lf du tl 1 a b c d e r1 r2 r3 r4 r5 r6 r7 r8 r9 r10 w3 HW.out).mono ?_; rintro e w4 ⟨rfl, q1⟩; clear dt0 dt1 dt2 dt3 dt4 dt5 dt6 dt7 dt8 dq0 dq1 dq2 dq3 ds0 ds1 ds2 ds3; have HC_4 := Aside0.mk (HC_3.out.below q1); have HU_4 := Aside0.mk (HU_3.out.then q1); have hs_4 : w3.heap.size ≤ w4.heap.size := q1.size; have Bt_4 := Aside0.mk (blk_below Bt_3.out q1); have Bq_4 := Aside0.mk (blk_below Bq_3.out q1); have Bz_4 := Aside0.mk (blk_below Bz_3.out q1); have Bs_4 := Aside0.mk (blk_below Bs_3.out q1); clear q1; obtain ⟨dz0, dz1, dz2, dz3, dz4, dz5, dz6, dz7, dz8⟩ := cells9 Bz_4.out; have fz := blk_frozen Bz_4.out)
  clear dz0 dz1 dz2 dz3 dz4 dz5 dz6 dz7 dz8 fz
  obtain ⟨S1, S2, S3, S4, hs_5⟩ := step_set9 (.int .u64 r1) (.int .i64 r2) (.int .i64 r3) (.int .i64 r4) (.int .u64 r5) (.int .i64 r6) (.int .i64 r7) (.int .i64 r8) (.int .i64 r9) HC_4.out HU_4.out Bz_4.out ⟨by decide, by decide, by decide, by decide, by decide, by decide⟩ (by omega)
  have HC_5 := Aside0.mk S1
  have HU_5 := Aside0.mk S2
  have Bz_5 := Aside0.mk S3
  have Bt_5 := Aside0.mk (S4 (g := w.heap.size) (by omega) Bt_4.out)
  have Bq_5 := Aside0.mk (S4 (g := w.heap.size + 1) (by omega) Bq_4.out)
  have Bs_5 := Aside0.mk (S4 (g := w2.heap.size) (by omega) Bs_4.out)
  clear S1 S2 S3 S4
  generalize (((((((((w4.setCell ⟨w.heap.size + 1 + 1, 0, none⟩ (.int .u64 r1)).setCell ⟨w.heap.size + 1 + 1, 1, none⟩ (.int .i64 r2)).setCell ⟨w.heap.size + 1 + 1, 2, none⟩ (.int .i64 r3)).setCell ⟨w.heap.size + 1 + 1, 3, none⟩ (.int .i64 r4)).setCell ⟨w.heap.size + 1 + 1, 4, none⟩ (.int .u64 r5)).setCell ⟨w.heap.size + 1 + 1, 5, none⟩ (.int .i64 r6)).setCell ⟨w.heap.size + 1 + 1, 6, none⟩ (.int .i64 r7)).setCell ⟨w.heap.size + 1 + 1, 7, none⟩ (.int .i64 r8)).setCell ⟨w.heap.size + 1 + 1, 8, none⟩ (.int .i64 r9)) = w5 at HC_5 HU_5 hs_5 Bt_5 Bq_5 Bz_5 Bs_5 ⊢
  obtain ⟨dz0, dz1, dz2, dz3, dz4, dz5, dz6, dz7, dz8⟩ := cells9 Bz_5.out
  have fz := blk_frozen Bz_5.out
  refine bodyPost_ret (v := .tuple #[.agg #[.int .u64 r1, .int .i64 r2, .int .i64 r3, .int .i64 r4, .int .u64 r5, .int .i64 r6, .int .i64 r7, .int .i64 r8, .int .i64 r9], .int .i64 r10]) (by simp [results, Try.results26, go_sem, dz0, dz1, dz2, dz3, dz4, dz5, dz6, dz7, dz8]) rfl ⟨rfl, HC_5.out, HU_5.out⟩
set_option maxHeartbeats 4000000 in
set_option maxRecDepth 100000 in
theorem tkfire_state (id co st lv gn fr lf du tl now cal re ba : Int) (w : World) (h : ClkAt w n kb ab pb cb off week closed) (hn : n ≤ w.heap.size) (hq : Kd.C k98 w A ls.length ls ∧ ls.length ≤ k) (hs : st ≠ 1) :
    Calls Try.prog 27 #[.agg #[.int .u64 id, .int .i64 co, .int .i64 st, .int .i64 lv, .int .u64 gn, .int .i64 fr, .int .i64 lf, .int .i64 du, .int .i64 tl], .pointer (some ⟨kb, 0, none⟩), .agg #[.int .i64 cal, .slice A ls.length k, .int .i64 re, .int .i64 ba], .int .i64 now] w fun r w' => r = .returned (.tuple #[.agg #[.int .u64 0, .int .i64 0, .int .i64 0, .int .i64 0, .int .u64 0, .int .i64 0, .int .i64 0, .int .i64 0, .int .i64 0], .int .i64 0, .int .i64 33]) ∧ ClkAt w' n kb ab pb cb off week closed ∧ Upd cb w w' := by
  have f1_ : (st != 1) = true := bne_iff_ne.mpr hs
  clear hs
  have HB0 : Below w.heap.size w (((w.alloc (.cells #[.int .u64 id, .int .i64 co, .int .i64 st, .int .i64 lv, .int .u64 gn, .int .i64 fr, .int .i64 lf, .int .i64 du, .int .i64 tl] 24)).alloc (.cells #[.int .i64 cal, .slice A ls.length k, .int .i64 re, .int .i64 ba] 49)).alloc (.cells #[.int .u64 0, .int .i64 0, .int .i64 0, .int .i64 0, .int .u64 0, .int .i64 0, .int .i64 0, .int .i64 0, .int .i64 0] 24)) := (below_alloc (below_alloc (below_alloc (Below.refl w.heap.size w) (.cells #[.int .u64 id, .int .i64 co, .int .i64 st, .int .i64 lv, .int .u64 gn, .int .i64 fr, .int .i64 lf, .int .i64 du, .int .i64 tl] 24)) (.cells #[.int .i64 cal, .slice A ls.length k, .int .i64 re, .int .i64 ba] 49)) (.cells #[.int .u64 0, .int .i64 0, .int .i64 0, .int .i64 0, .int .u64 0, .int .i64 0, .int .i64 0, .int .i64 0, .int .i64 0] 24))
  have HC_1 := Aside0.mk (h.below HB0)
  have HU_1 := Aside0.mk (Upd.of_below (b := cb) HB0)
  have hs_1 : w.heap.size ≤ (((w.alloc (.cells #[.int .u64 id, .int .i64 co, .int .i64 st, .int .i64 lv, .int .u64 gn, .int .i64 fr, .int .i64 lf, .int .i64 du, .int .i64 tl] 24)).alloc (.cells #[.int .i64 cal, .slice A ls.length k, .int .i64 re, .int .i64 ba] 49)).alloc (.cells #[.int .u64 0, .int .i64 0, .int .i64 0, .int .i64 0, .int .u64 0, .int .i64 0, .int .i64 0, .int .i64 0, .int .i64 0] 24)).heap.size := HB0.size
  have HLq_1 : Aside0 (Kd.C k98 (((w.alloc (.cells #[.int .u64 id, .int .i64 co, .int .i64 st, .int .i64 lv, .int .u64 gn, .int .i64 fr, .int .i64 lf, .int .i64 du, .int .i64 tl] 24)).alloc (.cells #[.int .i64 cal, .slice A ls.length k, .int .i64 re, .int .i64 ba] 49)).alloc (.cells #[.int .u64 0, .int .i64 0, .int .i64 0, .int .i64 0, .int .u64 0, .int .i64 0, .int .i64 0, .int .i64 0, .int .i64 0] 24)) A ls.length ls ∧ ls.length ≤ k) := ⟨⟨Kd.C_below hq.1 HB0, hq.2⟩⟩
  have Bt_1 : Aside0 ((((w.alloc (.cells #[.int .u64 id, .int .i64 co, .int .i64 st, .int .i64 lv, .int .u64 gn, .int .i64 fr, .int .i64 lf, .int .i64 du, .int .i64 tl] 24)).alloc (.cells #[.int .i64 cal, .slice A ls.length k, .int .i64 re, .int .i64 ba] 49)).alloc (.cells #[.int .u64 0, .int .i64 0, .int .i64 0, .int .i64 0, .int .u64 0, .int .i64 0, .int .i64 0, .int .i64 0, .int .i64 0] 24)).heap[w.heap.size]? = some (.cells #[.int .u64 id, .int .i64 co, .int .i64 st, .int .i64 lv, .int .u64 gn, .int .i64 fr, .int .i64 lf, .int .i64 du, .int .i64 tl] 24 (0, 0))) := ⟨(blk_alloc (blk_alloc (blk_new w _) _) _)⟩
  have Bq_1 : Aside0 ((((w.alloc (.cells #[.int .u64 id, .int .i64 co, .int .i64 st, .int .i64 lv, .int .u64 gn, .int .i64 fr, .int .i64 lf, .int .i64 du, .int .i64 tl] 24)).alloc (.cells #[.int .i64 cal, .slice A ls.length k, .int .i64 re, .int .i64 ba] 49)).alloc (.cells #[.int .u64 0, .int .i64 0, .int .i64 0, .int .i64 0, .int .u64 0, .int .i64 0, .int .i64 0, .int .i64 0, .int .i64 0] 24)).heap[w.heap.size + 1]? = some (.cells #[.int .i64 cal, .slice A ls.length k, .int .i64 re, .int .i64 ba] 49 (0, 0))) := ⟨(blk_alloc (by simpa using blk_new (w.alloc (.cells #[.int .u64 id, .int .i64 co, .int .i64 st, .int .i64 lv, .int .u64 gn, .int .i64 fr, .int .i64 lf, .int .i64 du, .int .i64 tl] 24)) (.cells #[.int .i64 cal, .slice A ls.length k, .int .i64 re, .int .i64 ba] 49)) _)⟩
  have Bz_1 : Aside0 ((((w.alloc (.cells #[.int .u64 id, .int .i64 co, .int .i64 st, .int .i64 lv, .int .u64 gn, .int .i64 fr, .int .i64 lf, .int .i64 du, .int .i64 tl] 24)).alloc (.cells #[.int .i64 cal, .slice A ls.length k, .int .i64 re, .int .i64 ba] 49)).alloc (.cells #[.int .u64 0, .int .i64 0, .int .i64 0, .int .i64 0, .int .u64 0, .int .i64 0, .int .i64 0, .int .i64 0, .int .i64 0] 24)).heap[w.heap.size + 1 + 1]? = some (.cells #[.int .u64 0, .int .i64 0, .int .i64 0, .int .i64 0, .int .u64 0, .int .i64 0, .int .i64 0, .int .i64 0, .int .i64 0] 24 (0, 0))) := ⟨(by simpa using blk_new ((w.alloc (.cells #[.int .u64 id, .int .i64 co, .int .i64 st, .int .i64 lv, .int .u64 gn, .int .i64 fr, .int .i64 lf, .int .i64 du, .int .i64 tl] 24)).alloc (.cells #[.int .i64 cal, .slice A ls.length k, .int .i64 re, .int .i64 ba] 49)) (.cells #[.int .u64 0, .int .i64 0, .int .i64 0, .int .i64 0, .int .u64 0, .int .i64 0, .int .i64 0, .int .i64 0, .int .i64 0] 24))⟩
  have hz_1 : w.heap.size + 1 + 1 < (((w.alloc (.cells #[.int .u64 id, .int .i64 co, .int .i64 st, .int .i64 lv, .int .u64 gn, .int .i64 fr, .int .i64 lf, .int .i64 du, .int .i64 tl] 24)).alloc (.cells #[.int .i64 cal, .slice A ls.length k, .int .i64 re, .int .i64 ba] 49)).alloc (.cells #[.int .u64 0, .int .i64 0, .int .i64 0, .int .i64 0, .int .u64 0, .int .i64 0, .int .i64 0, .int .i64 0, .int .i64 0] 24)).heap.size := blk_lt Bz_1.out
  have hcb := h.lt
  clear h HB0 hq
  go_enter Try.func27, Try.ntmps27
  go_upto_region 1 with fail
  generalize (((w.alloc (.cells #[.int .u64 id, .int .i64 co, .int .i64 st, .int .i64 lv, .int .u64 gn, .int .i64 fr, .int .i64 lf, .int .i64 du, .int .i64 tl] 24)).alloc (.cells #[.int .i64 cal, .slice A ls.length k, .int .i64 re, .int .i64 ba] 49)).alloc (.cells #[.int .u64 0, .int .i64 0, .int .i64 0, .int .i64 0, .int .u64 0, .int .i64 0, .int .i64 0, .int .i64 0, .int .i64 0] 24)) = w1 at HC_1 HU_1 hs_1 HLq_1 Bt_1 Bq_1 Bz_1 hz_1 ⊢
  have dt2 : w1.cell? ⟨w.heap.size, 2, none⟩ = some (.int .i64 st) := (blk_cell Bt_1.out 2).trans rfl
  have dt7 : w1.cell? ⟨w.heap.size, 7, none⟩ = some (.int .i64 du) := (blk_cell Bt_1.out 7).trans rfl
  obtain ⟨dz0, dz1, dz2, dz3, dz4, dz5, dz6, dz7, dz8⟩ := cells9 Bz_1.out
  have fz := blk_frozen Bz_1.out
  go_wp2
  clear dt2 dt7 dz0 dz1 dz2 dz3 dz4 dz5 dz6 dz7 dz8 fz
  obtain ⟨S1, S2, S3, S4, hs_2⟩ := step_set9 (.int .u64 0) (.int .i64 0) (.int .i64 0) (.int .i64 0) (.int .u64 0) (.int .i64 0) (.int .i64 0) (.int .i64 0) (.int .i64 0) HC_1.out HU_1.out Bz_1.out ⟨by decide, by decide, by decide, by decide, by decide, by decide⟩ (by omega)
  have HC_2 := Aside0.mk S1
  have HU_2 := Aside0.mk S2
  have Bz_2 := Aside0.mk S3
  have Bt_2 := Aside0.mk (S4 (g := w.heap.size) (by omega) Bt_1.out)
  have Bq_2 := Aside0.mk (S4 (g := w.heap.size + 1) (by omega) Bq_1.out)
  clear S1 S2 S3 S4
  generalize (((((((((w1.setCell ⟨w.heap.size + 1 + 1, 0, none⟩ (.int .u64 0)).setCell ⟨w.heap.size + 1 + 1, 1, none⟩ (.int .i64 0)).setCell ⟨w.heap.size + 1 + 1, 2, none⟩ (.int .i64 0)).setCell ⟨w.heap.size + 1 + 1, 3, none⟩ (.int .i64 0)).setCell ⟨w.heap.size + 1 + 1, 4, none⟩ (.int .u64 0)).setCell ⟨w.heap.size + 1 + 1, 5, none⟩ (.int .i64 0)).setCell ⟨w.heap.size + 1 + 1, 6, none⟩ (.int .i64 0)).setCell ⟨w.heap.size + 1 + 1, 7, none⟩ (.int .i64 0)).setCell ⟨w.heap.size + 1 + 1, 8, none⟩ (.int .i64 0)) = w2 at HC_2 HU_2 hs_2 Bt_2 Bq_2 Bz_2 ⊢
  have dt2 : w2.cell? ⟨w.heap.size, 2, none⟩ = some (.int .i64 st) := (blk_cell Bt_2.out 2).trans rfl
  have dt7 : w2.cell? ⟨w.heap.size, 7, none⟩ = some (.int .i64 du) := (blk_cell Bt_2.out 7).trans rfl
  obtain ⟨dz0, dz1, dz2, dz3, dz4, dz5, dz6, dz7, dz8⟩ := cells9 Bz_2.out
  have fz := blk_frozen Bz_2.out
  refine bodyPost_ret (v := .tuple #[.agg #[.int .u64 0, .int .i64 0, .int .i64 0, .int .i64 0, .int .u64 0, .int .i64 0, .int .i64 0, .int .i64 0, .int .i64 0], .int .i64 0, .int .i64 33]) (by simp [results, Try.results27, go_sem, dz0, dz1, dz2, dz3, dz4, dz5, dz6, dz7, dz8]) rfl ⟨rfl, HC_2.out, HU_2.out⟩
set_option maxHeartbeats 4000000 in
set_option maxRecDepth 100000 in
theorem tkfire_busy (id co lv gn fr lf du tl now cal re ba : Int) (w : World) (h : ClkAt w n kb ab pb cb off week closed) (hn : n ≤ w.heap.size) (hq : Kd.C k98 w A ls.length ls ∧ ls.length ≤ k) (hs : now < du) :
    Calls Try.prog 27 #[.agg #[.int .u64 id, .int .i64 co, .int .i64 1, .int .i64 lv, .int .u64 gn, .int .i64 fr, .int .i64 lf, .int .i64 du, .int .i64 tl], .pointer (some ⟨kb, 0, none⟩), .agg #[.int .i64 cal, .slice A ls.length k, .int .i64 re, .int .i64 ba], .int .i64 now] w fun r w' => r = .returned (.tuple #[.agg #[.int .u64 0, .int .i64 0, .int .i64 0, .int .i64 0, .int .u64 0, .int .i64 0, .int .i64 0, .int .i64 0, .int .i64 0], .int .i64 0, .int .i64 52]) ∧ ClkAt w' n kb ab pb cb off week closed ∧ Upd cb w w' := by
  have f1_ : decide (now < du) = true := decide_eq_true hs
  clear hs
  have HB0 : Below w.heap.size w (((w.alloc (.cells #[.int .u64 id, .int .i64 co, .int .i64 1, .int .i64 lv, .int .u64 gn, .int .i64 fr, .int .i64 lf, .int .i64 du, .int .i64 tl] 24)).alloc (.cells #[.int .i64 cal, .slice A ls.length k, .int .i64 re, .int .i64 ba] 49)).alloc (.cells #[.int .u64 0, .int .i64 0, .int .i64 0, .int .i64 0, .int .u64 0, .int .i64 0, .int .i64 0, .int .i64 0, .int .i64 0] 24)) := (below_alloc (below_alloc (below_alloc (Below.refl w.heap.size w) (.cells #[.int .u64 id, .int .i64 co, .int .i64 1, .int .i64 lv, .int .u64 gn, .int .i64 fr, .int .i64 lf, .int .i64 du, .int .i64 tl] 24)) (.cells #[.int .i64 cal, .slice A ls.length k, .int .i64 re, .int .i64 ba] 49)) (.cells #[.int .u64 0, .int .i64 0, .int .i64 0, .int .i64 0, .int .u64 0, .int .i64 0, .int .i64 0, .int .i64 0, .int .i64 0] 24))
  have HC_1 := Aside0.mk (h.below HB0)
  have HU_1 := Aside0.mk (Upd.of_below (b := cb) HB0)
  have hs_1 : w.heap.size ≤ (((w.alloc (.cells #[.int .u64 id, .int .i64 co, .int .i64 1, .int .i64 lv, .int .u64 gn, .int .i64 fr, .int .i64 lf, .int .i64 du, .int .i64 tl] 24)).alloc (.cells #[.int .i64 cal, .slice A ls.length k, .int .i64 re, .int .i64 ba] 49)).alloc (.cells #[.int .u64 0, .int .i64 0, .int .i64 0, .int .i64 0, .int .u64 0, .int .i64 0, .int .i64 0, .int .i64 0, .int .i64 0] 24)).heap.size := HB0.size
  have HLq_1 : Aside0 (Kd.C k98 (((w.alloc (.cells #[.int .u64 id, .int .i64 co, .int .i64 1, .int .i64 lv, .int .u64 gn, .int .i64 fr, .int .i64 lf, .int .i64 du, .int .i64 tl] 24)).alloc (.cells #[.int .i64 cal, .slice A ls.length k, .int .i64 re, .int .i64 ba] 49)).alloc (.cells #[.int .u64 0, .int .i64 0, .int .i64 0, .int .i64 0, .int .u64 0, .int .i64 0, .int .i64 0, .int .i64 0, .int .i64 0] 24)) A ls.length ls ∧ ls.length ≤ k) := ⟨⟨Kd.C_below hq.1 HB0, hq.2⟩⟩
  have Bt_1 : Aside0 ((((w.alloc (.cells #[.int .u64 id, .int .i64 co, .int .i64 1, .int .i64 lv, .int .u64 gn, .int .i64 fr, .int .i64 lf, .int .i64 du, .int .i64 tl] 24)).alloc (.cells #[.int .i64 cal, .slice A ls.length k, .int .i64 re, .int .i64 ba] 49)).alloc (.cells #[.int .u64 0, .int .i64 0, .int .i64 0, .int .i64 0, .int .u64 0, .int .i64 0, .int .i64 0, .int .i64 0, .int .i64 0] 24)).heap[w.heap.size]? = some (.cells #[.int .u64 id, .int .i64 co, .int .i64 1, .int .i64 lv, .int .u64 gn, .int .i64 fr, .int .i64 lf, .int .i64 du, .int .i64 tl] 24 (0, 0))) := ⟨(blk_alloc (blk_alloc (blk_new w _) _) _)⟩
  have Bq_1 : Aside0 ((((w.alloc (.cells #[.int .u64 id, .int .i64 co, .int .i64 1, .int .i64 lv, .int .u64 gn, .int .i64 fr, .int .i64 lf, .int .i64 du, .int .i64 tl] 24)).alloc (.cells #[.int .i64 cal, .slice A ls.length k, .int .i64 re, .int .i64 ba] 49)).alloc (.cells #[.int .u64 0, .int .i64 0, .int .i64 0, .int .i64 0, .int .u64 0, .int .i64 0, .int .i64 0, .int .i64 0, .int .i64 0] 24)).heap[w.heap.size + 1]? = some (.cells #[.int .i64 cal, .slice A ls.length k, .int .i64 re, .int .i64 ba] 49 (0, 0))) := ⟨(blk_alloc (by simpa using blk_new (w.alloc (.cells #[.int .u64 id, .int .i64 co, .int .i64 1, .int .i64 lv, .int .u64 gn, .int .i64 fr, .int .i64 lf, .int .i64 du, .int .i64 tl] 24)) (.cells #[.int .i64 cal, .slice A ls.length k, .int .i64 re, .int .i64 ba] 49)) _)⟩
  have Bz_1 : Aside0 ((((w.alloc (.cells #[.int .u64 id, .int .i64 co, .int .i64 1, .int .i64 lv, .int .u64 gn, .int .i64 fr, .int .i64 lf, .int .i64 du, .int .i64 tl] 24)).alloc (.cells #[.int .i64 cal, .slice A ls.length k, .int .i64 re, .int .i64 ba] 49)).alloc (.cells #[.int .u64 0, .int .i64 0, .int .i64 0, .int .i64 0, .int .u64 0, .int .i64 0, .int .i64 0, .int .i64 0, .int .i64 0] 24)).heap[w.heap.size + 1 + 1]? = some (.cells #[.int .u64 0, .int .i64 0, .int .i64 0, .int .i64 0, .int .u64 0, .int .i64 0, .int .i64 0, .int .i64 0, .int .i64 0] 24 (0, 0))) := ⟨(by simpa using blk_new ((w.alloc (.cells #[.int .u64 id, .int .i64 co, .int .i64 1, .int .i64 lv, .int .u64 gn, .int .i64 fr, .int .i64 lf, .int .i64 du, .int .i64 tl] 24)).alloc (.cells #[.int .i64 cal, .slice A ls.length k, .int .i64 re, .int .i64 ba] 49)) (.cells #[.int .u64 0, .int .i64 0, .int .i64 0, .int .i64 0, .int .u64 0, .int .i64 0, .int .i64 0, .int .i64 0, .int .i64 0] 24))⟩
  have hz_1 : w.heap.size + 1 + 1 < (((w.alloc (.cells #[.int .u64 id, .int .i64 co, .int .i64 1, .int .i64 lv, .int .u64 gn, .int .i64 fr, .int .i64 lf, .int .i64 du, .int .i64 tl] 24)).alloc (.cells #[.int .i64 cal, .slice A ls.length k, .int .i64 re, .int .i64 ba] 49)).alloc (.cells #[.int .u64 0, .int .i64 0, .int .i64 0, .int .i64 0, .int .u64 0, .int .i64 0, .int .i64 0, .int .i64 0, .int .i64 0] 24)).heap.size := blk_lt Bz_1.out
  have hcb := h.lt
  clear h HB0 hq
  go_enter Try.func27, Try.ntmps27
  go_upto_region 1 with fail
  generalize (((w.alloc (.cells #[.int .u64 id, .int .i64 co, .int .i64 1, .int .i64 lv, .int .u64 gn, .int .i64 fr, .int .i64 lf, .int .i64 du, .int .i64 tl] 24)).alloc (.cells #[.int .i64 cal, .slice A ls.length k, .int .i64 re, .int .i64 ba] 49)).alloc (.cells #[.int .u64 0, .int .i64 0, .int .i64 0, .int .i64 0, .int .u64 0, .int .i64 0, .int .i64 0, .int .i64 0, .int .i64 0] 24)) = w1 at HC_1 HU_1 hs_1 HLq_1 Bt_1 Bq_1 Bz_1 hz_1 ⊢
  have dt2 : w1.cell? ⟨w.heap.size, 2, none⟩ = some (.int .i64 1) := (blk_cell Bt_1.out 2).trans rfl
  have dt7 : w1.cell? ⟨w.heap.size, 7, none⟩ = some (.int .i64 du) := (blk_cell Bt_1.out 7).trans rfl
  obtain ⟨dz0, dz1, dz2, dz3, dz4, dz5, dz6, dz7, dz8⟩ := cells9 Bz_1.out
  have fz := blk_frozen Bz_1.out
  go_wp2
  clear dt2 dt7 dz0 dz1 dz2 dz3 dz4 dz5 dz6 dz7 dz8 fz
  obtain ⟨S1, S2, S3, S4, hs_2⟩ := step_set9 (.int .u64 0) (.int .i64 0) (.int .i64 0) (.int .i64 0) (.int .u64 0) (.int .i64 0) (.int .i64 0) (.int .i64 0) (.int .i64 0) HC_1.out HU_1.out Bz_1.out ⟨by decide, by decide, by decide, by decide, by decide, by decide⟩ (by omega)
  have HC_2 := Aside0.mk S1
  have HU_2 := Aside0.mk S2
  have Bz_2 := Aside0.mk S3
  have Bt_2 := Aside0.mk (S4 (g := w.heap.size) (by omega) Bt_1.out)
  have Bq_2 := Aside0.mk (S4 (g := w.heap.size + 1) (by omega) Bq_1.out)
  clear S1 S2 S3 S4
  generalize (((((((((w1.setCell ⟨w.heap.size + 1 + 1, 0, none⟩ (.int .u64 0)).setCell ⟨w.heap.size + 1 + 1, 1, none⟩ (.int .i64 0)).setCell ⟨w.heap.size + 1 + 1, 2, none⟩ (.int .i64 0)).setCell ⟨w.heap.size + 1 + 1, 3, none⟩ (.int .i64 0)).setCell ⟨w.heap.size + 1 + 1, 4, none⟩ (.int .u64 0)).setCell ⟨w.heap.size + 1 + 1, 5, none⟩ (.int .i64 0)).setCell ⟨w.heap.size + 1 + 1, 6, none⟩ (.int .i64 0)).setCell ⟨w.heap.size + 1 + 1, 7, none⟩ (.int .i64 0)).setCell ⟨w.heap.size + 1 + 1, 8, none⟩ (.int .i64 0)) = w2 at HC_2 HU_2 hs_2 Bt_2 Bq_2 Bz_2 ⊢
  have dt2 : w2.cell? ⟨w.heap.size, 2, none⟩ = some (.int .i64 1) := (blk_cell Bt_2.out 2).trans rfl
  have dt7 : w2.cell? ⟨w.heap.size, 7, none⟩ = some (.int .i64 du) := (blk_cell Bt_2.out 7).trans rfl
  obtain ⟨dz0, dz1, dz2, dz3, dz4, dz5, dz6, dz7, dz8⟩ := cells9 Bz_2.out
  have fz := blk_frozen Bz_2.out
  refine bodyPost_ret (v := .tuple #[.agg #[.int .u64 0, .int .i64 0, .int .i64 0, .int .i64 0, .int .u64 0, .int .i64 0, .int .i64 0, .int .i64 0, .int .i64 0], .int .i64 0, .int .i64 52]) (by simp [results, Try.results27, go_sem, dz0, dz1, dz2, dz3, dz4, dz5, dz6, dz7, dz8]) rfl ⟨rfl, HC_2.out, HU_2.out⟩
end Go.Proofs.Ytepldlnmeenlbaa.Own
namespace Go.Proofs.Ytepldlnmeenlbaa.Own
open Go.RowKit Go.Proofs Go.Proofs.YtepldlnmeenlbaaW.PrintWords Go.Proofs.YtepldlnmeenlbaaW.PrintLast Go.Proofs.YtepldlnmeenlbaaW.PrintMore Go.Proofs.Ytepldlnmeenlbaa.Base
def NoU8 (o : Obj) : Prop := ∀ cs, o ≠ .cells cs 5 (0, 0)
theorem noU8 {cs : Array Value} {t : TypeId} (h : t ≠ 5) : NoU8 (.cells cs t (0, 0)) := fun cs' e => by injection e with _ e; exact h e
structure WUpd (n wb : Nat) (w w' : World) : Prop where
  os : w'.os = w.os
  tape : w'.tape = w.tape
  output : w'.output = w.output
  size : w.heap.size ≤ w'.heap.size
  block : ∀ (k : Nat) (o : Obj), w.heap[k]? = some o → k ≠ wb → (k < n ∨ NoU8 o) → w'.heap[k]? = some o
theorem WUpd.refl (n wb : Nat) (w : World) : WUpd n wb w w := ⟨rfl, rfl, rfl, Nat.le_refl _, fun _ _ h _ _ => h⟩
theorem WUpd.trans {n wb : Nat} {u v w : World} (h : WUpd n wb u v) (k : WUpd n wb v w) : WUpd n wb u w :=
  ⟨k.os.trans h.os, k.tape.trans h.tape, k.output.trans h.output, Nat.le_trans h.size k.size, fun i o hi hne hc => k.block i o (h.block i o hi hne hc) hne hc⟩
theorem WUpd.of_below {n wb : Nat} {u v : World} (h : Below u.heap.size u v) : WUpd n wb u v := ⟨h.os, h.tape, h.output, h.size, fun k o hk _ _ => (h.block k (blk_lt hk)).trans hk⟩
theorem WUpd.drew {n wb : Nat} {u v : World} (h : WUpd n wb u v) : WUpd n wb u v.drew := ⟨h.os, h.tape, h.output, h.size, h.block⟩
theorem WUpd.below {n wb : Nat} {u v : World} (h : WUpd n wb u v) (hn : n ≤ wb) (hs : n ≤ u.heap.size) : Below n u v :=
  ⟨h.os, h.tape, h.output, h.size, fun k hk => by
    have hlt : k < u.heap.size := by omega
    rw [Array.getElem?_eq_getElem hlt]
    exact h.block k _ (Array.getElem?_eq_getElem hlt) (by omega) (.inl hk)⟩
theorem WUpd.blk {n wb g t : Nat} {u v : World} {cs : Array Value} (h : WUpd n wb u v) (hb : u.heap[g]? = some (.cells cs t (0, 0))) (hne : g ≠ wb) (ht : t ≠ 5) : v.heap[g]? = some (.cells cs t (0, 0)) := h.block g _ hb hne (.inr (noU8 ht))
structure WrV (w : World) (n wb : Nat) (v : Value) (bs : List Int) : Prop where
  blk : w.heap[wb]? = some (.cells #[v] 29 (0, 0))
  row : Kd.R (Kd.int .u8) 5 w n (fun k => k ≠ wb) v bs
  size : n ≤ w.heap.size
def WrAt (w : World) (n wb : Nat) (bs : List Int) : Prop := ∃ v, WrV w n wb v bs
theorem WrV.ne {w : World} {n wb : Nat} {v : Value} {bs : List Int} (h : WrV w n wb v bs) : some wb ≠ v.ownBlock := fun e => h.row.1 wb e.symm rfl
theorem WrV.below {w w' : World} {n wb : Nat} {v : Value} {bs : List Int} (h : WrV w n wb v bs) (hb : Below w.heap.size w w') : WrV w' n wb v bs :=
  ⟨blk_below h.blk hb, Kd.R_below h.row hb, Nat.le_trans h.size hb.size⟩
theorem WrAt.below {w w' : World} {n wb : Nat} {bs : List Int} (h : WrAt w n wb bs) (hb : Below w.heap.size w w') : WrAt w' n wb bs := ⟨h.choose, h.choose_spec.below hb⟩
theorem WrAt.new (w : World) : WrAt (w.alloc (.cells #[.slice none 0 0] 29)) w.heap.size w.heap.size [] :=
  ⟨_, blk_new w _, Kd.R_nil _ _ _ _ _, by simp⟩
theorem WrV.free {w : World} {n wb : Nat} {v : Value} {bs : List Int} (h : WrV w n wb v bs) : w.frozen? ⟨wb, 0, none⟩ = false := blk_frozen h.blk 0
end Go.Proofs.Ytepldlnmeenlbaa.Own
namespace Go.Proofs.Ytepldlnmeenlbaa.Own
open Go.RowKit Go.Proofs Go.Proofs.YtepldlnmeenlbaaW.PrintWords Go.Proofs.YtepldlnmeenlbaaW.PrintLast Go.Proofs.YtepldlnmeenlbaaW.PrintMore Go.Proofs.Ytepldlnmeenlbaa.Base
structure RdV (t : TypeId) (m : Nat) (w : World) (rb : Nat) (A : Option Addr) (c : Nat) (s : List Int × Bool) : Prop where
  blk : w.heap[rb]? = some (.cells #[.slice A s.1.length c, .bool s.2] t (0, 0))
  cap : s.1.length ≤ c
  row : Kd.C (Kd.int .u8) w A s.1.length s.1
  far : ∀ ad, A = some ad → ad.block < m
  mrb : m ≤ rb
  byte : ∀ x, x ∈ s.1 → 0 ≤ x ∧ x ≤ 255
def RdAt (t : TypeId) (m : Nat) (w : World) (rb : Nat) (s : List Int × Bool) : Prop := ∃ A c, RdV t m w rb A c s
variable {t : TypeId} {m rb c : Nat} {w w' : World} {A : Option Addr} {s : List Int × Bool}
theorem RdV.below (h : RdV t m w rb A c s) (hb : Below w.heap.size w w') : RdV t m w' rb A c s := ⟨blk_below h.blk hb, h.cap, Kd.C_below h.row hb, h.far, h.mrb, h.byte⟩
theorem RdAt.below (h : RdAt t m w rb s) (hb : Below w.heap.size w w') : RdAt t m w' rb s := by obtain ⟨A, c, h⟩ := h; exact ⟨A, c, h.below hb⟩
theorem C_blocks {k : IntKind} {l : List Int} (h : Kd.C (Kd.int k) w A l.length l) (hm : ∀ ad, A = some ad → w'.heap[ad.block]? = w.heap[ad.block]?) : Kd.C (Kd.int k) w' A l.length l := by
  refine ⟨h.1, h.2.1, fun h0 => ?_⟩
  obtain ⟨ad, e, hx⟩ := h.2.2 h0
  refine ⟨ad, e, fun j p hp => ?_⟩
  obtain ⟨cs, h1, h2, h3⟩ := hx j p hp
  exact ⟨cs, h1, h2, fun i u hu => by rw [← h3 i u hu]; exact World.cell?_of_block (by rw [add_block]; exact hm ad e)⟩
theorem RdV.upd {b : Nat} (h : RdV t m w rb A c s) (hu : Upd b w w') (hb : m ≤ b) (hne : rb ≠ b) : RdV t m w' rb A c s :=
  ⟨hu.blk h.blk hne, h.cap, C_blocks h.row (fun ad e => by
    have h1 := h.far ad e
    have h2 := blk_lt h.blk
    have h3 := h.mrb
    exact hu.block ad.block (by omega) (fun e => by injection e with e; omega)), h.far, h.mrb, h.byte⟩
theorem RdAt.upd {b : Nat} (h : RdAt t m w rb s) (hu : Upd b w w') (hb : m ≤ b) (hne : rb ≠ b) : RdAt t m w' rb s := by obtain ⟨A, c, h⟩ := h; exact ⟨A, c, h.upd hu hb hne⟩
theorem RdV.g0 (h : RdV t m w rb A c s) : w.cell? ⟨rb, 0, none⟩ = some (.slice A s.1.length c) := (blk_cell h.blk 0).trans rfl
theorem RdV.g1 (h : RdV t m w rb A c s) : w.cell? ⟨rb, 1, none⟩ = some (.bool s.2) := (blk_cell h.blk 1).trans rfl
theorem RdV.f0 (h : RdV t m w rb A c s) : w.frozen? ⟨rb, 0, none⟩ = false := blk_frozen h.blk 0
theorem RdV.f1 (h : RdV t m w rb A c s) : w.frozen? ⟨rb, 1, none⟩ = false := blk_frozen h.blk 1
theorem RdV.cut (h : RdV t m w rb A c s) {A' : Option Addr} {c' : Nat} {l : List Int} (hr : Kd.C (Kd.int .u8) w A' l.length l) (hc : l.length ≤ c') (hf : ∀ ad, A' = some ad → ad.block < m) (hl : ∀ x, x ∈ l → x ∈ s.1) :
    RdV t m (w.setCell ⟨rb, 0, none⟩ (.slice A' l.length c')) rb A' c' (l, s.2) ∧ Upd rb w (w.setCell ⟨rb, 0, none⟩ (.slice A' l.length c')) :=
  ⟨⟨blk_put h.blk 0 _ rfl, hc, C_blocks hr (fun ad e => Below.heap_setCell _ _ _ _ (by have := hf ad e; have := h.mrb; show ad.block ≠ rb; omega)), hf, h.mrb, fun x hx => h.byte x (hl x hx)⟩, (Upd.refl rb w).set 0 _⟩
end Go.Proofs.Ytepldlnmeenlbaa.Own
