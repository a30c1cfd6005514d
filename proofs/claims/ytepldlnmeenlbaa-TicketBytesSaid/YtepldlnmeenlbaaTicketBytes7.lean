/- TicketBytes, part 7: what the claim needs of Tkf, Lives16, Wr3. -/
import Derived.Test.YtepldlnmeenlbaaTicketBytes6
import Derived.Test.YtepldlnmeenlbaaProg
import Derived.Below
import Derived.Deep.Draws
import Derived.Deep.AppendLies
import Derived.Maps.AppendAt
import Derived.OwnWalk
import Derived.Laws.BytesArg
import Derived.Laws.MakeOwn
import Derived.Laws.OwnMore
import Derived.Deep.OwnRows
import Derived.Tactics
import Derived.Lib.ConvBytes
import Derived.Laws.Slices
import Derived.WalkKit
import Derived.KernelRfl
import Derived.RowKit3
import Derived.Deep.LoopGhost
import Derived.Deep.QuietTactic
import Derived.BigQuiet
import Derived.WideLaws
import Derived.Deep.DeepCutAuto
import Derived.Deep.CutBlock
import Derived.Deep.RegionHeld3
import Derived.Laws.Rows
import Derived.Lib.AppendStr
import Derived.ArgAppend
import Derived.Laws.IdiomCopy
import Derived.OrdersHeld
import Derived.Laws.BitsLemmas
import Derived.RowKit
import Derived.Laws.StructEq
import Derived.Tactics2
import Derived.Defers
import Derived.Laws.Pointers
import Derived.Laws.LoneSync
import Derived.Laws.NewBlocks
import Derived.RegionTactic
import Derived.RegionCalls
import Derived.ChangeAlike
import Derived.StillTailTactics
import Derived.Outline
import Derived.Handy
import Derived.SizedLaws
import Derived.ChangeSlices
import Derived.Laws.EntriesVeiled
import Derived.WalkSpells
import Derived.RangeFuncNested
import Derived.RangeFuncBound
import Derived.RangeFuncCalls
import Derived.RangeFuncLeaves
import Derived.Shelf.Abstract
import Derived.Shelf.RegionOpen
import Derived.OwnWalkIn
import Derived.TacticsInMore
import Derived.LoopNIn
import Derived.LoopIn
import Derived.OrdersIn
set_option linter.unusedVariables false
set_option linter.unusedSimpArgs false
namespace Go.Proofs.Ytepldlnmeenlbaa.Own
open Go.RowKit Go.Proofs Go.Proofs.YtepldlnmeenlbaaW.PrintWords Go.Proofs.YtepldlnmeenlbaaW.PrintLast Go.Proofs.YtepldlnmeenlbaaW.PrintMore Go.Proofs.Ytepldlnmeenlbaa.Base
variable {w w' : World} {n kb ab pb cb : Nat} {off : Int} {week closed : List S143} {A : Option Addr} {k : Nat} {ls : List S98}
set_option maxHeartbeats 4000000 in
set_option maxRecDepth 100000 in
theorem tkopen_any (cal re ba now id co a b c d e r1 r2 r3 r4 r5 r6 r7 r8 r9 r10 : Int) (w : World) (h : ClkAt w n kb ab pb cb off week closed) (hn : n ≤ w.heap.size) (hq : Kd.C k98 w A ls.length ls ∧ ls.length ≤ k) (c0 : 0 ≤ co) (c1 : co < 16) (hd : firstP off week closed cal ls re ba now = (a, b, c, d, e)) (hw : ticket_with.f id co 0 0 0 0 0 0 0 1 a b c d e = some (r1, r2, r3, r4, r5, r6, r7, r8, r9, r10)) :
    Calls Try.prog 23 #[.int .u64 id, .int .i64 co, .pointer (some ⟨kb, 0, none⟩), .agg #[.int .i64 cal, .slice A ls.length k, .int .i64 re, .int .i64 ba], .int .i64 now] w fun r w' => r = .returned (.tuple #[.agg #[.int .u64 r1, .int .i64 r2, .int .i64 r3, .int .i64 r4, .int .u64 r5, .int .i64 r6, .int .i64 r7, .int .i64 r8, .int .i64 r9], .int .i64 r10]) ∧ ClkAt w' n kb ab pb cb off week closed ∧ Upd cb w w' := by
  have HD := Aside0.mk hd
  have HW := Aside0.mk hw
  have f1_ : decide (co < 0) = false := decide_eq_false (by omega)
  have f2_ : decide (16 ≤ co) = false := decide_eq_false (by omega)
  clear hd hw
  have HB0 : Below w.heap.size w ((w.alloc (.cells #[.int .i64 cal, .slice A ls.length k, .int .i64 re, .int .i64 ba] 49)).alloc (.cells #[.int .u64 0, .int .i64 0, .int .i64 0, .int .i64 0, .int .u64 0, .int .i64 0, .int .i64 0, .int .i64 0, .int .i64 0] 24)) := (below_alloc (below_alloc (Below.refl w.heap.size w) (.cells #[.int .i64 cal, .slice A ls.length k, .int .i64 re, .int .i64 ba] 49)) (.cells #[.int .u64 0, .int .i64 0, .int .i64 0, .int .i64 0, .int .u64 0, .int .i64 0, .int .i64 0, .int .i64 0, .int .i64 0] 24))
  have HC_1 := Aside0.mk (h.below HB0)
  have HU_1 := Aside0.mk (Upd.of_below (b := cb) HB0)
  have hs_1 : w.heap.size ≤ ((w.alloc (.cells #[.int .i64 cal, .slice A ls.length k, .int .i64 re, .int .i64 ba] 49)).alloc (.cells #[.int .u64 0, .int .i64 0, .int .i64 0, .int .i64 0, .int .u64 0, .int .i64 0, .int .i64 0, .int .i64 0, .int .i64 0] 24)).heap.size := HB0.size
  have HLq_1 : Aside0 (Kd.C k98 ((w.alloc (.cells #[.int .i64 cal, .slice A ls.length k, .int .i64 re, .int .i64 ba] 49)).alloc (.cells #[.int .u64 0, .int .i64 0, .int .i64 0, .int .i64 0, .int .u64 0, .int .i64 0, .int .i64 0, .int .i64 0, .int .i64 0] 24)) A ls.length ls ∧ ls.length ≤ k) := ⟨⟨Kd.C_below hq.1 HB0, hq.2⟩⟩
  have Bq_1 : Aside0 (((w.alloc (.cells #[.int .i64 cal, .slice A ls.length k, .int .i64 re, .int .i64 ba] 49)).alloc (.cells #[.int .u64 0, .int .i64 0, .int .i64 0, .int .i64 0, .int .u64 0, .int .i64 0, .int .i64 0, .int .i64 0, .int .i64 0] 24)).heap[w.heap.size]? = some (.cells #[.int .i64 cal, .slice A ls.length k, .int .i64 re, .int .i64 ba] 49 (0, 0))) := ⟨(blk_alloc (blk_new w _) _)⟩
  have Bz_1 : Aside0 (((w.alloc (.cells #[.int .i64 cal, .slice A ls.length k, .int .i64 re, .int .i64 ba] 49)).alloc (.cells #[.int .u64 0, .int .i64 0, .int .i64 0, .int .i64 0, .int .u64 0, .int .i64 0, .int .i64 0, .int .i64 0, .int .i64 0] 24)).heap[w.heap.size + 1]? = some (.cells #[.int .u64 0, .int .i64 0, .int .i64 0, .int .i64 0, .int .u64 0, .int .i64 0, .int .i64 0, .int .i64 0, .int .i64 0] 24 (0, 0))) := ⟨(by simpa using blk_new (w.alloc (.cells #[.int .i64 cal, .slice A ls.length k, .int .i64 re, .int .i64 ba] 49)) (.cells #[.int .u64 0, .int .i64 0, .int .i64 0, .int .i64 0, .int .u64 0, .int .i64 0, .int .i64 0, .int .i64 0, .int .i64 0] 24))⟩
  have hz_1 : w.heap.size + 1 < ((w.alloc (.cells #[.int .i64 cal, .slice A ls.length k, .int .i64 re, .int .i64 ba] 49)).alloc (.cells #[.int .u64 0, .int .i64 0, .int .i64 0, .int .i64 0, .int .u64 0, .int .i64 0, .int .i64 0, .int .i64 0, .int .i64 0] 24)).heap.size := blk_lt Bz_1.out
  have hcb := h.lt
  clear h HB0 hq
  go_enter Try.func23, Try.ntmps23
  go_wp2_with fail
  generalize ((w.alloc (.cells #[.int .i64 cal, .slice A ls.length k, .int .i64 re, .int .i64 ba] 49)).alloc (.cells #[.int .u64 0, .int .i64 0, .int .i64 0, .int .i64 0, .int .u64 0, .int .i64 0, .int .i64 0, .int .i64 0, .int .i64 0] 24)) = w1 at HC_1 HU_1 hs_1 HLq_1 Bq_1 Bz_1 hz_1 ⊢
  have dq0 : w1.cell? ⟨w.heap.size, 0, none⟩ = some (.int .i64 cal) := (blk_cell Bq_1.out 0).trans rfl
  have dq1 : w1.cell? ⟨w.heap.size, 1, none⟩ = some (.slice A ls.length k) := (blk_cell Bq_1.out 1).trans rfl
  have dq2 : w1.cell? ⟨w.heap.size, 2, none⟩ = some (.int .i64 re) := (blk_cell Bq_1.out 2).trans rfl
  have dq3 : w1.cell? ⟨w.heap.size, 3, none⟩ = some (.int .i64 ba) := (blk_cell Bq_1.out 3).trans rfl
  go_upto_region 4 with (go_at_call 56; with_reducible refine (first_any cal re ba now a b c d e w1 HC_1.out (by omega) HLq_1.out HD.out).mono ?_; rintro e w2 ⟨rfl, q1, q2⟩; clear dq0 dq1 dq2 dq3; have HC_2 := Aside0.mk q1; have HU_2 := Aside0.mk (HU_1.out.trans q2); have hs_2 : w1.heap.size ≤ w2.heap.size := q2.size; have Bq_2 := Aside0.mk (q2.blk Bq_1.out (by omega)); have Bz_2 := Aside0.mk (q2.blk Bz_1.out (by omega)); clear q1 q2)
  have hb : Below w2.heap.size w2 (w2.alloc (.cells #[.int .i64 a, .int .i64 b, .int .i64 c, .int .i64 d] 108)) := below_alloc (Below.refl _ _) _
  have HC_3 := Aside0.mk (HC_2.out.below hb)
  have HU_3 := Aside0.mk (HU_2.out.then hb)
  have hs_3 : w2.heap.size ≤ (w2.alloc (.cells #[.int .i64 a, .int .i64 b, .int .i64 c, .int .i64 d] 108)).heap.size := hb.size
  have Bq_3 := Aside0.mk (blk_below Bq_2.out hb)
  have Bz_3 := Aside0.mk (blk_below Bz_2.out hb)
  clear hb
  have Bs_3 := Aside0.mk (blk_new w2 (.cells #[.int .i64 a, .int .i64 b, .int .i64 c, .int .i64 d] 108))
  have hz_3 : w2.heap.size < (w2.alloc (.cells #[.int .i64 a, .int .i64 b, .int .i64 c, .int .i64 d] 108)).heap.size := blk_lt Bs_3.out
  generalize (w2.alloc (.cells #[.int .i64 a, .int .i64 b, .int .i64 c, .int .i64 d] 108)) = w3 at HC_3 HU_3 hs_3 Bq_3 Bz_3 Bs_3 hz_3 ⊢
  have ds0 : w3.cell? ⟨w2.heap.size, 0, none⟩ = some (.int .i64 a) := (blk_cell Bs_3.out 0).trans rfl
  have ds1 : w3.cell? ⟨w2.heap.size, 1, none⟩ = some (.int .i64 b) := (blk_cell Bs_3.out 1).trans rfl
  have ds2 : w3.cell? ⟨w2.heap.size, 2, none⟩ = some (.int .i64 c) := (blk_cell Bs_3.out 2).trans rfl
  have ds3 : w3.cell? ⟨w2.heap.size, 3, none⟩ = some (.int .i64 d) := (blk_cell Bs_3.out 3).trans rfl
  go_wp2_with (go_at_call 57; with_reducible refine (ticket_with.calls id co 0 0 0 0 0 0 0 1 a b c d e r1 r2 r3 r4 r5 r6 r7 r8 r9 r10 w3 HW.out).mono ?_; rintro e w4 ⟨rfl, q1⟩; clear ds0 ds1 ds2 ds3; have HC_4 := Aside0.mk (HC_3.out.below q1); have HU_4 := Aside0.mk (HU_3.out.then q1); have hs_4 : w3.heap.size ≤ w4.heap.size := q1.size; have Bq_4 := Aside0.mk (blk_below Bq_3.out q1); have Bz_4 := Aside0.mk (blk_below Bz_3.out q1); have Bs_4 := Aside0.mk (blk_below Bs_3.out q1); clear q1; have dz0 : w4.cell? ⟨w.heap.size + 1, 0, none⟩ = some (.int .u64 0) := (blk_cell Bz_4.out 0).trans rfl; have fz0 : w4.frozen? ⟨w.heap.size + 1, 0, none⟩ = false := blk_frozen Bz_4.out 0; have dz1 : w4.cell? ⟨w.heap.size + 1, 1, none⟩ = some (.int .i64 0) := (blk_cell Bz_4.out 1).trans rfl; have fz1 : w4.frozen? ⟨w.heap.size + 1, 1, none⟩ = false := blk_frozen Bz_4.out 1; have dz2 : w4.cell? ⟨w.heap.size + 1, 2, none⟩ = some (.int .i64 0) := (blk_cell Bz_4.out 2).trans rfl; have fz2 : w4.frozen? ⟨w.heap.size + 1, 2, none⟩ = false := blk_frozen Bz_4.out 2; have dz3 : w4.cell? ⟨w.heap.size + 1, 3, none⟩ = some (.int .i64 0) := (blk_cell Bz_4.out 3).trans rfl; have fz3 : w4.frozen? ⟨w.heap.size + 1, 3, none⟩ = false := blk_frozen Bz_4.out 3; have dz4 : w4.cell? ⟨w.heap.size + 1, 4, none⟩ = some (.int .u64 0) := (blk_cell Bz_4.out 4).trans rfl; have fz4 : w4.frozen? ⟨w.heap.size + 1, 4, none⟩ = false := blk_frozen Bz_4.out 4; have dz5 : w4.cell? ⟨w.heap.size + 1, 5, none⟩ = some (.int .i64 0) := (blk_cell Bz_4.out 5).trans rfl; have fz5 : w4.frozen? ⟨w.heap.size + 1, 5, none⟩ = false := blk_frozen Bz_4.out 5; have dz6 : w4.cell? ⟨w.heap.size + 1, 6, none⟩ = some (.int .i64 0) := (blk_cell Bz_4.out 6).trans rfl; have fz6 : w4.frozen? ⟨w.heap.size + 1, 6, none⟩ = false := blk_frozen Bz_4.out 6; have dz7 : w4.cell? ⟨w.heap.size + 1, 7, none⟩ = some (.int .i64 0) := (blk_cell Bz_4.out 7).trans rfl; have fz7 : w4.frozen? ⟨w.heap.size + 1, 7, none⟩ = false := blk_frozen Bz_4.out 7; have dz8 : w4.cell? ⟨w.heap.size + 1, 8, none⟩ = some (.int .i64 0) := (blk_cell Bz_4.out 8).trans rfl; have fz8 : w4.frozen? ⟨w.heap.size + 1, 8, none⟩ = false := blk_frozen Bz_4.out 8; have ds0 : w4.cell? ⟨w2.heap.size, 0, none⟩ = some (.int .i64 a) := (blk_cell Bs_4.out 0).trans rfl; have ds1 : w4.cell? ⟨w2.heap.size, 1, none⟩ = some (.int .i64 b) := (blk_cell Bs_4.out 1).trans rfl; have ds2 : w4.cell? ⟨w2.heap.size, 2, none⟩ = some (.int .i64 c) := (blk_cell Bs_4.out 2).trans rfl; have ds3 : w4.cell? ⟨w2.heap.size, 3, none⟩ = some (.int .i64 d) := (blk_cell Bs_4.out 3).trans rfl)
  clear dz0 fz0 dz1 fz1 dz2 fz2 dz3 fz3 dz4 fz4 dz5 fz5 dz6 fz6 dz7 fz7 dz8 fz8 ds0 ds1 ds2 ds3
  have dz0 : w4.cell? ⟨w.heap.size + 1, 0, none⟩ = some (.int .u64 0) := (blk_cell Bz_4.out 0).trans rfl
  have fz0 : w4.frozen? ⟨w.heap.size + 1, 0, none⟩ = false := blk_frozen Bz_4.out 0
  have dz1 : w4.cell? ⟨w.heap.size + 1, 1, none⟩ = some (.int .i64 0) := (blk_cell Bz_4.out 1).trans rfl
  have fz1 : w4.frozen? ⟨w.heap.size + 1, 1, none⟩ = false := blk_frozen Bz_4.out 1
  have dz2 : w4.cell? ⟨w.heap.size + 1, 2, none⟩ = some (.int .i64 0) := (blk_cell Bz_4.out 2).trans rfl
  have fz2 : w4.frozen? ⟨w.heap.size + 1, 2, none⟩ = false := blk_frozen Bz_4.out 2
  have dz3 : w4.cell? ⟨w.heap.size + 1, 3, none⟩ = some (.int .i64 0) := (blk_cell Bz_4.out 3).trans rfl
  have fz3 : w4.frozen? ⟨w.heap.size + 1, 3, none⟩ = false := blk_frozen Bz_4.out 3
  have dz4 : w4.cell? ⟨w.heap.size + 1, 4, none⟩ = some (.int .u64 0) := (blk_cell Bz_4.out 4).trans rfl
  have fz4 : w4.frozen? ⟨w.heap.size + 1, 4, none⟩ = false := blk_frozen Bz_4.out 4
  have dz5 : w4.cell? ⟨w.heap.size + 1, 5, none⟩ = some (.int .i64 0) := (blk_cell Bz_4.out 5).trans rfl
  have fz5 : w4.frozen? ⟨w.heap.size + 1, 5, none⟩ = false := blk_frozen Bz_4.out 5
  have dz6 : w4.cell? ⟨w.heap.size + 1, 6, none⟩ = some (.int .i64 0) := (blk_cell Bz_4.out 6).trans rfl
  have fz6 : w4.frozen? ⟨w.heap.size + 1, 6, none⟩ = false := blk_frozen Bz_4.out 6
  have dz7 : w4.cell? ⟨w.heap.size + 1, 7, none⟩ = some (.int .i64 0) := (blk_cell Bz_4.out 7).trans rfl
  have fz7 : w4.frozen? ⟨w.heap.size + 1, 7, none⟩ = false := blk_frozen Bz_4.out 7
  have dz8 : w4.cell? ⟨w.heap.size + 1, 8, none⟩ = some (.int .i64 0) := (blk_cell Bz_4.out 8).trans rfl
  have fz8 : w4.frozen? ⟨w.heap.size + 1, 8, none⟩ = false := blk_frozen Bz_4.out 8
  clear dz0 fz0 dz1 fz1 dz2 fz2 dz3 fz3 dz4 fz4 dz5 fz5 dz6 fz6 dz7 fz7 dz8 fz8
  have S_0 := And.intro HC_4.out HU_4.out
  have S_1 := step_set S_0.1 S_0.2 Bz_4.out ⟨by decide, by decide, by decide, by decide, by decide, by decide⟩ (by omega) 0 (.int .u64 r1)
  have G_0 := blk_put (cs' := #[.int .u64 r1, .int .i64 0, .int .i64 0, .int .i64 0, .int .u64 0, .int .i64 0, .int .i64 0, .int .i64 0, .int .i64 0]) Bz_4.out 0 (.int .u64 r1) rfl
  have S_2 := step_set S_1.1 S_1.2 G_0 ⟨by decide, by decide, by decide, by decide, by decide, by decide⟩ (by omega) 1 (.int .i64 r2)
  have G_1 := blk_put (cs' := #[.int .u64 r1, .int .i64 r2, .int .i64 0, .int .i64 0, .int .u64 0, .int .i64 0, .int .i64 0, .int .i64 0, .int .i64 0]) G_0 1 (.int .i64 r2) rfl
  have S_3 := step_set S_2.1 S_2.2 G_1 ⟨by decide, by decide, by decide, by decide, by decide, by decide⟩ (by omega) 2 (.int .i64 r3)
  have G_2 := blk_put (cs' := #[.int .u64 r1, .int .i64 r2, .int .i64 r3, .int .i64 0, .int .u64 0, .int .i64 0, .int .i64 0, .int .i64 0, .int .i64 0]) G_1 2 (.int .i64 r3) rfl
  have S_4 := step_set S_3.1 S_3.2 G_2 ⟨by decide, by decide, by decide, by decide, by decide, by decide⟩ (by omega) 3 (.int .i64 r4)
  have G_3 := blk_put (cs' := #[.int .u64 r1, .int .i64 r2, .int .i64 r3, .int .i64 r4, .int .u64 0, .int .i64 0, .int .i64 0, .int .i64 0, .int .i64 0]) G_2 3 (.int .i64 r4) rfl
  have S_5 := step_set S_4.1 S_4.2 G_3 ⟨by decide, by decide, by decide, by decide, by decide, by decide⟩ (by omega) 4 (.int .u64 r5)
  have G_4 := blk_put (cs' := #[.int .u64 r1, .int .i64 r2, .int .i64 r3, .int .i64 r4, .int .u64 r5, .int .i64 0, .int .i64 0, .int .i64 0, .int .i64 0]) G_3 4 (.int .u64 r5) rfl
  have S_6 := step_set S_5.1 S_5.2 G_4 ⟨by decide, by decide, by decide, by decide, by decide, by decide⟩ (by omega) 5 (.int .i64 r6)
  have G_5 := blk_put (cs' := #[.int .u64 r1, .int .i64 r2, .int .i64 r3, .int .i64 r4, .int .u64 r5, .int .i64 r6, .int .i64 0, .int .i64 0, .int .i64 0]) G_4 5 (.int .i64 r6) rfl
  have S_7 := step_set S_6.1 S_6.2 G_5 ⟨by decide, by decide, by decide, by decide, by decide, by decide⟩ (by omega) 6 (.int .i64 r7)
  have G_6 := blk_put (cs' := #[.int .u64 r1, .int .i64 r2, .int .i64 r3, .int .i64 r4, .int .u64 r5, .int .i64 r6, .int .i64 r7, .int .i64 0, .int .i64 0]) G_5 6 (.int .i64 r7) rfl
  have S_8 := step_set S_7.1 S_7.2 G_6 ⟨by decide, by decide, by decide, by decide, by decide, by decide⟩ (by omega) 7 (.int .i64 r8)
  have G_7 := blk_put (cs' := #[.int .u64 r1, .int .i64 r2, .int .i64 r3, .int .i64 r4, .int .u64 r5, .int .i64 r6, .int .i64 r7, .int .i64 r8, .int .i64 0]) G_6 7 (.int .i64 r8) rfl
  have S_9 := step_set S_8.1 S_8.2 G_7 ⟨by decide, by decide, by decide, by decide, by decide, by decide⟩ (by omega) 8 (.int .i64 r9)
  have G_8 := blk_put (cs' := #[.int .u64 r1, .int .i64 r2, .int .i64 r3, .int .i64 r4, .int .u64 r5, .int .i64 r6, .int .i64 r7, .int .i64 r8, .int .i64 r9]) G_7 8 (.int .i64 r9) rfl
  have HC_5 := Aside0.mk S_9.1
  have HU_5 := Aside0.mk S_9.2
  have Bz_5 := Aside0.mk G_8
  have hs_5 : w4.heap.size ≤ (((((((((w4.setCell ⟨w.heap.size + 1, 0, none⟩ (.int .u64 r1)).setCell ⟨w.heap.size + 1, 1, none⟩ (.int .i64 r2)).setCell ⟨w.heap.size + 1, 2, none⟩ (.int .i64 r3)).setCell ⟨w.heap.size + 1, 3, none⟩ (.int .i64 r4)).setCell ⟨w.heap.size + 1, 4, none⟩ (.int .u64 r5)).setCell ⟨w.heap.size + 1, 5, none⟩ (.int .i64 r6)).setCell ⟨w.heap.size + 1, 6, none⟩ (.int .i64 r7)).setCell ⟨w.heap.size + 1, 7, none⟩ (.int .i64 r8)).setCell ⟨w.heap.size + 1, 8, none⟩ (.int .i64 r9)).heap.size := by simp
  have Bq_5 : Aside0 ((((((((((w4.setCell ⟨w.heap.size + 1, 0, none⟩ (.int .u64 r1)).setCell ⟨w.heap.size + 1, 1, none⟩ (.int .i64 r2)).setCell ⟨w.heap.size + 1, 2, none⟩ (.int .i64 r3)).setCell ⟨w.heap.size + 1, 3, none⟩ (.int .i64 r4)).setCell ⟨w.heap.size + 1, 4, none⟩ (.int .u64 r5)).setCell ⟨w.heap.size + 1, 5, none⟩ (.int .i64 r6)).setCell ⟨w.heap.size + 1, 6, none⟩ (.int .i64 r7)).setCell ⟨w.heap.size + 1, 7, none⟩ (.int .i64 r8)).setCell ⟨w.heap.size + 1, 8, none⟩ (.int .i64 r9)).heap[w.heap.size]? = _) := ⟨((Below.heap_setCell _ _ _ _ (by show w.heap.size ≠ w.heap.size + 1; omega)).trans ((Below.heap_setCell _ _ _ _ (by show w.heap.size ≠ w.heap.size + 1; omega)).trans ((Below.heap_setCell _ _ _ _ (by show w.heap.size ≠ w.heap.size + 1; omega)).trans ((Below.heap_setCell _ _ _ _ (by show w.heap.size ≠ w.heap.size + 1; omega)).trans ((Below.heap_setCell _ _ _ _ (by show w.heap.size ≠ w.heap.size + 1; omega)).trans ((Below.heap_setCell _ _ _ _ (by show w.heap.size ≠ w.heap.size + 1; omega)).trans ((Below.heap_setCell _ _ _ _ (by show w.heap.size ≠ w.heap.size + 1; omega)).trans ((Below.heap_setCell _ _ _ _ (by show w.heap.size ≠ w.heap.size + 1; omega)).trans ((Below.heap_setCell _ _ _ _ (by show w.heap.size ≠ w.heap.size + 1; omega)).trans Bq_4.out)))))))))⟩
  have Bs_5 : Aside0 ((((((((((w4.setCell ⟨w.heap.size + 1, 0, none⟩ (.int .u64 r1)).setCell ⟨w.heap.size + 1, 1, none⟩ (.int .i64 r2)).setCell ⟨w.heap.size + 1, 2, none⟩ (.int .i64 r3)).setCell ⟨w.heap.size + 1, 3, none⟩ (.int .i64 r4)).setCell ⟨w.heap.size + 1, 4, none⟩ (.int .u64 r5)).setCell ⟨w.heap.size + 1, 5, none⟩ (.int .i64 r6)).setCell ⟨w.heap.size + 1, 6, none⟩ (.int .i64 r7)).setCell ⟨w.heap.size + 1, 7, none⟩ (.int .i64 r8)).setCell ⟨w.heap.size + 1, 8, none⟩ (.int .i64 r9)).heap[w2.heap.size]? = _) := ⟨((Below.heap_setCell _ _ _ _ (by show w2.heap.size ≠ w.heap.size + 1; omega)).trans ((Below.heap_setCell _ _ _ _ (by show w2.heap.size ≠ w.heap.size + 1; omega)).trans ((Below.heap_setCell _ _ _ _ (by show w2.heap.size ≠ w.heap.size + 1; omega)).trans ((Below.heap_setCell _ _ _ _ (by show w2.heap.size ≠ w.heap.size + 1; omega)).trans ((Below.heap_setCell _ _ _ _ (by show w2.heap.size ≠ w.heap.size + 1; omega)).trans ((Below.heap_setCell _ _ _ _ (by show w2.heap.size ≠ w.heap.size + 1; omega)).trans ((Below.heap_setCell _ _ _ _ (by show w2.heap.size ≠ w.heap.size + 1; omega)).trans ((Below.heap_setCell _ _ _ _ (by show w2.heap.size ≠ w.heap.size + 1; omega)).trans ((Below.heap_setCell _ _ _ _ (by show w2.heap.size ≠ w.heap.size + 1; omega)).trans Bs_4.out)))))))))⟩
  clear S_0 S_1 S_2 S_3 S_4 S_5 S_6 S_7 S_8 S_9 G_0 G_1 G_2 G_3 G_4 G_5 G_6 G_7 G_8
  generalize (((((((((w4.setCell ⟨w.heap.size + 1, 0, none⟩ (.int .u64 r1)).setCell ⟨w.heap.size + 1, 1, none⟩ (.int .i64 r2)).setCell ⟨w.heap.size + 1, 2, none⟩ (.int .i64 r3)).setCell ⟨w.heap.size + 1, 3, none⟩ (.int .i64 r4)).setCell ⟨w.heap.size + 1, 4, none⟩ (.int .u64 r5)).setCell ⟨w.heap.size + 1, 5, none⟩ (.int .i64 r6)).setCell ⟨w.heap.size + 1, 6, none⟩ (.int .i64 r7)).setCell ⟨w.heap.size + 1, 7, none⟩ (.int .i64 r8)).setCell ⟨w.heap.size + 1, 8, none⟩ (.int .i64 r9)) = w5 at HC_5 HU_5 hs_5 Bq_5 Bz_5 Bs_5 ⊢
  have dz0 : w5.cell? ⟨w.heap.size + 1, 0, none⟩ = some (.int .u64 r1) := (blk_cell Bz_5.out 0).trans rfl
  have fz0 : w5.frozen? ⟨w.heap.size + 1, 0, none⟩ = false := blk_frozen Bz_5.out 0
  have dz1 : w5.cell? ⟨w.heap.size + 1, 1, none⟩ = some (.int .i64 r2) := (blk_cell Bz_5.out 1).trans rfl
  have fz1 : w5.frozen? ⟨w.heap.size + 1, 1, none⟩ = false := blk_frozen Bz_5.out 1
  have dz2 : w5.cell? ⟨w.heap.size + 1, 2, none⟩ = some (.int .i64 r3) := (blk_cell Bz_5.out 2).trans rfl
  have fz2 : w5.frozen? ⟨w.heap.size + 1, 2, none⟩ = false := blk_frozen Bz_5.out 2
  have dz3 : w5.cell? ⟨w.heap.size + 1, 3, none⟩ = some (.int .i64 r4) := (blk_cell Bz_5.out 3).trans rfl
  have fz3 : w5.frozen? ⟨w.heap.size + 1, 3, none⟩ = false := blk_frozen Bz_5.out 3
  have dz4 : w5.cell? ⟨w.heap.size + 1, 4, none⟩ = some (.int .u64 r5) := (blk_cell Bz_5.out 4).trans rfl
  have fz4 : w5.frozen? ⟨w.heap.size + 1, 4, none⟩ = false := blk_frozen Bz_5.out 4
  have dz5 : w5.cell? ⟨w.heap.size + 1, 5, none⟩ = some (.int .i64 r6) := (blk_cell Bz_5.out 5).trans rfl
  have fz5 : w5.frozen? ⟨w.heap.size + 1, 5, none⟩ = false := blk_frozen Bz_5.out 5
  have dz6 : w5.cell? ⟨w.heap.size + 1, 6, none⟩ = some (.int .i64 r7) := (blk_cell Bz_5.out 6).trans rfl
  have fz6 : w5.frozen? ⟨w.heap.size + 1, 6, none⟩ = false := blk_frozen Bz_5.out 6
  have dz7 : w5.cell? ⟨w.heap.size + 1, 7, none⟩ = some (.int .i64 r8) := (blk_cell Bz_5.out 7).trans rfl
  have fz7 : w5.frozen? ⟨w.heap.size + 1, 7, none⟩ = false := blk_frozen Bz_5.out 7
  have dz8 : w5.cell? ⟨w.heap.size + 1, 8, none⟩ = some (.int .i64 r9) := (blk_cell Bz_5.out 8).trans rfl
  have fz8 : w5.frozen? ⟨w.heap.size + 1, 8, none⟩ = false := blk_frozen Bz_5.out 8
  refine bodyPost_ret (v := .tuple #[.agg #[.int .u64 r1, .int .i64 r2, .int .i64 r3, .int .i64 r4, .int .u64 r5, .int .i64 r6, .int .i64 r7, .int .i64 r8, .int .i64 r9], .int .i64 r10]) (by simp [results, Try.results23, go_sem, dz0, dz1, dz2, dz3, dz4, dz5, dz6, dz7, dz8]) rfl ⟨rfl, HC_5.out, HU_5.out⟩
def fire_T9 : Bool × List (List Nat × List Nat) := (true, [([], []), ([], []), ([], []), ([2], [2]), ([], []), ([0, 1, 3, 4, 3], [0, 1, 3, 4]), ([5], [5]), ([6], [6]), ([6], [6]), ([6], [6]), ([], []), ([10, 7, 5, 0, 1, 2, 3, 4, 5, 6, 7, 10], [7, 10]), ([8, 11, 0, 1, 2, 3, 4, 5, 6, 7, 8, 10, 11], [8]), ([9, 12, 0, 1, 2, 3, 4, 5, 6, 7, 8, 9, 10, 11, 12], [9])])
def fire_B9 : List Nat := [0, 0, 0, 4, 0, 31, 63, 127, 127, 127, 0, 1279, 3583, 8191]
theorem fire_tab9 : rtab .any (opsOf Try.f27 9) = fire_T9 := by kernel_rfl
theorem fire_bits9 : waitsOk fire_T9.2 fire_B9 = true := by kernel_rfl
set_option maxHeartbeats 4000000 in
set_option maxRecDepth 100000 in
theorem tkfire_more (cal re ba now id co lv gn fr lf du tl a b c d e : Int) (w : World) (h : ClkAt w n kb ab pb cb off week closed) (hn : n ≤ w.heap.size) (hq : Kd.C k98 w A ls.length ls ∧ ls.length ≤ k) (hg : goodP cal ls re ba = true) (l0 : 0 ≤ lv) (l1 : lv < ls.length) (hx : du ≤ now) (hd : nextP off week closed cal ls re ba lv now = (a, b, c, d, e)) (hm : moreP off week closed cal ls re ba lv now = true) (t0 : 0 ≤ tl) (t1 : tl ≤ 2147483646) :
    Calls Try.prog 27 #[.agg #[.int .u64 id, .int .i64 co, .int .i64 1, .int .i64 lv, .int .u64 gn, .int .i64 fr, .int .i64 lf, .int .i64 du, .int .i64 tl], .pointer (some ⟨kb, 0, none⟩), .agg #[.int .i64 cal, .slice A ls.length k, .int .i64 re, .int .i64 ba], .int .i64 now] w fun r w' => r = .returned (.tuple #[.agg #[.int .u64 id, .int .i64 co, .int .i64 1, .int .i64 a, .int .u64 0, .int .i64 b, .int .i64 c, .int .i64 d, .int .i64 (tl + 1)], .int .i64 lv, .int .i64 0]) ∧ ClkAt w' n kb ab pb cb off week closed ∧ Upd cb w w' := by
  have HD := Aside0.mk hd
  have HM := Aside0.mk hm
  have HW := Aside0.mk (wrap_id (show -9223372036854775808 ≤ tl + 1 by omega) (show tl + 1 ≤ 9223372036854775807 by omega))
  have HG := Aside0.mk (show (if goodP cal ls re ba = true then (0 : Int) else 2) = 0 by rw [hg]; rfl)
  have f1_ : decide (now < du) = false := decide_eq_false (by omega)
  have f2_ : decide (lv < 0) = false := decide_eq_false (by omega)
  have f3_ : decide ((ls.length : Int) ≤ lv) = false := decide_eq_false (by omega)
  have hnot : ∀ (x : Bool) (w : World), (Op.unary .not (.bool x)).run Try.prog w = .ok (.bool (!x)) w := fun _ _ => rfl
  clear hd hm hg
  have HB0 : Below w.heap.size w (((w.alloc (.cells #[.int .u64 id, .int .i64 co, .int .i64 1, .int .i64 lv, .int .u64 gn, .int .i64 fr, .int .i64 lf, .int .i64 du, .int .i64 tl] 24)).alloc (.cells #[.int .i64 cal, .slice A ls.length k, .int .i64 re, .int .i64 ba] 49)).alloc (.cells #[.int .u64 0, .int .i64 0, .int .i64 0, .int .i64 0, .int .u64 0, .int .i64 0, .int .i64 0, .int .i64 0, .int .i64 0] 24)) := (below_alloc (below_alloc (below_alloc (Below.refl w.heap.size w) (.cells #[.int .u64 id, .int .i64 co, .int .i64 1, .int .i64 lv, .int .u64 gn, .int .i64 fr, .int .i64 lf, .int .i64 du, .int .i64 tl] 24)) (.cells #[.int .i64 cal, .slice A ls.length k, .int .i64 re, .int .i64 ba] 49)) (.cells #[.int .u64 0, .int .i64 0, .int .i64 0, .int .i64 0, .int .u64 0, .int .i64 0, .int .i64 0, .int .i64 0, .int .i64 0] 24))
  have HC_1 := Aside0.mk (h.below HB0)
  have HU_1 := Aside0.mk (Upd.of_below (b := cb) HB0)
  have hs_1 : w.heap.size ≤ (((w.alloc (.cells #[.int .u64 id, .int .i64 co, .int .i64 1, .int .i64 lv, .int .u64 gn, .int .i64 fr, .int .i64 lf, .int .i64 du, .int .i64 tl] 24)).alloc (.cells #[.int .i64 cal, .slice A ls.length k, .int .i64 re, .int .i64 ba] 49)).alloc (.cells #[.int .u64 0, .int .i64 0, .int .i64 0, .int .i64 0, .int .u64 0, .int .i64 0, .int .i64 0, .int .i64 0, .int .i64 0] 24)).heap.size := HB0.size
  have HLq_1 : Aside0 (Kd.C k98 (((w.alloc (.cells #[.int .u64 id, .int .i64 co, .int .i64 1, .int .i64 lv, .int .u64 gn, .int .i64 fr, .int .i64 lf, .int .i64 du, .int .i64 tl] 24)).alloc (.cells #[.int .i64 cal, .slice A ls.length k, .int .i64 re, .int .i64 ba] 49)).alloc (.cells #[.int .u64 0, .int .i64 0, .int .i64 0, .int .i64 0, .int .u64 0, .int .i64 0, .int .i64 0, .int .i64 0, .int .i64 0] 24)) A ls.length ls ∧ ls.length ≤ k) := ⟨⟨Kd.C_below hq.1 HB0, hq.2⟩⟩
  have Bt_1 : Aside0 ((((w.alloc (.cells #[.int .u64 id, .int .i64 co, .int .i64 1, .int .i64 lv, .int .u64 gn, .int .i64 fr, .int .i64 lf, .int .i64 du, .int .i64 tl] 24)).alloc (.cells #[.int .i64 cal, .slice A ls.length k, .int .i64 re, .int .i64 ba] 49)).alloc (.cells #[.int .u64 0, .int .i64 0, .int .i64 0, .int .i64 0, .int .u64 0, .int .i64 0, .int .i64 0, .int .i64 0, .int .i64 0] 24)).heap[w.heap.size]? = some (.cells #[.int .u64 id, .int .i64 co, .int .i64 1, .int .i64 lv, .int .u64 gn, .int .i64 fr, .int .i64 lf, .int .i64 du, .int .i64 tl] 24 (0, 0))) := ⟨(blk_alloc (blk_alloc (blk_new w _) _) _)⟩
  have Bq_1 : Aside0 ((((w.alloc (.cells #[.int .u64 id, .int .i64 co, .int .i64 1, .int .i64 lv, .int .u64 gn, .int .i64 fr, .int .i64 lf, .int .i64 du, .int .i64 tl] 24)).alloc (.cells #[.int .i64 cal, .slice A ls.length k, .int .i64 re, .int .i64 ba] 49)).alloc (.cells #[.int .u64 0, .int .i64 0, .int .i64 0, .int .i64 0, .int .u64 0, .int .i64 0, .int .i64 0, .int .i64 0, .int .i64 0] 24)).heap[w.heap.size + 1]? = some (.cells #[.int .i64 cal, .slice A ls.length k, .int .i64 re, .int .i64 ba] 49 (0, 0))) := ⟨(blk_alloc (by simpa using blk_new (w.alloc (.cells #[.int .u64 id, .int .i64 co, .int .i64 1, .int .i64 lv, .int .u64 gn, .int .i64 fr, .int .i64 lf, .int .i64 du, .int .i64 tl] 24)) (.cells #[.int .i64 cal, .slice A ls.length k, .int .i64 re, .int .i64 ba] 49)) _)⟩
  have Bz_1 : Aside0 ((((w.alloc (.cells #[.int .u64 id, .int .i64 co, .int .i64 1, .int .i64 lv, .int .u64 gn, .int .i64 fr, .int .i64 lf, .int .i64 du, .int .i64 tl] 24)).alloc (.cells #[.int .i64 cal, .slice A ls.length k, .int .i64 re, .int .i64 ba] 49)).alloc (.cells #[.int .u64 0, .int .i64 0, .int .i64 0, .int .i64 0, .int .u64 0, .int .i64 0, .int .i64 0, .int .i64 0, .int .i64 0] 24)).heap[w.heap.size + 1 + 1]? = some (.cells #[.int .u64 0, .int .i64 0, .int .i64 0, .int .i64 0, .int .u64 0, .int .i64 0, .int .i64 0, .int .i64 0, .int .i64 0] 24 (0, 0))) := ⟨(by simpa using blk_new ((w.alloc (.cells #[.int .u64 id, .int .i64 co, .int .i64 1, .int .i64 lv, .int .u64 gn, .int .i64 fr, .int .i64 lf, .int .i64 du, .int .i64 tl] 24)).alloc (.cells #[.int .i64 cal, .slice A ls.length k, .int .i64 re, .int .i64 ba] 49)) (.cells #[.int .u64 0, .int .i64 0, .int .i64 0, .int .i64 0, .int .u64 0, .int .i64 0, .int .i64 0, .int .i64 0, .int .i64 0] 24))⟩
  have hz_1 : w.heap.size + 1 + 1 < (((w.alloc (.cells #[.int .u64 id, .int .i64 co, .int .i64 1, .int .i64 lv, .int .u64 gn, .int .i64 fr, .int .i64 lf, .int .i64 du, .int .i64 tl] 24)).alloc (.cells #[.int .i64 cal, .slice A ls.length k, .int .i64 re, .int .i64 ba] 49)).alloc (.cells #[.int .u64 0, .int .i64 0, .int .i64 0, .int .i64 0, .int .u64 0, .int .i64 0, .int .i64 0, .int .i64 0, .int .i64 0] 24)).heap.size := blk_lt Bz_1.out
  have hcb := h.lt
  clear h HB0 hq
  go_enter Try.func27, Try.ntmps27
  go_wp2_with fail
  generalize (((w.alloc (.cells #[.int .u64 id, .int .i64 co, .int .i64 1, .int .i64 lv, .int .u64 gn, .int .i64 fr, .int .i64 lf, .int .i64 du, .int .i64 tl] 24)).alloc (.cells #[.int .i64 cal, .slice A ls.length k, .int .i64 re, .int .i64 ba] 49)).alloc (.cells #[.int .u64 0, .int .i64 0, .int .i64 0, .int .i64 0, .int .u64 0, .int .i64 0, .int .i64 0, .int .i64 0, .int .i64 0] 24)) = w1 at HC_1 HU_1 hs_1 HLq_1 Bt_1 Bq_1 Bz_1 hz_1 ⊢
  have dt2 : w1.cell? ⟨w.heap.size, 2, none⟩ = some (.int .i64 1) := (blk_cell Bt_1.out 2).trans rfl
  have dt3 : w1.cell? ⟨w.heap.size, 3, none⟩ = some (.int .i64 lv) := (blk_cell Bt_1.out 3).trans rfl
  have dt7 : w1.cell? ⟨w.heap.size, 7, none⟩ = some (.int .i64 du) := (blk_cell Bt_1.out 7).trans rfl
  have dq0 : w1.cell? ⟨w.heap.size + 1, 0, none⟩ = some (.int .i64 cal) := (blk_cell Bq_1.out 0).trans rfl
  have dq1 : w1.cell? ⟨w.heap.size + 1, 1, none⟩ = some (.slice A ls.length k) := (blk_cell Bq_1.out 1).trans rfl
  have dq2 : w1.cell? ⟨w.heap.size + 1, 2, none⟩ = some (.int .i64 re) := (blk_cell Bq_1.out 2).trans rfl
  have dq3 : w1.cell? ⟨w.heap.size + 1, 3, none⟩ = some (.int .i64 ba) := (blk_cell Bq_1.out 3).trans rfl
  go_wp2_with (go_at_call 60; with_reducible refine (check14_any w1 HLq_1.out).mono ?_; rintro e w2 ⟨rfl, q1⟩; rw [HG.out]; clear dt2 dt3 dt7 dq0 dq1 dq2 dq3; have HC_2 := Aside0.mk (HC_1.out.below q1); have HU_2 := Aside0.mk (HU_1.out.then q1); have hs_2 : w1.heap.size ≤ w2.heap.size := q1.size; have HLq_2 : Aside0 (Kd.C k98 w2 A ls.length ls ∧ ls.length ≤ k) := ⟨⟨Kd.C_below HLq_1.out.1 q1, HLq_1.out.2⟩⟩; have Bt_2 := Aside0.mk (blk_below Bt_1.out q1); have Bq_2 := Aside0.mk (blk_below Bq_1.out q1); have Bz_2 := Aside0.mk (blk_below Bz_1.out q1); clear q1; have dt2 : w2.cell? ⟨w.heap.size, 2, none⟩ = some (.int .i64 1) := (blk_cell Bt_2.out 2).trans rfl; have dt3 : w2.cell? ⟨w.heap.size, 3, none⟩ = some (.int .i64 lv) := (blk_cell Bt_2.out 3).trans rfl; have dt7 : w2.cell? ⟨w.heap.size, 7, none⟩ = some (.int .i64 du) := (blk_cell Bt_2.out 7).trans rfl; have dq0 : w2.cell? ⟨w.heap.size + 1, 0, none⟩ = some (.int .i64 cal) := (blk_cell Bq_2.out 0).trans rfl; have dq1 : w2.cell? ⟨w.heap.size + 1, 1, none⟩ = some (.slice A ls.length k) := (blk_cell Bq_2.out 1).trans rfl; have dq2 : w2.cell? ⟨w.heap.size + 1, 2, none⟩ = some (.int .i64 re) := (blk_cell Bq_2.out 2).trans rfl; have dq3 : w2.cell? ⟨w.heap.size + 1, 3, none⟩ = some (.int .i64 ba) := (blk_cell Bq_2.out 3).trans rfl)
  have hb4 : Below w2.heap.size w2 w2.drew := below_drew1 (Below.refl _ _)
  clear dt2 dt3 dt7 dq0 dq1 dq2 dq3
  have HC_3 := Aside0.mk (HC_2.out.below hb4)
  have HU_3 := Aside0.mk (HU_2.out.then hb4)
  have hs_3 : w2.heap.size ≤ w2.drew.heap.size := hb4.size
  have HLq_3 : Aside0 (Kd.C k98 w2.drew A ls.length ls ∧ ls.length ≤ k) := ⟨⟨Kd.C_below HLq_2.out.1 hb4, HLq_2.out.2⟩⟩
  have Bt_3 := Aside0.mk (blk_below Bt_2.out hb4)
  have Bq_3 := Aside0.mk (blk_below Bq_2.out hb4)
  have Bz_3 := Aside0.mk (blk_below Bz_2.out hb4)
  clear hb4
  have z0 : w2.drew.cell? ⟨w.heap.size + 1, 0, none⟩ = some (.int .i64 cal) := (blk_cell Bq_3.out 0).trans rfl
  have z1 : w2.drew.cell? ⟨w.heap.size + 1, 1, none⟩ = some (.slice A ls.length k) := (blk_cell Bq_3.out 1).trans rfl
  have z2 : w2.drew.cell? ⟨w.heap.size + 1, 2, none⟩ = some (.int .i64 re) := (blk_cell Bq_3.out 2).trans rfl
  have z3 : w2.drew.cell? ⟨w.heap.size + 1, 3, none⟩ = some (.int .i64 ba) := (blk_cell Bq_3.out 3).trans rfl
  have z4 : w2.drew.cell? ⟨w.heap.size, 0, none⟩ = some (.int .u64 id) := (blk_cell Bt_3.out 0).trans rfl
  have z5 : w2.drew.cell? ⟨w.heap.size, 1, none⟩ = some (.int .i64 co) := (blk_cell Bt_3.out 1).trans rfl
  have z6 : w2.drew.cell? ⟨w.heap.size, 2, none⟩ = some (.int .i64 1) := (blk_cell Bt_3.out 2).trans rfl
  have z7 : w2.drew.cell? ⟨w.heap.size, 3, none⟩ = some (.int .i64 lv) := (blk_cell Bt_3.out 3).trans rfl
  have z8 : w2.drew.cell? ⟨w.heap.size, 4, none⟩ = some (.int .u64 gn) := (blk_cell Bt_3.out 4).trans rfl
  have z9 : w2.drew.cell? ⟨w.heap.size, 5, none⟩ = some (.int .i64 fr) := (blk_cell Bt_3.out 5).trans rfl
  have z10 : w2.drew.cell? ⟨w.heap.size, 6, none⟩ = some (.int .i64 lf) := (blk_cell Bt_3.out 6).trans rfl
  have z11 : w2.drew.cell? ⟨w.heap.size, 7, none⟩ = some (.int .i64 du) := (blk_cell Bt_3.out 7).trans rfl
  have z12 : w2.drew.cell? ⟨w.heap.size, 8, none⟩ = some (.int .i64 tl) := (blk_cell Bt_3.out 8).trans rfl
  refine start_ (n := 14) (S := fun w' => w'.cell? ⟨w.heap.size + 1, 0, none⟩ = some (.int .i64 cal) ∧ w'.cell? ⟨w.heap.size + 1, 1, none⟩ = some (.slice A ls.length k) ∧ w'.cell? ⟨w.heap.size + 1, 2, none⟩ = some (.int .i64 re) ∧ w'.cell? ⟨w.heap.size + 1, 3, none⟩ = some (.int .i64 ba) ∧ w'.cell? ⟨w.heap.size, 0, none⟩ = some (.int .u64 id) ∧ w'.cell? ⟨w.heap.size, 1, none⟩ = some (.int .i64 co) ∧ w'.cell? ⟨w.heap.size, 2, none⟩ = some (.int .i64 1) ∧ w'.cell? ⟨w.heap.size, 3, none⟩ = some (.int .i64 lv) ∧ w'.cell? ⟨w.heap.size, 4, none⟩ = some (.int .u64 gn) ∧ w'.cell? ⟨w.heap.size, 5, none⟩ = some (.int .i64 fr) ∧ w'.cell? ⟨w.heap.size, 6, none⟩ = some (.int .i64 lf) ∧ w'.cell? ⟨w.heap.size, 7, none⟩ = some (.int .i64 du) ∧ w'.cell? ⟨w.heap.size, 8, none⟩ = some (.int .i64 tl)) (ds := [11]) #[false, false, false, false, false, false, false, false, false, false, false, false, false, false] (by kernel_rfl) rfl rfl ⟨z0, z1, z2, z3, z4, z5, z6, z7, z8, z9, z10, z11, z12⟩ (fun hHeld => ?_); refine with_tabW fire_tab9 fire_bits9 (fun HT_ HW_ => ?_)
  clear z0 z1 z2 z3 z4 z5 z6 z7 z8 z9 z10 z11 z12
  generalize w2.drew = w3 at HC_3 HU_3 hs_3 HLq_3 Bt_3 Bq_3 Bz_3 hHeld ⊢
  refine pure_ (i := 0) (N := some 46) (v := ?_) (a' := ?_) #[true, false, false, false, false, false, false, false, false, false, false, false, false, false] rfl rfl (any_of HT_.out (by kernel_rfl)) (fun _ _ _ h => h) (Or.inl ⟨by rfl, ?_⟩) ?_ ?_
  rotate_left
  · intro w'
    go_simp
    with_reducible rfl
  rotate_left
  · simp only [Act.put, List.setIfInBounds_toArray, List.set_cons_zero, List.set_cons_succ, i64_w, i32_w]
    rfl
  refine pure_ (i := 4) (N := some 50) (v := ?_) (a' := ?_) #[true, false, false, false, true, false, false, false, false, false, false, false, false, false] rfl rfl (any_of HT_.out (by kernel_rfl)) (fun _ _ _ h => h) (Or.inl ⟨by rfl, ?_⟩) ?_ ?_
  rotate_left
  · intro w'
    go_simp
    with_reducible rfl
  rotate_left
  · simp only [Act.put, List.setIfInBounds_toArray, List.set_cons_zero, List.set_cons_succ, i64_w, i32_w]
    rfl
  refine take_ (i := 1) (N := some 47) (v := ?_) (a' := ?_) #[true, true, false, false, true, false, false, false, false, false, false, false, false, false] rfl rfl (take_ofW HT_.out HW_.out (by kernel_rfl)) (fun _ _ _ h => h) (Or.inl ⟨by rfl, ?_⟩) hHeld ?_ ?_
  rotate_left
  · rintro w' ⟨s0, s1, s2, s3, s4, s5, s6, s7, s8, s9, s10, s11, s12⟩
    go_simp
    with_reducible rfl
  rotate_left
  · simp only [Act.put, List.setIfInBounds_toArray, List.set_cons_zero, List.set_cons_succ, i64_w, i32_w]
    rfl
  refine take_ (i := 2) (N := some 48) (v := ?_) (a' := ?_) #[true, true, true, false, true, false, false, false, false, false, false, false, false, false] rfl rfl (take_ofW HT_.out HW_.out (by kernel_rfl)) (fun _ _ _ h => h) (Or.inl ⟨by rfl, ?_⟩) hHeld ?_ ?_
  rotate_left
  · rintro w' ⟨s0, s1, s2, s3, s4, s5, s6, s7, s8, s9, s10, s11, s12⟩
    go_simp
    with_reducible rfl
  rotate_left
  · simp only [Act.put, List.setIfInBounds_toArray, List.set_cons_zero, List.set_cons_succ, i64_w, i32_w]
    rfl
  refine join_ (σ := Nat) 3 #[true, true, true, true, true, true, true, true, true, true, true, false, false, false] (fun s_ => [(46, .pointer (some ⟨kb, 0, none⟩)), (50, .int .i64 now), (48, .agg #[.int .u64 id, .int .i64 co, .int .i64 1, .int .i64 lv, .int .u64 gn, .int .i64 fr, .int .i64 lf, .int .i64 du, .int .i64 tl]), (47, .agg #[.int .i64 cal, .slice A ls.length k, .int .i64 re, .int .i64 ba]), (49, .agg #[.int .i64 lv, .int .i64 fr, .int .i64 lf, .int .i64 du]), (51, .tuple #[.agg #[.int .i64 a, .int .i64 b, .int .i64 c, .int .i64 d], .bool true, .int .i64 e]), (45, .tuple #[.agg #[.int .i64 a, .int .i64 b, .int .i64 c, .int .i64 d], .bool true, .int .i64 e]), (52, .agg #[.int .i64 a, .int .i64 b, .int .i64 c, .int .i64 d]), (53, .bool true), (54, .int .i64 e), (13, .pointer (some ⟨s_, 0, none⟩))]) (fun s_ w' => (w'.cell? ⟨w.heap.size + 1, 0, none⟩ = some (.int .i64 cal) ∧ w'.cell? ⟨w.heap.size + 1, 1, none⟩ = some (.slice A ls.length k) ∧ w'.cell? ⟨w.heap.size + 1, 2, none⟩ = some (.int .i64 re) ∧ w'.cell? ⟨w.heap.size + 1, 3, none⟩ = some (.int .i64 ba) ∧ w'.cell? ⟨w.heap.size, 0, none⟩ = some (.int .u64 id) ∧ w'.cell? ⟨w.heap.size, 1, none⟩ = some (.int .i64 co) ∧ w'.cell? ⟨w.heap.size, 2, none⟩ = some (.int .i64 1) ∧ w'.cell? ⟨w.heap.size, 3, none⟩ = some (.int .i64 lv) ∧ w'.cell? ⟨w.heap.size, 4, none⟩ = some (.int .u64 gn) ∧ w'.cell? ⟨w.heap.size, 5, none⟩ = some (.int .i64 fr) ∧ w'.cell? ⟨w.heap.size, 6, none⟩ = some (.int .i64 lf) ∧ w'.cell? ⟨w.heap.size, 7, none⟩ = some (.int .i64 du) ∧ w'.cell? ⟨w.heap.size, 8, none⟩ = some (.int .i64 tl)) ∧ ClkAt w' n kb ab pb cb off week closed ∧ Upd cb w w' ∧ w'.heap[w.heap.size]? = some (.cells #[.int .u64 id, .int .i64 co, .int .i64 1, .int .i64 lv, .int .u64 gn, .int .i64 fr, .int .i64 lf, .int .i64 du, .int .i64 tl] 24 (0, 0)) ∧ w'.heap[w.heap.size + 1]? = some (.cells #[.int .i64 cal, .slice A ls.length k, .int .i64 re, .int .i64 ba] 49 (0, 0)) ∧ w'.heap[w.heap.size + 1 + 1]? = some (.cells #[.int .u64 0, .int .i64 0, .int .i64 0, .int .i64 0, .int .u64 0, .int .i64 0, .int .i64 0, .int .i64 0, .int .i64 0] 24 (0, 0)) ∧ w'.heap[s_]? = some (.cells #[.int .i64 0, .int .i64 0, .int .i64 0, .int .i64 0] 108 (0, 0)) ∧ w.heap.size + 1 + 1 < s_) ?_ ?_
  rotate_left
  · intro hCont
    refine two_ (i := 3) (j := 10) (Ni := some 49) (Nj := some 13) #[true, true, true, true, true, false, false, false, false, false, false, false, false, false] #[true, true, true, false, true, false, false, false, false, false, true, false, false, false] rfl rfl rfl rfl (two_of HT_.out (by kernel_rfl)) (by decide) (by decide) (fun K hK => ?_) (fun K hK => ?_)
    · skip
      refine goes_ Try.func59 (by kernel_rfl) rfl #[.agg #[.int .u64 id, .int .i64 co, .int .i64 1, .int .i64 lv, .int .u64 gn, .int .i64 fr, .int .i64 lf, .int .i64 du, .int .i64 tl]] (by rfl) rfl rfl (by (try simp only [List.map_toArray, List.map_cons, List.map_nil]); first | done | rfl) ?_
      refine (ticket_step.calls id co 1 lv gn fr lf du tl lv fr lf du _ rfl).mono ?_
      rintro e w4 ⟨rfl, q1⟩
      refine ⟨_, rfl, ?_⟩
      have HC_4 := Aside0.mk (HC_3.out.below q1)
      have HU_4 := Aside0.mk (HU_3.out.then q1)
      have hs_4 : w3.heap.size ≤ w4.heap.size := q1.size
      have HLq_4 : Aside0 (Kd.C k98 w4 A ls.length ls ∧ ls.length ≤ k) := ⟨⟨Kd.C_below HLq_3.out.1 q1, HLq_3.out.2⟩⟩
      have Bt_4 := Aside0.mk (blk_below Bt_3.out q1)
      have Bq_4 := Aside0.mk (blk_below Bq_3.out q1)
      have Bz_4 := Aside0.mk (blk_below Bz_3.out q1)
      clear q1
      refine hK.out _ _ ⟨(blk_cell Bq_4.out 0).trans rfl, (blk_cell Bq_4.out 1).trans rfl, (blk_cell Bq_4.out 2).trans rfl, (blk_cell Bq_4.out 3).trans rfl, (blk_cell Bt_4.out 0).trans rfl, (blk_cell Bt_4.out 1).trans rfl, (blk_cell Bt_4.out 2).trans rfl, (blk_cell Bt_4.out 3).trans rfl, (blk_cell Bt_4.out 4).trans rfl, (blk_cell Bt_4.out 5).trans rfl, (blk_cell Bt_4.out 6).trans rfl, (blk_cell Bt_4.out 7).trans rfl, (blk_cell Bt_4.out 8).trans rfl⟩ (fun hHeld => ?_)
      clear hK K
      refine norm_ (a' := ?_) ?_ ?_
      rotate_left
      · show Act.put _ (some 49) _ = _
        simp only [Act.put, List.setIfInBounds_toArray, List.set_cons_zero, List.set_cons_succ, i64_w, i32_w]
        rfl
      refine two_ (i := 5) (j := 10) (Ni := some 51) (Nj := some 13) #[true, true, true, true, true, true, false, false, false, false, false, false, false, false] #[true, true, true, true, true, false, false, false, false, false, true, false, false, false] rfl rfl rfl rfl (two_of HT_.out (by kernel_rfl)) (by decide) (by decide) (fun K hK => ?_) (fun K hK => ?_)
      · skip
        refine goes_ Try.func61 (by kernel_rfl) rfl #[.pointer (some ⟨kb, 0, none⟩), .agg #[.int .i64 cal, .slice A ls.length k, .int .i64 re, .int .i64 ba], .agg #[.int .i64 lv, .int .i64 fr, .int .i64 lf, .int .i64 du], .int .i64 now] (by rfl) rfl rfl (by (try simp only [List.map_toArray, List.map_cons, List.map_nil]); first | done | rfl) ?_
        refine (stepnext_any cal re ba lv fr lf du now a b c d e true _ HC_4.out (by omega) HLq_4.out HD.out HM.out).mono ?_
        rintro e w5 ⟨rfl, q1, q2⟩
        refine ⟨_, rfl, ?_⟩
        have HC_5 := Aside0.mk q1
        have HU_5 := Aside0.mk (HU_4.out.trans q2)
        have hs_5 : w4.heap.size ≤ w5.heap.size := q2.size
        have Bt_5 := Aside0.mk (q2.blk Bt_4.out (by omega))
        have Bq_5 := Aside0.mk (q2.blk Bq_4.out (by omega))
        have Bz_5 := Aside0.mk (q2.blk Bz_4.out (by omega))
        clear q1 q2
        refine hK.out _ _ ⟨(blk_cell Bq_5.out 0).trans rfl, (blk_cell Bq_5.out 1).trans rfl, (blk_cell Bq_5.out 2).trans rfl, (blk_cell Bq_5.out 3).trans rfl, (blk_cell Bt_5.out 0).trans rfl, (blk_cell Bt_5.out 1).trans rfl, (blk_cell Bt_5.out 2).trans rfl, (blk_cell Bt_5.out 3).trans rfl, (blk_cell Bt_5.out 4).trans rfl, (blk_cell Bt_5.out 5).trans rfl, (blk_cell Bt_5.out 6).trans rfl, (blk_cell Bt_5.out 7).trans rfl, (blk_cell Bt_5.out 8).trans rfl⟩ (fun hHeld => ?_)
        clear hK K
        refine norm_ (a' := ?_) ?_ ?_
        rotate_left
        · show Act.put _ (some 51) _ = _
          simp only [Act.put, List.setIfInBounds_toArray, List.set_cons_zero, List.set_cons_succ, i64_w, i32_w]
          rfl
        refine pure_ (i := 6) (N := some 45) (v := ?_) (a' := ?_) #[true, true, true, true, true, true, true, false, false, false, false, false, false, false] rfl rfl (any_of HT_.out (by kernel_rfl)) (fun _ _ _ h => h) (Or.inl ⟨by rfl, ?_⟩) ?_ ?_
        rotate_left
        · intro w'
          go_simp
          with_reducible rfl
        rotate_left
        · simp only [Act.put, List.setIfInBounds_toArray, List.set_cons_zero, List.set_cons_succ, i64_w, i32_w]
          rfl
        refine pure_ (i := 7) (N := some 52) (v := ?_) (a' := ?_) #[true, true, true, true, true, true, true, true, false, false, false, false, false, false] rfl rfl (any_of HT_.out (by kernel_rfl)) (fun _ _ _ h => h) (Or.inl ⟨by rfl, ?_⟩) ?_ ?_
        rotate_left
        · intro w'
          go_simp
          with_reducible rfl
        rotate_left
        · simp only [Act.put, List.setIfInBounds_toArray, List.set_cons_zero, List.set_cons_succ, i64_w, i32_w]
          rfl
        refine pure_ (i := 8) (N := some 53) (v := ?_) (a' := ?_) #[true, true, true, true, true, true, true, true, true, false, false, false, false, false] rfl rfl (any_of HT_.out (by kernel_rfl)) (fun _ _ _ h => h) (Or.inl ⟨by rfl, ?_⟩) ?_ ?_
        rotate_left
        · intro w'
          go_simp
          with_reducible rfl
        rotate_left
        · simp only [Act.put, List.setIfInBounds_toArray, List.set_cons_zero, List.set_cons_succ, i64_w, i32_w]
          rfl
        refine pure_ (i := 9) (N := some 54) (v := ?_) (a' := ?_) #[true, true, true, true, true, true, true, true, true, true, false, false, false, false] rfl rfl (any_of HT_.out (by kernel_rfl)) (fun _ _ _ h => h) (Or.inl ⟨by rfl, ?_⟩) ?_ ?_
        rotate_left
        · intro w'
          go_simp
          with_reducible rfl
        rotate_left
        · simp only [Act.put, List.setIfInBounds_toArray, List.set_cons_zero, List.set_cons_succ, i64_w, i32_w]
          rfl
        refine one_ (i := 10) (N := some 13) #[true, true, true, true, true, true, true, true, true, true, true, false, false, false] rfl rfl (one_of HT_.out (by kernel_rfl)) (by decide) (fun K hK => ?_)
        refine box_step ?hg (N := 13) ?hd (cs := #[.int .i64 0, .int .i64 0, .int .i64 0, .int .i64 0]) (t := 108) ?hr ?_; (case hd => rfl); (case hg => rfl); (case hr => first | (go_simp; done) | (go_simp; rfl))
        intro gs hg w6 hbox hb
        have hgz : w.heap.size + 1 + 1 < gs := by rw [hg]; exact blk_lt Bz_5.out
        have HC_6 := Aside0.mk (HC_5.out.below hb)
        have HU_6 := Aside0.mk (HU_5.out.then hb)
        have hs_6 : w5.heap.size ≤ w6.heap.size := hb.size
        have Bt_6 := Aside0.mk (blk_below Bt_5.out hb)
        have Bq_6 := Aside0.mk (blk_below Bq_5.out hb)
        have Bz_6 := Aside0.mk (blk_below Bz_5.out hb)
        clear hb
        have Bs_6 := Aside0.mk hbox
        clear hbox hg
        refine hK.out _ _ ⟨(blk_cell Bq_6.out 0).trans rfl, (blk_cell Bq_6.out 1).trans rfl, (blk_cell Bq_6.out 2).trans rfl, (blk_cell Bq_6.out 3).trans rfl, (blk_cell Bt_6.out 0).trans rfl, (blk_cell Bt_6.out 1).trans rfl, (blk_cell Bt_6.out 2).trans rfl, (blk_cell Bt_6.out 3).trans rfl, (blk_cell Bt_6.out 4).trans rfl, (blk_cell Bt_6.out 5).trans rfl, (blk_cell Bt_6.out 6).trans rfl, (blk_cell Bt_6.out 7).trans rfl, (blk_cell Bt_6.out 8).trans rfl⟩ (fun hHeld => ?_)
        clear hK K
        refine norm_ (a' := ?_) ?_ ?_
        rotate_left
        · show Act.put _ (some 13) _ = _
          simp only [Act.put, List.setIfInBounds_toArray, List.set_cons_zero, List.set_cons_succ, i64_w, i32_w]
          rfl
        exact norm_ (by simp only [putAll, Act.put, List.setIfInBounds_toArray, List.set_cons_zero, List.set_cons_succ]) (hCont gs _ ⟨hHeld, HC_6.out, HU_6.out, Bt_6.out, Bq_6.out, Bz_6.out, Bs_6.out, hgz⟩)
      · skip
        refine box_step ?hg (N := 13) ?hd (cs := #[.int .i64 0, .int .i64 0, .int .i64 0, .int .i64 0]) (t := 108) ?hr ?_; (case hd => rfl); (case hg => rfl); (case hr => first | (go_simp; done) | (go_simp; rfl))
        intro gs hg w5 hbox hb
        have hgz : w.heap.size + 1 + 1 < gs := by rw [hg]; exact blk_lt Bz_4.out
        have HC_5 := Aside0.mk (HC_4.out.below hb)
        have HU_5 := Aside0.mk (HU_4.out.then hb)
        have hs_5 : w4.heap.size ≤ w5.heap.size := hb.size
        have HLq_5 : Aside0 (Kd.C k98 w5 A ls.length ls ∧ ls.length ≤ k) := ⟨⟨Kd.C_below HLq_4.out.1 hb, HLq_4.out.2⟩⟩
        have Bt_5 := Aside0.mk (blk_below Bt_4.out hb)
        have Bq_5 := Aside0.mk (blk_below Bq_4.out hb)
        have Bz_5 := Aside0.mk (blk_below Bz_4.out hb)
        clear hb
        have Bs_5 := Aside0.mk hbox
        clear hbox hg
        refine hK.out _ _ ⟨(blk_cell Bq_5.out 0).trans rfl, (blk_cell Bq_5.out 1).trans rfl, (blk_cell Bq_5.out 2).trans rfl, (blk_cell Bq_5.out 3).trans rfl, (blk_cell Bt_5.out 0).trans rfl, (blk_cell Bt_5.out 1).trans rfl, (blk_cell Bt_5.out 2).trans rfl, (blk_cell Bt_5.out 3).trans rfl, (blk_cell Bt_5.out 4).trans rfl, (blk_cell Bt_5.out 5).trans rfl, (blk_cell Bt_5.out 6).trans rfl, (blk_cell Bt_5.out 7).trans rfl, (blk_cell Bt_5.out 8).trans rfl⟩ (fun hHeld => ?_)
        clear hK K
        refine norm_ (a' := ?_) ?_ ?_
        rotate_left
        · show Act.put _ (some 13) _ = _
          simp only [Act.put, List.setIfInBounds_toArray, List.set_cons_zero, List.set_cons_succ, i64_w, i32_w]
          rfl
        refine one_ (i := 5) (N := some 51) #[true, true, true, true, true, true, false, false, false, false, true, false, false, false] rfl rfl (one_of HT_.out (by kernel_rfl)) (by decide) (fun K hK => ?_)
        refine goes_ Try.func61 (by kernel_rfl) rfl #[.pointer (some ⟨kb, 0, none⟩), .agg #[.int .i64 cal, .slice A ls.length k, .int .i64 re, .int .i64 ba], .agg #[.int .i64 lv, .int .i64 fr, .int .i64 lf, .int .i64 du], .int .i64 now] (by rfl) rfl rfl (by (try simp only [List.map_toArray, List.map_cons, List.map_nil]); first | done | rfl) ?_
        refine (stepnext_any cal re ba lv fr lf du now a b c d e true _ HC_5.out (by omega) HLq_5.out HD.out HM.out).mono ?_
        rintro e w6 ⟨rfl, q1, q2⟩
        refine ⟨_, rfl, ?_⟩
        have HC_6 := Aside0.mk q1
        have HU_6 := Aside0.mk (HU_5.out.trans q2)
        have hs_6 : w5.heap.size ≤ w6.heap.size := q2.size
        have Bt_6 := Aside0.mk (q2.blk Bt_5.out (by omega))
        have Bq_6 := Aside0.mk (q2.blk Bq_5.out (by omega))
        have Bz_6 := Aside0.mk (q2.blk Bz_5.out (by omega))
        have Bs_6 := Aside0.mk (q2.blk Bs_5.out (by omega))
        clear q1 q2
        refine hK.out _ _ ⟨(blk_cell Bq_6.out 0).trans rfl, (blk_cell Bq_6.out 1).trans rfl, (blk_cell Bq_6.out 2).trans rfl, (blk_cell Bq_6.out 3).trans rfl, (blk_cell Bt_6.out 0).trans rfl, (blk_cell Bt_6.out 1).trans rfl, (blk_cell Bt_6.out 2).trans rfl, (blk_cell Bt_6.out 3).trans rfl, (blk_cell Bt_6.out 4).trans rfl, (blk_cell Bt_6.out 5).trans rfl, (blk_cell Bt_6.out 6).trans rfl, (blk_cell Bt_6.out 7).trans rfl, (blk_cell Bt_6.out 8).trans rfl⟩ (fun hHeld => ?_)
        clear hK K
        refine norm_ (a' := ?_) ?_ ?_
        rotate_left
        · show Act.put _ (some 51) _ = _
          simp only [Act.put, List.setIfInBounds_toArray, List.set_cons_zero, List.set_cons_succ, i64_w, i32_w]
          rfl
        refine pure_ (i := 6) (N := some 45) (v := ?_) (a' := ?_) #[true, true, true, true, true, true, true, false, false, false, true, false, false, false] rfl rfl (any_of HT_.out (by kernel_rfl)) (fun _ _ _ h => h) (Or.inl ⟨by rfl, ?_⟩) ?_ ?_
        rotate_left
        · intro w'
          go_simp
          with_reducible rfl
        rotate_left
        · simp only [Act.put, List.setIfInBounds_toArray, List.set_cons_zero, List.set_cons_succ, i64_w, i32_w]
          rfl
        refine pure_ (i := 7) (N := some 52) (v := ?_) (a' := ?_) #[true, true, true, true, true, true, true, true, false, false, true, false, false, false] rfl rfl (any_of HT_.out (by kernel_rfl)) (fun _ _ _ h => h) (Or.inl ⟨by rfl, ?_⟩) ?_ ?_
        rotate_left
        · intro w'
          go_simp
          with_reducible rfl
        rotate_left
        · simp only [Act.put, List.setIfInBounds_toArray, List.set_cons_zero, List.set_cons_succ, i64_w, i32_w]
          rfl
        refine pure_ (i := 8) (N := some 53) (v := ?_) (a' := ?_) #[true, true, true, true, true, true, true, true, true, false, true, false, false, false] rfl rfl (any_of HT_.out (by kernel_rfl)) (fun _ _ _ h => h) (Or.inl ⟨by rfl, ?_⟩) ?_ ?_
        rotate_left
        · intro w'
          go_simp
          with_reducible rfl
        rotate_left
        · simp only [Act.put, List.setIfInBounds_toArray, List.set_cons_zero, List.set_cons_succ, i64_w, i32_w]
          rfl
        refine pure_ (i := 9) (N := some 54) (v := ?_) (a' := ?_) #[true, true, true, true, true, true, true, true, true, true, true, false, false, false] rfl rfl (any_of HT_.out (by kernel_rfl)) (fun _ _ _ h => h) (Or.inl ⟨by rfl, ?_⟩) ?_ ?_
        rotate_left
        · intro w'
          go_simp
          with_reducible rfl
        rotate_left
        · simp only [Act.put, List.setIfInBounds_toArray, List.set_cons_zero, List.set_cons_succ, i64_w, i32_w]
          rfl
        exact norm_ (by simp only [putAll, Act.put, List.setIfInBounds_toArray, List.set_cons_zero, List.set_cons_succ]) (hCont gs _ ⟨hHeld, HC_6.out, HU_6.out, Bt_6.out, Bq_6.out, Bz_6.out, Bs_6.out, hgz⟩)
    · skip
      refine box_step ?hg (N := 13) ?hd (cs := #[.int .i64 0, .int .i64 0, .int .i64 0, .int .i64 0]) (t := 108) ?hr ?_; (case hd => rfl); (case hg => rfl); (case hr => first | (go_simp; done) | (go_simp; rfl))
      intro gs hg w4 hbox hb
      have hgz : w.heap.size + 1 + 1 < gs := by rw [hg]; exact blk_lt Bz_3.out
      have HC_4 := Aside0.mk (HC_3.out.below hb)
      have HU_4 := Aside0.mk (HU_3.out.then hb)
      have hs_4 : w3.heap.size ≤ w4.heap.size := hb.size
      have HLq_4 : Aside0 (Kd.C k98 w4 A ls.length ls ∧ ls.length ≤ k) := ⟨⟨Kd.C_below HLq_3.out.1 hb, HLq_3.out.2⟩⟩
      have Bt_4 := Aside0.mk (blk_below Bt_3.out hb)
      have Bq_4 := Aside0.mk (blk_below Bq_3.out hb)
      have Bz_4 := Aside0.mk (blk_below Bz_3.out hb)
      clear hb
      have Bs_4 := Aside0.mk hbox
      clear hbox hg
      refine hK.out _ _ ⟨(blk_cell Bq_4.out 0).trans rfl, (blk_cell Bq_4.out 1).trans rfl, (blk_cell Bq_4.out 2).trans rfl, (blk_cell Bq_4.out 3).trans rfl, (blk_cell Bt_4.out 0).trans rfl, (blk_cell Bt_4.out 1).trans rfl, (blk_cell Bt_4.out 2).trans rfl, (blk_cell Bt_4.out 3).trans rfl, (blk_cell Bt_4.out 4).trans rfl, (blk_cell Bt_4.out 5).trans rfl, (blk_cell Bt_4.out 6).trans rfl, (blk_cell Bt_4.out 7).trans rfl, (blk_cell Bt_4.out 8).trans rfl⟩ (fun hHeld => ?_)
      clear hK K
      refine norm_ (a' := ?_) ?_ ?_
      rotate_left
      · show Act.put _ (some 13) _ = _
        simp only [Act.put, List.setIfInBounds_toArray, List.set_cons_zero, List.set_cons_succ, i64_w, i32_w]
        rfl
      refine one_ (i := 3) (N := some 49) #[true, true, true, true, true, false, false, false, false, false, true, false, false, false] rfl rfl (one_of HT_.out (by kernel_rfl)) (by decide) (fun K hK => ?_)
      refine goes_ Try.func59 (by kernel_rfl) rfl #[.agg #[.int .u64 id, .int .i64 co, .int .i64 1, .int .i64 lv, .int .u64 gn, .int .i64 fr, .int .i64 lf, .int .i64 du, .int .i64 tl]] (by rfl) rfl rfl (by (try simp only [List.map_toArray, List.map_cons, List.map_nil]); first | done | rfl) ?_
      refine (ticket_step.calls id co 1 lv gn fr lf du tl lv fr lf du _ rfl).mono ?_
      rintro e w5 ⟨rfl, q1⟩
      refine ⟨_, rfl, ?_⟩
      have HC_5 := Aside0.mk (HC_4.out.below q1)
      have HU_5 := Aside0.mk (HU_4.out.then q1)
      have hs_5 : w4.heap.size ≤ w5.heap.size := q1.size
      have HLq_5 : Aside0 (Kd.C k98 w5 A ls.length ls ∧ ls.length ≤ k) := ⟨⟨Kd.C_below HLq_4.out.1 q1, HLq_4.out.2⟩⟩
      have Bt_5 := Aside0.mk (blk_below Bt_4.out q1)
      have Bq_5 := Aside0.mk (blk_below Bq_4.out q1)
      have Bz_5 := Aside0.mk (blk_below Bz_4.out q1)
      have Bs_5 := Aside0.mk (blk_below Bs_4.out q1)
      clear q1
      refine hK.out _ _ ⟨(blk_cell Bq_5.out 0).trans rfl, (blk_cell Bq_5.out 1).trans rfl, (blk_cell Bq_5.out 2).trans rfl, (blk_cell Bq_5.out 3).trans rfl, (blk_cell Bt_5.out 0).trans rfl, (blk_cell Bt_5.out 1).trans rfl, (blk_cell Bt_5.out 2).trans rfl, (blk_cell Bt_5.out 3).trans rfl, (blk_cell Bt_5.out 4).trans rfl, (blk_cell Bt_5.out 5).trans rfl, (blk_cell Bt_5.out 6).trans rfl, (blk_cell Bt_5.out 7).trans rfl, (blk_cell Bt_5.out 8).trans rfl⟩ (fun hHeld => ?_)
      clear hK K
      refine norm_ (a' := ?_) ?_ ?_
      rotate_left
      · show Act.put _ (some 49) _ = _
        simp only [Act.put, List.setIfInBounds_toArray, List.set_cons_zero, List.set_cons_succ, i64_w, i32_w]
        rfl
      refine one_ (i := 5) (N := some 51) #[true, true, true, true, true, true, false, false, false, false, true, false, false, false] rfl rfl (one_of HT_.out (by kernel_rfl)) (by decide) (fun K hK => ?_)
      refine goes_ Try.func61 (by kernel_rfl) rfl #[.pointer (some ⟨kb, 0, none⟩), .agg #[.int .i64 cal, .slice A ls.length k, .int .i64 re, .int .i64 ba], .agg #[.int .i64 lv, .int .i64 fr, .int .i64 lf, .int .i64 du], .int .i64 now] (by rfl) rfl rfl (by (try simp only [List.map_toArray, List.map_cons, List.map_nil]); first | done | rfl) ?_
      refine (stepnext_any cal re ba lv fr lf du now a b c d e true _ HC_5.out (by omega) HLq_5.out HD.out HM.out).mono ?_
      rintro e w6 ⟨rfl, q1, q2⟩
      refine ⟨_, rfl, ?_⟩
      have HC_6 := Aside0.mk q1
      have HU_6 := Aside0.mk (HU_5.out.trans q2)
      have hs_6 : w5.heap.size ≤ w6.heap.size := q2.size
      have Bt_6 := Aside0.mk (q2.blk Bt_5.out (by omega))
      have Bq_6 := Aside0.mk (q2.blk Bq_5.out (by omega))
      have Bz_6 := Aside0.mk (q2.blk Bz_5.out (by omega))
      have Bs_6 := Aside0.mk (q2.blk Bs_5.out (by omega))
      clear q1 q2
      refine hK.out _ _ ⟨(blk_cell Bq_6.out 0).trans rfl, (blk_cell Bq_6.out 1).trans rfl, (blk_cell Bq_6.out 2).trans rfl, (blk_cell Bq_6.out 3).trans rfl, (blk_cell Bt_6.out 0).trans rfl, (blk_cell Bt_6.out 1).trans rfl, (blk_cell Bt_6.out 2).trans rfl, (blk_cell Bt_6.out 3).trans rfl, (blk_cell Bt_6.out 4).trans rfl, (blk_cell Bt_6.out 5).trans rfl, (blk_cell Bt_6.out 6).trans rfl, (blk_cell Bt_6.out 7).trans rfl, (blk_cell Bt_6.out 8).trans rfl⟩ (fun hHeld => ?_)
      clear hK K
      refine norm_ (a' := ?_) ?_ ?_
      rotate_left
      · show Act.put _ (some 51) _ = _
        simp only [Act.put, List.setIfInBounds_toArray, List.set_cons_zero, List.set_cons_succ, i64_w, i32_w]
        rfl
      refine pure_ (i := 6) (N := some 45) (v := ?_) (a' := ?_) #[true, true, true, true, true, true, true, false, false, false, true, false, false, false] rfl rfl (any_of HT_.out (by kernel_rfl)) (fun _ _ _ h => h) (Or.inl ⟨by rfl, ?_⟩) ?_ ?_
      rotate_left
      · intro w'
        go_simp
        with_reducible rfl
      rotate_left
      · simp only [Act.put, List.setIfInBounds_toArray, List.set_cons_zero, List.set_cons_succ, i64_w, i32_w]
        rfl
      refine pure_ (i := 7) (N := some 52) (v := ?_) (a' := ?_) #[true, true, true, true, true, true, true, true, false, false, true, false, false, false] rfl rfl (any_of HT_.out (by kernel_rfl)) (fun _ _ _ h => h) (Or.inl ⟨by rfl, ?_⟩) ?_ ?_
      rotate_left
      · intro w'
        go_simp
        with_reducible rfl
      rotate_left
      · simp only [Act.put, List.setIfInBounds_toArray, List.set_cons_zero, List.set_cons_succ, i64_w, i32_w]
        rfl
      refine pure_ (i := 8) (N := some 53) (v := ?_) (a' := ?_) #[true, true, true, true, true, true, true, true, true, false, true, false, false, false] rfl rfl (any_of HT_.out (by kernel_rfl)) (fun _ _ _ h => h) (Or.inl ⟨by rfl, ?_⟩) ?_ ?_
      rotate_left
      · intro w'
        go_simp
        with_reducible rfl
      rotate_left
      · simp only [Act.put, List.setIfInBounds_toArray, List.set_cons_zero, List.set_cons_succ, i64_w, i32_w]
        rfl
      refine pure_ (i := 9) (N := some 54) (v := ?_) (a' := ?_) #[true, true, true, true, true, true, true, true, true, true, true, false, false, false] rfl rfl (any_of HT_.out (by kernel_rfl)) (fun _ _ _ h => h) (Or.inl ⟨by rfl, ?_⟩) ?_ ?_
      rotate_left
      · intro w'
        go_simp
        with_reducible rfl
      rotate_left
      · simp only [Act.put, List.setIfInBounds_toArray, List.set_cons_zero, List.set_cons_succ, i64_w, i32_w]
        rfl
      exact norm_ (by simp only [putAll, Act.put, List.setIfInBounds_toArray, List.set_cons_zero, List.set_cons_succ]) (hCont gs _ ⟨hHeld, HC_6.out, HU_6.out, Bt_6.out, Bq_6.out, Bz_6.out, Bs_6.out, hgz⟩)
  rintro s_ w90 ⟨_, q1, q2, qb0, qb1, qb2, qb3, hgz⟩
  have HC_90 := Aside0.mk q1
  have HU_90 := Aside0.mk q2
  have hs_90 : w.heap.size ≤ w90.heap.size := q2.size
  have Bt_90 := Aside0.mk qb0
  have Bq_90 := Aside0.mk qb1
  have Bz_90 := Aside0.mk qb2
  have Bs_90 := Aside0.mk qb3
  clear q1 q2 qb0 qb1 qb2 qb3
  have ds0 : w90.cell? ⟨s_, 0, none⟩ = some (.int .i64 0) := (blk_cell Bs_90.out 0).trans rfl
  have fs0 : w90.frozen? ⟨s_, 0, none⟩ = false := blk_frozen Bs_90.out 0
  have ds1 : w90.cell? ⟨s_, 1, none⟩ = some (.int .i64 0) := (blk_cell Bs_90.out 1).trans rfl
  have fs1 : w90.frozen? ⟨s_, 1, none⟩ = false := blk_frozen Bs_90.out 1
  have ds2 : w90.cell? ⟨s_, 2, none⟩ = some (.int .i64 0) := (blk_cell Bs_90.out 2).trans rfl
  have fs2 : w90.frozen? ⟨s_, 2, none⟩ = false := blk_frozen Bs_90.out 2
  have ds3 : w90.cell? ⟨s_, 3, none⟩ = some (.int .i64 0) := (blk_cell Bs_90.out 3).trans rfl
  have fs3 : w90.frozen? ⟨s_, 3, none⟩ = false := blk_frozen Bs_90.out 3
  simp only [putAll, Act.put, List.setIfInBounds_toArray, List.set_cons_zero, List.set_cons_succ]
  refine last_ (i := 11) (N := none) #[true, true, true, true, true, true, true, true, true, true, true, true, false, false] rfl rfl (one_of HT_.out (by kernel_rfl)) (by decide) (fun K hK => ?_)
  refine skip_ (w1 := ?_) (by rfl) rfl ?_ ?_
  rotate_left 1
  · go_simp
    rfl
  refine hK.out _ _ ?_
  clear hK K
  refine pure_ (i := 12) (N := some 14) (v := ?_) (a' := ?_) #[true, true, true, true, true, true, true, true, true, true, true, true, true, false] rfl rfl (any_of HT_.out (by kernel_rfl)) (fun _ _ _ h => h) (Or.inl ⟨by rfl, ?_⟩) ?_ ?_
  rotate_left
  · intro w'
    go_simp
    with_reducible rfl
  rotate_left
  · simp only [Act.put, List.setIfInBounds_toArray, List.set_cons_zero, List.set_cons_succ, i64_w, i32_w]
    rfl
  refine pure_ (i := 13) (N := some 15) (v := ?_) (a' := ?_) #[true, true, true, true, true, true, true, true, true, true, true, true, true, true] rfl rfl (any_of HT_.out (by kernel_rfl)) (fun _ _ _ h => h) (Or.inl ⟨by rfl, ?_⟩) ?_ ?_
  rotate_left
  · intro w'
    go_simp
    with_reducible rfl
  rotate_left
  · simp only [Act.put, List.setIfInBounds_toArray, List.set_cons_zero, List.set_cons_succ, i64_w, i32_w]
    rfl
  refine done_ (done_of HT_.out (by kernel_rfl)) ?_
  clear HT_ HW_
  clear ds0 fs0 ds1 fs1 ds2 fs2 ds3 fs3
  have S_0 := And.intro HC_90.out HU_90.out
  have S_1 := step_set S_0.1 S_0.2 Bs_90.out ⟨by decide, by decide, by decide, by decide, by decide, by decide⟩ (by omega) 0 (.int .i64 a)
  have G_0 := blk_put (cs' := #[.int .i64 a, .int .i64 0, .int .i64 0, .int .i64 0]) Bs_90.out 0 (.int .i64 a) rfl
  have S_2 := step_set S_1.1 S_1.2 G_0 ⟨by decide, by decide, by decide, by decide, by decide, by decide⟩ (by omega) 1 (.int .i64 b)
  have G_1 := blk_put (cs' := #[.int .i64 a, .int .i64 b, .int .i64 0, .int .i64 0]) G_0 1 (.int .i64 b) rfl
  have S_3 := step_set S_2.1 S_2.2 G_1 ⟨by decide, by decide, by decide, by decide, by decide, by decide⟩ (by omega) 2 (.int .i64 c)
  have G_2 := blk_put (cs' := #[.int .i64 a, .int .i64 b, .int .i64 c, .int .i64 0]) G_1 2 (.int .i64 c) rfl
  have S_4 := step_set S_3.1 S_3.2 G_2 ⟨by decide, by decide, by decide, by decide, by decide, by decide⟩ (by omega) 3 (.int .i64 d)
  have G_3 := blk_put (cs' := #[.int .i64 a, .int .i64 b, .int .i64 c, .int .i64 d]) G_2 3 (.int .i64 d) rfl
  have HC_91 := Aside0.mk S_4.1
  have HU_91 := Aside0.mk S_4.2
  have Bs_91 := Aside0.mk G_3
  have hs_91 : w90.heap.size ≤ ((((w90.setCell ⟨s_, 0, none⟩ (.int .i64 a)).setCell ⟨s_, 1, none⟩ (.int .i64 b)).setCell ⟨s_, 2, none⟩ (.int .i64 c)).setCell ⟨s_, 3, none⟩ (.int .i64 d)).heap.size := by simp
  have Bt_91 : Aside0 (((((w90.setCell ⟨s_, 0, none⟩ (.int .i64 a)).setCell ⟨s_, 1, none⟩ (.int .i64 b)).setCell ⟨s_, 2, none⟩ (.int .i64 c)).setCell ⟨s_, 3, none⟩ (.int .i64 d)).heap[w.heap.size]? = _) := ⟨((Below.heap_setCell _ _ _ _ (by show w.heap.size ≠ s_; omega)).trans ((Below.heap_setCell _ _ _ _ (by show w.heap.size ≠ s_; omega)).trans ((Below.heap_setCell _ _ _ _ (by show w.heap.size ≠ s_; omega)).trans ((Below.heap_setCell _ _ _ _ (by show w.heap.size ≠ s_; omega)).trans Bt_90.out))))⟩
  have Bq_91 : Aside0 (((((w90.setCell ⟨s_, 0, none⟩ (.int .i64 a)).setCell ⟨s_, 1, none⟩ (.int .i64 b)).setCell ⟨s_, 2, none⟩ (.int .i64 c)).setCell ⟨s_, 3, none⟩ (.int .i64 d)).heap[w.heap.size + 1]? = _) := ⟨((Below.heap_setCell _ _ _ _ (by show w.heap.size + 1 ≠ s_; omega)).trans ((Below.heap_setCell _ _ _ _ (by show w.heap.size + 1 ≠ s_; omega)).trans ((Below.heap_setCell _ _ _ _ (by show w.heap.size + 1 ≠ s_; omega)).trans ((Below.heap_setCell _ _ _ _ (by show w.heap.size + 1 ≠ s_; omega)).trans Bq_90.out))))⟩
  have Bz_91 : Aside0 (((((w90.setCell ⟨s_, 0, none⟩ (.int .i64 a)).setCell ⟨s_, 1, none⟩ (.int .i64 b)).setCell ⟨s_, 2, none⟩ (.int .i64 c)).setCell ⟨s_, 3, none⟩ (.int .i64 d)).heap[w.heap.size + 1 + 1]? = _) := ⟨((Below.heap_setCell _ _ _ _ (by show w.heap.size + 1 + 1 ≠ s_; omega)).trans ((Below.heap_setCell _ _ _ _ (by show w.heap.size + 1 + 1 ≠ s_; omega)).trans ((Below.heap_setCell _ _ _ _ (by show w.heap.size + 1 + 1 ≠ s_; omega)).trans ((Below.heap_setCell _ _ _ _ (by show w.heap.size + 1 + 1 ≠ s_; omega)).trans Bz_90.out))))⟩
  clear S_0 S_1 S_2 S_3 S_4 G_0 G_1 G_2 G_3
  generalize ((((w90.setCell ⟨s_, 0, none⟩ (.int .i64 a)).setCell ⟨s_, 1, none⟩ (.int .i64 b)).setCell ⟨s_, 2, none⟩ (.int .i64 c)).setCell ⟨s_, 3, none⟩ (.int .i64 d)) = w91 at HC_91 HU_91 hs_91 Bt_91 Bq_91 Bz_91 Bs_91 ⊢
  have ds0 : w91.cell? ⟨s_, 0, none⟩ = some (.int .i64 a) := (blk_cell Bs_91.out 0).trans rfl
  have fs0 : w91.frozen? ⟨s_, 0, none⟩ = false := blk_frozen Bs_91.out 0
  have ds1 : w91.cell? ⟨s_, 1, none⟩ = some (.int .i64 b) := (blk_cell Bs_91.out 1).trans rfl
  have fs1 : w91.frozen? ⟨s_, 1, none⟩ = false := blk_frozen Bs_91.out 1
  have ds2 : w91.cell? ⟨s_, 2, none⟩ = some (.int .i64 c) := (blk_cell Bs_91.out 2).trans rfl
  have fs2 : w91.frozen? ⟨s_, 2, none⟩ = false := blk_frozen Bs_91.out 2
  have ds3 : w91.cell? ⟨s_, 3, none⟩ = some (.int .i64 d) := (blk_cell Bs_91.out 3).trans rfl
  have fs3 : w91.frozen? ⟨s_, 3, none⟩ = false := blk_frozen Bs_91.out 3
  clear ds0 fs0 ds1 fs1 ds2 fs2 ds3 fs3
  have dt0 : w91.cell? ⟨w.heap.size, 0, none⟩ = some (.int .u64 id) := (blk_cell Bt_91.out 0).trans rfl
  have ft0 : w91.frozen? ⟨w.heap.size, 0, none⟩ = false := blk_frozen Bt_91.out 0
  have dt1 : w91.cell? ⟨w.heap.size, 1, none⟩ = some (.int .i64 co) := (blk_cell Bt_91.out 1).trans rfl
  have ft1 : w91.frozen? ⟨w.heap.size, 1, none⟩ = false := blk_frozen Bt_91.out 1
  have dt2 : w91.cell? ⟨w.heap.size, 2, none⟩ = some (.int .i64 1) := (blk_cell Bt_91.out 2).trans rfl
  have ft2 : w91.frozen? ⟨w.heap.size, 2, none⟩ = false := blk_frozen Bt_91.out 2
  have dt3 : w91.cell? ⟨w.heap.size, 3, none⟩ = some (.int .i64 lv) := (blk_cell Bt_91.out 3).trans rfl
  have ft3 : w91.frozen? ⟨w.heap.size, 3, none⟩ = false := blk_frozen Bt_91.out 3
  have dt4 : w91.cell? ⟨w.heap.size, 4, none⟩ = some (.int .u64 gn) := (blk_cell Bt_91.out 4).trans rfl
  have ft4 : w91.frozen? ⟨w.heap.size, 4, none⟩ = false := blk_frozen Bt_91.out 4
  have dt5 : w91.cell? ⟨w.heap.size, 5, none⟩ = some (.int .i64 fr) := (blk_cell Bt_91.out 5).trans rfl
  have ft5 : w91.frozen? ⟨w.heap.size, 5, none⟩ = false := blk_frozen Bt_91.out 5
  have dt6 : w91.cell? ⟨w.heap.size, 6, none⟩ = some (.int .i64 lf) := (blk_cell Bt_91.out 6).trans rfl
  have ft6 : w91.frozen? ⟨w.heap.size, 6, none⟩ = false := blk_frozen Bt_91.out 6
  have dt7 : w91.cell? ⟨w.heap.size, 7, none⟩ = some (.int .i64 du) := (blk_cell Bt_91.out 7).trans rfl
  have ft7 : w91.frozen? ⟨w.heap.size, 7, none⟩ = false := blk_frozen Bt_91.out 7
  have dt8 : w91.cell? ⟨w.heap.size, 8, none⟩ = some (.int .i64 tl) := (blk_cell Bt_91.out 8).trans rfl
  have ft8 : w91.frozen? ⟨w.heap.size, 8, none⟩ = false := blk_frozen Bt_91.out 8
  have ds0 : w91.cell? ⟨s_, 0, none⟩ = some (.int .i64 a) := (blk_cell Bs_91.out 0).trans rfl
  have ds1 : w91.cell? ⟨s_, 1, none⟩ = some (.int .i64 b) := (blk_cell Bs_91.out 1).trans rfl
  have ds2 : w91.cell? ⟨s_, 2, none⟩ = some (.int .i64 c) := (blk_cell Bs_91.out 2).trans rfl
  have ds3 : w91.cell? ⟨s_, 3, none⟩ = some (.int .i64 d) := (blk_cell Bs_91.out 3).trans rfl
  go_upto_region 13 with (go_at_call 57; with_reducible refine (ticket_with.calls id co 1 lv gn fr lf du tl 1 a b c d 0 id co 1 a 0 b c d tl 0 w91 rfl).mono ?_; rintro e w92 ⟨rfl, q1⟩; clear dt0 ft0 dt1 ft1 dt2 ft2 dt3 ft3 dt4 ft4 dt5 ft5 dt6 ft6 dt7 ft7 dt8 ft8 ds0 ds1 ds2 ds3; have HC_92 := Aside0.mk (HC_91.out.below q1); have HU_92 := Aside0.mk (HU_91.out.then q1); have hs_92 : w91.heap.size ≤ w92.heap.size := q1.size; have Bt_92 := Aside0.mk (blk_below Bt_91.out q1); have Bq_92 := Aside0.mk (blk_below Bq_91.out q1); have Bz_92 := Aside0.mk (blk_below Bz_91.out q1); have Bs_92 := Aside0.mk (blk_below Bs_91.out q1); clear q1; have dt0 : w92.cell? ⟨w.heap.size, 0, none⟩ = some (.int .u64 id) := (blk_cell Bt_92.out 0).trans rfl; have ft0 : w92.frozen? ⟨w.heap.size, 0, none⟩ = false := blk_frozen Bt_92.out 0; have dt1 : w92.cell? ⟨w.heap.size, 1, none⟩ = some (.int .i64 co) := (blk_cell Bt_92.out 1).trans rfl; have ft1 : w92.frozen? ⟨w.heap.size, 1, none⟩ = false := blk_frozen Bt_92.out 1; have dt2 : w92.cell? ⟨w.heap.size, 2, none⟩ = some (.int .i64 1) := (blk_cell Bt_92.out 2).trans rfl; have ft2 : w92.frozen? ⟨w.heap.size, 2, none⟩ = false := blk_frozen Bt_92.out 2; have dt3 : w92.cell? ⟨w.heap.size, 3, none⟩ = some (.int .i64 lv) := (blk_cell Bt_92.out 3).trans rfl; have ft3 : w92.frozen? ⟨w.heap.size, 3, none⟩ = false := blk_frozen Bt_92.out 3; have dt4 : w92.cell? ⟨w.heap.size, 4, none⟩ = some (.int .u64 gn) := (blk_cell Bt_92.out 4).trans rfl; have ft4 : w92.frozen? ⟨w.heap.size, 4, none⟩ = false := blk_frozen Bt_92.out 4; have dt5 : w92.cell? ⟨w.heap.size, 5, none⟩ = some (.int .i64 fr) := (blk_cell Bt_92.out 5).trans rfl; have ft5 : w92.frozen? ⟨w.heap.size, 5, none⟩ = false := blk_frozen Bt_92.out 5; have dt6 : w92.cell? ⟨w.heap.size, 6, none⟩ = some (.int .i64 lf) := (blk_cell Bt_92.out 6).trans rfl; have ft6 : w92.frozen? ⟨w.heap.size, 6, none⟩ = false := blk_frozen Bt_92.out 6; have dt7 : w92.cell? ⟨w.heap.size, 7, none⟩ = some (.int .i64 du) := (blk_cell Bt_92.out 7).trans rfl; have ft7 : w92.frozen? ⟨w.heap.size, 7, none⟩ = false := blk_frozen Bt_92.out 7; have dt8 : w92.cell? ⟨w.heap.size, 8, none⟩ = some (.int .i64 tl) := (blk_cell Bt_92.out 8).trans rfl; have ft8 : w92.frozen? ⟨w.heap.size, 8, none⟩ = false := blk_frozen Bt_92.out 8; have ds0 : w92.cell? ⟨s_, 0, none⟩ = some (.int .i64 a) := (blk_cell Bs_92.out 0).trans rfl; have ds1 : w92.cell? ⟨s_, 1, none⟩ = some (.int .i64 b) := (blk_cell Bs_92.out 1).trans rfl; have ds2 : w92.cell? ⟨s_, 2, none⟩ = some (.int .i64 c) := (blk_cell Bs_92.out 2).trans rfl; have ds3 : w92.cell? ⟨s_, 3, none⟩ = some (.int .i64 d) := (blk_cell Bs_92.out 3).trans rfl)
  clear dt0 ft0 dt1 ft1 dt2 ft2 dt3 ft3 dt4 ft4 dt5 ft5 dt6 ft6 dt7 ft7 dt8 ft8 ds0 ds1 ds2 ds3
  have dt0 : w92.cell? ⟨w.heap.size, 0, none⟩ = some (.int .u64 id) := (blk_cell Bt_92.out 0).trans rfl
  have ft0 : w92.frozen? ⟨w.heap.size, 0, none⟩ = false := blk_frozen Bt_92.out 0
  have dt1 : w92.cell? ⟨w.heap.size, 1, none⟩ = some (.int .i64 co) := (blk_cell Bt_92.out 1).trans rfl
  have ft1 : w92.frozen? ⟨w.heap.size, 1, none⟩ = false := blk_frozen Bt_92.out 1
  have dt2 : w92.cell? ⟨w.heap.size, 2, none⟩ = some (.int .i64 1) := (blk_cell Bt_92.out 2).trans rfl
  have ft2 : w92.frozen? ⟨w.heap.size, 2, none⟩ = false := blk_frozen Bt_92.out 2
  have dt3 : w92.cell? ⟨w.heap.size, 3, none⟩ = some (.int .i64 lv) := (blk_cell Bt_92.out 3).trans rfl
  have ft3 : w92.frozen? ⟨w.heap.size, 3, none⟩ = false := blk_frozen Bt_92.out 3
  have dt4 : w92.cell? ⟨w.heap.size, 4, none⟩ = some (.int .u64 gn) := (blk_cell Bt_92.out 4).trans rfl
  have ft4 : w92.frozen? ⟨w.heap.size, 4, none⟩ = false := blk_frozen Bt_92.out 4
  have dt5 : w92.cell? ⟨w.heap.size, 5, none⟩ = some (.int .i64 fr) := (blk_cell Bt_92.out 5).trans rfl
  have ft5 : w92.frozen? ⟨w.heap.size, 5, none⟩ = false := blk_frozen Bt_92.out 5
  have dt6 : w92.cell? ⟨w.heap.size, 6, none⟩ = some (.int .i64 lf) := (blk_cell Bt_92.out 6).trans rfl
  have ft6 : w92.frozen? ⟨w.heap.size, 6, none⟩ = false := blk_frozen Bt_92.out 6
  have dt7 : w92.cell? ⟨w.heap.size, 7, none⟩ = some (.int .i64 du) := (blk_cell Bt_92.out 7).trans rfl
  have ft7 : w92.frozen? ⟨w.heap.size, 7, none⟩ = false := blk_frozen Bt_92.out 7
  have dt8 : w92.cell? ⟨w.heap.size, 8, none⟩ = some (.int .i64 tl) := (blk_cell Bt_92.out 8).trans rfl
  have ft8 : w92.frozen? ⟨w.heap.size, 8, none⟩ = false := blk_frozen Bt_92.out 8
  clear dt0 ft0 dt1 ft1 dt2 ft2 dt3 ft3 dt4 ft4 dt5 ft5 dt6 ft6 dt7 ft7 dt8 ft8
  have S_0 := And.intro HC_92.out HU_92.out
  have S_1 := step_set S_0.1 S_0.2 Bt_92.out ⟨by decide, by decide, by decide, by decide, by decide, by decide⟩ (by omega) 0 (.int .u64 id)
  have G_0 := blk_put (cs' := #[.int .u64 id, .int .i64 co, .int .i64 1, .int .i64 lv, .int .u64 gn, .int .i64 fr, .int .i64 lf, .int .i64 du, .int .i64 tl]) Bt_92.out 0 (.int .u64 id) rfl
  have S_2 := step_set S_1.1 S_1.2 G_0 ⟨by decide, by decide, by decide, by decide, by decide, by decide⟩ (by omega) 1 (.int .i64 co)
  have G_1 := blk_put (cs' := #[.int .u64 id, .int .i64 co, .int .i64 1, .int .i64 lv, .int .u64 gn, .int .i64 fr, .int .i64 lf, .int .i64 du, .int .i64 tl]) G_0 1 (.int .i64 co) rfl
  have S_3 := step_set S_2.1 S_2.2 G_1 ⟨by decide, by decide, by decide, by decide, by decide, by decide⟩ (by omega) 2 (.int .i64 1)
  have G_2 := blk_put (cs' := #[.int .u64 id, .int .i64 co, .int .i64 1, .int .i64 lv, .int .u64 gn, .int .i64 fr, .int .i64 lf, .int .i64 du, .int .i64 tl]) G_1 2 (.int .i64 1) rfl
  have S_4 := step_set S_3.1 S_3.2 G_2 ⟨by decide, by decide, by decide, by decide, by decide, by decide⟩ (by omega) 3 (.int .i64 a)
  have G_3 := blk_put (cs' := #[.int .u64 id, .int .i64 co, .int .i64 1, .int .i64 a, .int .u64 gn, .int .i64 fr, .int .i64 lf, .int .i64 du, .int .i64 tl]) G_2 3 (.int .i64 a) rfl
  have S_5 := step_set S_4.1 S_4.2 G_3 ⟨by decide, by decide, by decide, by decide, by decide, by decide⟩ (by omega) 4 (.int .u64 0)
  have G_4 := blk_put (cs' := #[.int .u64 id, .int .i64 co, .int .i64 1, .int .i64 a, .int .u64 0, .int .i64 fr, .int .i64 lf, .int .i64 du, .int .i64 tl]) G_3 4 (.int .u64 0) rfl
  have S_6 := step_set S_5.1 S_5.2 G_4 ⟨by decide, by decide, by decide, by decide, by decide, by decide⟩ (by omega) 5 (.int .i64 b)
  have G_5 := blk_put (cs' := #[.int .u64 id, .int .i64 co, .int .i64 1, .int .i64 a, .int .u64 0, .int .i64 b, .int .i64 lf, .int .i64 du, .int .i64 tl]) G_4 5 (.int .i64 b) rfl
  have S_7 := step_set S_6.1 S_6.2 G_5 ⟨by decide, by decide, by decide, by decide, by decide, by decide⟩ (by omega) 6 (.int .i64 c)
  have G_6 := blk_put (cs' := #[.int .u64 id, .int .i64 co, .int .i64 1, .int .i64 a, .int .u64 0, .int .i64 b, .int .i64 c, .int .i64 du, .int .i64 tl]) G_5 6 (.int .i64 c) rfl
  have S_8 := step_set S_7.1 S_7.2 G_6 ⟨by decide, by decide, by decide, by decide, by decide, by decide⟩ (by omega) 7 (.int .i64 d)
  have G_7 := blk_put (cs' := #[.int .u64 id, .int .i64 co, .int .i64 1, .int .i64 a, .int .u64 0, .int .i64 b, .int .i64 c, .int .i64 d, .int .i64 tl]) G_6 7 (.int .i64 d) rfl
  have S_9 := step_set S_8.1 S_8.2 G_7 ⟨by decide, by decide, by decide, by decide, by decide, by decide⟩ (by omega) 8 (.int .i64 tl)
  have G_8 := blk_put (cs' := #[.int .u64 id, .int .i64 co, .int .i64 1, .int .i64 a, .int .u64 0, .int .i64 b, .int .i64 c, .int .i64 d, .int .i64 tl]) G_7 8 (.int .i64 tl) rfl
  have HC_93 := Aside0.mk S_9.1
  have HU_93 := Aside0.mk S_9.2
  have Bt_93 := Aside0.mk G_8
  have hs_93 : w92.heap.size ≤ (((((((((w92.setCell ⟨w.heap.size, 0, none⟩ (.int .u64 id)).setCell ⟨w.heap.size, 1, none⟩ (.int .i64 co)).setCell ⟨w.heap.size, 2, none⟩ (.int .i64 1)).setCell ⟨w.heap.size, 3, none⟩ (.int .i64 a)).setCell ⟨w.heap.size, 4, none⟩ (.int .u64 0)).setCell ⟨w.heap.size, 5, none⟩ (.int .i64 b)).setCell ⟨w.heap.size, 6, none⟩ (.int .i64 c)).setCell ⟨w.heap.size, 7, none⟩ (.int .i64 d)).setCell ⟨w.heap.size, 8, none⟩ (.int .i64 tl)).heap.size := by simp
  have Bq_93 : Aside0 ((((((((((w92.setCell ⟨w.heap.size, 0, none⟩ (.int .u64 id)).setCell ⟨w.heap.size, 1, none⟩ (.int .i64 co)).setCell ⟨w.heap.size, 2, none⟩ (.int .i64 1)).setCell ⟨w.heap.size, 3, none⟩ (.int .i64 a)).setCell ⟨w.heap.size, 4, none⟩ (.int .u64 0)).setCell ⟨w.heap.size, 5, none⟩ (.int .i64 b)).setCell ⟨w.heap.size, 6, none⟩ (.int .i64 c)).setCell ⟨w.heap.size, 7, none⟩ (.int .i64 d)).setCell ⟨w.heap.size, 8, none⟩ (.int .i64 tl)).heap[w.heap.size + 1]? = _) := ⟨((Below.heap_setCell _ _ _ _ (by show w.heap.size + 1 ≠ w.heap.size; omega)).trans ((Below.heap_setCell _ _ _ _ (by show w.heap.size + 1 ≠ w.heap.size; omega)).trans ((Below.heap_setCell _ _ _ _ (by show w.heap.size + 1 ≠ w.heap.size; omega)).trans ((Below.heap_setCell _ _ _ _ (by show w.heap.size + 1 ≠ w.heap.size; omega)).trans ((Below.heap_setCell _ _ _ _ (by show w.heap.size + 1 ≠ w.heap.size; omega)).trans ((Below.heap_setCell _ _ _ _ (by show w.heap.size + 1 ≠ w.heap.size; omega)).trans ((Below.heap_setCell _ _ _ _ (by show w.heap.size + 1 ≠ w.heap.size; omega)).trans ((Below.heap_setCell _ _ _ _ (by show w.heap.size + 1 ≠ w.heap.size; omega)).trans ((Below.heap_setCell _ _ _ _ (by show w.heap.size + 1 ≠ w.heap.size; omega)).trans Bq_92.out)))))))))⟩
  have Bz_93 : Aside0 ((((((((((w92.setCell ⟨w.heap.size, 0, none⟩ (.int .u64 id)).setCell ⟨w.heap.size, 1, none⟩ (.int .i64 co)).setCell ⟨w.heap.size, 2, none⟩ (.int .i64 1)).setCell ⟨w.heap.size, 3, none⟩ (.int .i64 a)).setCell ⟨w.heap.size, 4, none⟩ (.int .u64 0)).setCell ⟨w.heap.size, 5, none⟩ (.int .i64 b)).setCell ⟨w.heap.size, 6, none⟩ (.int .i64 c)).setCell ⟨w.heap.size, 7, none⟩ (.int .i64 d)).setCell ⟨w.heap.size, 8, none⟩ (.int .i64 tl)).heap[w.heap.size + 1 + 1]? = _) := ⟨((Below.heap_setCell _ _ _ _ (by show w.heap.size + 1 + 1 ≠ w.heap.size; omega)).trans ((Below.heap_setCell _ _ _ _ (by show w.heap.size + 1 + 1 ≠ w.heap.size; omega)).trans ((Below.heap_setCell _ _ _ _ (by show w.heap.size + 1 + 1 ≠ w.heap.size; omega)).trans ((Below.heap_setCell _ _ _ _ (by show w.heap.size + 1 + 1 ≠ w.heap.size; omega)).trans ((Below.heap_setCell _ _ _ _ (by show w.heap.size + 1 + 1 ≠ w.heap.size; omega)).trans ((Below.heap_setCell _ _ _ _ (by show w.heap.size + 1 + 1 ≠ w.heap.size; omega)).trans ((Below.heap_setCell _ _ _ _ (by show w.heap.size + 1 + 1 ≠ w.heap.size; omega)).trans ((Below.heap_setCell _ _ _ _ (by show w.heap.size + 1 + 1 ≠ w.heap.size; omega)).trans ((Below.heap_setCell _ _ _ _ (by show w.heap.size + 1 + 1 ≠ w.heap.size; omega)).trans Bz_92.out)))))))))⟩
  have Bs_93 : Aside0 ((((((((((w92.setCell ⟨w.heap.size, 0, none⟩ (.int .u64 id)).setCell ⟨w.heap.size, 1, none⟩ (.int .i64 co)).setCell ⟨w.heap.size, 2, none⟩ (.int .i64 1)).setCell ⟨w.heap.size, 3, none⟩ (.int .i64 a)).setCell ⟨w.heap.size, 4, none⟩ (.int .u64 0)).setCell ⟨w.heap.size, 5, none⟩ (.int .i64 b)).setCell ⟨w.heap.size, 6, none⟩ (.int .i64 c)).setCell ⟨w.heap.size, 7, none⟩ (.int .i64 d)).setCell ⟨w.heap.size, 8, none⟩ (.int .i64 tl)).heap[s_]? = _) := ⟨((Below.heap_setCell _ _ _ _ (by show s_ ≠ w.heap.size; omega)).trans ((Below.heap_setCell _ _ _ _ (by show s_ ≠ w.heap.size; omega)).trans ((Below.heap_setCell _ _ _ _ (by show s_ ≠ w.heap.size; omega)).trans ((Below.heap_setCell _ _ _ _ (by show s_ ≠ w.heap.size; omega)).trans ((Below.heap_setCell _ _ _ _ (by show s_ ≠ w.heap.size; omega)).trans ((Below.heap_setCell _ _ _ _ (by show s_ ≠ w.heap.size; omega)).trans ((Below.heap_setCell _ _ _ _ (by show s_ ≠ w.heap.size; omega)).trans ((Below.heap_setCell _ _ _ _ (by show s_ ≠ w.heap.size; omega)).trans ((Below.heap_setCell _ _ _ _ (by show s_ ≠ w.heap.size; omega)).trans Bs_92.out)))))))))⟩
  clear S_0 S_1 S_2 S_3 S_4 S_5 S_6 S_7 S_8 S_9 G_0 G_1 G_2 G_3 G_4 G_5 G_6 G_7 G_8
  generalize (((((((((w92.setCell ⟨w.heap.size, 0, none⟩ (.int .u64 id)).setCell ⟨w.heap.size, 1, none⟩ (.int .i64 co)).setCell ⟨w.heap.size, 2, none⟩ (.int .i64 1)).setCell ⟨w.heap.size, 3, none⟩ (.int .i64 a)).setCell ⟨w.heap.size, 4, none⟩ (.int .u64 0)).setCell ⟨w.heap.size, 5, none⟩ (.int .i64 b)).setCell ⟨w.heap.size, 6, none⟩ (.int .i64 c)).setCell ⟨w.heap.size, 7, none⟩ (.int .i64 d)).setCell ⟨w.heap.size, 8, none⟩ (.int .i64 tl)) = w93 at HC_93 HU_93 hs_93 Bt_93 Bq_93 Bz_93 Bs_93 ⊢
  have dt8 : w93.cell? ⟨w.heap.size, 8, none⟩ = some (.int .i64 tl) := (blk_cell Bt_93.out 8).trans rfl
  have ft8 : w93.frozen? ⟨w.heap.size, 8, none⟩ = false := blk_frozen Bt_93.out 8
  have hW := HW.out
  have hmin : (2147483647 < tl) = False := eq_false (by omega)
  go_upto_region 14 with fail
  clear dt8 ft8
  have S_0 := And.intro HC_93.out HU_93.out
  have S_1 := step_set S_0.1 S_0.2 Bt_93.out ⟨by decide, by decide, by decide, by decide, by decide, by decide⟩ (by omega) 8 (.int .i64 (tl + 1))
  have G_0 := blk_put (cs' := #[.int .u64 id, .int .i64 co, .int .i64 1, .int .i64 a, .int .u64 0, .int .i64 b, .int .i64 c, .int .i64 d, .int .i64 (tl + 1)]) Bt_93.out 8 (.int .i64 (tl + 1)) rfl
  have HC_94 := Aside0.mk S_1.1
  have HU_94 := Aside0.mk S_1.2
  have Bt_94 := Aside0.mk G_0
  have hs_94 : w93.heap.size ≤ (w93.setCell ⟨w.heap.size, 8, none⟩ (.int .i64 (tl + 1))).heap.size := by simp
  have Bq_94 : Aside0 ((w93.setCell ⟨w.heap.size, 8, none⟩ (.int .i64 (tl + 1))).heap[w.heap.size + 1]? = _) := ⟨((Below.heap_setCell _ _ _ _ (by show w.heap.size + 1 ≠ w.heap.size; omega)).trans Bq_93.out)⟩
  have Bz_94 : Aside0 ((w93.setCell ⟨w.heap.size, 8, none⟩ (.int .i64 (tl + 1))).heap[w.heap.size + 1 + 1]? = _) := ⟨((Below.heap_setCell _ _ _ _ (by show w.heap.size + 1 + 1 ≠ w.heap.size; omega)).trans Bz_93.out)⟩
  have Bs_94 : Aside0 ((w93.setCell ⟨w.heap.size, 8, none⟩ (.int .i64 (tl + 1))).heap[s_]? = _) := ⟨((Below.heap_setCell _ _ _ _ (by show s_ ≠ w.heap.size; omega)).trans Bs_93.out)⟩
  clear S_0 S_1 G_0
  generalize (w93.setCell ⟨w.heap.size, 8, none⟩ (.int .i64 (tl + 1))) = w94 at HC_94 HU_94 hs_94 Bt_94 Bq_94 Bz_94 Bs_94 ⊢
  have dt8 : w94.cell? ⟨w.heap.size, 8, none⟩ = some (.int .i64 (tl + 1)) := (blk_cell Bt_94.out 8).trans rfl
  have ft8 : w94.frozen? ⟨w.heap.size, 8, none⟩ = false := blk_frozen Bt_94.out 8
  clear hW hmin
  clear dt8 ft8
  have dt0 : w94.cell? ⟨w.heap.size, 0, none⟩ = some (.int .u64 id) := (blk_cell Bt_94.out 0).trans rfl
  have dt1 : w94.cell? ⟨w.heap.size, 1, none⟩ = some (.int .i64 co) := (blk_cell Bt_94.out 1).trans rfl
  have dt2 : w94.cell? ⟨w.heap.size, 2, none⟩ = some (.int .i64 1) := (blk_cell Bt_94.out 2).trans rfl
  have dt3 : w94.cell? ⟨w.heap.size, 3, none⟩ = some (.int .i64 a) := (blk_cell Bt_94.out 3).trans rfl
  have dt4 : w94.cell? ⟨w.heap.size, 4, none⟩ = some (.int .u64 0) := (blk_cell Bt_94.out 4).trans rfl
  have dt5 : w94.cell? ⟨w.heap.size, 5, none⟩ = some (.int .i64 b) := (blk_cell Bt_94.out 5).trans rfl
  have dt6 : w94.cell? ⟨w.heap.size, 6, none⟩ = some (.int .i64 c) := (blk_cell Bt_94.out 6).trans rfl
  have dt7 : w94.cell? ⟨w.heap.size, 7, none⟩ = some (.int .i64 d) := (blk_cell Bt_94.out 7).trans rfl
  have dt8 : w94.cell? ⟨w.heap.size, 8, none⟩ = some (.int .i64 (tl + 1)) := (blk_cell Bt_94.out 8).trans rfl
  have dz0 : w94.cell? ⟨w.heap.size + 1 + 1, 0, none⟩ = some (.int .u64 0) := (blk_cell Bz_94.out 0).trans rfl
  have fz0 : w94.frozen? ⟨w.heap.size + 1 + 1, 0, none⟩ = false := blk_frozen Bz_94.out 0
  have dz1 : w94.cell? ⟨w.heap.size + 1 + 1, 1, none⟩ = some (.int .i64 0) := (blk_cell Bz_94.out 1).trans rfl
  have fz1 : w94.frozen? ⟨w.heap.size + 1 + 1, 1, none⟩ = false := blk_frozen Bz_94.out 1
  have dz2 : w94.cell? ⟨w.heap.size + 1 + 1, 2, none⟩ = some (.int .i64 0) := (blk_cell Bz_94.out 2).trans rfl
  have fz2 : w94.frozen? ⟨w.heap.size + 1 + 1, 2, none⟩ = false := blk_frozen Bz_94.out 2
  have dz3 : w94.cell? ⟨w.heap.size + 1 + 1, 3, none⟩ = some (.int .i64 0) := (blk_cell Bz_94.out 3).trans rfl
  have fz3 : w94.frozen? ⟨w.heap.size + 1 + 1, 3, none⟩ = false := blk_frozen Bz_94.out 3
  have dz4 : w94.cell? ⟨w.heap.size + 1 + 1, 4, none⟩ = some (.int .u64 0) := (blk_cell Bz_94.out 4).trans rfl
  have fz4 : w94.frozen? ⟨w.heap.size + 1 + 1, 4, none⟩ = false := blk_frozen Bz_94.out 4
  have dz5 : w94.cell? ⟨w.heap.size + 1 + 1, 5, none⟩ = some (.int .i64 0) := (blk_cell Bz_94.out 5).trans rfl
  have fz5 : w94.frozen? ⟨w.heap.size + 1 + 1, 5, none⟩ = false := blk_frozen Bz_94.out 5
  have dz6 : w94.cell? ⟨w.heap.size + 1 + 1, 6, none⟩ = some (.int .i64 0) := (blk_cell Bz_94.out 6).trans rfl
  have fz6 : w94.frozen? ⟨w.heap.size + 1 + 1, 6, none⟩ = false := blk_frozen Bz_94.out 6
  have dz7 : w94.cell? ⟨w.heap.size + 1 + 1, 7, none⟩ = some (.int .i64 0) := (blk_cell Bz_94.out 7).trans rfl
  have fz7 : w94.frozen? ⟨w.heap.size + 1 + 1, 7, none⟩ = false := blk_frozen Bz_94.out 7
  have dz8 : w94.cell? ⟨w.heap.size + 1 + 1, 8, none⟩ = some (.int .i64 0) := (blk_cell Bz_94.out 8).trans rfl
  have fz8 : w94.frozen? ⟨w.heap.size + 1 + 1, 8, none⟩ = false := blk_frozen Bz_94.out 8
  go_wp2
  clear dt0 dt1 dt2 dt3 dt4 dt5 dt6 dt7 dt8 dz0 fz0 dz1 fz1 dz2 fz2 dz3 fz3 dz4 fz4 dz5 fz5 dz6 fz6 dz7 fz7 dz8 fz8
  have S_0 := And.intro HC_94.out HU_94.out
  have S_1 := step_set S_0.1 S_0.2 Bz_94.out ⟨by decide, by decide, by decide, by decide, by decide, by decide⟩ (by omega) 0 (.int .u64 id)
  have G_0 := blk_put (cs' := #[.int .u64 id, .int .i64 0, .int .i64 0, .int .i64 0, .int .u64 0, .int .i64 0, .int .i64 0, .int .i64 0, .int .i64 0]) Bz_94.out 0 (.int .u64 id) rfl
  have S_2 := step_set S_1.1 S_1.2 G_0 ⟨by decide, by decide, by decide, by decide, by decide, by decide⟩ (by omega) 1 (.int .i64 co)
  have G_1 := blk_put (cs' := #[.int .u64 id, .int .i64 co, .int .i64 0, .int .i64 0, .int .u64 0, .int .i64 0, .int .i64 0, .int .i64 0, .int .i64 0]) G_0 1 (.int .i64 co) rfl
  have S_3 := step_set S_2.1 S_2.2 G_1 ⟨by decide, by decide, by decide, by decide, by decide, by decide⟩ (by omega) 2 (.int .i64 1)
  have G_2 := blk_put (cs' := #[.int .u64 id, .int .i64 co, .int .i64 1, .int .i64 0, .int .u64 0, .int .i64 0, .int .i64 0, .int .i64 0, .int .i64 0]) G_1 2 (.int .i64 1) rfl
  have S_4 := step_set S_3.1 S_3.2 G_2 ⟨by decide, by decide, by decide, by decide, by decide, by decide⟩ (by omega) 3 (.int .i64 a)
  have G_3 := blk_put (cs' := #[.int .u64 id, .int .i64 co, .int .i64 1, .int .i64 a, .int .u64 0, .int .i64 0, .int .i64 0, .int .i64 0, .int .i64 0]) G_2 3 (.int .i64 a) rfl
  have S_5 := step_set S_4.1 S_4.2 G_3 ⟨by decide, by decide, by decide, by decide, by decide, by decide⟩ (by omega) 4 (.int .u64 0)
  have G_4 := blk_put (cs' := #[.int .u64 id, .int .i64 co, .int .i64 1, .int .i64 a, .int .u64 0, .int .i64 0, .int .i64 0, .int .i64 0, .int .i64 0]) G_3 4 (.int .u64 0) rfl
  have S_6 := step_set S_5.1 S_5.2 G_4 ⟨by decide, by decide, by decide, by decide, by decide, by decide⟩ (by omega) 5 (.int .i64 b)
  have G_5 := blk_put (cs' := #[.int .u64 id, .int .i64 co, .int .i64 1, .int .i64 a, .int .u64 0, .int .i64 b, .int .i64 0, .int .i64 0, .int .i64 0]) G_4 5 (.int .i64 b) rfl
  have S_7 := step_set S_6.1 S_6.2 G_5 ⟨by decide, by decide, by decide, by decide, by decide, by decide⟩ (by omega) 6 (.int .i64 c)
  have G_6 := blk_put (cs' := #[.int .u64 id, .int .i64 co, .int .i64 1, .int .i64 a, .int .u64 0, .int .i64 b, .int .i64 c, .int .i64 0, .int .i64 0]) G_5 6 (.int .i64 c) rfl
  have S_8 := step_set S_7.1 S_7.2 G_6 ⟨by decide, by decide, by decide, by decide, by decide, by decide⟩ (by omega) 7 (.int .i64 d)
  have G_7 := blk_put (cs' := #[.int .u64 id, .int .i64 co, .int .i64 1, .int .i64 a, .int .u64 0, .int .i64 b, .int .i64 c, .int .i64 d, .int .i64 0]) G_6 7 (.int .i64 d) rfl
  have S_9 := step_set S_8.1 S_8.2 G_7 ⟨by decide, by decide, by decide, by decide, by decide, by decide⟩ (by omega) 8 (.int .i64 (tl + 1))
  have G_8 := blk_put (cs' := #[.int .u64 id, .int .i64 co, .int .i64 1, .int .i64 a, .int .u64 0, .int .i64 b, .int .i64 c, .int .i64 d, .int .i64 (tl + 1)]) G_7 8 (.int .i64 (tl + 1)) rfl
  have HC_95 := Aside0.mk S_9.1
  have HU_95 := Aside0.mk S_9.2
  have Bz_95 := Aside0.mk G_8
  have hs_95 : w94.heap.size ≤ (((((((((w94.setCell ⟨w.heap.size + 1 + 1, 0, none⟩ (.int .u64 id)).setCell ⟨w.heap.size + 1 + 1, 1, none⟩ (.int .i64 co)).setCell ⟨w.heap.size + 1 + 1, 2, none⟩ (.int .i64 1)).setCell ⟨w.heap.size + 1 + 1, 3, none⟩ (.int .i64 a)).setCell ⟨w.heap.size + 1 + 1, 4, none⟩ (.int .u64 0)).setCell ⟨w.heap.size + 1 + 1, 5, none⟩ (.int .i64 b)).setCell ⟨w.heap.size + 1 + 1, 6, none⟩ (.int .i64 c)).setCell ⟨w.heap.size + 1 + 1, 7, none⟩ (.int .i64 d)).setCell ⟨w.heap.size + 1 + 1, 8, none⟩ (.int .i64 (tl + 1))).heap.size := by simp
  have Bt_95 : Aside0 ((((((((((w94.setCell ⟨w.heap.size + 1 + 1, 0, none⟩ (.int .u64 id)).setCell ⟨w.heap.size + 1 + 1, 1, none⟩ (.int .i64 co)).setCell ⟨w.heap.size + 1 + 1, 2, none⟩ (.int .i64 1)).setCell ⟨w.heap.size + 1 + 1, 3, none⟩ (.int .i64 a)).setCell ⟨w.heap.size + 1 + 1, 4, none⟩ (.int .u64 0)).setCell ⟨w.heap.size + 1 + 1, 5, none⟩ (.int .i64 b)).setCell ⟨w.heap.size + 1 + 1, 6, none⟩ (.int .i64 c)).setCell ⟨w.heap.size + 1 + 1, 7, none⟩ (.int .i64 d)).setCell ⟨w.heap.size + 1 + 1, 8, none⟩ (.int .i64 (tl + 1))).heap[w.heap.size]? = _) := ⟨((Below.heap_setCell _ _ _ _ (by show w.heap.size ≠ w.heap.size + 1 + 1; omega)).trans ((Below.heap_setCell _ _ _ _ (by show w.heap.size ≠ w.heap.size + 1 + 1; omega)).trans ((Below.heap_setCell _ _ _ _ (by show w.heap.size ≠ w.heap.size + 1 + 1; omega)).trans ((Below.heap_setCell _ _ _ _ (by show w.heap.size ≠ w.heap.size + 1 + 1; omega)).trans ((Below.heap_setCell _ _ _ _ (by show w.heap.size ≠ w.heap.size + 1 + 1; omega)).trans ((Below.heap_setCell _ _ _ _ (by show w.heap.size ≠ w.heap.size + 1 + 1; omega)).trans ((Below.heap_setCell _ _ _ _ (by show w.heap.size ≠ w.heap.size + 1 + 1; omega)).trans ((Below.heap_setCell _ _ _ _ (by show w.heap.size ≠ w.heap.size + 1 + 1; omega)).trans ((Below.heap_setCell _ _ _ _ (by show w.heap.size ≠ w.heap.size + 1 + 1; omega)).trans Bt_94.out)))))))))⟩
  have Bq_95 : Aside0 ((((((((((w94.setCell ⟨w.heap.size + 1 + 1, 0, none⟩ (.int .u64 id)).setCell ⟨w.heap.size + 1 + 1, 1, none⟩ (.int .i64 co)).setCell ⟨w.heap.size + 1 + 1, 2, none⟩ (.int .i64 1)).setCell ⟨w.heap.size + 1 + 1, 3, none⟩ (.int .i64 a)).setCell ⟨w.heap.size + 1 + 1, 4, none⟩ (.int .u64 0)).setCell ⟨w.heap.size + 1 + 1, 5, none⟩ (.int .i64 b)).setCell ⟨w.heap.size + 1 + 1, 6, none⟩ (.int .i64 c)).setCell ⟨w.heap.size + 1 + 1, 7, none⟩ (.int .i64 d)).setCell ⟨w.heap.size + 1 + 1, 8, none⟩ (.int .i64 (tl + 1))).heap[w.heap.size + 1]? = _) := ⟨((Below.heap_setCell _ _ _ _ (by show w.heap.size + 1 ≠ w.heap.size + 1 + 1; omega)).trans ((Below.heap_setCell _ _ _ _ (by show w.heap.size + 1 ≠ w.heap.size + 1 + 1; omega)).trans ((Below.heap_setCell _ _ _ _ (by show w.heap.size + 1 ≠ w.heap.size + 1 + 1; omega)).trans ((Below.heap_setCell _ _ _ _ (by show w.heap.size + 1 ≠ w.heap.size + 1 + 1; omega)).trans ((Below.heap_setCell _ _ _ _ (by show w.heap.size + 1 ≠ w.heap.size + 1 + 1; omega)).trans ((Below.heap_setCell _ _ _ _ (by show w.heap.size + 1 ≠ w.heap.size + 1 + 1; omega)).trans ((Below.heap_setCell _ _ _ _ (by show w.heap.size + 1 ≠ w.heap.size + 1 + 1; omega)).trans ((Below.heap_setCell _ _ _ _ (by show w.heap.size + 1 ≠ w.heap.size + 1 + 1; omega)).trans ((Below.heap_setCell _ _ _ _ (by show w.heap.size + 1 ≠ w.heap.size + 1 + 1; omega)).trans Bq_94.out)))))))))⟩
  have Bs_95 : Aside0 ((((((((((w94.setCell ⟨w.heap.size + 1 + 1, 0, none⟩ (.int .u64 id)).setCell ⟨w.heap.size + 1 + 1, 1, none⟩ (.int .i64 co)).setCell ⟨w.heap.size + 1 + 1, 2, none⟩ (.int .i64 1)).setCell ⟨w.heap.size + 1 + 1, 3, none⟩ (.int .i64 a)).setCell ⟨w.heap.size + 1 + 1, 4, none⟩ (.int .u64 0)).setCell ⟨w.heap.size + 1 + 1, 5, none⟩ (.int .i64 b)).setCell ⟨w.heap.size + 1 + 1, 6, none⟩ (.int .i64 c)).setCell ⟨w.heap.size + 1 + 1, 7, none⟩ (.int .i64 d)).setCell ⟨w.heap.size + 1 + 1, 8, none⟩ (.int .i64 (tl + 1))).heap[s_]? = _) := ⟨((Below.heap_setCell _ _ _ _ (by show s_ ≠ w.heap.size + 1 + 1; omega)).trans ((Below.heap_setCell _ _ _ _ (by show s_ ≠ w.heap.size + 1 + 1; omega)).trans ((Below.heap_setCell _ _ _ _ (by show s_ ≠ w.heap.size + 1 + 1; omega)).trans ((Below.heap_setCell _ _ _ _ (by show s_ ≠ w.heap.size + 1 + 1; omega)).trans ((Below.heap_setCell _ _ _ _ (by show s_ ≠ w.heap.size + 1 + 1; omega)).trans ((Below.heap_setCell _ _ _ _ (by show s_ ≠ w.heap.size + 1 + 1; omega)).trans ((Below.heap_setCell _ _ _ _ (by show s_ ≠ w.heap.size + 1 + 1; omega)).trans ((Below.heap_setCell _ _ _ _ (by show s_ ≠ w.heap.size + 1 + 1; omega)).trans ((Below.heap_setCell _ _ _ _ (by show s_ ≠ w.heap.size + 1 + 1; omega)).trans Bs_94.out)))))))))⟩
  clear S_0 S_1 S_2 S_3 S_4 S_5 S_6 S_7 S_8 S_9 G_0 G_1 G_2 G_3 G_4 G_5 G_6 G_7 G_8
  generalize (((((((((w94.setCell ⟨w.heap.size + 1 + 1, 0, none⟩ (.int .u64 id)).setCell ⟨w.heap.size + 1 + 1, 1, none⟩ (.int .i64 co)).setCell ⟨w.heap.size + 1 + 1, 2, none⟩ (.int .i64 1)).setCell ⟨w.heap.size + 1 + 1, 3, none⟩ (.int .i64 a)).setCell ⟨w.heap.size + 1 + 1, 4, none⟩ (.int .u64 0)).setCell ⟨w.heap.size + 1 + 1, 5, none⟩ (.int .i64 b)).setCell ⟨w.heap.size + 1 + 1, 6, none⟩ (.int .i64 c)).setCell ⟨w.heap.size + 1 + 1, 7, none⟩ (.int .i64 d)).setCell ⟨w.heap.size + 1 + 1, 8, none⟩ (.int .i64 (tl + 1))) = w95 at HC_95 HU_95 hs_95 Bt_95 Bq_95 Bz_95 Bs_95 ⊢
  have dt0 : w95.cell? ⟨w.heap.size, 0, none⟩ = some (.int .u64 id) := (blk_cell Bt_95.out 0).trans rfl
  have dt1 : w95.cell? ⟨w.heap.size, 1, none⟩ = some (.int .i64 co) := (blk_cell Bt_95.out 1).trans rfl
  have dt2 : w95.cell? ⟨w.heap.size, 2, none⟩ = some (.int .i64 1) := (blk_cell Bt_95.out 2).trans rfl
  have dt3 : w95.cell? ⟨w.heap.size, 3, none⟩ = some (.int .i64 a) := (blk_cell Bt_95.out 3).trans rfl
  have dt4 : w95.cell? ⟨w.heap.size, 4, none⟩ = some (.int .u64 0) := (blk_cell Bt_95.out 4).trans rfl
  have dt5 : w95.cell? ⟨w.heap.size, 5, none⟩ = some (.int .i64 b) := (blk_cell Bt_95.out 5).trans rfl
  have dt6 : w95.cell? ⟨w.heap.size, 6, none⟩ = some (.int .i64 c) := (blk_cell Bt_95.out 6).trans rfl
  have dt7 : w95.cell? ⟨w.heap.size, 7, none⟩ = some (.int .i64 d) := (blk_cell Bt_95.out 7).trans rfl
  have dt8 : w95.cell? ⟨w.heap.size, 8, none⟩ = some (.int .i64 (tl + 1)) := (blk_cell Bt_95.out 8).trans rfl
  have dz0 : w95.cell? ⟨w.heap.size + 1 + 1, 0, none⟩ = some (.int .u64 id) := (blk_cell Bz_95.out 0).trans rfl
  have fz0 : w95.frozen? ⟨w.heap.size + 1 + 1, 0, none⟩ = false := blk_frozen Bz_95.out 0
  have dz1 : w95.cell? ⟨w.heap.size + 1 + 1, 1, none⟩ = some (.int .i64 co) := (blk_cell Bz_95.out 1).trans rfl
  have fz1 : w95.frozen? ⟨w.heap.size + 1 + 1, 1, none⟩ = false := blk_frozen Bz_95.out 1
  have dz2 : w95.cell? ⟨w.heap.size + 1 + 1, 2, none⟩ = some (.int .i64 1) := (blk_cell Bz_95.out 2).trans rfl
  have fz2 : w95.frozen? ⟨w.heap.size + 1 + 1, 2, none⟩ = false := blk_frozen Bz_95.out 2
  have dz3 : w95.cell? ⟨w.heap.size + 1 + 1, 3, none⟩ = some (.int .i64 a) := (blk_cell Bz_95.out 3).trans rfl
  have fz3 : w95.frozen? ⟨w.heap.size + 1 + 1, 3, none⟩ = false := blk_frozen Bz_95.out 3
  have dz4 : w95.cell? ⟨w.heap.size + 1 + 1, 4, none⟩ = some (.int .u64 0) := (blk_cell Bz_95.out 4).trans rfl
  have fz4 : w95.frozen? ⟨w.heap.size + 1 + 1, 4, none⟩ = false := blk_frozen Bz_95.out 4
  have dz5 : w95.cell? ⟨w.heap.size + 1 + 1, 5, none⟩ = some (.int .i64 b) := (blk_cell Bz_95.out 5).trans rfl
  have fz5 : w95.frozen? ⟨w.heap.size + 1 + 1, 5, none⟩ = false := blk_frozen Bz_95.out 5
  have dz6 : w95.cell? ⟨w.heap.size + 1 + 1, 6, none⟩ = some (.int .i64 c) := (blk_cell Bz_95.out 6).trans rfl
  have fz6 : w95.frozen? ⟨w.heap.size + 1 + 1, 6, none⟩ = false := blk_frozen Bz_95.out 6
  have dz7 : w95.cell? ⟨w.heap.size + 1 + 1, 7, none⟩ = some (.int .i64 d) := (blk_cell Bz_95.out 7).trans rfl
  have fz7 : w95.frozen? ⟨w.heap.size + 1 + 1, 7, none⟩ = false := blk_frozen Bz_95.out 7
  have dz8 : w95.cell? ⟨w.heap.size + 1 + 1, 8, none⟩ = some (.int .i64 (tl + 1)) := (blk_cell Bz_95.out 8).trans rfl
  have fz8 : w95.frozen? ⟨w.heap.size + 1 + 1, 8, none⟩ = false := blk_frozen Bz_95.out 8
  refine bodyPost_ret (v := .tuple #[.agg #[.int .u64 id, .int .i64 co, .int .i64 1, .int .i64 a, .int .u64 0, .int .i64 b, .int .i64 c, .int .i64 d, .int .i64 (tl + 1)], .int .i64 lv, .int .i64 0]) (by simp [results, Try.results27, go_sem, dz0, dz1, dz2, dz3, dz4, dz5, dz6, dz7, dz8]) rfl ⟨rfl, HC_95.out, HU_95.out⟩
set_option maxHeartbeats 4000000 in
set_option maxRecDepth 100000 in
theorem tkfire_last (cal re ba now id co lv gn fr lf du tl a b c d e : Int) (w : World) (h : ClkAt w n kb ab pb cb off week closed) (hn : n ≤ w.heap.size) (hq : Kd.C k98 w A ls.length ls ∧ ls.length ≤ k) (hg : goodP cal ls re ba = true) (l0 : 0 ≤ lv) (l1 : lv < ls.length) (hx : du ≤ now) (hd : nextP off week closed cal ls re ba lv now = (a, b, c, d, e)) (hm : moreP off week closed cal ls re ba lv now = false) (t0 : 0 ≤ tl) (t1 : tl ≤ 2147483646) :
    Calls Try.prog 27 #[.agg #[.int .u64 id, .int .i64 co, .int .i64 1, .int .i64 lv, .int .u64 gn, .int .i64 fr, .int .i64 lf, .int .i64 du, .int .i64 tl], .pointer (some ⟨kb, 0, none⟩), .agg #[.int .i64 cal, .slice A ls.length k, .int .i64 re, .int .i64 ba], .int .i64 now] w fun r w' => r = .returned (.tuple #[.agg #[.int .u64 id, .int .i64 co, .int .i64 3, .int .i64 lv, .int .u64 0, .int .i64 0, .int .i64 0, .int .i64 0, .int .i64 (tl + 1)], .int .i64 lv, .int .i64 0]) ∧ ClkAt w' n kb ab pb cb off week closed ∧ Upd cb w w' := by
  have HD := Aside0.mk hd
  have HM := Aside0.mk hm
  have HW := Aside0.mk (wrap_id (show -9223372036854775808 ≤ tl + 1 by omega) (show tl + 1 ≤ 9223372036854775807 by omega))
  have HG := Aside0.mk (show (if goodP cal ls re ba = true then (0 : Int) else 2) = 0 by rw [hg]; rfl)
  have f1_ : decide (now < du) = false := decide_eq_false (by omega)
  have f2_ : decide (lv < 0) = false := decide_eq_false (by omega)
  have f3_ : decide ((ls.length : Int) ≤ lv) = false := decide_eq_false (by omega)
  have hnot : ∀ (x : Bool) (w : World), (Op.unary .not (.bool x)).run Try.prog w = .ok (.bool (!x)) w := fun _ _ => rfl
  clear hd hm hg
  have HB0 : Below w.heap.size w (((w.alloc (.cells #[.int .u64 id, .int .i64 co, .int .i64 1, .int .i64 lv, .int .u64 gn, .int .i64 fr, .int .i64 lf, .int .i64 du, .int .i64 tl] 24)).alloc (.cells #[.int .i64 cal, .slice A ls.length k, .int .i64 re, .int .i64 ba] 49)).alloc (.cells #[.int .u64 0, .int .i64 0, .int .i64 0, .int .i64 0, .int .u64 0, .int .i64 0, .int .i64 0, .int .i64 0, .int .i64 0] 24)) := (below_alloc (below_alloc (below_alloc (Below.refl w.heap.size w) (.cells #[.int .u64 id, .int .i64 co, .int .i64 1, .int .i64 lv, .int .u64 gn, .int .i64 fr, .int .i64 lf, .int .i64 du, .int .i64 tl] 24)) (.cells #[.int .i64 cal, .slice A ls.length k, .int .i64 re, .int .i64 ba] 49)) (.cells #[.int .u64 0, .int .i64 0, .int .i64 0, .int .i64 0, .int .u64 0, .int .i64 0, .int .i64 0, .int .i64 0, .int .i64 0] 24))
  have HC_1 := Aside0.mk (h.below HB0)
  have HU_1 := Aside0.mk (Upd.of_below (b := cb) HB0)
  have hs_1 : w.heap.size ≤ (((w.alloc (.cells #[.int .u64 id, .int .i64 co, .int .i64 1, .int .i64 lv, .int .u64 gn, .int .i64 fr, .int .i64 lf, .int .i64 du, .int .i64 tl] 24)).alloc (.cells #[.int .i64 cal, .slice A ls.length k, .int .i64 re, .int .i64 ba] 49)).alloc (.cells #[.int .u64 0, .int .i64 0, .int .i64 0, .int .i64 0, .int .u64 0, .int .i64 0, .int .i64 0, .int .i64 0, .int .i64 0] 24)).heap.size := HB0.size
  have HLq_1 : Aside0 (Kd.C k98 (((w.alloc (.cells #[.int .u64 id, .int .i64 co, .int .i64 1, .int .i64 lv, .int .u64 gn, .int .i64 fr, .int .i64 lf, .int .i64 du, .int .i64 tl] 24)).alloc (.cells #[.int .i64 cal, .slice A ls.length k, .int .i64 re, .int .i64 ba] 49)).alloc (.cells #[.int .u64 0, .int .i64 0, .int .i64 0, .int .i64 0, .int .u64 0, .int .i64 0, .int .i64 0, .int .i64 0, .int .i64 0] 24)) A ls.length ls ∧ ls.length ≤ k) := ⟨⟨Kd.C_below hq.1 HB0, hq.2⟩⟩
  have Bt_1 : Aside0 ((((w.alloc (.cells #[.int .u64 id, .int .i64 co, .int .i64 1, .int .i64 lv, .int .u64 gn, .int .i64 fr, .int .i64 lf, .int .i64 du, .int .i64 tl] 24)).alloc (.cells #[.int .i64 cal, .slice A ls.length k, .int .i64 re, .int .i64 ba] 49)).alloc (.cells #[.int .u64 0, .int .i64 0, .int .i64 0, .int .i64 0, .int .u64 0, .int .i64 0, .int .i64 0, .int .i64 0, .int .i64 0] 24)).heap[w.heap.size]? = some (.cells #[.int .u64 id, .int .i64 co, .int .i64 1, .int .i64 lv, .int .u64 gn, .int .i64 fr, .int .i64 lf, .int .i64 du, .int .i64 tl] 24 (0, 0))) := ⟨(blk_alloc (blk_alloc (blk_new w _) _) _)⟩
  have Bq_1 : Aside0 ((((w.alloc (.cells #[.int .u64 id, .int .i64 co, .int .i64 1, .int .i64 lv, .int .u64 gn, .int .i64 fr, .int .i64 lf, .int .i64 du, .int .i64 tl] 24)).alloc (.cells #[.int .i64 cal, .slice A ls.length k, .int .i64 re, .int .i64 ba] 49)).alloc (.cells #[.int .u64 0, .int .i64 0, .int .i64 0, .int .i64 0, .int .u64 0, .int .i64 0, .int .i64 0, .int .i64 0, .int .i64 0] 24)).heap[w.heap.size + 1]? = some (.cells #[.int .i64 cal, .slice A ls.length k, .int .i64 re, .int .i64 ba] 49 (0, 0))) := ⟨(blk_alloc (by simpa using blk_new (w.alloc (.cells #[.int .u64 id, .int .i64 co, .int .i64 1, .int .i64 lv, .int .u64 gn, .int .i64 fr, .int .i64 lf, .int .i64 du, .int .i64 tl] 24)) (.cells #[.int .i64 cal, .slice A ls.length k, .int .i64 re, .int .i64 ba] 49)) _)⟩
  have Bz_1 : Aside0 ((((w.alloc (.cells #[.int .u64 id, .int .i64 co, .int .i64 1, .int .i64 lv, .int .u64 gn, .int .i64 fr, .int .i64 lf, .int .i64 du, .int .i64 tl] 24)).alloc (.cells #[.int .i64 cal, .slice A ls.length k, .int .i64 re, .int .i64 ba] 49)).alloc (.cells #[.int .u64 0, .int .i64 0, .int .i64 0, .int .i64 0, .int .u64 0, .int .i64 0, .int .i64 0, .int .i64 0, .int .i64 0] 24)).heap[w.heap.size + 1 + 1]? = some (.cells #[.int .u64 0, .int .i64 0, .int .i64 0, .int .i64 0, .int .u64 0, .int .i64 0, .int .i64 0, .int .i64 0, .int .i64 0] 24 (0, 0))) := ⟨(by simpa using blk_new ((w.alloc (.cells #[.int .u64 id, .int .i64 co, .int .i64 1, .int .i64 lv, .int .u64 gn, .int .i64 fr, .int .i64 lf, .int .i64 du, .int .i64 tl] 24)).alloc (.cells #[.int .i64 cal, .slice A ls.length k, .int .i64 re, .int .i64 ba] 49)) (.cells #[.int .u64 0, .int .i64 0, .int .i64 0, .int .i64 0, .int .u64 0, .int .i64 0, .int .i64 0, .int .i64 0, .int .i64 0] 24))⟩
  have hz_1 : w.heap.size + 1 + 1 < (((w.alloc (.cells #[.int .u64 id, .int .i64 co, .int .i64 1, .int .i64 lv, .int .u64 gn, .int .i64 fr, .int .i64 lf, .int .i64 du, .int .i64 tl] 24)).alloc (.cells #[.int .i64 cal, .slice A ls.length k, .int .i64 re, .int .i64 ba] 49)).alloc (.cells #[.int .u64 0, .int .i64 0, .int .i64 0, .int .i64 0, .int .u64 0, .int .i64 0, .int .i64 0, .int .i64 0, .int .i64 0] 24)).heap.size := blk_lt Bz_1.out
  have hcb := h.lt
  clear h HB0 hq
  go_enter Try.func27, Try.ntmps27
  go_wp2_with fail
  generalize (((w.alloc (.cells #[.int .u64 id, .int .i64 co, .int .i64 1, .int .i64 lv, .int .u64 gn, .int .i64 fr, .int .i64 lf, .int .i64 du, .int .i64 tl] 24)).alloc (.cells #[.int .i64 cal, .slice A ls.length k, .int .i64 re, .int .i64 ba] 49)).alloc (.cells #[.int .u64 0, .int .i64 0, .int .i64 0, .int .i64 0, .int .u64 0, .int .i64 0, .int .i64 0, .int .i64 0, .int .i64 0] 24)) = w1 at HC_1 HU_1 hs_1 HLq_1 Bt_1 Bq_1 Bz_1 hz_1 ⊢
  have dt2 : w1.cell? ⟨w.heap.size, 2, none⟩ = some (.int .i64 1) := (blk_cell Bt_1.out 2).trans rfl
  have dt3 : w1.cell? ⟨w.heap.size, 3, none⟩ = some (.int .i64 lv) := (blk_cell Bt_1.out 3).trans rfl
  have dt7 : w1.cell? ⟨w.heap.size, 7, none⟩ = some (.int .i64 du) := (blk_cell Bt_1.out 7).trans rfl
  have dq0 : w1.cell? ⟨w.heap.size + 1, 0, none⟩ = some (.int .i64 cal) := (blk_cell Bq_1.out 0).trans rfl
  have dq1 : w1.cell? ⟨w.heap.size + 1, 1, none⟩ = some (.slice A ls.length k) := (blk_cell Bq_1.out 1).trans rfl
  have dq2 : w1.cell? ⟨w.heap.size + 1, 2, none⟩ = some (.int .i64 re) := (blk_cell Bq_1.out 2).trans rfl
  have dq3 : w1.cell? ⟨w.heap.size + 1, 3, none⟩ = some (.int .i64 ba) := (blk_cell Bq_1.out 3).trans rfl
  go_wp2_with (go_at_call 60; with_reducible refine (check14_any w1 HLq_1.out).mono ?_; rintro e w2 ⟨rfl, q1⟩; rw [HG.out]; clear dt2 dt3 dt7 dq0 dq1 dq2 dq3; have HC_2 := Aside0.mk (HC_1.out.below q1); have HU_2 := Aside0.mk (HU_1.out.then q1); have hs_2 : w1.heap.size ≤ w2.heap.size := q1.size; have HLq_2 : Aside0 (Kd.C k98 w2 A ls.length ls ∧ ls.length ≤ k) := ⟨⟨Kd.C_below HLq_1.out.1 q1, HLq_1.out.2⟩⟩; have Bt_2 := Aside0.mk (blk_below Bt_1.out q1); have Bq_2 := Aside0.mk (blk_below Bq_1.out q1); have Bz_2 := Aside0.mk (blk_below Bz_1.out q1); clear q1; have dt2 : w2.cell? ⟨w.heap.size, 2, none⟩ = some (.int .i64 1) := (blk_cell Bt_2.out 2).trans rfl; have dt3 : w2.cell? ⟨w.heap.size, 3, none⟩ = some (.int .i64 lv) := (blk_cell Bt_2.out 3).trans rfl; have dt7 : w2.cell? ⟨w.heap.size, 7, none⟩ = some (.int .i64 du) := (blk_cell Bt_2.out 7).trans rfl; have dq0 : w2.cell? ⟨w.heap.size + 1, 0, none⟩ = some (.int .i64 cal) := (blk_cell Bq_2.out 0).trans rfl; have dq1 : w2.cell? ⟨w.heap.size + 1, 1, none⟩ = some (.slice A ls.length k) := (blk_cell Bq_2.out 1).trans rfl; have dq2 : w2.cell? ⟨w.heap.size + 1, 2, none⟩ = some (.int .i64 re) := (blk_cell Bq_2.out 2).trans rfl; have dq3 : w2.cell? ⟨w.heap.size + 1, 3, none⟩ = some (.int .i64 ba) := (blk_cell Bq_2.out 3).trans rfl)
  have hb4 : Below w2.heap.size w2 w2.drew := below_drew1 (Below.refl _ _)
  clear dt2 dt3 dt7 dq0 dq1 dq2 dq3
  have HC_3 := Aside0.mk (HC_2.out.below hb4)
  have HU_3 := Aside0.mk (HU_2.out.then hb4)
  have hs_3 : w2.heap.size ≤ w2.drew.heap.size := hb4.size
  have HLq_3 : Aside0 (Kd.C k98 w2.drew A ls.length ls ∧ ls.length ≤ k) := ⟨⟨Kd.C_below HLq_2.out.1 hb4, HLq_2.out.2⟩⟩
  have Bt_3 := Aside0.mk (blk_below Bt_2.out hb4)
  have Bq_3 := Aside0.mk (blk_below Bq_2.out hb4)
  have Bz_3 := Aside0.mk (blk_below Bz_2.out hb4)
  clear hb4
  have z0 : w2.drew.cell? ⟨w.heap.size + 1, 0, none⟩ = some (.int .i64 cal) := (blk_cell Bq_3.out 0).trans rfl
  have z1 : w2.drew.cell? ⟨w.heap.size + 1, 1, none⟩ = some (.slice A ls.length k) := (blk_cell Bq_3.out 1).trans rfl
  have z2 : w2.drew.cell? ⟨w.heap.size + 1, 2, none⟩ = some (.int .i64 re) := (blk_cell Bq_3.out 2).trans rfl
  have z3 : w2.drew.cell? ⟨w.heap.size + 1, 3, none⟩ = some (.int .i64 ba) := (blk_cell Bq_3.out 3).trans rfl
  have z4 : w2.drew.cell? ⟨w.heap.size, 0, none⟩ = some (.int .u64 id) := (blk_cell Bt_3.out 0).trans rfl
  have z5 : w2.drew.cell? ⟨w.heap.size, 1, none⟩ = some (.int .i64 co) := (blk_cell Bt_3.out 1).trans rfl
  have z6 : w2.drew.cell? ⟨w.heap.size, 2, none⟩ = some (.int .i64 1) := (blk_cell Bt_3.out 2).trans rfl
  have z7 : w2.drew.cell? ⟨w.heap.size, 3, none⟩ = some (.int .i64 lv) := (blk_cell Bt_3.out 3).trans rfl
  have z8 : w2.drew.cell? ⟨w.heap.size, 4, none⟩ = some (.int .u64 gn) := (blk_cell Bt_3.out 4).trans rfl
  have z9 : w2.drew.cell? ⟨w.heap.size, 5, none⟩ = some (.int .i64 fr) := (blk_cell Bt_3.out 5).trans rfl
  have z10 : w2.drew.cell? ⟨w.heap.size, 6, none⟩ = some (.int .i64 lf) := (blk_cell Bt_3.out 6).trans rfl
  have z11 : w2.drew.cell? ⟨w.heap.size, 7, none⟩ = some (.int .i64 du) := (blk_cell Bt_3.out 7).trans rfl
  have z12 : w2.drew.cell? ⟨w.heap.size, 8, none⟩ = some (.int .i64 tl) := (blk_cell Bt_3.out 8).trans rfl
  refine start_ (n := 14) (S := fun w' => w'.cell? ⟨w.heap.size + 1, 0, none⟩ = some (.int .i64 cal) ∧ w'.cell? ⟨w.heap.size + 1, 1, none⟩ = some (.slice A ls.length k) ∧ w'.cell? ⟨w.heap.size + 1, 2, none⟩ = some (.int .i64 re) ∧ w'.cell? ⟨w.heap.size + 1, 3, none⟩ = some (.int .i64 ba) ∧ w'.cell? ⟨w.heap.size, 0, none⟩ = some (.int .u64 id) ∧ w'.cell? ⟨w.heap.size, 1, none⟩ = some (.int .i64 co) ∧ w'.cell? ⟨w.heap.size, 2, none⟩ = some (.int .i64 1) ∧ w'.cell? ⟨w.heap.size, 3, none⟩ = some (.int .i64 lv) ∧ w'.cell? ⟨w.heap.size, 4, none⟩ = some (.int .u64 gn) ∧ w'.cell? ⟨w.heap.size, 5, none⟩ = some (.int .i64 fr) ∧ w'.cell? ⟨w.heap.size, 6, none⟩ = some (.int .i64 lf) ∧ w'.cell? ⟨w.heap.size, 7, none⟩ = some (.int .i64 du) ∧ w'.cell? ⟨w.heap.size, 8, none⟩ = some (.int .i64 tl)) (ds := [11]) #[false, false, false, false, false, false, false, false, false, false, false, false, false, false] (by kernel_rfl) rfl rfl ⟨z0, z1, z2, z3, z4, z5, z6, z7, z8, z9, z10, z11, z12⟩ (fun hHeld => ?_); refine with_tabW fire_tab9 fire_bits9 (fun HT_ HW_ => ?_)
  clear z0 z1 z2 z3 z4 z5 z6 z7 z8 z9 z10 z11 z12
  generalize w2.drew = w3 at HC_3 HU_3 hs_3 HLq_3 Bt_3 Bq_3 Bz_3 hHeld ⊢
  refine pure_ (i := 0) (N := some 46) (v := ?_) (a' := ?_) #[true, false, false, false, false, false, false, false, false, false, false, false, false, false] rfl rfl (any_of HT_.out (by kernel_rfl)) (fun _ _ _ h => h) (Or.inl ⟨by rfl, ?_⟩) ?_ ?_
  rotate_left
  · intro w'
    go_simp
    with_reducible rfl
  rotate_left
  · simp only [Act.put, List.setIfInBounds_toArray, List.set_cons_zero, List.set_cons_succ, i64_w, i32_w]
    rfl
  refine pure_ (i := 4) (N := some 50) (v := ?_) (a' := ?_) #[true, false, false, false, true, false, false, false, false, false, false, false, false, false] rfl rfl (any_of HT_.out (by kernel_rfl)) (fun _ _ _ h => h) (Or.inl ⟨by rfl, ?_⟩) ?_ ?_
  rotate_left
  · intro w'
    go_simp
    with_reducible rfl
  rotate_left
  · simp only [Act.put, List.setIfInBounds_toArray, List.set_cons_zero, List.set_cons_succ, i64_w, i32_w]
    rfl
  refine take_ (i := 1) (N := some 47) (v := ?_) (a' := ?_) #[true, true, false, false, true, false, false, false, false, false, false, false, false, false] rfl rfl (take_ofW HT_.out HW_.out (by kernel_rfl)) (fun _ _ _ h => h) (Or.inl ⟨by rfl, ?_⟩) hHeld ?_ ?_
  rotate_left
  · rintro w' ⟨s0, s1, s2, s3, s4, s5, s6, s7, s8, s9, s10, s11, s12⟩
    go_simp
    with_reducible rfl
  rotate_left
  · simp only [Act.put, List.setIfInBounds_toArray, List.set_cons_zero, List.set_cons_succ, i64_w, i32_w]
    rfl
  refine take_ (i := 2) (N := some 48) (v := ?_) (a' := ?_) #[true, true, true, false, true, false, false, false, false, false, false, false, false, false] rfl rfl (take_ofW HT_.out HW_.out (by kernel_rfl)) (fun _ _ _ h => h) (Or.inl ⟨by rfl, ?_⟩) hHeld ?_ ?_
  rotate_left
  · rintro w' ⟨s0, s1, s2, s3, s4, s5, s6, s7, s8, s9, s10, s11, s12⟩
    go_simp
    with_reducible rfl
  rotate_left
  · simp only [Act.put, List.setIfInBounds_toArray, List.set_cons_zero, List.set_cons_succ, i64_w, i32_w]
    rfl
  refine join_ (σ := Nat) 3 #[true, true, true, true, true, true, true, true, true, true, true, false, false, false] (fun s_ => [(46, .pointer (some ⟨kb, 0, none⟩)), (50, .int .i64 now), (48, .agg #[.int .u64 id, .int .i64 co, .int .i64 1, .int .i64 lv, .int .u64 gn, .int .i64 fr, .int .i64 lf, .int .i64 du, .int .i64 tl]), (47, .agg #[.int .i64 cal, .slice A ls.length k, .int .i64 re, .int .i64 ba]), (49, .agg #[.int .i64 lv, .int .i64 fr, .int .i64 lf, .int .i64 du]), (51, .tuple #[.agg #[.int .i64 a, .int .i64 b, .int .i64 c, .int .i64 d], .bool false, .int .i64 e]), (45, .tuple #[.agg #[.int .i64 a, .int .i64 b, .int .i64 c, .int .i64 d], .bool false, .int .i64 e]), (52, .agg #[.int .i64 a, .int .i64 b, .int .i64 c, .int .i64 d]), (53, .bool false), (54, .int .i64 e), (13, .pointer (some ⟨s_, 0, none⟩))]) (fun s_ w' => (w'.cell? ⟨w.heap.size + 1, 0, none⟩ = some (.int .i64 cal) ∧ w'.cell? ⟨w.heap.size + 1, 1, none⟩ = some (.slice A ls.length k) ∧ w'.cell? ⟨w.heap.size + 1, 2, none⟩ = some (.int .i64 re) ∧ w'.cell? ⟨w.heap.size + 1, 3, none⟩ = some (.int .i64 ba) ∧ w'.cell? ⟨w.heap.size, 0, none⟩ = some (.int .u64 id) ∧ w'.cell? ⟨w.heap.size, 1, none⟩ = some (.int .i64 co) ∧ w'.cell? ⟨w.heap.size, 2, none⟩ = some (.int .i64 1) ∧ w'.cell? ⟨w.heap.size, 3, none⟩ = some (.int .i64 lv) ∧ w'.cell? ⟨w.heap.size, 4, none⟩ = some (.int .u64 gn) ∧ w'.cell? ⟨w.heap.size, 5, none⟩ = some (.int .i64 fr) ∧ w'.cell? ⟨w.heap.size, 6, none⟩ = some (.int .i64 lf) ∧ w'.cell? ⟨w.heap.size, 7, none⟩ = some (.int .i64 du) ∧ w'.cell? ⟨w.heap.size, 8, none⟩ = some (.int .i64 tl)) ∧ ClkAt w' n kb ab pb cb off week closed ∧ Upd cb w w' ∧ w'.heap[w.heap.size]? = some (.cells #[.int .u64 id, .int .i64 co, .int .i64 1, .int .i64 lv, .int .u64 gn, .int .i64 fr, .int .i64 lf, .int .i64 du, .int .i64 tl] 24 (0, 0)) ∧ w'.heap[w.heap.size + 1]? = some (.cells #[.int .i64 cal, .slice A ls.length k, .int .i64 re, .int .i64 ba] 49 (0, 0)) ∧ w'.heap[w.heap.size + 1 + 1]? = some (.cells #[.int .u64 0, .int .i64 0, .int .i64 0, .int .i64 0, .int .u64 0, .int .i64 0, .int .i64 0, .int .i64 0, .int .i64 0] 24 (0, 0)) ∧ w'.heap[s_]? = some (.cells #[.int .i64 0, .int .i64 0, .int .i64 0, .int .i64 0] 108 (0, 0)) ∧ w.heap.size + 1 + 1 < s_) ?_ ?_
  rotate_left
  · intro hCont
    refine two_ (i := 3) (j := 10) (Ni := some 49) (Nj := some 13) #[true, true, true, true, true, false, false, false, false, false, false, false, false, false] #[true, true, true, false, true, false, false, false, false, false, true, false, false, false] rfl rfl rfl rfl (two_of HT_.out (by kernel_rfl)) (by decide) (by decide) (fun K hK => ?_) (fun K hK => ?_)
    · skip
      refine goes_ Try.func59 (by kernel_rfl) rfl #[.agg #[.int .u64 id, .int .i64 co, .int .i64 1, .int .i64 lv, .int .u64 gn, .int .i64 fr, .int .i64 lf, .int .i64 du, .int .i64 tl]] (by rfl) rfl rfl (by (try simp only [List.map_toArray, List.map_cons, List.map_nil]); first | done | rfl) ?_
      refine (ticket_step.calls id co 1 lv gn fr lf du tl lv fr lf du _ rfl).mono ?_
      rintro e w4 ⟨rfl, q1⟩
      refine ⟨_, rfl, ?_⟩
      have HC_4 := Aside0.mk (HC_3.out.below q1)
      have HU_4 := Aside0.mk (HU_3.out.then q1)
      have hs_4 : w3.heap.size ≤ w4.heap.size := q1.size
      have HLq_4 : Aside0 (Kd.C k98 w4 A ls.length ls ∧ ls.length ≤ k) := ⟨⟨Kd.C_below HLq_3.out.1 q1, HLq_3.out.2⟩⟩
      have Bt_4 := Aside0.mk (blk_below Bt_3.out q1)
      have Bq_4 := Aside0.mk (blk_below Bq_3.out q1)
      have Bz_4 := Aside0.mk (blk_below Bz_3.out q1)
      clear q1
      refine hK.out _ _ ⟨(blk_cell Bq_4.out 0).trans rfl, (blk_cell Bq_4.out 1).trans rfl, (blk_cell Bq_4.out 2).trans rfl, (blk_cell Bq_4.out 3).trans rfl, (blk_cell Bt_4.out 0).trans rfl, (blk_cell Bt_4.out 1).trans rfl, (blk_cell Bt_4.out 2).trans rfl, (blk_cell Bt_4.out 3).trans rfl, (blk_cell Bt_4.out 4).trans rfl, (blk_cell Bt_4.out 5).trans rfl, (blk_cell Bt_4.out 6).trans rfl, (blk_cell Bt_4.out 7).trans rfl, (blk_cell Bt_4.out 8).trans rfl⟩ (fun hHeld => ?_)
      clear hK K
      refine norm_ (a' := ?_) ?_ ?_
      rotate_left
      · show Act.put _ (some 49) _ = _
        simp only [Act.put, List.setIfInBounds_toArray, List.set_cons_zero, List.set_cons_succ, i64_w, i32_w]
        rfl
      refine two_ (i := 5) (j := 10) (Ni := some 51) (Nj := some 13) #[true, true, true, true, true, true, false, false, false, false, false, false, false, false] #[true, true, true, true, true, false, false, false, false, false, true, false, false, false] rfl rfl rfl rfl (two_of HT_.out (by kernel_rfl)) (by decide) (by decide) (fun K hK => ?_) (fun K hK => ?_)
      · skip
        refine goes_ Try.func61 (by kernel_rfl) rfl #[.pointer (some ⟨kb, 0, none⟩), .agg #[.int .i64 cal, .slice A ls.length k, .int .i64 re, .int .i64 ba], .agg #[.int .i64 lv, .int .i64 fr, .int .i64 lf, .int .i64 du], .int .i64 now] (by rfl) rfl rfl (by (try simp only [List.map_toArray, List.map_cons, List.map_nil]); first | done | rfl) ?_
        refine (stepnext_any cal re ba lv fr lf du now a b c d e false _ HC_4.out (by omega) HLq_4.out HD.out HM.out).mono ?_
        rintro e w5 ⟨rfl, q1, q2⟩
        refine ⟨_, rfl, ?_⟩
        have HC_5 := Aside0.mk q1
        have HU_5 := Aside0.mk (HU_4.out.trans q2)
        have hs_5 : w4.heap.size ≤ w5.heap.size := q2.size
        have Bt_5 := Aside0.mk (q2.blk Bt_4.out (by omega))
        have Bq_5 := Aside0.mk (q2.blk Bq_4.out (by omega))
        have Bz_5 := Aside0.mk (q2.blk Bz_4.out (by omega))
        clear q1 q2
        refine hK.out _ _ ⟨(blk_cell Bq_5.out 0).trans rfl, (blk_cell Bq_5.out 1).trans rfl, (blk_cell Bq_5.out 2).trans rfl, (blk_cell Bq_5.out 3).trans rfl, (blk_cell Bt_5.out 0).trans rfl, (blk_cell Bt_5.out 1).trans rfl, (blk_cell Bt_5.out 2).trans rfl, (blk_cell Bt_5.out 3).trans rfl, (blk_cell Bt_5.out 4).trans rfl, (blk_cell Bt_5.out 5).trans rfl, (blk_cell Bt_5.out 6).trans rfl, (blk_cell Bt_5.out 7).trans rfl, (blk_cell Bt_5.out 8).trans rfl⟩ (fun hHeld => ?_)
        clear hK K
        refine norm_ (a' := ?_) ?_ ?_
        rotate_left
        · show Act.put _ (some 51) _ = _
          simp only [Act.put, List.setIfInBounds_toArray, List.set_cons_zero, List.set_cons_succ, i64_w, i32_w]
          rfl
        refine pure_ (i := 6) (N := some 45) (v := ?_) (a' := ?_) #[true, true, true, true, true, true, true, false, false, false, false, false, false, false] rfl rfl (any_of HT_.out (by kernel_rfl)) (fun _ _ _ h => h) (Or.inl ⟨by rfl, ?_⟩) ?_ ?_
        rotate_left
        · intro w'
          go_simp
          with_reducible rfl
        rotate_left
        · simp only [Act.put, List.setIfInBounds_toArray, List.set_cons_zero, List.set_cons_succ, i64_w, i32_w]
          rfl
        refine pure_ (i := 7) (N := some 52) (v := ?_) (a' := ?_) #[true, true, true, true, true, true, true, true, false, false, false, false, false, false] rfl rfl (any_of HT_.out (by kernel_rfl)) (fun _ _ _ h => h) (Or.inl ⟨by rfl, ?_⟩) ?_ ?_
        rotate_left
        · intro w'
          go_simp
          with_reducible rfl
        rotate_left
        · simp only [Act.put, List.setIfInBounds_toArray, List.set_cons_zero, List.set_cons_succ, i64_w, i32_w]
          rfl
        refine pure_ (i := 8) (N := some 53) (v := ?_) (a' := ?_) #[true, true, true, true, true, true, true, true, true, false, false, false, false, false] rfl rfl (any_of HT_.out (by kernel_rfl)) (fun _ _ _ h => h) (Or.inl ⟨by rfl, ?_⟩) ?_ ?_
        rotate_left
        · intro w'
          go_simp
          with_reducible rfl
        rotate_left
        · simp only [Act.put, List.setIfInBounds_toArray, List.set_cons_zero, List.set_cons_succ, i64_w, i32_w]
          rfl
        refine pure_ (i := 9) (N := some 54) (v := ?_) (a' := ?_) #[true, true, true, true, true, true, true, true, true, true, false, false, false, false] rfl rfl (any_of HT_.out (by kernel_rfl)) (fun _ _ _ h => h) (Or.inl ⟨by rfl, ?_⟩) ?_ ?_
        rotate_left
        · intro w'
          go_simp
          with_reducible rfl
        rotate_left
        · simp only [Act.put, List.setIfInBounds_toArray, List.set_cons_zero, List.set_cons_succ, i64_w, i32_w]
          rfl
        refine one_ (i := 10) (N := some 13) #[true, true, true, true, true, true, true, true, true, true, true, false, false, false] rfl rfl (one_of HT_.out (by kernel_rfl)) (by decide) (fun K hK => ?_)
        refine box_step ?hg (N := 13) ?hd (cs := #[.int .i64 0, .int .i64 0, .int .i64 0, .int .i64 0]) (t := 108) ?hr ?_; (case hd => rfl); (case hg => rfl); (case hr => first | (go_simp; done) | (go_simp; rfl))
        intro gs hg w6 hbox hb
        have hgz : w.heap.size + 1 + 1 < gs := by rw [hg]; exact blk_lt Bz_5.out
        have HC_6 := Aside0.mk (HC_5.out.below hb)
        have HU_6 := Aside0.mk (HU_5.out.then hb)
        have hs_6 : w5.heap.size ≤ w6.heap.size := hb.size
        have Bt_6 := Aside0.mk (blk_below Bt_5.out hb)
        have Bq_6 := Aside0.mk (blk_below Bq_5.out hb)
        have Bz_6 := Aside0.mk (blk_below Bz_5.out hb)
        clear hb
        have Bs_6 := Aside0.mk hbox
        clear hbox hg
        refine hK.out _ _ ⟨(blk_cell Bq_6.out 0).trans rfl, (blk_cell Bq_6.out 1).trans rfl, (blk_cell Bq_6.out 2).trans rfl, (blk_cell Bq_6.out 3).trans rfl, (blk_cell Bt_6.out 0).trans rfl, (blk_cell Bt_6.out 1).trans rfl, (blk_cell Bt_6.out 2).trans rfl, (blk_cell Bt_6.out 3).trans rfl, (blk_cell Bt_6.out 4).trans rfl, (blk_cell Bt_6.out 5).trans rfl, (blk_cell Bt_6.out 6).trans rfl, (blk_cell Bt_6.out 7).trans rfl, (blk_cell Bt_6.out 8).trans rfl⟩ (fun hHeld => ?_)
        clear hK K
        refine norm_ (a' := ?_) ?_ ?_
        rotate_left
        · show Act.put _ (some 13) _ = _
          simp only [Act.put, List.setIfInBounds_toArray, List.set_cons_zero, List.set_cons_succ, i64_w, i32_w]
          rfl
        exact norm_ (by simp only [putAll, Act.put, List.setIfInBounds_toArray, List.set_cons_zero, List.set_cons_succ]) (hCont gs _ ⟨hHeld, HC_6.out, HU_6.out, Bt_6.out, Bq_6.out, Bz_6.out, Bs_6.out, hgz⟩)
      · skip
        refine box_step ?hg (N := 13) ?hd (cs := #[.int .i64 0, .int .i64 0, .int .i64 0, .int .i64 0]) (t := 108) ?hr ?_; (case hd => rfl); (case hg => rfl); (case hr => first | (go_simp; done) | (go_simp; rfl))
        intro gs hg w5 hbox hb
        have hgz : w.heap.size + 1 + 1 < gs := by rw [hg]; exact blk_lt Bz_4.out
        have HC_5 := Aside0.mk (HC_4.out.below hb)
        have HU_5 := Aside0.mk (HU_4.out.then hb)
        have hs_5 : w4.heap.size ≤ w5.heap.size := hb.size
        have HLq_5 : Aside0 (Kd.C k98 w5 A ls.length ls ∧ ls.length ≤ k) := ⟨⟨Kd.C_below HLq_4.out.1 hb, HLq_4.out.2⟩⟩
        have Bt_5 := Aside0.mk (blk_below Bt_4.out hb)
        have Bq_5 := Aside0.mk (blk_below Bq_4.out hb)
        have Bz_5 := Aside0.mk (blk_below Bz_4.out hb)
        clear hb
        have Bs_5 := Aside0.mk hbox
        clear hbox hg
        refine hK.out _ _ ⟨(blk_cell Bq_5.out 0).trans rfl, (blk_cell Bq_5.out 1).trans rfl, (blk_cell Bq_5.out 2).trans rfl, (blk_cell Bq_5.out 3).trans rfl, (blk_cell Bt_5.out 0).trans rfl, (blk_cell Bt_5.out 1).trans rfl, (blk_cell Bt_5.out 2).trans rfl, (blk_cell Bt_5.out 3).trans rfl, (blk_cell Bt_5.out 4).trans rfl, (blk_cell Bt_5.out 5).trans rfl, (blk_cell Bt_5.out 6).trans rfl, (blk_cell Bt_5.out 7).trans rfl, (blk_cell Bt_5.out 8).trans rfl⟩ (fun hHeld => ?_)
        clear hK K
        refine norm_ (a' := ?_) ?_ ?_
        rotate_left
        · show Act.put _ (some 13) _ = _
          simp only [Act.put, List.setIfInBounds_toArray, List.set_cons_zero, List.set_cons_succ, i64_w, i32_w]
          rfl
        refine one_ (i := 5) (N := some 51) #[true, true, true, true, true, true, false, false, false, false, true, false, false, false] rfl rfl (one_of HT_.out (by kernel_rfl)) (by decide) (fun K hK => ?_)
        refine goes_ Try.func61 (by kernel_rfl) rfl #[.pointer (some ⟨kb, 0, none⟩), .agg #[.int .i64 cal, .slice A ls.length k, .int .i64 re, .int .i64 ba], .agg #[.int .i64 lv, .int .i64 fr, .int .i64 lf, .int .i64 du], .int .i64 now] (by rfl) rfl rfl (by (try simp only [List.map_toArray, List.map_cons, List.map_nil]); first | done | rfl) ?_
        refine (stepnext_any cal re ba lv fr lf du now a b c d e false _ HC_5.out (by omega) HLq_5.out HD.out HM.out).mono ?_
        rintro e w6 ⟨rfl, q1, q2⟩
        refine ⟨_, rfl, ?_⟩
        have HC_6 := Aside0.mk q1
        have HU_6 := Aside0.mk (HU_5.out.trans q2)
        have hs_6 : w5.heap.size ≤ w6.heap.size := q2.size
        have Bt_6 := Aside0.mk (q2.blk Bt_5.out (by omega))
        have Bq_6 := Aside0.mk (q2.blk Bq_5.out (by omega))
        have Bz_6 := Aside0.mk (q2.blk Bz_5.out (by omega))
        have Bs_6 := Aside0.mk (q2.blk Bs_5.out (by omega))
        clear q1 q2
        refine hK.out _ _ ⟨(blk_cell Bq_6.out 0).trans rfl, (blk_cell Bq_6.out 1).trans rfl, (blk_cell Bq_6.out 2).trans rfl, (blk_cell Bq_6.out 3).trans rfl, (blk_cell Bt_6.out 0).trans rfl, (blk_cell Bt_6.out 1).trans rfl, (blk_cell Bt_6.out 2).trans rfl, (blk_cell Bt_6.out 3).trans rfl, (blk_cell Bt_6.out 4).trans rfl, (blk_cell Bt_6.out 5).trans rfl, (blk_cell Bt_6.out 6).trans rfl, (blk_cell Bt_6.out 7).trans rfl, (blk_cell Bt_6.out 8).trans rfl⟩ (fun hHeld => ?_)
        clear hK K
        refine norm_ (a' := ?_) ?_ ?_
        rotate_left
        · show Act.put _ (some 51) _ = _
          simp only [Act.put, List.setIfInBounds_toArray, List.set_cons_zero, List.set_cons_succ, i64_w, i32_w]
          rfl
        refine pure_ (i := 6) (N := some 45) (v := ?_) (a' := ?_) #[true, true, true, true, true, true, true, false, false, false, true, false, false, false] rfl rfl (any_of HT_.out (by kernel_rfl)) (fun _ _ _ h => h) (Or.inl ⟨by rfl, ?_⟩) ?_ ?_
        rotate_left
        · intro w'
          go_simp
          with_reducible rfl
        rotate_left
        · simp only [Act.put, List.setIfInBounds_toArray, List.set_cons_zero, List.set_cons_succ, i64_w, i32_w]
          rfl
        refine pure_ (i := 7) (N := some 52) (v := ?_) (a' := ?_) #[true, true, true, true, true, true, true, true, false, false, true, false, false, false] rfl rfl (any_of HT_.out (by kernel_rfl)) (fun _ _ _ h => h) (Or.inl ⟨by rfl, ?_⟩) ?_ ?_
        rotate_left
        · intro w'
          go_simp
          with_reducible rfl
        rotate_left
        · simp only [Act.put, List.setIfInBounds_toArray, List.set_cons_zero, List.set_cons_succ, i64_w, i32_w]
          rfl
        refine pure_ (i := 8) (N := some 53) (v := ?_) (a' := ?_) #[true, true, true, true, true, true, true, true, true, false, true, false, false, false] rfl rfl (any_of HT_.out (by kernel_rfl)) (fun _ _ _ h => h) (Or.inl ⟨by rfl, ?_⟩) ?_ ?_
        rotate_left
        · intro w'
          go_simp
          with_reducible rfl
        rotate_left
        · simp only [Act.put, List.setIfInBounds_toArray, List.set_cons_zero, List.set_cons_succ, i64_w, i32_w]
          rfl
        refine pure_ (i := 9) (N := some 54) (v := ?_) (a' := ?_) #[true, true, true, true, true, true, true, true, true, true, true, false, false, false] rfl rfl (any_of HT_.out (by kernel_rfl)) (fun _ _ _ h => h) (Or.inl ⟨by rfl, ?_⟩) ?_ ?_
        rotate_left
        · intro w'
          go_simp
          with_reducible rfl
        rotate_left
        · simp only [Act.put, List.setIfInBounds_toArray, List.set_cons_zero, List.set_cons_succ, i64_w, i32_w]
          rfl
        exact norm_ (by simp only [putAll, Act.put, List.setIfInBounds_toArray, List.set_cons_zero, List.set_cons_succ]) (hCont gs _ ⟨hHeld, HC_6.out, HU_6.out, Bt_6.out, Bq_6.out, Bz_6.out, Bs_6.out, hgz⟩)
    · skip
      refine box_step ?hg (N := 13) ?hd (cs := #[.int .i64 0, .int .i64 0, .int .i64 0, .int .i64 0]) (t := 108) ?hr ?_; (case hd => rfl); (case hg => rfl); (case hr => first | (go_simp; done) | (go_simp; rfl))
      intro gs hg w4 hbox hb
      have hgz : w.heap.size + 1 + 1 < gs := by rw [hg]; exact blk_lt Bz_3.out
      have HC_4 := Aside0.mk (HC_3.out.below hb)
      have HU_4 := Aside0.mk (HU_3.out.then hb)
      have hs_4 : w3.heap.size ≤ w4.heap.size := hb.size
      have HLq_4 : Aside0 (Kd.C k98 w4 A ls.length ls ∧ ls.length ≤ k) := ⟨⟨Kd.C_below HLq_3.out.1 hb, HLq_3.out.2⟩⟩
      have Bt_4 := Aside0.mk (blk_below Bt_3.out hb)
      have Bq_4 := Aside0.mk (blk_below Bq_3.out hb)
      have Bz_4 := Aside0.mk (blk_below Bz_3.out hb)
      clear hb
      have Bs_4 := Aside0.mk hbox
      clear hbox hg
      refine hK.out _ _ ⟨(blk_cell Bq_4.out 0).trans rfl, (blk_cell Bq_4.out 1).trans rfl, (blk_cell Bq_4.out 2).trans rfl, (blk_cell Bq_4.out 3).trans rfl, (blk_cell Bt_4.out 0).trans rfl, (blk_cell Bt_4.out 1).trans rfl, (blk_cell Bt_4.out 2).trans rfl, (blk_cell Bt_4.out 3).trans rfl, (blk_cell Bt_4.out 4).trans rfl, (blk_cell Bt_4.out 5).trans rfl, (blk_cell Bt_4.out 6).trans rfl, (blk_cell Bt_4.out 7).trans rfl, (blk_cell Bt_4.out 8).trans rfl⟩ (fun hHeld => ?_)
      clear hK K
      refine norm_ (a' := ?_) ?_ ?_
      rotate_left
      · show Act.put _ (some 13) _ = _
        simp only [Act.put, List.setIfInBounds_toArray, List.set_cons_zero, List.set_cons_succ, i64_w, i32_w]
        rfl
      refine one_ (i := 3) (N := some 49) #[true, true, true, true, true, false, false, false, false, false, true, false, false, false] rfl rfl (one_of HT_.out (by kernel_rfl)) (by decide) (fun K hK => ?_)
      refine goes_ Try.func59 (by kernel_rfl) rfl #[.agg #[.int .u64 id, .int .i64 co, .int .i64 1, .int .i64 lv, .int .u64 gn, .int .i64 fr, .int .i64 lf, .int .i64 du, .int .i64 tl]] (by rfl) rfl rfl (by (try simp only [List.map_toArray, List.map_cons, List.map_nil]); first | done | rfl) ?_
      refine (ticket_step.calls id co 1 lv gn fr lf du tl lv fr lf du _ rfl).mono ?_
      rintro e w5 ⟨rfl, q1⟩
      refine ⟨_, rfl, ?_⟩
      have HC_5 := Aside0.mk (HC_4.out.below q1)
      have HU_5 := Aside0.mk (HU_4.out.then q1)
      have hs_5 : w4.heap.size ≤ w5.heap.size := q1.size
      have HLq_5 : Aside0 (Kd.C k98 w5 A ls.length ls ∧ ls.length ≤ k) := ⟨⟨Kd.C_below HLq_4.out.1 q1, HLq_4.out.2⟩⟩
      have Bt_5 := Aside0.mk (blk_below Bt_4.out q1)
      have Bq_5 := Aside0.mk (blk_below Bq_4.out q1)
      have Bz_5 := Aside0.mk (blk_below Bz_4.out q1)
      have Bs_5 := Aside0.mk (blk_below Bs_4.out q1)
      clear q1
      refine hK.out _ _ ⟨(blk_cell Bq_5.out 0).trans rfl, (blk_cell Bq_5.out 1).trans rfl, (blk_cell Bq_5.out 2).trans rfl, (blk_cell Bq_5.out 3).trans rfl, (blk_cell Bt_5.out 0).trans rfl, (blk_cell Bt_5.out 1).trans rfl, (blk_cell Bt_5.out 2).trans rfl, (blk_cell Bt_5.out 3).trans rfl, (blk_cell Bt_5.out 4).trans rfl, (blk_cell Bt_5.out 5).trans rfl, (blk_cell Bt_5.out 6).trans rfl, (blk_cell Bt_5.out 7).trans rfl, (blk_cell Bt_5.out 8).trans rfl⟩ (fun hHeld => ?_)
      clear hK K
      refine norm_ (a' := ?_) ?_ ?_
      rotate_left
      · show Act.put _ (some 49) _ = _
        simp only [Act.put, List.setIfInBounds_toArray, List.set_cons_zero, List.set_cons_succ, i64_w, i32_w]
        rfl
      refine one_ (i := 5) (N := some 51) #[true, true, true, true, true, true, false, false, false, false, true, false, false, false] rfl rfl (one_of HT_.out (by kernel_rfl)) (by decide) (fun K hK => ?_)
      refine goes_ Try.func61 (by kernel_rfl) rfl #[.pointer (some ⟨kb, 0, none⟩), .agg #[.int .i64 cal, .slice A ls.length k, .int .i64 re, .int .i64 ba], .agg #[.int .i64 lv, .int .i64 fr, .int .i64 lf, .int .i64 du], .int .i64 now] (by rfl) rfl rfl (by (try simp only [List.map_toArray, List.map_cons, List.map_nil]); first | done | rfl) ?_
      refine (stepnext_any cal re ba lv fr lf du now a b c d e false _ HC_5.out (by omega) HLq_5.out HD.out HM.out).mono ?_
      rintro e w6 ⟨rfl, q1, q2⟩
      refine ⟨_, rfl, ?_⟩
      have HC_6 := Aside0.mk q1
      have HU_6 := Aside0.mk (HU_5.out.trans q2)
      have hs_6 : w5.heap.size ≤ w6.heap.size := q2.size
      have Bt_6 := Aside0.mk (q2.blk Bt_5.out (by omega))
      have Bq_6 := Aside0.mk (q2.blk Bq_5.out (by omega))
      have Bz_6 := Aside0.mk (q2.blk Bz_5.out (by omega))
      have Bs_6 := Aside0.mk (q2.blk Bs_5.out (by omega))
      clear q1 q2
      refine hK.out _ _ ⟨(blk_cell Bq_6.out 0).trans rfl, (blk_cell Bq_6.out 1).trans rfl, (blk_cell Bq_6.out 2).trans rfl, (blk_cell Bq_6.out 3).trans rfl, (blk_cell Bt_6.out 0).trans rfl, (blk_cell Bt_6.out 1).trans rfl, (blk_cell Bt_6.out 2).trans rfl, (blk_cell Bt_6.out 3).trans rfl, (blk_cell Bt_6.out 4).trans rfl, (blk_cell Bt_6.out 5).trans rfl, (blk_cell Bt_6.out 6).trans rfl, (blk_cell Bt_6.out 7).trans rfl, (blk_cell Bt_6.out 8).trans rfl⟩ (fun hHeld => ?_)
      clear hK K
      refine norm_ (a' := ?_) ?_ ?_
      rotate_left
      · show Act.put _ (some 51) _ = _
        simp only [Act.put, List.setIfInBounds_toArray, List.set_cons_zero, List.set_cons_succ, i64_w, i32_w]
        rfl
      refine pure_ (i := 6) (N := some 45) (v := ?_) (a' := ?_) #[true, true, true, true, true, true, true, false, false, false, true, false, false, false] rfl rfl (any_of HT_.out (by kernel_rfl)) (fun _ _ _ h => h) (Or.inl ⟨by rfl, ?_⟩) ?_ ?_
      rotate_left
      · intro w'
        go_simp
        with_reducible rfl
      rotate_left
      · simp only [Act.put, List.setIfInBounds_toArray, List.set_cons_zero, List.set_cons_succ, i64_w, i32_w]
        rfl
      refine pure_ (i := 7) (N := some 52) (v := ?_) (a' := ?_) #[true, true, true, true, true, true, true, true, false, false, true, false, false, false] rfl rfl (any_of HT_.out (by kernel_rfl)) (fun _ _ _ h => h) (Or.inl ⟨by rfl, ?_⟩) ?_ ?_
      rotate_left
      · intro w'
        go_simp
        with_reducible rfl
      rotate_left
      · simp only [Act.put, List.setIfInBounds_toArray, List.set_cons_zero, List.set_cons_succ, i64_w, i32_w]
        rfl
      refine pure_ (i := 8) (N := some 53) (v := ?_) (a' := ?_) #[true, true, true, true, true, true, true, true, true, false, true, false, false, false] rfl rfl (any_of HT_.out (by kernel_rfl)) (fun _ _ _ h => h) (Or.inl ⟨by rfl, ?_⟩) ?_ ?_
      rotate_left
      · intro w'
        go_simp
        with_reducible rfl
      rotate_left
      · simp only [Act.put, List.setIfInBounds_toArray, List.set_cons_zero, List.set_cons_succ, i64_w, i32_w]
        rfl
      refine pure_ (i := 9) (N := some 54) (v := ?_) (a' := ?_) #[true, true, true, true, true, true, true, true, true, true, true, false, false, false] rfl rfl (any_of HT_.out (by kernel_rfl)) (fun _ _ _ h => h) (Or.inl ⟨by rfl, ?_⟩) ?_ ?_
      rotate_left
      · intro w'
        go_simp
        with_reducible rfl
      rotate_left
      · simp only [Act.put, List.setIfInBounds_toArray, List.set_cons_zero, List.set_cons_succ, i64_w, i32_w]
        rfl
      exact norm_ (by simp only [putAll, Act.put, List.setIfInBounds_toArray, List.set_cons_zero, List.set_cons_succ]) (hCont gs _ ⟨hHeld, HC_6.out, HU_6.out, Bt_6.out, Bq_6.out, Bz_6.out, Bs_6.out, hgz⟩)
  rintro s_ w90 ⟨_, q1, q2, qb0, qb1, qb2, qb3, hgz⟩
  have HC_90 := Aside0.mk q1
  have HU_90 := Aside0.mk q2
  have hs_90 : w.heap.size ≤ w90.heap.size := q2.size
  have Bt_90 := Aside0.mk qb0
  have Bq_90 := Aside0.mk qb1
  have Bz_90 := Aside0.mk qb2
  have Bs_90 := Aside0.mk qb3
  clear q1 q2 qb0 qb1 qb2 qb3
  have ds0 : w90.cell? ⟨s_, 0, none⟩ = some (.int .i64 0) := (blk_cell Bs_90.out 0).trans rfl
  have fs0 : w90.frozen? ⟨s_, 0, none⟩ = false := blk_frozen Bs_90.out 0
  have ds1 : w90.cell? ⟨s_, 1, none⟩ = some (.int .i64 0) := (blk_cell Bs_90.out 1).trans rfl
  have fs1 : w90.frozen? ⟨s_, 1, none⟩ = false := blk_frozen Bs_90.out 1
  have ds2 : w90.cell? ⟨s_, 2, none⟩ = some (.int .i64 0) := (blk_cell Bs_90.out 2).trans rfl
  have fs2 : w90.frozen? ⟨s_, 2, none⟩ = false := blk_frozen Bs_90.out 2
  have ds3 : w90.cell? ⟨s_, 3, none⟩ = some (.int .i64 0) := (blk_cell Bs_90.out 3).trans rfl
  have fs3 : w90.frozen? ⟨s_, 3, none⟩ = false := blk_frozen Bs_90.out 3
  simp only [putAll, Act.put, List.setIfInBounds_toArray, List.set_cons_zero, List.set_cons_succ]
  refine last_ (i := 11) (N := none) #[true, true, true, true, true, true, true, true, true, true, true, true, false, false] rfl rfl (one_of HT_.out (by kernel_rfl)) (by decide) (fun K hK => ?_)
  refine skip_ (w1 := ?_) (by rfl) rfl ?_ ?_
  rotate_left 1
  · go_simp
    rfl
  refine hK.out _ _ ?_
  clear hK K
  refine pure_ (i := 12) (N := some 14) (v := ?_) (a' := ?_) #[true, true, true, true, true, true, true, true, true, true, true, true, true, false] rfl rfl (any_of HT_.out (by kernel_rfl)) (fun _ _ _ h => h) (Or.inl ⟨by rfl, ?_⟩) ?_ ?_
  rotate_left
  · intro w'
    go_simp
    with_reducible rfl
  rotate_left
  · simp only [Act.put, List.setIfInBounds_toArray, List.set_cons_zero, List.set_cons_succ, i64_w, i32_w]
    rfl
  refine pure_ (i := 13) (N := some 15) (v := ?_) (a' := ?_) #[true, true, true, true, true, true, true, true, true, true, true, true, true, true] rfl rfl (any_of HT_.out (by kernel_rfl)) (fun _ _ _ h => h) (Or.inl ⟨by rfl, ?_⟩) ?_ ?_
  rotate_left
  · intro w'
    go_simp
    with_reducible rfl
  rotate_left
  · simp only [Act.put, List.setIfInBounds_toArray, List.set_cons_zero, List.set_cons_succ, i64_w, i32_w]
    rfl
  refine done_ (done_of HT_.out (by kernel_rfl)) ?_
  clear HT_ HW_
  clear ds0 fs0 ds1 fs1 ds2 fs2 ds3 fs3
  have S_0 := And.intro HC_90.out HU_90.out
  have S_1 := step_set S_0.1 S_0.2 Bs_90.out ⟨by decide, by decide, by decide, by decide, by decide, by decide⟩ (by omega) 0 (.int .i64 a)
  have G_0 := blk_put (cs' := #[.int .i64 a, .int .i64 0, .int .i64 0, .int .i64 0]) Bs_90.out 0 (.int .i64 a) rfl
  have S_2 := step_set S_1.1 S_1.2 G_0 ⟨by decide, by decide, by decide, by decide, by decide, by decide⟩ (by omega) 1 (.int .i64 b)
  have G_1 := blk_put (cs' := #[.int .i64 a, .int .i64 b, .int .i64 0, .int .i64 0]) G_0 1 (.int .i64 b) rfl
  have S_3 := step_set S_2.1 S_2.2 G_1 ⟨by decide, by decide, by decide, by decide, by decide, by decide⟩ (by omega) 2 (.int .i64 c)
  have G_2 := blk_put (cs' := #[.int .i64 a, .int .i64 b, .int .i64 c, .int .i64 0]) G_1 2 (.int .i64 c) rfl
  have S_4 := step_set S_3.1 S_3.2 G_2 ⟨by decide, by decide, by decide, by decide, by decide, by decide⟩ (by omega) 3 (.int .i64 d)
  have G_3 := blk_put (cs' := #[.int .i64 a, .int .i64 b, .int .i64 c, .int .i64 d]) G_2 3 (.int .i64 d) rfl
  have HC_91 := Aside0.mk S_4.1
  have HU_91 := Aside0.mk S_4.2
  have Bs_91 := Aside0.mk G_3
  have hs_91 : w90.heap.size ≤ ((((w90.setCell ⟨s_, 0, none⟩ (.int .i64 a)).setCell ⟨s_, 1, none⟩ (.int .i64 b)).setCell ⟨s_, 2, none⟩ (.int .i64 c)).setCell ⟨s_, 3, none⟩ (.int .i64 d)).heap.size := by simp
  have Bt_91 : Aside0 (((((w90.setCell ⟨s_, 0, none⟩ (.int .i64 a)).setCell ⟨s_, 1, none⟩ (.int .i64 b)).setCell ⟨s_, 2, none⟩ (.int .i64 c)).setCell ⟨s_, 3, none⟩ (.int .i64 d)).heap[w.heap.size]? = _) := ⟨((Below.heap_setCell _ _ _ _ (by show w.heap.size ≠ s_; omega)).trans ((Below.heap_setCell _ _ _ _ (by show w.heap.size ≠ s_; omega)).trans ((Below.heap_setCell _ _ _ _ (by show w.heap.size ≠ s_; omega)).trans ((Below.heap_setCell _ _ _ _ (by show w.heap.size ≠ s_; omega)).trans Bt_90.out))))⟩
  have Bq_91 : Aside0 (((((w90.setCell ⟨s_, 0, none⟩ (.int .i64 a)).setCell ⟨s_, 1, none⟩ (.int .i64 b)).setCell ⟨s_, 2, none⟩ (.int .i64 c)).setCell ⟨s_, 3, none⟩ (.int .i64 d)).heap[w.heap.size + 1]? = _) := ⟨((Below.heap_setCell _ _ _ _ (by show w.heap.size + 1 ≠ s_; omega)).trans ((Below.heap_setCell _ _ _ _ (by show w.heap.size + 1 ≠ s_; omega)).trans ((Below.heap_setCell _ _ _ _ (by show w.heap.size + 1 ≠ s_; omega)).trans ((Below.heap_setCell _ _ _ _ (by show w.heap.size + 1 ≠ s_; omega)).trans Bq_90.out))))⟩
  have Bz_91 : Aside0 (((((w90.setCell ⟨s_, 0, none⟩ (.int .i64 a)).setCell ⟨s_, 1, none⟩ (.int .i64 b)).setCell ⟨s_, 2, none⟩ (.int .i64 c)).setCell ⟨s_, 3, none⟩ (.int .i64 d)).heap[w.heap.size + 1 + 1]? = _) := ⟨((Below.heap_setCell _ _ _ _ (by show w.heap.size + 1 + 1 ≠ s_; omega)).trans ((Below.heap_setCell _ _ _ _ (by show w.heap.size + 1 + 1 ≠ s_; omega)).trans ((Below.heap_setCell _ _ _ _ (by show w.heap.size + 1 + 1 ≠ s_; omega)).trans ((Below.heap_setCell _ _ _ _ (by show w.heap.size + 1 + 1 ≠ s_; omega)).trans Bz_90.out))))⟩
  clear S_0 S_1 S_2 S_3 S_4 G_0 G_1 G_2 G_3
  generalize ((((w90.setCell ⟨s_, 0, none⟩ (.int .i64 a)).setCell ⟨s_, 1, none⟩ (.int .i64 b)).setCell ⟨s_, 2, none⟩ (.int .i64 c)).setCell ⟨s_, 3, none⟩ (.int .i64 d)) = w91 at HC_91 HU_91 hs_91 Bt_91 Bq_91 Bz_91 Bs_91 ⊢
  have ds0 : w91.cell? ⟨s_, 0, none⟩ = some (.int .i64 a) := (blk_cell Bs_91.out 0).trans rfl
  have fs0 : w91.frozen? ⟨s_, 0, none⟩ = false := blk_frozen Bs_91.out 0
  have ds1 : w91.cell? ⟨s_, 1, none⟩ = some (.int .i64 b) := (blk_cell Bs_91.out 1).trans rfl
  have fs1 : w91.frozen? ⟨s_, 1, none⟩ = false := blk_frozen Bs_91.out 1
  have ds2 : w91.cell? ⟨s_, 2, none⟩ = some (.int .i64 c) := (blk_cell Bs_91.out 2).trans rfl
  have fs2 : w91.frozen? ⟨s_, 2, none⟩ = false := blk_frozen Bs_91.out 2
  have ds3 : w91.cell? ⟨s_, 3, none⟩ = some (.int .i64 d) := (blk_cell Bs_91.out 3).trans rfl
  have fs3 : w91.frozen? ⟨s_, 3, none⟩ = false := blk_frozen Bs_91.out 3
  clear ds0 fs0 ds1 fs1 ds2 fs2 ds3 fs3
  have dt0 : w91.cell? ⟨w.heap.size, 0, none⟩ = some (.int .u64 id) := (blk_cell Bt_91.out 0).trans rfl
  have dt1 : w91.cell? ⟨w.heap.size, 1, none⟩ = some (.int .i64 co) := (blk_cell Bt_91.out 1).trans rfl
  have dt2 : w91.cell? ⟨w.heap.size, 2, none⟩ = some (.int .i64 1) := (blk_cell Bt_91.out 2).trans rfl
  have dt3 : w91.cell? ⟨w.heap.size, 3, none⟩ = some (.int .i64 lv) := (blk_cell Bt_91.out 3).trans rfl
  have dt4 : w91.cell? ⟨w.heap.size, 4, none⟩ = some (.int .u64 gn) := (blk_cell Bt_91.out 4).trans rfl
  have dt5 : w91.cell? ⟨w.heap.size, 5, none⟩ = some (.int .i64 fr) := (blk_cell Bt_91.out 5).trans rfl
  have dt6 : w91.cell? ⟨w.heap.size, 6, none⟩ = some (.int .i64 lf) := (blk_cell Bt_91.out 6).trans rfl
  have dt7 : w91.cell? ⟨w.heap.size, 7, none⟩ = some (.int .i64 du) := (blk_cell Bt_91.out 7).trans rfl
  have dt8 : w91.cell? ⟨w.heap.size, 8, none⟩ = some (.int .i64 tl) := (blk_cell Bt_91.out 8).trans rfl
  have ds0 : w91.cell? ⟨s_, 0, none⟩ = some (.int .i64 a) := (blk_cell Bs_91.out 0).trans rfl
  have fs0 : w91.frozen? ⟨s_, 0, none⟩ = false := blk_frozen Bs_91.out 0
  have ds1 : w91.cell? ⟨s_, 1, none⟩ = some (.int .i64 b) := (blk_cell Bs_91.out 1).trans rfl
  have fs1 : w91.frozen? ⟨s_, 1, none⟩ = false := blk_frozen Bs_91.out 1
  have ds2 : w91.cell? ⟨s_, 2, none⟩ = some (.int .i64 c) := (blk_cell Bs_91.out 2).trans rfl
  have fs2 : w91.frozen? ⟨s_, 2, none⟩ = false := blk_frozen Bs_91.out 2
  have ds3 : w91.cell? ⟨s_, 3, none⟩ = some (.int .i64 d) := (blk_cell Bs_91.out 3).trans rfl
  have fs3 : w91.frozen? ⟨s_, 3, none⟩ = false := blk_frozen Bs_91.out 3
  go_upto_region 12 with fail
  clear dt0 dt1 dt2 dt3 dt4 dt5 dt6 dt7 dt8 ds0 fs0 ds1 fs1 ds2 fs2 ds3 fs3
  have S_0 := And.intro HC_91.out HU_91.out
  have S_1 := step_set S_0.1 S_0.2 Bs_91.out ⟨by decide, by decide, by decide, by decide, by decide, by decide⟩ (by omega) 0 (.int .i64 lv)
  have G_0 := blk_put (cs' := #[.int .i64 lv, .int .i64 b, .int .i64 c, .int .i64 d]) Bs_91.out 0 (.int .i64 lv) rfl
  have S_2 := step_set S_1.1 S_1.2 G_0 ⟨by decide, by decide, by decide, by decide, by decide, by decide⟩ (by omega) 1 (.int .i64 0)
  have G_1 := blk_put (cs' := #[.int .i64 lv, .int .i64 0, .int .i64 c, .int .i64 d]) G_0 1 (.int .i64 0) rfl
  have S_3 := step_set S_2.1 S_2.2 G_1 ⟨by decide, by decide, by decide, by decide, by decide, by decide⟩ (by omega) 2 (.int .i64 0)
  have G_2 := blk_put (cs' := #[.int .i64 lv, .int .i64 0, .int .i64 0, .int .i64 d]) G_1 2 (.int .i64 0) rfl
  have S_4 := step_set S_3.1 S_3.2 G_2 ⟨by decide, by decide, by decide, by decide, by decide, by decide⟩ (by omega) 3 (.int .i64 0)
  have G_3 := blk_put (cs' := #[.int .i64 lv, .int .i64 0, .int .i64 0, .int .i64 0]) G_2 3 (.int .i64 0) rfl
  have HC_92 := Aside0.mk S_4.1
  have HU_92 := Aside0.mk S_4.2
  have Bs_92 := Aside0.mk G_3
  have hs_92 : w91.heap.size ≤ ((((w91.setCell ⟨s_, 0, none⟩ (.int .i64 lv)).setCell ⟨s_, 1, none⟩ (.int .i64 0)).setCell ⟨s_, 2, none⟩ (.int .i64 0)).setCell ⟨s_, 3, none⟩ (.int .i64 0)).heap.size := by simp
  have Bt_92 : Aside0 (((((w91.setCell ⟨s_, 0, none⟩ (.int .i64 lv)).setCell ⟨s_, 1, none⟩ (.int .i64 0)).setCell ⟨s_, 2, none⟩ (.int .i64 0)).setCell ⟨s_, 3, none⟩ (.int .i64 0)).heap[w.heap.size]? = _) := ⟨((Below.heap_setCell _ _ _ _ (by show w.heap.size ≠ s_; omega)).trans ((Below.heap_setCell _ _ _ _ (by show w.heap.size ≠ s_; omega)).trans ((Below.heap_setCell _ _ _ _ (by show w.heap.size ≠ s_; omega)).trans ((Below.heap_setCell _ _ _ _ (by show w.heap.size ≠ s_; omega)).trans Bt_91.out))))⟩
  have Bq_92 : Aside0 (((((w91.setCell ⟨s_, 0, none⟩ (.int .i64 lv)).setCell ⟨s_, 1, none⟩ (.int .i64 0)).setCell ⟨s_, 2, none⟩ (.int .i64 0)).setCell ⟨s_, 3, none⟩ (.int .i64 0)).heap[w.heap.size + 1]? = _) := ⟨((Below.heap_setCell _ _ _ _ (by show w.heap.size + 1 ≠ s_; omega)).trans ((Below.heap_setCell _ _ _ _ (by show w.heap.size + 1 ≠ s_; omega)).trans ((Below.heap_setCell _ _ _ _ (by show w.heap.size + 1 ≠ s_; omega)).trans ((Below.heap_setCell _ _ _ _ (by show w.heap.size + 1 ≠ s_; omega)).trans Bq_91.out))))⟩
  have Bz_92 : Aside0 (((((w91.setCell ⟨s_, 0, none⟩ (.int .i64 lv)).setCell ⟨s_, 1, none⟩ (.int .i64 0)).setCell ⟨s_, 2, none⟩ (.int .i64 0)).setCell ⟨s_, 3, none⟩ (.int .i64 0)).heap[w.heap.size + 1 + 1]? = _) := ⟨((Below.heap_setCell _ _ _ _ (by show w.heap.size + 1 + 1 ≠ s_; omega)).trans ((Below.heap_setCell _ _ _ _ (by show w.heap.size + 1 + 1 ≠ s_; omega)).trans ((Below.heap_setCell _ _ _ _ (by show w.heap.size + 1 + 1 ≠ s_; omega)).trans ((Below.heap_setCell _ _ _ _ (by show w.heap.size + 1 + 1 ≠ s_; omega)).trans Bz_91.out))))⟩
  clear S_0 S_1 S_2 S_3 S_4 G_0 G_1 G_2 G_3
  generalize ((((w91.setCell ⟨s_, 0, none⟩ (.int .i64 lv)).setCell ⟨s_, 1, none⟩ (.int .i64 0)).setCell ⟨s_, 2, none⟩ (.int .i64 0)).setCell ⟨s_, 3, none⟩ (.int .i64 0)) = w92 at HC_92 HU_92 hs_92 Bt_92 Bq_92 Bz_92 Bs_92 ⊢
  have dt0 : w92.cell? ⟨w.heap.size, 0, none⟩ = some (.int .u64 id) := (blk_cell Bt_92.out 0).trans rfl
  have dt1 : w92.cell? ⟨w.heap.size, 1, none⟩ = some (.int .i64 co) := (blk_cell Bt_92.out 1).trans rfl
  have dt2 : w92.cell? ⟨w.heap.size, 2, none⟩ = some (.int .i64 1) := (blk_cell Bt_92.out 2).trans rfl
  have dt3 : w92.cell? ⟨w.heap.size, 3, none⟩ = some (.int .i64 lv) := (blk_cell Bt_92.out 3).trans rfl
  have dt4 : w92.cell? ⟨w.heap.size, 4, none⟩ = some (.int .u64 gn) := (blk_cell Bt_92.out 4).trans rfl
  have dt5 : w92.cell? ⟨w.heap.size, 5, none⟩ = some (.int .i64 fr) := (blk_cell Bt_92.out 5).trans rfl
  have dt6 : w92.cell? ⟨w.heap.size, 6, none⟩ = some (.int .i64 lf) := (blk_cell Bt_92.out 6).trans rfl
  have dt7 : w92.cell? ⟨w.heap.size, 7, none⟩ = some (.int .i64 du) := (blk_cell Bt_92.out 7).trans rfl
  have dt8 : w92.cell? ⟨w.heap.size, 8, none⟩ = some (.int .i64 tl) := (blk_cell Bt_92.out 8).trans rfl
  have ds0 : w92.cell? ⟨s_, 0, none⟩ = some (.int .i64 lv) := (blk_cell Bs_92.out 0).trans rfl
  have fs0 : w92.frozen? ⟨s_, 0, none⟩ = false := blk_frozen Bs_92.out 0
  have ds1 : w92.cell? ⟨s_, 1, none⟩ = some (.int .i64 0) := (blk_cell Bs_92.out 1).trans rfl
  have fs1 : w92.frozen? ⟨s_, 1, none⟩ = false := blk_frozen Bs_92.out 1
  have ds2 : w92.cell? ⟨s_, 2, none⟩ = some (.int .i64 0) := (blk_cell Bs_92.out 2).trans rfl
  have fs2 : w92.frozen? ⟨s_, 2, none⟩ = false := blk_frozen Bs_92.out 2
  have ds3 : w92.cell? ⟨s_, 3, none⟩ = some (.int .i64 0) := (blk_cell Bs_92.out 3).trans rfl
  have fs3 : w92.frozen? ⟨s_, 3, none⟩ = false := blk_frozen Bs_92.out 3
  go_upto_region 13 with (go_at_call 57; with_reducible refine (ticket_with.calls id co 1 lv gn fr lf du tl 3 lv 0 0 0 0 id co 3 lv 0 0 0 0 tl 0 w92 rfl).mono ?_; rintro e w93 ⟨rfl, q1⟩; clear dt0 dt1 dt2 dt3 dt4 dt5 dt6 dt7 dt8 ds0 fs0 ds1 fs1 ds2 fs2 ds3 fs3; have HC_93 := Aside0.mk (HC_92.out.below q1); have HU_93 := Aside0.mk (HU_92.out.then q1); have hs_93 : w92.heap.size ≤ w93.heap.size := q1.size; have Bt_93 := Aside0.mk (blk_below Bt_92.out q1); have Bq_93 := Aside0.mk (blk_below Bq_92.out q1); have Bz_93 := Aside0.mk (blk_below Bz_92.out q1); have Bs_93 := Aside0.mk (blk_below Bs_92.out q1); clear q1; have dt0 : w93.cell? ⟨w.heap.size, 0, none⟩ = some (.int .u64 id) := (blk_cell Bt_93.out 0).trans rfl; have ft0 : w93.frozen? ⟨w.heap.size, 0, none⟩ = false := blk_frozen Bt_93.out 0; have dt1 : w93.cell? ⟨w.heap.size, 1, none⟩ = some (.int .i64 co) := (blk_cell Bt_93.out 1).trans rfl; have ft1 : w93.frozen? ⟨w.heap.size, 1, none⟩ = false := blk_frozen Bt_93.out 1; have dt2 : w93.cell? ⟨w.heap.size, 2, none⟩ = some (.int .i64 1) := (blk_cell Bt_93.out 2).trans rfl; have ft2 : w93.frozen? ⟨w.heap.size, 2, none⟩ = false := blk_frozen Bt_93.out 2; have dt3 : w93.cell? ⟨w.heap.size, 3, none⟩ = some (.int .i64 lv) := (blk_cell Bt_93.out 3).trans rfl; have ft3 : w93.frozen? ⟨w.heap.size, 3, none⟩ = false := blk_frozen Bt_93.out 3; have dt4 : w93.cell? ⟨w.heap.size, 4, none⟩ = some (.int .u64 gn) := (blk_cell Bt_93.out 4).trans rfl; have ft4 : w93.frozen? ⟨w.heap.size, 4, none⟩ = false := blk_frozen Bt_93.out 4; have dt5 : w93.cell? ⟨w.heap.size, 5, none⟩ = some (.int .i64 fr) := (blk_cell Bt_93.out 5).trans rfl; have ft5 : w93.frozen? ⟨w.heap.size, 5, none⟩ = false := blk_frozen Bt_93.out 5; have dt6 : w93.cell? ⟨w.heap.size, 6, none⟩ = some (.int .i64 lf) := (blk_cell Bt_93.out 6).trans rfl; have ft6 : w93.frozen? ⟨w.heap.size, 6, none⟩ = false := blk_frozen Bt_93.out 6; have dt7 : w93.cell? ⟨w.heap.size, 7, none⟩ = some (.int .i64 du) := (blk_cell Bt_93.out 7).trans rfl; have ft7 : w93.frozen? ⟨w.heap.size, 7, none⟩ = false := blk_frozen Bt_93.out 7; have dt8 : w93.cell? ⟨w.heap.size, 8, none⟩ = some (.int .i64 tl) := (blk_cell Bt_93.out 8).trans rfl; have ft8 : w93.frozen? ⟨w.heap.size, 8, none⟩ = false := blk_frozen Bt_93.out 8; have ds0 : w93.cell? ⟨s_, 0, none⟩ = some (.int .i64 lv) := (blk_cell Bs_93.out 0).trans rfl; have ds1 : w93.cell? ⟨s_, 1, none⟩ = some (.int .i64 0) := (blk_cell Bs_93.out 1).trans rfl; have ds2 : w93.cell? ⟨s_, 2, none⟩ = some (.int .i64 0) := (blk_cell Bs_93.out 2).trans rfl; have ds3 : w93.cell? ⟨s_, 3, none⟩ = some (.int .i64 0) := (blk_cell Bs_93.out 3).trans rfl)
  clear dt0 ft0 dt1 ft1 dt2 ft2 dt3 ft3 dt4 ft4 dt5 ft5 dt6 ft6 dt7 ft7 dt8 ft8 ds0 ds1 ds2 ds3
  have dt0 : w93.cell? ⟨w.heap.size, 0, none⟩ = some (.int .u64 id) := (blk_cell Bt_93.out 0).trans rfl
  have ft0 : w93.frozen? ⟨w.heap.size, 0, none⟩ = false := blk_frozen Bt_93.out 0
  have dt1 : w93.cell? ⟨w.heap.size, 1, none⟩ = some (.int .i64 co) := (blk_cell Bt_93.out 1).trans rfl
  have ft1 : w93.frozen? ⟨w.heap.size, 1, none⟩ = false := blk_frozen Bt_93.out 1
  have dt2 : w93.cell? ⟨w.heap.size, 2, none⟩ = some (.int .i64 1) := (blk_cell Bt_93.out 2).trans rfl
  have ft2 : w93.frozen? ⟨w.heap.size, 2, none⟩ = false := blk_frozen Bt_93.out 2
  have dt3 : w93.cell? ⟨w.heap.size, 3, none⟩ = some (.int .i64 lv) := (blk_cell Bt_93.out 3).trans rfl
  have ft3 : w93.frozen? ⟨w.heap.size, 3, none⟩ = false := blk_frozen Bt_93.out 3
  have dt4 : w93.cell? ⟨w.heap.size, 4, none⟩ = some (.int .u64 gn) := (blk_cell Bt_93.out 4).trans rfl
  have ft4 : w93.frozen? ⟨w.heap.size, 4, none⟩ = false := blk_frozen Bt_93.out 4
  have dt5 : w93.cell? ⟨w.heap.size, 5, none⟩ = some (.int .i64 fr) := (blk_cell Bt_93.out 5).trans rfl
  have ft5 : w93.frozen? ⟨w.heap.size, 5, none⟩ = false := blk_frozen Bt_93.out 5
  have dt6 : w93.cell? ⟨w.heap.size, 6, none⟩ = some (.int .i64 lf) := (blk_cell Bt_93.out 6).trans rfl
  have ft6 : w93.frozen? ⟨w.heap.size, 6, none⟩ = false := blk_frozen Bt_93.out 6
  have dt7 : w93.cell? ⟨w.heap.size, 7, none⟩ = some (.int .i64 du) := (blk_cell Bt_93.out 7).trans rfl
  have ft7 : w93.frozen? ⟨w.heap.size, 7, none⟩ = false := blk_frozen Bt_93.out 7
  have dt8 : w93.cell? ⟨w.heap.size, 8, none⟩ = some (.int .i64 tl) := (blk_cell Bt_93.out 8).trans rfl
  have ft8 : w93.frozen? ⟨w.heap.size, 8, none⟩ = false := blk_frozen Bt_93.out 8
  clear dt0 ft0 dt1 ft1 dt2 ft2 dt3 ft3 dt4 ft4 dt5 ft5 dt6 ft6 dt7 ft7 dt8 ft8
  have S_0 := And.intro HC_93.out HU_93.out
  have S_1 := step_set S_0.1 S_0.2 Bt_93.out ⟨by decide, by decide, by decide, by decide, by decide, by decide⟩ (by omega) 0 (.int .u64 id)
  have G_0 := blk_put (cs' := #[.int .u64 id, .int .i64 co, .int .i64 1, .int .i64 lv, .int .u64 gn, .int .i64 fr, .int .i64 lf, .int .i64 du, .int .i64 tl]) Bt_93.out 0 (.int .u64 id) rfl
  have S_2 := step_set S_1.1 S_1.2 G_0 ⟨by decide, by decide, by decide, by decide, by decide, by decide⟩ (by omega) 1 (.int .i64 co)
  have G_1 := blk_put (cs' := #[.int .u64 id, .int .i64 co, .int .i64 1, .int .i64 lv, .int .u64 gn, .int .i64 fr, .int .i64 lf, .int .i64 du, .int .i64 tl]) G_0 1 (.int .i64 co) rfl
  have S_3 := step_set S_2.1 S_2.2 G_1 ⟨by decide, by decide, by decide, by decide, by decide, by decide⟩ (by omega) 2 (.int .i64 3)
  have G_2 := blk_put (cs' := #[.int .u64 id, .int .i64 co, .int .i64 3, .int .i64 lv, .int .u64 gn, .int .i64 fr, .int .i64 lf, .int .i64 du, .int .i64 tl]) G_1 2 (.int .i64 3) rfl
  have S_4 := step_set S_3.1 S_3.2 G_2 ⟨by decide, by decide, by decide, by decide, by decide, by decide⟩ (by omega) 3 (.int .i64 lv)
  have G_3 := blk_put (cs' := #[.int .u64 id, .int .i64 co, .int .i64 3, .int .i64 lv, .int .u64 gn, .int .i64 fr, .int .i64 lf, .int .i64 du, .int .i64 tl]) G_2 3 (.int .i64 lv) rfl
  have S_5 := step_set S_4.1 S_4.2 G_3 ⟨by decide, by decide, by decide, by decide, by decide, by decide⟩ (by omega) 4 (.int .u64 0)
  have G_4 := blk_put (cs' := #[.int .u64 id, .int .i64 co, .int .i64 3, .int .i64 lv, .int .u64 0, .int .i64 fr, .int .i64 lf, .int .i64 du, .int .i64 tl]) G_3 4 (.int .u64 0) rfl
  have S_6 := step_set S_5.1 S_5.2 G_4 ⟨by decide, by decide, by decide, by decide, by decide, by decide⟩ (by omega) 5 (.int .i64 0)
  have G_5 := blk_put (cs' := #[.int .u64 id, .int .i64 co, .int .i64 3, .int .i64 lv, .int .u64 0, .int .i64 0, .int .i64 lf, .int .i64 du, .int .i64 tl]) G_4 5 (.int .i64 0) rfl
  have S_7 := step_set S_6.1 S_6.2 G_5 ⟨by decide, by decide, by decide, by decide, by decide, by decide⟩ (by omega) 6 (.int .i64 0)
  have G_6 := blk_put (cs' := #[.int .u64 id, .int .i64 co, .int .i64 3, .int .i64 lv, .int .u64 0, .int .i64 0, .int .i64 0, .int .i64 du, .int .i64 tl]) G_5 6 (.int .i64 0) rfl
  have S_8 := step_set S_7.1 S_7.2 G_6 ⟨by decide, by decide, by decide, by decide, by decide, by decide⟩ (by omega) 7 (.int .i64 0)
  have G_7 := blk_put (cs' := #[.int .u64 id, .int .i64 co, .int .i64 3, .int .i64 lv, .int .u64 0, .int .i64 0, .int .i64 0, .int .i64 0, .int .i64 tl]) G_6 7 (.int .i64 0) rfl
  have S_9 := step_set S_8.1 S_8.2 G_7 ⟨by decide, by decide, by decide, by decide, by decide, by decide⟩ (by omega) 8 (.int .i64 tl)
  have G_8 := blk_put (cs' := #[.int .u64 id, .int .i64 co, .int .i64 3, .int .i64 lv, .int .u64 0, .int .i64 0, .int .i64 0, .int .i64 0, .int .i64 tl]) G_7 8 (.int .i64 tl) rfl
  have HC_94 := Aside0.mk S_9.1
  have HU_94 := Aside0.mk S_9.2
  have Bt_94 := Aside0.mk G_8
  have hs_94 : w93.heap.size ≤ (((((((((w93.setCell ⟨w.heap.size, 0, none⟩ (.int .u64 id)).setCell ⟨w.heap.size, 1, none⟩ (.int .i64 co)).setCell ⟨w.heap.size, 2, none⟩ (.int .i64 3)).setCell ⟨w.heap.size, 3, none⟩ (.int .i64 lv)).setCell ⟨w.heap.size, 4, none⟩ (.int .u64 0)).setCell ⟨w.heap.size, 5, none⟩ (.int .i64 0)).setCell ⟨w.heap.size, 6, none⟩ (.int .i64 0)).setCell ⟨w.heap.size, 7, none⟩ (.int .i64 0)).setCell ⟨w.heap.size, 8, none⟩ (.int .i64 tl)).heap.size := by simp
  have Bq_94 : Aside0 ((((((((((w93.setCell ⟨w.heap.size, 0, none⟩ (.int .u64 id)).setCell ⟨w.heap.size, 1, none⟩ (.int .i64 co)).setCell ⟨w.heap.size, 2, none⟩ (.int .i64 3)).setCell ⟨w.heap.size, 3, none⟩ (.int .i64 lv)).setCell ⟨w.heap.size, 4, none⟩ (.int .u64 0)).setCell ⟨w.heap.size, 5, none⟩ (.int .i64 0)).setCell ⟨w.heap.size, 6, none⟩ (.int .i64 0)).setCell ⟨w.heap.size, 7, none⟩ (.int .i64 0)).setCell ⟨w.heap.size, 8, none⟩ (.int .i64 tl)).heap[w.heap.size + 1]? = _) := ⟨((Below.heap_setCell _ _ _ _ (by show w.heap.size + 1 ≠ w.heap.size; omega)).trans ((Below.heap_setCell _ _ _ _ (by show w.heap.size + 1 ≠ w.heap.size; omega)).trans ((Below.heap_setCell _ _ _ _ (by show w.heap.size + 1 ≠ w.heap.size; omega)).trans ((Below.heap_setCell _ _ _ _ (by show w.heap.size + 1 ≠ w.heap.size; omega)).trans ((Below.heap_setCell _ _ _ _ (by show w.heap.size + 1 ≠ w.heap.size; omega)).trans ((Below.heap_setCell _ _ _ _ (by show w.heap.size + 1 ≠ w.heap.size; omega)).trans ((Below.heap_setCell _ _ _ _ (by show w.heap.size + 1 ≠ w.heap.size; omega)).trans ((Below.heap_setCell _ _ _ _ (by show w.heap.size + 1 ≠ w.heap.size; omega)).trans ((Below.heap_setCell _ _ _ _ (by show w.heap.size + 1 ≠ w.heap.size; omega)).trans Bq_93.out)))))))))⟩
  have Bz_94 : Aside0 ((((((((((w93.setCell ⟨w.heap.size, 0, none⟩ (.int .u64 id)).setCell ⟨w.heap.size, 1, none⟩ (.int .i64 co)).setCell ⟨w.heap.size, 2, none⟩ (.int .i64 3)).setCell ⟨w.heap.size, 3, none⟩ (.int .i64 lv)).setCell ⟨w.heap.size, 4, none⟩ (.int .u64 0)).setCell ⟨w.heap.size, 5, none⟩ (.int .i64 0)).setCell ⟨w.heap.size, 6, none⟩ (.int .i64 0)).setCell ⟨w.heap.size, 7, none⟩ (.int .i64 0)).setCell ⟨w.heap.size, 8, none⟩ (.int .i64 tl)).heap[w.heap.size + 1 + 1]? = _) := ⟨((Below.heap_setCell _ _ _ _ (by show w.heap.size + 1 + 1 ≠ w.heap.size; omega)).trans ((Below.heap_setCell _ _ _ _ (by show w.heap.size + 1 + 1 ≠ w.heap.size; omega)).trans ((Below.heap_setCell _ _ _ _ (by show w.heap.size + 1 + 1 ≠ w.heap.size; omega)).trans ((Below.heap_setCell _ _ _ _ (by show w.heap.size + 1 + 1 ≠ w.heap.size; omega)).trans ((Below.heap_setCell _ _ _ _ (by show w.heap.size + 1 + 1 ≠ w.heap.size; omega)).trans ((Below.heap_setCell _ _ _ _ (by show w.heap.size + 1 + 1 ≠ w.heap.size; omega)).trans ((Below.heap_setCell _ _ _ _ (by show w.heap.size + 1 + 1 ≠ w.heap.size; omega)).trans ((Below.heap_setCell _ _ _ _ (by show w.heap.size + 1 + 1 ≠ w.heap.size; omega)).trans ((Below.heap_setCell _ _ _ _ (by show w.heap.size + 1 + 1 ≠ w.heap.size; omega)).trans Bz_93.out)))))))))⟩
  have Bs_94 : Aside0 ((((((((((w93.setCell ⟨w.heap.size, 0, none⟩ (.int .u64 id)).setCell ⟨w.heap.size, 1, none⟩ (.int .i64 co)).setCell ⟨w.heap.size, 2, none⟩ (.int .i64 3)).setCell ⟨w.heap.size, 3, none⟩ (.int .i64 lv)).setCell ⟨w.heap.size, 4, none⟩ (.int .u64 0)).setCell ⟨w.heap.size, 5, none⟩ (.int .i64 0)).setCell ⟨w.heap.size, 6, none⟩ (.int .i64 0)).setCell ⟨w.heap.size, 7, none⟩ (.int .i64 0)).setCell ⟨w.heap.size, 8, none⟩ (.int .i64 tl)).heap[s_]? = _) := ⟨((Below.heap_setCell _ _ _ _ (by show s_ ≠ w.heap.size; omega)).trans ((Below.heap_setCell _ _ _ _ (by show s_ ≠ w.heap.size; omega)).trans ((Below.heap_setCell _ _ _ _ (by show s_ ≠ w.heap.size; omega)).trans ((Below.heap_setCell _ _ _ _ (by show s_ ≠ w.heap.size; omega)).trans ((Below.heap_setCell _ _ _ _ (by show s_ ≠ w.heap.size; omega)).trans ((Below.heap_setCell _ _ _ _ (by show s_ ≠ w.heap.size; omega)).trans ((Below.heap_setCell _ _ _ _ (by show s_ ≠ w.heap.size; omega)).trans ((Below.heap_setCell _ _ _ _ (by show s_ ≠ w.heap.size; omega)).trans ((Below.heap_setCell _ _ _ _ (by show s_ ≠ w.heap.size; omega)).trans Bs_93.out)))))))))⟩
  clear S_0 S_1 S_2 S_3 S_4 S_5 S_6 S_7 S_8 S_9 G_0 G_1 G_2 G_3 G_4 G_5 G_6 G_7 G_8
  generalize (((((((((w93.setCell ⟨w.heap.size, 0, none⟩ (.int .u64 id)).setCell ⟨w.heap.size, 1, none⟩ (.int .i64 co)).setCell ⟨w.heap.size, 2, none⟩ (.int .i64 3)).setCell ⟨w.heap.size, 3, none⟩ (.int .i64 lv)).setCell ⟨w.heap.size, 4, none⟩ (.int .u64 0)).setCell ⟨w.heap.size, 5, none⟩ (.int .i64 0)).setCell ⟨w.heap.size, 6, none⟩ (.int .i64 0)).setCell ⟨w.heap.size, 7, none⟩ (.int .i64 0)).setCell ⟨w.heap.size, 8, none⟩ (.int .i64 tl)) = w94 at HC_94 HU_94 hs_94 Bt_94 Bq_94 Bz_94 Bs_94 ⊢
  have dt8 : w94.cell? ⟨w.heap.size, 8, none⟩ = some (.int .i64 tl) := (blk_cell Bt_94.out 8).trans rfl
  have ft8 : w94.frozen? ⟨w.heap.size, 8, none⟩ = false := blk_frozen Bt_94.out 8
  have hW := HW.out
  have hmin : (2147483647 < tl) = False := eq_false (by omega)
  go_upto_region 14 with fail
  clear dt8 ft8
  have S_0 := And.intro HC_94.out HU_94.out
  have S_1 := step_set S_0.1 S_0.2 Bt_94.out ⟨by decide, by decide, by decide, by decide, by decide, by decide⟩ (by omega) 8 (.int .i64 (tl + 1))
  have G_0 := blk_put (cs' := #[.int .u64 id, .int .i64 co, .int .i64 3, .int .i64 lv, .int .u64 0, .int .i64 0, .int .i64 0, .int .i64 0, .int .i64 (tl + 1)]) Bt_94.out 8 (.int .i64 (tl + 1)) rfl
  have HC_95 := Aside0.mk S_1.1
  have HU_95 := Aside0.mk S_1.2
  have Bt_95 := Aside0.mk G_0
  have hs_95 : w94.heap.size ≤ (w94.setCell ⟨w.heap.size, 8, none⟩ (.int .i64 (tl + 1))).heap.size := by simp
  have Bq_95 : Aside0 ((w94.setCell ⟨w.heap.size, 8, none⟩ (.int .i64 (tl + 1))).heap[w.heap.size + 1]? = _) := ⟨((Below.heap_setCell _ _ _ _ (by show w.heap.size + 1 ≠ w.heap.size; omega)).trans Bq_94.out)⟩
  have Bz_95 : Aside0 ((w94.setCell ⟨w.heap.size, 8, none⟩ (.int .i64 (tl + 1))).heap[w.heap.size + 1 + 1]? = _) := ⟨((Below.heap_setCell _ _ _ _ (by show w.heap.size + 1 + 1 ≠ w.heap.size; omega)).trans Bz_94.out)⟩
  have Bs_95 : Aside0 ((w94.setCell ⟨w.heap.size, 8, none⟩ (.int .i64 (tl + 1))).heap[s_]? = _) := ⟨((Below.heap_setCell _ _ _ _ (by show s_ ≠ w.heap.size; omega)).trans Bs_94.out)⟩
  clear S_0 S_1 G_0
  generalize (w94.setCell ⟨w.heap.size, 8, none⟩ (.int .i64 (tl + 1))) = w95 at HC_95 HU_95 hs_95 Bt_95 Bq_95 Bz_95 Bs_95 ⊢
  have dt8 : w95.cell? ⟨w.heap.size, 8, none⟩ = some (.int .i64 (tl + 1)) := (blk_cell Bt_95.out 8).trans rfl
  have ft8 : w95.frozen? ⟨w.heap.size, 8, none⟩ = false := blk_frozen Bt_95.out 8
  clear hW hmin
  clear dt8 ft8
  have dt0 : w95.cell? ⟨w.heap.size, 0, none⟩ = some (.int .u64 id) := (blk_cell Bt_95.out 0).trans rfl
  have dt1 : w95.cell? ⟨w.heap.size, 1, none⟩ = some (.int .i64 co) := (blk_cell Bt_95.out 1).trans rfl
  have dt2 : w95.cell? ⟨w.heap.size, 2, none⟩ = some (.int .i64 3) := (blk_cell Bt_95.out 2).trans rfl
  have dt3 : w95.cell? ⟨w.heap.size, 3, none⟩ = some (.int .i64 lv) := (blk_cell Bt_95.out 3).trans rfl
  have dt4 : w95.cell? ⟨w.heap.size, 4, none⟩ = some (.int .u64 0) := (blk_cell Bt_95.out 4).trans rfl
  have dt5 : w95.cell? ⟨w.heap.size, 5, none⟩ = some (.int .i64 0) := (blk_cell Bt_95.out 5).trans rfl
  have dt6 : w95.cell? ⟨w.heap.size, 6, none⟩ = some (.int .i64 0) := (blk_cell Bt_95.out 6).trans rfl
  have dt7 : w95.cell? ⟨w.heap.size, 7, none⟩ = some (.int .i64 0) := (blk_cell Bt_95.out 7).trans rfl
  have dt8 : w95.cell? ⟨w.heap.size, 8, none⟩ = some (.int .i64 (tl + 1)) := (blk_cell Bt_95.out 8).trans rfl
  have dz0 : w95.cell? ⟨w.heap.size + 1 + 1, 0, none⟩ = some (.int .u64 0) := (blk_cell Bz_95.out 0).trans rfl
  have fz0 : w95.frozen? ⟨w.heap.size + 1 + 1, 0, none⟩ = false := blk_frozen Bz_95.out 0
  have dz1 : w95.cell? ⟨w.heap.size + 1 + 1, 1, none⟩ = some (.int .i64 0) := (blk_cell Bz_95.out 1).trans rfl
  have fz1 : w95.frozen? ⟨w.heap.size + 1 + 1, 1, none⟩ = false := blk_frozen Bz_95.out 1
  have dz2 : w95.cell? ⟨w.heap.size + 1 + 1, 2, none⟩ = some (.int .i64 0) := (blk_cell Bz_95.out 2).trans rfl
  have fz2 : w95.frozen? ⟨w.heap.size + 1 + 1, 2, none⟩ = false := blk_frozen Bz_95.out 2
  have dz3 : w95.cell? ⟨w.heap.size + 1 + 1, 3, none⟩ = some (.int .i64 0) := (blk_cell Bz_95.out 3).trans rfl
  have fz3 : w95.frozen? ⟨w.heap.size + 1 + 1, 3, none⟩ = false := blk_frozen Bz_95.out 3
  have dz4 : w95.cell? ⟨w.heap.size + 1 + 1, 4, none⟩ = some (.int .u64 0) := (blk_cell Bz_95.out 4).trans rfl
  have fz4 : w95.frozen? ⟨w.heap.size + 1 + 1, 4, none⟩ = false := blk_frozen Bz_95.out 4
  have dz5 : w95.cell? ⟨w.heap.size + 1 + 1, 5, none⟩ = some (.int .i64 0) := (blk_cell Bz_95.out 5).trans rfl
  have fz5 : w95.frozen? ⟨w.heap.size + 1 + 1, 5, none⟩ = false := blk_frozen Bz_95.out 5
  have dz6 : w95.cell? ⟨w.heap.size + 1 + 1, 6, none⟩ = some (.int .i64 0) := (blk_cell Bz_95.out 6).trans rfl
  have fz6 : w95.frozen? ⟨w.heap.size + 1 + 1, 6, none⟩ = false := blk_frozen Bz_95.out 6
  have dz7 : w95.cell? ⟨w.heap.size + 1 + 1, 7, none⟩ = some (.int .i64 0) := (blk_cell Bz_95.out 7).trans rfl
  have fz7 : w95.frozen? ⟨w.heap.size + 1 + 1, 7, none⟩ = false := blk_frozen Bz_95.out 7
  have dz8 : w95.cell? ⟨w.heap.size + 1 + 1, 8, none⟩ = some (.int .i64 0) := (blk_cell Bz_95.out 8).trans rfl
  have fz8 : w95.frozen? ⟨w.heap.size + 1 + 1, 8, none⟩ = false := blk_frozen Bz_95.out 8
  go_wp2
  clear dt0 dt1 dt2 dt3 dt4 dt5 dt6 dt7 dt8 dz0 fz0 dz1 fz1 dz2 fz2 dz3 fz3 dz4 fz4 dz5 fz5 dz6 fz6 dz7 fz7 dz8 fz8
  have S_0 := And.intro HC_95.out HU_95.out
  have S_1 := step_set S_0.1 S_0.2 Bz_95.out ⟨by decide, by decide, by decide, by decide, by decide, by decide⟩ (by omega) 0 (.int .u64 id)
  have G_0 := blk_put (cs' := #[.int .u64 id, .int .i64 0, .int .i64 0, .int .i64 0, .int .u64 0, .int .i64 0, .int .i64 0, .int .i64 0, .int .i64 0]) Bz_95.out 0 (.int .u64 id) rfl
  have S_2 := step_set S_1.1 S_1.2 G_0 ⟨by decide, by decide, by decide, by decide, by decide, by decide⟩ (by omega) 1 (.int .i64 co)
  have G_1 := blk_put (cs' := #[.int .u64 id, .int .i64 co, .int .i64 0, .int .i64 0, .int .u64 0, .int .i64 0, .int .i64 0, .int .i64 0, .int .i64 0]) G_0 1 (.int .i64 co) rfl
  have S_3 := step_set S_2.1 S_2.2 G_1 ⟨by decide, by decide, by decide, by decide, by decide, by decide⟩ (by omega) 2 (.int .i64 3)
  have G_2 := blk_put (cs' := #[.int .u64 id, .int .i64 co, .int .i64 3, .int .i64 0, .int .u64 0, .int .i64 0, .int .i64 0, .int .i64 0, .int .i64 0]) G_1 2 (.int .i64 3) rfl
  have S_4 := step_set S_3.1 S_3.2 G_2 ⟨by decide, by decide, by decide, by decide, by decide, by decide⟩ (by omega) 3 (.int .i64 lv)
  have G_3 := blk_put (cs' := #[.int .u64 id, .int .i64 co, .int .i64 3, .int .i64 lv, .int .u64 0, .int .i64 0, .int .i64 0, .int .i64 0, .int .i64 0]) G_2 3 (.int .i64 lv) rfl
  have S_5 := step_set S_4.1 S_4.2 G_3 ⟨by decide, by decide, by decide, by decide, by decide, by decide⟩ (by omega) 4 (.int .u64 0)
  have G_4 := blk_put (cs' := #[.int .u64 id, .int .i64 co, .int .i64 3, .int .i64 lv, .int .u64 0, .int .i64 0, .int .i64 0, .int .i64 0, .int .i64 0]) G_3 4 (.int .u64 0) rfl
  have S_6 := step_set S_5.1 S_5.2 G_4 ⟨by decide, by decide, by decide, by decide, by decide, by decide⟩ (by omega) 5 (.int .i64 0)
  have G_5 := blk_put (cs' := #[.int .u64 id, .int .i64 co, .int .i64 3, .int .i64 lv, .int .u64 0, .int .i64 0, .int .i64 0, .int .i64 0, .int .i64 0]) G_4 5 (.int .i64 0) rfl
  have S_7 := step_set S_6.1 S_6.2 G_5 ⟨by decide, by decide, by decide, by decide, by decide, by decide⟩ (by omega) 6 (.int .i64 0)
  have G_6 := blk_put (cs' := #[.int .u64 id, .int .i64 co, .int .i64 3, .int .i64 lv, .int .u64 0, .int .i64 0, .int .i64 0, .int .i64 0, .int .i64 0]) G_5 6 (.int .i64 0) rfl
  have S_8 := step_set S_7.1 S_7.2 G_6 ⟨by decide, by decide, by decide, by decide, by decide, by decide⟩ (by omega) 7 (.int .i64 0)
  have G_7 := blk_put (cs' := #[.int .u64 id, .int .i64 co, .int .i64 3, .int .i64 lv, .int .u64 0, .int .i64 0, .int .i64 0, .int .i64 0, .int .i64 0]) G_6 7 (.int .i64 0) rfl
  have S_9 := step_set S_8.1 S_8.2 G_7 ⟨by decide, by decide, by decide, by decide, by decide, by decide⟩ (by omega) 8 (.int .i64 (tl + 1))
  have G_8 := blk_put (cs' := #[.int .u64 id, .int .i64 co, .int .i64 3, .int .i64 lv, .int .u64 0, .int .i64 0, .int .i64 0, .int .i64 0, .int .i64 (tl + 1)]) G_7 8 (.int .i64 (tl + 1)) rfl
  have HC_96 := Aside0.mk S_9.1
  have HU_96 := Aside0.mk S_9.2
  have Bz_96 := Aside0.mk G_8
  have hs_96 : w95.heap.size ≤ (((((((((w95.setCell ⟨w.heap.size + 1 + 1, 0, none⟩ (.int .u64 id)).setCell ⟨w.heap.size + 1 + 1, 1, none⟩ (.int .i64 co)).setCell ⟨w.heap.size + 1 + 1, 2, none⟩ (.int .i64 3)).setCell ⟨w.heap.size + 1 + 1, 3, none⟩ (.int .i64 lv)).setCell ⟨w.heap.size + 1 + 1, 4, none⟩ (.int .u64 0)).setCell ⟨w.heap.size + 1 + 1, 5, none⟩ (.int .i64 0)).setCell ⟨w.heap.size + 1 + 1, 6, none⟩ (.int .i64 0)).setCell ⟨w.heap.size + 1 + 1, 7, none⟩ (.int .i64 0)).setCell ⟨w.heap.size + 1 + 1, 8, none⟩ (.int .i64 (tl + 1))).heap.size := by simp
  have Bt_96 : Aside0 ((((((((((w95.setCell ⟨w.heap.size + 1 + 1, 0, none⟩ (.int .u64 id)).setCell ⟨w.heap.size + 1 + 1, 1, none⟩ (.int .i64 co)).setCell ⟨w.heap.size + 1 + 1, 2, none⟩ (.int .i64 3)).setCell ⟨w.heap.size + 1 + 1, 3, none⟩ (.int .i64 lv)).setCell ⟨w.heap.size + 1 + 1, 4, none⟩ (.int .u64 0)).setCell ⟨w.heap.size + 1 + 1, 5, none⟩ (.int .i64 0)).setCell ⟨w.heap.size + 1 + 1, 6, none⟩ (.int .i64 0)).setCell ⟨w.heap.size + 1 + 1, 7, none⟩ (.int .i64 0)).setCell ⟨w.heap.size + 1 + 1, 8, none⟩ (.int .i64 (tl + 1))).heap[w.heap.size]? = _) := ⟨((Below.heap_setCell _ _ _ _ (by show w.heap.size ≠ w.heap.size + 1 + 1; omega)).trans ((Below.heap_setCell _ _ _ _ (by show w.heap.size ≠ w.heap.size + 1 + 1; omega)).trans ((Below.heap_setCell _ _ _ _ (by show w.heap.size ≠ w.heap.size + 1 + 1; omega)).trans ((Below.heap_setCell _ _ _ _ (by show w.heap.size ≠ w.heap.size + 1 + 1; omega)).trans ((Below.heap_setCell _ _ _ _ (by show w.heap.size ≠ w.heap.size + 1 + 1; omega)).trans ((Below.heap_setCell _ _ _ _ (by show w.heap.size ≠ w.heap.size + 1 + 1; omega)).trans ((Below.heap_setCell _ _ _ _ (by show w.heap.size ≠ w.heap.size + 1 + 1; omega)).trans ((Below.heap_setCell _ _ _ _ (by show w.heap.size ≠ w.heap.size + 1 + 1; omega)).trans ((Below.heap_setCell _ _ _ _ (by show w.heap.size ≠ w.heap.size + 1 + 1; omega)).trans Bt_95.out)))))))))⟩
  have Bq_96 : Aside0 ((((((((((w95.setCell ⟨w.heap.size + 1 + 1, 0, none⟩ (.int .u64 id)).setCell ⟨w.heap.size + 1 + 1, 1, none⟩ (.int .i64 co)).setCell ⟨w.heap.size + 1 + 1, 2, none⟩ (.int .i64 3)).setCell ⟨w.heap.size + 1 + 1, 3, none⟩ (.int .i64 lv)).setCell ⟨w.heap.size + 1 + 1, 4, none⟩ (.int .u64 0)).setCell ⟨w.heap.size + 1 + 1, 5, none⟩ (.int .i64 0)).setCell ⟨w.heap.size + 1 + 1, 6, none⟩ (.int .i64 0)).setCell ⟨w.heap.size + 1 + 1, 7, none⟩ (.int .i64 0)).setCell ⟨w.heap.size + 1 + 1, 8, none⟩ (.int .i64 (tl + 1))).heap[w.heap.size + 1]? = _) := ⟨((Below.heap_setCell _ _ _ _ (by show w.heap.size + 1 ≠ w.heap.size + 1 + 1; omega)).trans ((Below.heap_setCell _ _ _ _ (by show w.heap.size + 1 ≠ w.heap.size + 1 + 1; omega)).trans ((Below.heap_setCell _ _ _ _ (by show w.heap.size + 1 ≠ w.heap.size + 1 + 1; omega)).trans ((Below.heap_setCell _ _ _ _ (by show w.heap.size + 1 ≠ w.heap.size + 1 + 1; omega)).trans ((Below.heap_setCell _ _ _ _ (by show w.heap.size + 1 ≠ w.heap.size + 1 + 1; omega)).trans ((Below.heap_setCell _ _ _ _ (by show w.heap.size + 1 ≠ w.heap.size + 1 + 1; omega)).trans ((Below.heap_setCell _ _ _ _ (by show w.heap.size + 1 ≠ w.heap.size + 1 + 1; omega)).trans ((Below.heap_setCell _ _ _ _ (by show w.heap.size + 1 ≠ w.heap.size + 1 + 1; omega)).trans ((Below.heap_setCell _ _ _ _ (by show w.heap.size + 1 ≠ w.heap.size + 1 + 1; omega)).trans Bq_95.out)))))))))⟩
  have Bs_96 : Aside0 ((((((((((w95.setCell ⟨w.heap.size + 1 + 1, 0, none⟩ (.int .u64 id)).setCell ⟨w.heap.size + 1 + 1, 1, none⟩ (.int .i64 co)).setCell ⟨w.heap.size + 1 + 1, 2, none⟩ (.int .i64 3)).setCell ⟨w.heap.size + 1 + 1, 3, none⟩ (.int .i64 lv)).setCell ⟨w.heap.size + 1 + 1, 4, none⟩ (.int .u64 0)).setCell ⟨w.heap.size + 1 + 1, 5, none⟩ (.int .i64 0)).setCell ⟨w.heap.size + 1 + 1, 6, none⟩ (.int .i64 0)).setCell ⟨w.heap.size + 1 + 1, 7, none⟩ (.int .i64 0)).setCell ⟨w.heap.size + 1 + 1, 8, none⟩ (.int .i64 (tl + 1))).heap[s_]? = _) := ⟨((Below.heap_setCell _ _ _ _ (by show s_ ≠ w.heap.size + 1 + 1; omega)).trans ((Below.heap_setCell _ _ _ _ (by show s_ ≠ w.heap.size + 1 + 1; omega)).trans ((Below.heap_setCell _ _ _ _ (by show s_ ≠ w.heap.size + 1 + 1; omega)).trans ((Below.heap_setCell _ _ _ _ (by show s_ ≠ w.heap.size + 1 + 1; omega)).trans ((Below.heap_setCell _ _ _ _ (by show s_ ≠ w.heap.size + 1 + 1; omega)).trans ((Below.heap_setCell _ _ _ _ (by show s_ ≠ w.heap.size + 1 + 1; omega)).trans ((Below.heap_setCell _ _ _ _ (by show s_ ≠ w.heap.size + 1 + 1; omega)).trans ((Below.heap_setCell _ _ _ _ (by show s_ ≠ w.heap.size + 1 + 1; omega)).trans ((Below.heap_setCell _ _ _ _ (by show s_ ≠ w.heap.size + 1 + 1; omega)).trans Bs_95.out)))))))))⟩
  clear S_0 S_1 S_2 S_3 S_4 S_5 S_6 S_7 S_8 S_9 G_0 G_1 G_2 G_3 G_4 G_5 G_6 G_7 G_8
  generalize (((((((((w95.setCell ⟨w.heap.size + 1 + 1, 0, none⟩ (.int .u64 id)).setCell ⟨w.heap.size + 1 + 1, 1, none⟩ (.int .i64 co)).setCell ⟨w.heap.size + 1 + 1, 2, none⟩ (.int .i64 3)).setCell ⟨w.heap.size + 1 + 1, 3, none⟩ (.int .i64 lv)).setCell ⟨w.heap.size + 1 + 1, 4, none⟩ (.int .u64 0)).setCell ⟨w.heap.size + 1 + 1, 5, none⟩ (.int .i64 0)).setCell ⟨w.heap.size + 1 + 1, 6, none⟩ (.int .i64 0)).setCell ⟨w.heap.size + 1 + 1, 7, none⟩ (.int .i64 0)).setCell ⟨w.heap.size + 1 + 1, 8, none⟩ (.int .i64 (tl + 1))) = w96 at HC_96 HU_96 hs_96 Bt_96 Bq_96 Bz_96 Bs_96 ⊢
  have dt0 : w96.cell? ⟨w.heap.size, 0, none⟩ = some (.int .u64 id) := (blk_cell Bt_96.out 0).trans rfl
  have dt1 : w96.cell? ⟨w.heap.size, 1, none⟩ = some (.int .i64 co) := (blk_cell Bt_96.out 1).trans rfl
  have dt2 : w96.cell? ⟨w.heap.size, 2, none⟩ = some (.int .i64 3) := (blk_cell Bt_96.out 2).trans rfl
  have dt3 : w96.cell? ⟨w.heap.size, 3, none⟩ = some (.int .i64 lv) := (blk_cell Bt_96.out 3).trans rfl
  have dt4 : w96.cell? ⟨w.heap.size, 4, none⟩ = some (.int .u64 0) := (blk_cell Bt_96.out 4).trans rfl
  have dt5 : w96.cell? ⟨w.heap.size, 5, none⟩ = some (.int .i64 0) := (blk_cell Bt_96.out 5).trans rfl
  have dt6 : w96.cell? ⟨w.heap.size, 6, none⟩ = some (.int .i64 0) := (blk_cell Bt_96.out 6).trans rfl
  have dt7 : w96.cell? ⟨w.heap.size, 7, none⟩ = some (.int .i64 0) := (blk_cell Bt_96.out 7).trans rfl
  have dt8 : w96.cell? ⟨w.heap.size, 8, none⟩ = some (.int .i64 (tl + 1)) := (blk_cell Bt_96.out 8).trans rfl
  have dz0 : w96.cell? ⟨w.heap.size + 1 + 1, 0, none⟩ = some (.int .u64 id) := (blk_cell Bz_96.out 0).trans rfl
  have fz0 : w96.frozen? ⟨w.heap.size + 1 + 1, 0, none⟩ = false := blk_frozen Bz_96.out 0
  have dz1 : w96.cell? ⟨w.heap.size + 1 + 1, 1, none⟩ = some (.int .i64 co) := (blk_cell Bz_96.out 1).trans rfl
  have fz1 : w96.frozen? ⟨w.heap.size + 1 + 1, 1, none⟩ = false := blk_frozen Bz_96.out 1
  have dz2 : w96.cell? ⟨w.heap.size + 1 + 1, 2, none⟩ = some (.int .i64 3) := (blk_cell Bz_96.out 2).trans rfl
  have fz2 : w96.frozen? ⟨w.heap.size + 1 + 1, 2, none⟩ = false := blk_frozen Bz_96.out 2
  have dz3 : w96.cell? ⟨w.heap.size + 1 + 1, 3, none⟩ = some (.int .i64 lv) := (blk_cell Bz_96.out 3).trans rfl
  have fz3 : w96.frozen? ⟨w.heap.size + 1 + 1, 3, none⟩ = false := blk_frozen Bz_96.out 3
  have dz4 : w96.cell? ⟨w.heap.size + 1 + 1, 4, none⟩ = some (.int .u64 0) := (blk_cell Bz_96.out 4).trans rfl
  have fz4 : w96.frozen? ⟨w.heap.size + 1 + 1, 4, none⟩ = false := blk_frozen Bz_96.out 4
  have dz5 : w96.cell? ⟨w.heap.size + 1 + 1, 5, none⟩ = some (.int .i64 0) := (blk_cell Bz_96.out 5).trans rfl
  have fz5 : w96.frozen? ⟨w.heap.size + 1 + 1, 5, none⟩ = false := blk_frozen Bz_96.out 5
  have dz6 : w96.cell? ⟨w.heap.size + 1 + 1, 6, none⟩ = some (.int .i64 0) := (blk_cell Bz_96.out 6).trans rfl
  have fz6 : w96.frozen? ⟨w.heap.size + 1 + 1, 6, none⟩ = false := blk_frozen Bz_96.out 6
  have dz7 : w96.cell? ⟨w.heap.size + 1 + 1, 7, none⟩ = some (.int .i64 0) := (blk_cell Bz_96.out 7).trans rfl
  have fz7 : w96.frozen? ⟨w.heap.size + 1 + 1, 7, none⟩ = false := blk_frozen Bz_96.out 7
  have dz8 : w96.cell? ⟨w.heap.size + 1 + 1, 8, none⟩ = some (.int .i64 (tl + 1)) := (blk_cell Bz_96.out 8).trans rfl
  have fz8 : w96.frozen? ⟨w.heap.size + 1 + 1, 8, none⟩ = false := blk_frozen Bz_96.out 8
  refine bodyPost_ret (v := .tuple #[.agg #[.int .u64 id, .int .i64 co, .int .i64 3, .int .i64 lv, .int .u64 0, .int .i64 0, .int .i64 0, .int .i64 0, .int .i64 (tl + 1)], .int .i64 lv, .int .i64 0]) (by simp [results, Try.results27, go_sem, dz0, dz1, dz2, dz3, dz4, dz5, dz6, dz7, dz8]) rfl ⟨rfl, HC_96.out, HU_96.out⟩
end Go.Proofs.Ytepldlnmeenlbaa.Own
namespace Go.Proofs.Ytepldlnmeenlbaa.Own
open Go.RowKit Go.Proofs Go.Proofs.YtepldlnmeenlbaaW.PrintWords Go.Proofs.YtepldlnmeenlbaaW.PrintLast Go.Proofs.YtepldlnmeenlbaaW.PrintMore Go.Proofs.Ytepldlnmeenlbaa.Base
variable {w w' : World} {n kb ab pb cb : Nat} {off : Int} {week closed : List S143}
theorem always16_any (w : World) : Calls Try.prog 41 #[] w fun e w' => ∃ A1 c1 A2 c2, e = .returned (.agg #[.int .i64 0, .slice A1 [(⟨0, 604800⟩ : S143)].length c1, .slice A2 ([] : List S143).length c2]) ∧ (Kd.C k143 w' A1 [(⟨0, 604800⟩ : S143)].length [⟨0, 604800⟩] ∧ [(⟨0, 604800⟩ : S143)].length ≤ c1) ∧ (Kd.C k143 w' A2 ([] : List S143).length [] ∧ ([] : List S143).length ≤ c2) ∧ Below w.heap.size w w' :=
  (curfewlaw15_Always.calls 0 [⟨0, 604800⟩] [] w rfl).mono fun e w' ⟨v1, v2, he, h1, h2, hb⟩ => by
    obtain ⟨A1, c1, rfl, hc1, hr1⟩ := Kd.R_reads h1
    obtain ⟨A2, c2, rfl, hc2, hr2⟩ := Kd.R_reads h2
    exact ⟨A1, c1, A2, c2, he, ⟨hr1, hc1⟩, ⟨hr2, hc2⟩, hb⟩
theorem plain16_any (w : World) {b : Nat} {t : TypeId} {cs : Array Value} (hg : w.heap[b]? = some (.cells cs t (0, 0))) (ht : t ≠ 98) : Calls Try.prog 42 #[] w fun e w' => ∃ A1 c1, e = .returned (.agg #[.int .i64 0, .slice A1 [(⟨10, 0⟩ : S98), ⟨20, 1⟩].length c1, .int .i64 2, .int .i64 5]) ∧ (∀ W', KeepBut w' W' b none → Kd.C k98 W' A1 [(⟨10, 0⟩ : S98), ⟨20, 1⟩].length [⟨10, 0⟩, ⟨20, 1⟩] ∧ [(⟨10, 0⟩ : S98), ⟨20, 1⟩].length ≤ c1) ∧ Below w.heap.size w w' :=
  (curfewlaw14_Plain.calls 0 [⟨10, 0⟩, ⟨20, 1⟩] 2 5 w rfl).mono fun e w' ⟨v1, he, h1, hb⟩ => by
    obtain ⟨A1, c1, rfl, hc1, hr1⟩ := Kd.R_reads h1
    have hf := Kd.C_foot_own (g := b) (Kd.R_types h1 (blk_below hg hb) (types1 rfl ht)) (fun _ hk => hk.2)
    exact ⟨A1, c1, he, fun W' hk => ⟨hf W' hk, hc1⟩, hb⟩
theorem upd_below16 {cb n0 : Nat} {w u v : World} (h : Below n0 w u) (hu : Upd cb u v) (hn : n0 ≤ cb) (hs : n0 ≤ u.heap.size) : Below n0 w v := h.trans (Upd.below hu hs hn)
theorem keep_of_upd {cb : Nat} {u v : World} (h : Upd cb u v) : KeepBut u v cb none := ⟨h.size, fun i hi hne _ => h.block i hi (fun e => hne (Option.some.inj e))⟩
theorem ClkAt.lazyT (h : ClkAt w n kb ab pb cb off week closed) : ∃ cs, w.heap[cb]? = some (.cells cs 189 (0, 0)) := by
  obtain ⟨m, k, ⟨lv, hc⟩ | ⟨v, hc, hr⟩⟩ := h.plan.cell
  · exact ⟨_, hc⟩
  · exact ⟨_, hc⟩
theorem l16_0 : calErr 0 [⟨0, 604800⟩] [] = 0 := by kernel_rfl
theorem l16_1 : firstP 0 [⟨0, 604800⟩] [] 0 [⟨10, 0⟩, ⟨20, 1⟩] 2 5 0 = (0, 0, 10, 10, 0) := by kernel_rfl
theorem l16_2 : nextP 0 [⟨0, 604800⟩] [] 0 [⟨10, 0⟩, ⟨20, 1⟩] 2 5 0 12 = (1, 12, 20, 32, 0) := by kernel_rfl
theorem l16_3 : moreP 0 [⟨0, 604800⟩] [] 0 [⟨10, 0⟩, ⟨20, 1⟩] 2 5 0 12 = true := by kernel_rfl
theorem l16_4 : nextP 0 [⟨0, 604800⟩] [] 0 [⟨10, 0⟩, ⟨20, 1⟩] 2 5 1 32 = (0, 0, 0, 0, 0) := by kernel_rfl
theorem l16_5 : moreP 0 [⟨0, 604800⟩] [] 0 [⟨10, 0⟩, ⟨20, 1⟩] 2 5 1 32 = false := by kernel_rfl
theorem l16_6 : goodP 0 [⟨10, 0⟩, ⟨20, 1⟩] 2 5 = true := by kernel_rfl
set_option maxHeartbeats 4000000 in
set_option maxRecDepth 100000 in
theorem lives16_any (w : World) : Calls Try.prog 8 #[] w fun e w' => e = .returned (.bool true) ∧ Below w.heap.size w w' := by
  go_enter Try.func8, Try.ntmps8
  go_wp2_with (first | (go_at_call 41; refine (always16_any w).mono ?_; rintro e w1 ⟨A1, c1, A2, c2, rfl, q1, q2, hb⟩; have HQ1 := Aside0.mk q1; have HQ2 := Aside0.mk q2; have HB1 := Aside0.mk hb; clear q1 q2 hb) | (go_at_call 22; refine (calnew_yes 0 A1 A2 c1 c2 [⟨0, 604800⟩] [] w1 HQ1.out.1 HQ1.out.2 HQ2.out.1 HQ2.out.2 l16_0).mono ?_; rintro e w2 ⟨kb, ab, pb, cb, rfl, CK, hb⟩; have HC2 := Aside0.mk CK; have HB2 := Aside0.mk hb; have HCB2 := Aside0.mk CK.lt; obtain ⟨ccs, hcc⟩ := CK.lazyT; have HCC := Aside0.mk hcc; clear CK hb hcc) | (go_at_call 42; refine (plain16_any w2 HCC.out (by decide)).mono ?_; rintro e w3 ⟨A3, c3, rfl, q3, hb⟩; have HF := Aside0.mk q3; have HC3 := Aside0.mk (HC2.out.below hb); have HB3 := Aside0.mk hb; clear q3 hb))
  have hcb := HCB2.out
  have hk3 := HB3.out.size
  have hk2 := HB2.out.size
  have hk1 := HB1.out.size
  have hncb := HC2.out.plan.ncb
  have HC_3 := HC3
  have HU_3 := Aside0.mk (Upd.refl cb w3)
  have hs_3 : w3.heap.size ≤ w3.heap.size := Nat.le_refl _
  have HLq_3 := Aside0.mk (HF.out _ (keep_of_upd HU_3.out))
  have hb : Below w3.heap.size w3 (w3.alloc (.cells #[.int .i64 0, .slice A3 2 c3, .int .i64 2, .int .i64 5] 49)) := below_alloc (Below.refl _ _) _
  have HC_4 := Aside0.mk (HC_3.out.below hb)
  have HU_4 := Aside0.mk (HU_3.out.then hb)
  have hs_4 : w3.heap.size ≤ (w3.alloc (.cells #[.int .i64 0, .slice A3 2 c3, .int .i64 2, .int .i64 5] 49)).heap.size := hb.size
  clear hb
  have Bq_4 := Aside0.mk (blk_new w3 (.cells #[.int .i64 0, .slice A3 2 c3, .int .i64 2, .int .i64 5] 49))
  have hz_4 : w3.heap.size < (w3.alloc (.cells #[.int .i64 0, .slice A3 2 c3, .int .i64 2, .int .i64 5] 49)).heap.size := blk_lt Bq_4.out
  generalize (w3.alloc (.cells #[.int .i64 0, .slice A3 2 c3, .int .i64 2, .int .i64 5] 49)) = w4 at HC_4 HU_4 hs_4 Bq_4 hz_4 ⊢
  have dq0 : w4.cell? ⟨w3.heap.size, 0, none⟩ = some (.int .i64 0) := (blk_cell Bq_4.out 0).trans rfl
  have dq1 : w4.cell? ⟨w3.heap.size, 1, none⟩ = some (.slice A3 2 c3) := (blk_cell Bq_4.out 1).trans rfl
  have dq2 : w4.cell? ⟨w3.heap.size, 2, none⟩ = some (.int .i64 2) := (blk_cell Bq_4.out 2).trans rfl
  have dq3 : w4.cell? ⟨w3.heap.size, 3, none⟩ = some (.int .i64 5) := (blk_cell Bq_4.out 3).trans rfl
  have HLq_4 := Aside0.mk (HF.out _ (keep_of_upd HU_4.out))
  have HO := Aside0.mk (@tkopen_any w1.heap.size kb ab pb cb 0 [⟨0, 604800⟩] [] A3 c3 [⟨10, 0⟩, ⟨20, 1⟩] 0 2 5 0 7 0 0 0 10 10 0 7 0 1 0 0 0 10 10 0 0 w4 HC_4.out (by omega) HLq_4.out (by omega) (by omega) l16_1 rfl)
  simp only [List.length_cons, List.length_nil, Nat.zero_add, Nat.reduceAdd] at HO
  go_upto_region 4 with (go_at_call 23; with_reducible refine (HO.out).mono ?_; rintro e w5 ⟨rfl, q1, q2⟩; clear HO; clear dq0 dq1 dq2 dq3; have HC_5 := Aside0.mk q1; have HU_5 := Aside0.mk (HU_4.out.trans q2); have hs_5 : w4.heap.size ≤ w5.heap.size := q2.size; have Bq_5 := Aside0.mk (q2.blk Bq_4.out (by omega)); clear q1 q2; have dq0 : w5.cell? ⟨w3.heap.size, 0, none⟩ = some (.int .i64 0) := (blk_cell Bq_5.out 0).trans rfl; have dq1 : w5.cell? ⟨w3.heap.size, 1, none⟩ = some (.slice A3 2 c3) := (blk_cell Bq_5.out 1).trans rfl; have dq2 : w5.cell? ⟨w3.heap.size, 2, none⟩ = some (.int .i64 2) := (blk_cell Bq_5.out 2).trans rfl; have dq3 : w5.cell? ⟨w3.heap.size, 3, none⟩ = some (.int .i64 5) := (blk_cell Bq_5.out 3).trans rfl; have HLq_5 := Aside0.mk (HF.out _ (keep_of_upd HU_5.out)))
  have hb : Below w5.heap.size w5 (w5.alloc (.cells #[.int .u64 7, .int .i64 0, .int .i64 1, .int .i64 0, .int .u64 0, .int .i64 0, .int .i64 10, .int .i64 10, .int .i64 0] 24)) := below_alloc (Below.refl _ _) _
  clear dq0 dq1 dq2 dq3
  have HC_6 := Aside0.mk (HC_5.out.below hb)
  have HU_6 := Aside0.mk (HU_5.out.then hb)
  have hs_6 : w5.heap.size ≤ (w5.alloc (.cells #[.int .u64 7, .int .i64 0, .int .i64 1, .int .i64 0, .int .u64 0, .int .i64 0, .int .i64 10, .int .i64 10, .int .i64 0] 24)).heap.size := hb.size
  have Bq_6 := Aside0.mk (blk_below Bq_5.out hb)
  clear hb
  have Bt_6 := Aside0.mk (blk_new w5 (.cells #[.int .u64 7, .int .i64 0, .int .i64 1, .int .i64 0, .int .u64 0, .int .i64 0, .int .i64 10, .int .i64 10, .int .i64 0] 24))
  have hz_6 : w5.heap.size < (w5.alloc (.cells #[.int .u64 7, .int .i64 0, .int .i64 1, .int .i64 0, .int .u64 0, .int .i64 0, .int .i64 10, .int .i64 10, .int .i64 0] 24)).heap.size := blk_lt Bt_6.out
  generalize (w5.alloc (.cells #[.int .u64 7, .int .i64 0, .int .i64 1, .int .i64 0, .int .u64 0, .int .i64 0, .int .i64 10, .int .i64 10, .int .i64 0] 24)) = w6 at HC_6 HU_6 hs_6 Bq_6 Bt_6 hz_6 ⊢
  have dq0 : w6.cell? ⟨w3.heap.size, 0, none⟩ = some (.int .i64 0) := (blk_cell Bq_6.out 0).trans rfl
  have dq1 : w6.cell? ⟨w3.heap.size, 1, none⟩ = some (.slice A3 2 c3) := (blk_cell Bq_6.out 1).trans rfl
  have dq2 : w6.cell? ⟨w3.heap.size, 2, none⟩ = some (.int .i64 2) := (blk_cell Bq_6.out 2).trans rfl
  have dq3 : w6.cell? ⟨w3.heap.size, 3, none⟩ = some (.int .i64 5) := (blk_cell Bq_6.out 3).trans rfl
  have dt0 : w6.cell? ⟨w5.heap.size, 0, none⟩ = some (.int .u64 7) := (blk_cell Bt_6.out 0).trans rfl
  have dt1 : w6.cell? ⟨w5.heap.size, 1, none⟩ = some (.int .i64 0) := (blk_cell Bt_6.out 1).trans rfl
  have dt2 : w6.cell? ⟨w5.heap.size, 2, none⟩ = some (.int .i64 1) := (blk_cell Bt_6.out 2).trans rfl
  have dt3 : w6.cell? ⟨w5.heap.size, 3, none⟩ = some (.int .i64 0) := (blk_cell Bt_6.out 3).trans rfl
  have dt4 : w6.cell? ⟨w5.heap.size, 4, none⟩ = some (.int .u64 0) := (blk_cell Bt_6.out 4).trans rfl
  have dt5 : w6.cell? ⟨w5.heap.size, 5, none⟩ = some (.int .i64 0) := (blk_cell Bt_6.out 5).trans rfl
  have dt6 : w6.cell? ⟨w5.heap.size, 6, none⟩ = some (.int .i64 10) := (blk_cell Bt_6.out 6).trans rfl
  have dt7 : w6.cell? ⟨w5.heap.size, 7, none⟩ = some (.int .i64 10) := (blk_cell Bt_6.out 7).trans rfl
  have dt8 : w6.cell? ⟨w5.heap.size, 8, none⟩ = some (.int .i64 0) := (blk_cell Bt_6.out 8).trans rfl
  have HLq_6 := Aside0.mk (HF.out _ (keep_of_upd HU_6.out))
  have HO := Aside0.mk (@tkfire_more w1.heap.size kb ab pb cb 0 [⟨0, 604800⟩] [] A3 c3 [⟨10, 0⟩, ⟨20, 1⟩] 0 2 5 12 7 0 0 0 0 10 10 0 1 12 20 32 0 w6 HC_6.out (by omega) HLq_6.out l16_6 (by omega) (by show (0 : Int) < 2; omega) (by omega) l16_2 l16_3 (by omega) (by omega))
  simp only [List.length_cons, List.length_nil, Nat.zero_add, Nat.reduceAdd] at HO
  go_upto_region 5 with (go_at_call 27; with_reducible refine (HO.out).mono ?_; rintro e w7 ⟨rfl, q1, q2⟩; clear HO; rw [show (0 : Int) + 1 = 1 from rfl]; clear dq0 dq1 dq2 dq3 dt0 dt1 dt2 dt3 dt4 dt5 dt6 dt7 dt8; have HC_7 := Aside0.mk q1; have HU_7 := Aside0.mk (HU_6.out.trans q2); have hs_7 : w6.heap.size ≤ w7.heap.size := q2.size; have Bq_7 := Aside0.mk (q2.blk Bq_6.out (by omega)); have Bt_7 := Aside0.mk (q2.blk Bt_6.out (by omega)); clear q1 q2; have dq0 : w7.cell? ⟨w3.heap.size, 0, none⟩ = some (.int .i64 0) := (blk_cell Bq_7.out 0).trans rfl; have dq1 : w7.cell? ⟨w3.heap.size, 1, none⟩ = some (.slice A3 2 c3) := (blk_cell Bq_7.out 1).trans rfl; have dq2 : w7.cell? ⟨w3.heap.size, 2, none⟩ = some (.int .i64 2) := (blk_cell Bq_7.out 2).trans rfl; have dq3 : w7.cell? ⟨w3.heap.size, 3, none⟩ = some (.int .i64 5) := (blk_cell Bq_7.out 3).trans rfl; have dt0 : w7.cell? ⟨w5.heap.size, 0, none⟩ = some (.int .u64 7) := (blk_cell Bt_7.out 0).trans rfl; have dt1 : w7.cell? ⟨w5.heap.size, 1, none⟩ = some (.int .i64 0) := (blk_cell Bt_7.out 1).trans rfl; have dt2 : w7.cell? ⟨w5.heap.size, 2, none⟩ = some (.int .i64 1) := (blk_cell Bt_7.out 2).trans rfl; have dt3 : w7.cell? ⟨w5.heap.size, 3, none⟩ = some (.int .i64 0) := (blk_cell Bt_7.out 3).trans rfl; have dt4 : w7.cell? ⟨w5.heap.size, 4, none⟩ = some (.int .u64 0) := (blk_cell Bt_7.out 4).trans rfl; have dt5 : w7.cell? ⟨w5.heap.size, 5, none⟩ = some (.int .i64 0) := (blk_cell Bt_7.out 5).trans rfl; have dt6 : w7.cell? ⟨w5.heap.size, 6, none⟩ = some (.int .i64 10) := (blk_cell Bt_7.out 6).trans rfl; have dt7 : w7.cell? ⟨w5.heap.size, 7, none⟩ = some (.int .i64 10) := (blk_cell Bt_7.out 7).trans rfl; have dt8 : w7.cell? ⟨w5.heap.size, 8, none⟩ = some (.int .i64 0) := (blk_cell Bt_7.out 8).trans rfl; have HLq_7 := Aside0.mk (HF.out _ (keep_of_upd HU_7.out)))
  have hb : Below w7.heap.size w7 (w7.alloc (.cells #[.int .u64 7, .int .i64 0, .int .i64 1, .int .i64 1, .int .u64 0, .int .i64 12, .int .i64 20, .int .i64 32, .int .i64 1] 24)) := below_alloc (Below.refl _ _) _
  clear dq0 dq1 dq2 dq3 dt0 dt1 dt2 dt3 dt4 dt5 dt6 dt7 dt8
  have HC_8 := Aside0.mk (HC_7.out.below hb)
  have HU_8 := Aside0.mk (HU_7.out.then hb)
  have hs_8 : w7.heap.size ≤ (w7.alloc (.cells #[.int .u64 7, .int .i64 0, .int .i64 1, .int .i64 1, .int .u64 0, .int .i64 12, .int .i64 20, .int .i64 32, .int .i64 1] 24)).heap.size := hb.size
  have Bq_8 := Aside0.mk (blk_below Bq_7.out hb)
  have Bt_8 := Aside0.mk (blk_below Bt_7.out hb)
  clear hb
  have Bu_8 := Aside0.mk (blk_new w7 (.cells #[.int .u64 7, .int .i64 0, .int .i64 1, .int .i64 1, .int .u64 0, .int .i64 12, .int .i64 20, .int .i64 32, .int .i64 1] 24))
  have hz_8 : w7.heap.size < (w7.alloc (.cells #[.int .u64 7, .int .i64 0, .int .i64 1, .int .i64 1, .int .u64 0, .int .i64 12, .int .i64 20, .int .i64 32, .int .i64 1] 24)).heap.size := blk_lt Bu_8.out
  generalize (w7.alloc (.cells #[.int .u64 7, .int .i64 0, .int .i64 1, .int .i64 1, .int .u64 0, .int .i64 12, .int .i64 20, .int .i64 32, .int .i64 1] 24)) = w8 at HC_8 HU_8 hs_8 Bq_8 Bt_8 Bu_8 hz_8 ⊢
  have dq0 : w8.cell? ⟨w3.heap.size, 0, none⟩ = some (.int .i64 0) := (blk_cell Bq_8.out 0).trans rfl
  have dq1 : w8.cell? ⟨w3.heap.size, 1, none⟩ = some (.slice A3 2 c3) := (blk_cell Bq_8.out 1).trans rfl
  have dq2 : w8.cell? ⟨w3.heap.size, 2, none⟩ = some (.int .i64 2) := (blk_cell Bq_8.out 2).trans rfl
  have dq3 : w8.cell? ⟨w3.heap.size, 3, none⟩ = some (.int .i64 5) := (blk_cell Bq_8.out 3).trans rfl
  have dt0 : w8.cell? ⟨w5.heap.size, 0, none⟩ = some (.int .u64 7) := (blk_cell Bt_8.out 0).trans rfl
  have dt1 : w8.cell? ⟨w5.heap.size, 1, none⟩ = some (.int .i64 0) := (blk_cell Bt_8.out 1).trans rfl
  have dt2 : w8.cell? ⟨w5.heap.size, 2, none⟩ = some (.int .i64 1) := (blk_cell Bt_8.out 2).trans rfl
  have dt3 : w8.cell? ⟨w5.heap.size, 3, none⟩ = some (.int .i64 0) := (blk_cell Bt_8.out 3).trans rfl
  have dt4 : w8.cell? ⟨w5.heap.size, 4, none⟩ = some (.int .u64 0) := (blk_cell Bt_8.out 4).trans rfl
  have dt5 : w8.cell? ⟨w5.heap.size, 5, none⟩ = some (.int .i64 0) := (blk_cell Bt_8.out 5).trans rfl
  have dt6 : w8.cell? ⟨w5.heap.size, 6, none⟩ = some (.int .i64 10) := (blk_cell Bt_8.out 6).trans rfl
  have dt7 : w8.cell? ⟨w5.heap.size, 7, none⟩ = some (.int .i64 10) := (blk_cell Bt_8.out 7).trans rfl
  have dt8 : w8.cell? ⟨w5.heap.size, 8, none⟩ = some (.int .i64 0) := (blk_cell Bt_8.out 8).trans rfl
  have du0 : w8.cell? ⟨w7.heap.size, 0, none⟩ = some (.int .u64 7) := (blk_cell Bu_8.out 0).trans rfl
  have du1 : w8.cell? ⟨w7.heap.size, 1, none⟩ = some (.int .i64 0) := (blk_cell Bu_8.out 1).trans rfl
  have du2 : w8.cell? ⟨w7.heap.size, 2, none⟩ = some (.int .i64 1) := (blk_cell Bu_8.out 2).trans rfl
  have du3 : w8.cell? ⟨w7.heap.size, 3, none⟩ = some (.int .i64 1) := (blk_cell Bu_8.out 3).trans rfl
  have du4 : w8.cell? ⟨w7.heap.size, 4, none⟩ = some (.int .u64 0) := (blk_cell Bu_8.out 4).trans rfl
  have du5 : w8.cell? ⟨w7.heap.size, 5, none⟩ = some (.int .i64 12) := (blk_cell Bu_8.out 5).trans rfl
  have du6 : w8.cell? ⟨w7.heap.size, 6, none⟩ = some (.int .i64 20) := (blk_cell Bu_8.out 6).trans rfl
  have du7 : w8.cell? ⟨w7.heap.size, 7, none⟩ = some (.int .i64 32) := (blk_cell Bu_8.out 7).trans rfl
  have du8 : w8.cell? ⟨w7.heap.size, 8, none⟩ = some (.int .i64 1) := (blk_cell Bu_8.out 8).trans rfl
  have HLq_8 := Aside0.mk (HF.out _ (keep_of_upd HU_8.out))
  have HO := Aside0.mk (@tkfire_last w1.heap.size kb ab pb cb 0 [⟨0, 604800⟩] [] A3 c3 [⟨10, 0⟩, ⟨20, 1⟩] 0 2 5 32 7 0 1 0 12 20 32 1 0 0 0 0 0 w8 HC_8.out (by omega) HLq_8.out l16_6 (by omega) (by show (1 : Int) < 2; omega) (by omega) l16_4 l16_5 (by omega) (by omega))
  simp only [List.length_cons, List.length_nil, Nat.zero_add, Nat.reduceAdd] at HO
  go_upto_region 6 with (go_at_call 27; with_reducible refine (HO.out).mono ?_; rintro e w9 ⟨rfl, q1, q2⟩; clear HO; rw [show (1 : Int) + 1 = 2 from rfl]; clear dq0 dq1 dq2 dq3 dt0 dt1 dt2 dt3 dt4 dt5 dt6 dt7 dt8 du0 du1 du2 du3 du4 du5 du6 du7 du8; have HC_9 := Aside0.mk q1; have HU_9 := Aside0.mk (HU_8.out.trans q2); have hs_9 : w8.heap.size ≤ w9.heap.size := q2.size; have Bq_9 := Aside0.mk (q2.blk Bq_8.out (by omega)); have Bt_9 := Aside0.mk (q2.blk Bt_8.out (by omega)); have Bu_9 := Aside0.mk (q2.blk Bu_8.out (by omega)); clear q1 q2; have dq0 : w9.cell? ⟨w3.heap.size, 0, none⟩ = some (.int .i64 0) := (blk_cell Bq_9.out 0).trans rfl; have dq1 : w9.cell? ⟨w3.heap.size, 1, none⟩ = some (.slice A3 2 c3) := (blk_cell Bq_9.out 1).trans rfl; have dq2 : w9.cell? ⟨w3.heap.size, 2, none⟩ = some (.int .i64 2) := (blk_cell Bq_9.out 2).trans rfl; have dq3 : w9.cell? ⟨w3.heap.size, 3, none⟩ = some (.int .i64 5) := (blk_cell Bq_9.out 3).trans rfl; have dt0 : w9.cell? ⟨w5.heap.size, 0, none⟩ = some (.int .u64 7) := (blk_cell Bt_9.out 0).trans rfl; have dt1 : w9.cell? ⟨w5.heap.size, 1, none⟩ = some (.int .i64 0) := (blk_cell Bt_9.out 1).trans rfl; have dt2 : w9.cell? ⟨w5.heap.size, 2, none⟩ = some (.int .i64 1) := (blk_cell Bt_9.out 2).trans rfl; have dt3 : w9.cell? ⟨w5.heap.size, 3, none⟩ = some (.int .i64 0) := (blk_cell Bt_9.out 3).trans rfl; have dt4 : w9.cell? ⟨w5.heap.size, 4, none⟩ = some (.int .u64 0) := (blk_cell Bt_9.out 4).trans rfl; have dt5 : w9.cell? ⟨w5.heap.size, 5, none⟩ = some (.int .i64 0) := (blk_cell Bt_9.out 5).trans rfl; have dt6 : w9.cell? ⟨w5.heap.size, 6, none⟩ = some (.int .i64 10) := (blk_cell Bt_9.out 6).trans rfl; have dt7 : w9.cell? ⟨w5.heap.size, 7, none⟩ = some (.int .i64 10) := (blk_cell Bt_9.out 7).trans rfl; have dt8 : w9.cell? ⟨w5.heap.size, 8, none⟩ = some (.int .i64 0) := (blk_cell Bt_9.out 8).trans rfl; have du0 : w9.cell? ⟨w7.heap.size, 0, none⟩ = some (.int .u64 7) := (blk_cell Bu_9.out 0).trans rfl; have du1 : w9.cell? ⟨w7.heap.size, 1, none⟩ = some (.int .i64 0) := (blk_cell Bu_9.out 1).trans rfl; have du2 : w9.cell? ⟨w7.heap.size, 2, none⟩ = some (.int .i64 1) := (blk_cell Bu_9.out 2).trans rfl; have du3 : w9.cell? ⟨w7.heap.size, 3, none⟩ = some (.int .i64 1) := (blk_cell Bu_9.out 3).trans rfl; have du4 : w9.cell? ⟨w7.heap.size, 4, none⟩ = some (.int .u64 0) := (blk_cell Bu_9.out 4).trans rfl; have du5 : w9.cell? ⟨w7.heap.size, 5, none⟩ = some (.int .i64 12) := (blk_cell Bu_9.out 5).trans rfl; have du6 : w9.cell? ⟨w7.heap.size, 6, none⟩ = some (.int .i64 20) := (blk_cell Bu_9.out 6).trans rfl; have du7 : w9.cell? ⟨w7.heap.size, 7, none⟩ = some (.int .i64 32) := (blk_cell Bu_9.out 7).trans rfl; have du8 : w9.cell? ⟨w7.heap.size, 8, none⟩ = some (.int .i64 1) := (blk_cell Bu_9.out 8).trans rfl; have HLq_9 := Aside0.mk (HF.out _ (keep_of_upd HU_9.out)))
  have hb : Below w9.heap.size w9 (w9.alloc (.cells #[.int .u64 7, .int .i64 0, .int .i64 3, .int .i64 1, .int .u64 0, .int .i64 0, .int .i64 0, .int .i64 0, .int .i64 2] 24)) := below_alloc (Below.refl _ _) _
  clear dq0 dq1 dq2 dq3 dt0 dt1 dt2 dt3 dt4 dt5 dt6 dt7 dt8 du0 du1 du2 du3 du4 du5 du6 du7 du8
  have HC_10 := Aside0.mk (HC_9.out.below hb)
  have HU_10 := Aside0.mk (HU_9.out.then hb)
  have hs_10 : w9.heap.size ≤ (w9.alloc (.cells #[.int .u64 7, .int .i64 0, .int .i64 3, .int .i64 1, .int .u64 0, .int .i64 0, .int .i64 0, .int .i64 0, .int .i64 2] 24)).heap.size := hb.size
  have Bq_10 := Aside0.mk (blk_below Bq_9.out hb)
  have Bt_10 := Aside0.mk (blk_below Bt_9.out hb)
  have Bu_10 := Aside0.mk (blk_below Bu_9.out hb)
  clear hb
  have Bv_10 := Aside0.mk (blk_new w9 (.cells #[.int .u64 7, .int .i64 0, .int .i64 3, .int .i64 1, .int .u64 0, .int .i64 0, .int .i64 0, .int .i64 0, .int .i64 2] 24))
  have hz_10 : w9.heap.size < (w9.alloc (.cells #[.int .u64 7, .int .i64 0, .int .i64 3, .int .i64 1, .int .u64 0, .int .i64 0, .int .i64 0, .int .i64 0, .int .i64 2] 24)).heap.size := blk_lt Bv_10.out
  generalize (w9.alloc (.cells #[.int .u64 7, .int .i64 0, .int .i64 3, .int .i64 1, .int .u64 0, .int .i64 0, .int .i64 0, .int .i64 0, .int .i64 2] 24)) = w10 at HC_10 HU_10 hs_10 Bq_10 Bt_10 Bu_10 Bv_10 hz_10 ⊢
  have dq0 : w10.cell? ⟨w3.heap.size, 0, none⟩ = some (.int .i64 0) := (blk_cell Bq_10.out 0).trans rfl
  have dq1 : w10.cell? ⟨w3.heap.size, 1, none⟩ = some (.slice A3 2 c3) := (blk_cell Bq_10.out 1).trans rfl
  have dq2 : w10.cell? ⟨w3.heap.size, 2, none⟩ = some (.int .i64 2) := (blk_cell Bq_10.out 2).trans rfl
  have dq3 : w10.cell? ⟨w3.heap.size, 3, none⟩ = some (.int .i64 5) := (blk_cell Bq_10.out 3).trans rfl
  have dt0 : w10.cell? ⟨w5.heap.size, 0, none⟩ = some (.int .u64 7) := (blk_cell Bt_10.out 0).trans rfl
  have dt1 : w10.cell? ⟨w5.heap.size, 1, none⟩ = some (.int .i64 0) := (blk_cell Bt_10.out 1).trans rfl
  have dt2 : w10.cell? ⟨w5.heap.size, 2, none⟩ = some (.int .i64 1) := (blk_cell Bt_10.out 2).trans rfl
  have dt3 : w10.cell? ⟨w5.heap.size, 3, none⟩ = some (.int .i64 0) := (blk_cell Bt_10.out 3).trans rfl
  have dt4 : w10.cell? ⟨w5.heap.size, 4, none⟩ = some (.int .u64 0) := (blk_cell Bt_10.out 4).trans rfl
  have dt5 : w10.cell? ⟨w5.heap.size, 5, none⟩ = some (.int .i64 0) := (blk_cell Bt_10.out 5).trans rfl
  have dt6 : w10.cell? ⟨w5.heap.size, 6, none⟩ = some (.int .i64 10) := (blk_cell Bt_10.out 6).trans rfl
  have dt7 : w10.cell? ⟨w5.heap.size, 7, none⟩ = some (.int .i64 10) := (blk_cell Bt_10.out 7).trans rfl
  have dt8 : w10.cell? ⟨w5.heap.size, 8, none⟩ = some (.int .i64 0) := (blk_cell Bt_10.out 8).trans rfl
  have du0 : w10.cell? ⟨w7.heap.size, 0, none⟩ = some (.int .u64 7) := (blk_cell Bu_10.out 0).trans rfl
  have du1 : w10.cell? ⟨w7.heap.size, 1, none⟩ = some (.int .i64 0) := (blk_cell Bu_10.out 1).trans rfl
  have du2 : w10.cell? ⟨w7.heap.size, 2, none⟩ = some (.int .i64 1) := (blk_cell Bu_10.out 2).trans rfl
  have du3 : w10.cell? ⟨w7.heap.size, 3, none⟩ = some (.int .i64 1) := (blk_cell Bu_10.out 3).trans rfl
  have du4 : w10.cell? ⟨w7.heap.size, 4, none⟩ = some (.int .u64 0) := (blk_cell Bu_10.out 4).trans rfl
  have du5 : w10.cell? ⟨w7.heap.size, 5, none⟩ = some (.int .i64 12) := (blk_cell Bu_10.out 5).trans rfl
  have du6 : w10.cell? ⟨w7.heap.size, 6, none⟩ = some (.int .i64 20) := (blk_cell Bu_10.out 6).trans rfl
  have du7 : w10.cell? ⟨w7.heap.size, 7, none⟩ = some (.int .i64 32) := (blk_cell Bu_10.out 7).trans rfl
  have du8 : w10.cell? ⟨w7.heap.size, 8, none⟩ = some (.int .i64 1) := (blk_cell Bu_10.out 8).trans rfl
  have dv0 : w10.cell? ⟨w9.heap.size, 0, none⟩ = some (.int .u64 7) := (blk_cell Bv_10.out 0).trans rfl
  have dv1 : w10.cell? ⟨w9.heap.size, 1, none⟩ = some (.int .i64 0) := (blk_cell Bv_10.out 1).trans rfl
  have dv2 : w10.cell? ⟨w9.heap.size, 2, none⟩ = some (.int .i64 3) := (blk_cell Bv_10.out 2).trans rfl
  have dv3 : w10.cell? ⟨w9.heap.size, 3, none⟩ = some (.int .i64 1) := (blk_cell Bv_10.out 3).trans rfl
  have dv4 : w10.cell? ⟨w9.heap.size, 4, none⟩ = some (.int .u64 0) := (blk_cell Bv_10.out 4).trans rfl
  have dv5 : w10.cell? ⟨w9.heap.size, 5, none⟩ = some (.int .i64 0) := (blk_cell Bv_10.out 5).trans rfl
  have dv6 : w10.cell? ⟨w9.heap.size, 6, none⟩ = some (.int .i64 0) := (blk_cell Bv_10.out 6).trans rfl
  have dv7 : w10.cell? ⟨w9.heap.size, 7, none⟩ = some (.int .i64 0) := (blk_cell Bv_10.out 7).trans rfl
  have dv8 : w10.cell? ⟨w9.heap.size, 8, none⟩ = some (.int .i64 2) := (blk_cell Bv_10.out 8).trans rfl
  have HLq_10 := Aside0.mk (HF.out _ (keep_of_upd HU_10.out))
  go_wp2
  go_ret
  exact ⟨rfl, upd_below16 (below_step (below_step HB1.out HB2.out) HB3.out) HU_10.out (by omega) (by omega)⟩
end Go.Proofs.Ytepldlnmeenlbaa.Own
namespace Go.Proofs.Ytepldlnmeenlbaa.Own
open Go.RowKit Go.Proofs Go.Proofs.YtepldlnmeenlbaaW.PrintWords Go.Proofs.YtepldlnmeenlbaaW.PrintLast Go.Proofs.YtepldlnmeenlbaaW.PrintMore Go.Proofs.Ytepldlnmeenlbaa.Base
set_option maxHeartbeats 1600000 in
set_option maxRecDepth 100000 in
theorem bclone_any (A : Option Addr) (c : Nat) (l : List Int) (w : World) (hr : Kd.C (Kd.int .u8) w A l.length l) (hc : l.length ≤ c) (hl : l.length ≤ 140737488355328) :
    Calls Try.prog 48 #[.slice A l.length c] w fun e w' => ∃ A' c', e = .returned (.slice A' l.length c') ∧ l.length ≤ c' ∧ Kd.R (Kd.int .u8) 5 w' w.heap.size (fun _ => True) (.slice A' l.length c') l ∧ Below w.heap.size w w' := by
  have HR := Aside0.mk hr
  clear hr
  rcases A with _ | ad
  · have heq : ∀ W : World, (binOp .eql 25 (.slice none 0 c) (.slice none 0 0)).run Try.prog W = .ok (.bool true) W := fun W => Lib.run_eql_slice_nil W 25 5 none _ _ _ _ Try.underlying25
    have h0 : l = [] := by
      rcases l with _ | ⟨s, r⟩
      · rfl
      · obtain ⟨_, h, _⟩ := HR.out.2.2 (by simp)
        cases h
    subst h0
    simp only [List.length_nil]
    clear HR hc hl
    go_enter Try.func48, Try.ntmps48
    go_wp2
    go_ret
    exact ⟨none, 0, rfl, by simp, Kd.R_nil _ _ _ _ _, Below.refl _ _⟩
  · have heq : ∀ W : World, (binOp .eql 25 (.slice (some ad) l.length c) (.slice none 0 0)).run Try.prog W = .ok (.bool false) W := fun W => Lib.run_eql_slice_nil W 25 5 (some ad) _ _ _ _ Try.underlying25
    go_enter Try.func48, Try.ntmps48
    have HO : Aside0 (Kd.R (Kd.int .u8) 5 (w.alloc (.cells #[] 5)) w.heap.size (fun _ => True) (.slice (some ⟨w.heap.size, 0, none⟩) 0 0) ([] : List Int)) :=
      ⟨⟨fun _ _ => trivial, [], World.ownsRow_made w #[] 0 (Nat.le_refl _) (by unfold maxLen; omega) (by simp), by simp [Reps]⟩⟩
    have HR1 := Aside0.mk (Kd.C_below HR.out (below_alloc (Below.refl _ _) (.cells #[] 5)))
    have HB := Aside0.mk (below_alloc (Below.refl w.heap.size w) (.cells #[] 5))
    go_wp2_with (at_builtin; refine Kd.R_append_rows (Kd.int .u8) (Rr := (Kd.int .u8).K (w.alloc (.cells #[] 5))) w.heap.size rfl (.tmp 5) (.tmp 6) 25 5 (.int .u8 0) 1 rfl Try.underlying25 infoU8 rfl (by decide) (by omega) (.slice (some ⟨w.heap.size, 0, none⟩) 0 0) [] l (some ad) l.length c (fun _ => True) (fun _ => False) rfl rfl HO.out HR1.out ?hKM ?hokp ?hfr HB.out HB.out.size ?hl ?_; (case hKM => exact fun x cs h => h); (case hokp => exact fun _ h => h.elim); (case hfr => exact fun _ _ => trivial); (case hl => simp; omega); intro v1 w1 ho hb _ _; obtain ⟨A1, c1, rfl, hl1, _⟩ := Kd.R_reads ho; have HO1 := Aside0.mk ho; have HB1 := Aside0.mk hb; clear ho hb)
    go_ret
    exact ⟨A1, c1, rfl, hl1, HO1.out, HB1.out⟩
set_option maxHeartbeats 1600000 in
set_option maxRecDepth 100000 in
theorem wbytes_any (n wb : Nat) (bs : List Int) (w : World) (h : WrAt w n wb bs) (hl : bs.length ≤ 140737488355328) :
    Calls Try.prog 14 #[.pointer (some ⟨wb, 0, none⟩)] w fun e w' => ∃ A' c', e = .returned (.slice A' bs.length c') ∧ bs.length ≤ c' ∧ Kd.R (Kd.int .u8) 5 w' w.heap.size (fun _ => True) (.slice A' bs.length c') bs ∧ Below w.heap.size w w' := by
  obtain ⟨v, hv⟩ := h
  obtain ⟨A, c, rfl, hc, hr⟩ := Kd.R_reads hv.row
  have HR := Aside0.mk hr
  have c0 := hv.get
  clear hr hv
  go_enter Try.func14, Try.ntmps14
  go_wp2_with (go_at_call 48; refine (bclone_any A c bs w HR.out hc hl).mono ?_; rintro e w2 ⟨A2, c2, rfl, q1, q2, q3⟩; have H1 := Aside0.mk q1; have H2 := Aside0.mk q2; have H3 := Aside0.mk q3; clear q1 q2 q3)
  go_ret
  exact ⟨A2, c2, rfl, H1.out, H2.out, H3.out⟩
end Go.Proofs.Ytepldlnmeenlbaa.Own
