/- ChainNobody, part 5: what the claim needs of Nob15, NobLaw15. -/
import Derived.Test.YtepkbadgpoploaaChainNobody4
import Derived.Test.YtepkbadgpoploaaProg
import Derived.Below
import Derived.Deep.Draws
import Derived.Deep.AppendLies
import Derived.Maps.AppendAt
import Derived.OwnWalk
import Derived.Laws.BytesArg
import Derived.Laws.MakeOwn
import Derived.Laws.OwnMore
import Derived.Deep.OwnRows
import Derived.Tactics
import Derived.Lib.ConvBytes
import Derived.Laws.Slices
import Derived.WalkKit
import Derived.KernelRfl
import Derived.RowKit3
import Derived.Deep.LoopGhost
import Derived.Deep.QuietTactic
import Derived.BigQuiet
import Derived.WideLaws
import Derived.Deep.DeepCutAuto
import Derived.Deep.CutBlock
import Derived.Deep.RegionHeld3
import Derived.Laws.Rows
import Derived.Lib.AppendStr
import Derived.ArgAppend
import Derived.Laws.IdiomCopy
import Derived.OrdersHeld
import Derived.Laws.BitsLemmas
import Derived.RowKit
import Derived.Laws.StructEq
import Derived.Tactics2
import Derived.Defers
import Derived.Laws.Pointers
import Derived.Laws.LoneSync
import Derived.Laws.NewBlocks
import Derived.RegionTactic
import Derived.RegionCalls
import Derived.ChangeAlike
import Derived.StillTailTactics
import Derived.Outline
import Derived.Handy
import Derived.SizedLaws
import Derived.ChangeSlices
import Derived.Laws.EntriesVeiled
import Derived.WalkSpells
import Derived.RangeFuncNested
import Derived.RangeFuncBound
import Derived.RangeFuncCalls
import Derived.RangeFuncLeaves
import Derived.Shelf.Abstract
import Derived.Shelf.RegionOpen
import Derived.OwnWalkIn
import Derived.TacticsInMore
import Derived.LoopNIn
import Derived.LoopIn
import Derived.OrdersIn
import Derived.Test.YtepkbadgpoploaaRows
import Derived.ProofKit
import Derived.OpenShut
import Derived.ShutString
import Derived.ChangeOld
import Derived.Lib.SmallJoins
import Derived.Deep.SlicePairs
set_option linter.unusedVariables false
set_option linter.unusedSimpArgs false
namespace Go.Proofs.Ytepkbadgpoploaa.Own
open Go.RowKit Go.Proofs Go.Proofs.YtepkbadgpoploaaW.PrintWords Go.Proofs.YtepkbadgpoploaaW.PrintLast Go.Proofs.YtepkbadgpoploaaW.PrintMore Go.Proofs.Ytepkbadgpoploaa.Base
variable {w w' : World} {A : Option Addr} {k : Nat} {ls : List S75}
set_option maxHeartbeats 4000000 in
set_option maxRecDepth 100000 in
theorem atnil_any (lv fr l du now : Int) (w : World) : Calls Try.prog 31 #[.agg #[.int .i64 lv, .int .i64 fr, .int .i64 l, .int .i64 du], .pointer none, .int .i64 now] w fun e w' => e = .returned (.tuple #[.agg #[.int .i64 0, .int .i64 0, .int .i64 0, .int .i64 0], .int .i64 1]) ∧ Below w.heap.size w w' := by
  have HB_1 : Aside0 (Below w.heap.size w ((w.alloc (.cells #[.int .i64 lv, .int .i64 fr, .int .i64 l, .int .i64 du] 26)).alloc (.cells #[.int .i64 0, .int .i64 0, .int .i64 0, .int .i64 0] 26))) := ⟨(below_alloc (below_alloc (Below.refl w.heap.size w) (.cells #[.int .i64 lv, .int .i64 fr, .int .i64 l, .int .i64 du] 26)) (.cells #[.int .i64 0, .int .i64 0, .int .i64 0, .int .i64 0] 26))⟩
  have hs_1 : w.heap.size ≤ ((w.alloc (.cells #[.int .i64 lv, .int .i64 fr, .int .i64 l, .int .i64 du] 26)).alloc (.cells #[.int .i64 0, .int .i64 0, .int .i64 0, .int .i64 0] 26)).heap.size := HB_1.out.size
  have Bs_1 : Aside0 (((w.alloc (.cells #[.int .i64 lv, .int .i64 fr, .int .i64 l, .int .i64 du] 26)).alloc (.cells #[.int .i64 0, .int .i64 0, .int .i64 0, .int .i64 0] 26)).heap[w.heap.size]? = some (.cells #[.int .i64 lv, .int .i64 fr, .int .i64 l, .int .i64 du] 26 (0, 0))) := ⟨(blk_alloc (blk_new w _) _)⟩
  have Bz_1 : Aside0 (((w.alloc (.cells #[.int .i64 lv, .int .i64 fr, .int .i64 l, .int .i64 du] 26)).alloc (.cells #[.int .i64 0, .int .i64 0, .int .i64 0, .int .i64 0] 26)).heap[w.heap.size + 1]? = some (.cells #[.int .i64 0, .int .i64 0, .int .i64 0, .int .i64 0] 26 (0, 0))) := ⟨(by simpa using blk_new (w.alloc (.cells #[.int .i64 lv, .int .i64 fr, .int .i64 l, .int .i64 du] 26)) (.cells #[.int .i64 0, .int .i64 0, .int .i64 0, .int .i64 0] 26))⟩
  have hz_1 : w.heap.size + 1 < ((w.alloc (.cells #[.int .i64 lv, .int .i64 fr, .int .i64 l, .int .i64 du] 26)).alloc (.cells #[.int .i64 0, .int .i64 0, .int .i64 0, .int .i64 0] 26)).heap.size := blk_lt Bz_1.out
  go_enter Try.func31, Try.ntmps31
  go_wp2_with fail
  generalize ((w.alloc (.cells #[.int .i64 lv, .int .i64 fr, .int .i64 l, .int .i64 du] 26)).alloc (.cells #[.int .i64 0, .int .i64 0, .int .i64 0, .int .i64 0] 26)) = w1 at HB_1 hs_1 Bs_1 Bz_1 hz_1 ⊢
  have ds0 : w1.cell? ⟨w.heap.size, 0, none⟩ = some (.int .i64 lv) := (blk_cell Bs_1.out 0).trans rfl
  have fs0 : w1.frozen? ⟨w.heap.size, 0, none⟩ = false := blk_frozen Bs_1.out 0
  have ds1 : w1.cell? ⟨w.heap.size, 1, none⟩ = some (.int .i64 fr) := (blk_cell Bs_1.out 1).trans rfl
  have fs1 : w1.frozen? ⟨w.heap.size, 1, none⟩ = false := blk_frozen Bs_1.out 1
  have ds2 : w1.cell? ⟨w.heap.size, 2, none⟩ = some (.int .i64 l) := (blk_cell Bs_1.out 2).trans rfl
  have fs2 : w1.frozen? ⟨w.heap.size, 2, none⟩ = false := blk_frozen Bs_1.out 2
  have ds3 : w1.cell? ⟨w.heap.size, 3, none⟩ = some (.int .i64 du) := (blk_cell Bs_1.out 3).trans rfl
  have fs3 : w1.frozen? ⟨w.heap.size, 3, none⟩ = false := blk_frozen Bs_1.out 3
  have dz0 : w1.cell? ⟨w.heap.size + 1, 0, none⟩ = some (.int .i64 0) := (blk_cell Bz_1.out 0).trans rfl
  have fz0 : w1.frozen? ⟨w.heap.size + 1, 0, none⟩ = false := blk_frozen Bz_1.out 0
  have dz1 : w1.cell? ⟨w.heap.size + 1, 1, none⟩ = some (.int .i64 0) := (blk_cell Bz_1.out 1).trans rfl
  have fz1 : w1.frozen? ⟨w.heap.size + 1, 1, none⟩ = false := blk_frozen Bz_1.out 1
  have dz2 : w1.cell? ⟨w.heap.size + 1, 2, none⟩ = some (.int .i64 0) := (blk_cell Bz_1.out 2).trans rfl
  have fz2 : w1.frozen? ⟨w.heap.size + 1, 2, none⟩ = false := blk_frozen Bz_1.out 2
  have dz3 : w1.cell? ⟨w.heap.size + 1, 3, none⟩ = some (.int .i64 0) := (blk_cell Bz_1.out 3).trans rfl
  have fz3 : w1.frozen? ⟨w.heap.size + 1, 3, none⟩ = false := blk_frozen Bz_1.out 3
  go_wp2_with (go_at_call 42; with_reducible refine (due_nil now l w1).mono ?_; rintro e w2 ⟨rfl, q1⟩; clear ds0 fs0 ds1 fs1 ds2 fs2 ds3 fs3 dz0 fz0 dz1 fz1 dz2 fz2 dz3 fz3; have HB_2 := Aside0.mk (below_step HB_1.out q1); have hs_2 : w1.heap.size ≤ w2.heap.size := q1.size; have Bs_2 := Aside0.mk (blk_below Bs_1.out q1); have Bz_2 := Aside0.mk (blk_below Bz_1.out q1); clear q1; have ds0 : w2.cell? ⟨w.heap.size, 0, none⟩ = some (.int .i64 lv) := (blk_cell Bs_2.out 0).trans rfl; have fs0 : w2.frozen? ⟨w.heap.size, 0, none⟩ = false := blk_frozen Bs_2.out 0; have ds1 : w2.cell? ⟨w.heap.size, 1, none⟩ = some (.int .i64 fr) := (blk_cell Bs_2.out 1).trans rfl; have fs1 : w2.frozen? ⟨w.heap.size, 1, none⟩ = false := blk_frozen Bs_2.out 1; have ds2 : w2.cell? ⟨w.heap.size, 2, none⟩ = some (.int .i64 l) := (blk_cell Bs_2.out 2).trans rfl; have fs2 : w2.frozen? ⟨w.heap.size, 2, none⟩ = false := blk_frozen Bs_2.out 2; have ds3 : w2.cell? ⟨w.heap.size, 3, none⟩ = some (.int .i64 du) := (blk_cell Bs_2.out 3).trans rfl; have fs3 : w2.frozen? ⟨w.heap.size, 3, none⟩ = false := blk_frozen Bs_2.out 3; have dz0 : w2.cell? ⟨w.heap.size + 1, 0, none⟩ = some (.int .i64 0) := (blk_cell Bz_2.out 0).trans rfl; have fz0 : w2.frozen? ⟨w.heap.size + 1, 0, none⟩ = false := blk_frozen Bz_2.out 0; have dz1 : w2.cell? ⟨w.heap.size + 1, 1, none⟩ = some (.int .i64 0) := (blk_cell Bz_2.out 1).trans rfl; have fz1 : w2.frozen? ⟨w.heap.size + 1, 1, none⟩ = false := blk_frozen Bz_2.out 1; have dz2 : w2.cell? ⟨w.heap.size + 1, 2, none⟩ = some (.int .i64 0) := (blk_cell Bz_2.out 2).trans rfl; have fz2 : w2.frozen? ⟨w.heap.size + 1, 2, none⟩ = false := blk_frozen Bz_2.out 2; have dz3 : w2.cell? ⟨w.heap.size + 1, 3, none⟩ = some (.int .i64 0) := (blk_cell Bz_2.out 3).trans rfl; have fz3 : w2.frozen? ⟨w.heap.size + 1, 3, none⟩ = false := blk_frozen Bz_2.out 3)
  clear ds0 fs0 ds1 fs1 ds2 fs2 ds3 fs3 dz0 fz0 dz1 fz1 dz2 fz2 dz3 fz3
  have Bz_3 := Aside0.mk (blk_put (cs' := #[.int .i64 0, .int .i64 0, .int .i64 0, .int .i64 0]) (blk_put (cs' := #[.int .i64 0, .int .i64 0, .int .i64 0, .int .i64 0]) (blk_put (cs' := #[.int .i64 0, .int .i64 0, .int .i64 0, .int .i64 0]) (blk_put (cs' := #[.int .i64 0, .int .i64 0, .int .i64 0, .int .i64 0]) Bz_2.out 0 (.int .i64 0) rfl) 1 (.int .i64 0) rfl) 2 (.int .i64 0) rfl) 3 (.int .i64 0) rfl)
  have HB_3 := Aside0.mk (below_set (g := w.heap.size + 1) (j := 3) (v := .int .i64 0) (below_set (g := w.heap.size + 1) (j := 2) (v := .int .i64 0) (below_set (g := w.heap.size + 1) (j := 1) (v := .int .i64 0) (below_set (g := w.heap.size + 1) (j := 0) (v := .int .i64 0) HB_2.out (by omega)) (by omega)) (by omega)) (by omega))
  have hs_3 : w2.heap.size ≤ ((((w2.setCell ⟨w.heap.size + 1, 0, none⟩ (.int .i64 0)).setCell ⟨w.heap.size + 1, 1, none⟩ (.int .i64 0)).setCell ⟨w.heap.size + 1, 2, none⟩ (.int .i64 0)).setCell ⟨w.heap.size + 1, 3, none⟩ (.int .i64 0)).heap.size := by simp
  have Bs_3 : Aside0 (((((w2.setCell ⟨w.heap.size + 1, 0, none⟩ (.int .i64 0)).setCell ⟨w.heap.size + 1, 1, none⟩ (.int .i64 0)).setCell ⟨w.heap.size + 1, 2, none⟩ (.int .i64 0)).setCell ⟨w.heap.size + 1, 3, none⟩ (.int .i64 0)).heap[w.heap.size]? = _) := ⟨((Below.heap_setCell _ _ _ _ (by show w.heap.size ≠ w.heap.size + 1; omega)).trans ((Below.heap_setCell _ _ _ _ (by show w.heap.size ≠ w.heap.size + 1; omega)).trans ((Below.heap_setCell _ _ _ _ (by show w.heap.size ≠ w.heap.size + 1; omega)).trans ((Below.heap_setCell _ _ _ _ (by show w.heap.size ≠ w.heap.size + 1; omega)).trans Bs_2.out))))⟩
  generalize ((((w2.setCell ⟨w.heap.size + 1, 0, none⟩ (.int .i64 0)).setCell ⟨w.heap.size + 1, 1, none⟩ (.int .i64 0)).setCell ⟨w.heap.size + 1, 2, none⟩ (.int .i64 0)).setCell ⟨w.heap.size + 1, 3, none⟩ (.int .i64 0)) = w3 at Bz_3 HB_3 hs_3 Bs_3 ⊢
  have ds0 : w3.cell? ⟨w.heap.size, 0, none⟩ = some (.int .i64 lv) := (blk_cell Bs_3.out 0).trans rfl
  have fs0 : w3.frozen? ⟨w.heap.size, 0, none⟩ = false := blk_frozen Bs_3.out 0
  have ds1 : w3.cell? ⟨w.heap.size, 1, none⟩ = some (.int .i64 fr) := (blk_cell Bs_3.out 1).trans rfl
  have fs1 : w3.frozen? ⟨w.heap.size, 1, none⟩ = false := blk_frozen Bs_3.out 1
  have ds2 : w3.cell? ⟨w.heap.size, 2, none⟩ = some (.int .i64 l) := (blk_cell Bs_3.out 2).trans rfl
  have fs2 : w3.frozen? ⟨w.heap.size, 2, none⟩ = false := blk_frozen Bs_3.out 2
  have ds3 : w3.cell? ⟨w.heap.size, 3, none⟩ = some (.int .i64 du) := (blk_cell Bs_3.out 3).trans rfl
  have fs3 : w3.frozen? ⟨w.heap.size, 3, none⟩ = false := blk_frozen Bs_3.out 3
  have dz0 : w3.cell? ⟨w.heap.size + 1, 0, none⟩ = some (.int .i64 0) := (blk_cell Bz_3.out 0).trans rfl
  have fz0 : w3.frozen? ⟨w.heap.size + 1, 0, none⟩ = false := blk_frozen Bz_3.out 0
  have dz1 : w3.cell? ⟨w.heap.size + 1, 1, none⟩ = some (.int .i64 0) := (blk_cell Bz_3.out 1).trans rfl
  have fz1 : w3.frozen? ⟨w.heap.size + 1, 1, none⟩ = false := blk_frozen Bz_3.out 1
  have dz2 : w3.cell? ⟨w.heap.size + 1, 2, none⟩ = some (.int .i64 0) := (blk_cell Bz_3.out 2).trans rfl
  have fz2 : w3.frozen? ⟨w.heap.size + 1, 2, none⟩ = false := blk_frozen Bz_3.out 2
  have dz3 : w3.cell? ⟨w.heap.size + 1, 3, none⟩ = some (.int .i64 0) := (blk_cell Bz_3.out 3).trans rfl
  have fz3 : w3.frozen? ⟨w.heap.size + 1, 3, none⟩ = false := blk_frozen Bz_3.out 3
  refine bodyPost_ret (v := .tuple #[.agg #[.int .i64 0, .int .i64 0, .int .i64 0, .int .i64 0], .int .i64 1]) (by simp [results, Try.results31, go_sem, dz0, dz1, dz2, dz3]) rfl ⟨rfl, HB_3.out⟩
set_option maxHeartbeats 4000000 in
set_option maxRecDepth 100000 in
theorem firstnil_any (cal re ba now : Int) (w : World) (h1 : Kd.C k75 w A ls.length ls ∧ ls.length ≤ k) (hg : goodP cal ls re ba = true) : Calls Try.prog 16 #[.pointer none, .agg #[.int .i64 cal, .slice A ls.length k, .int .i64 re, .int .i64 ba], .int .i64 now] w fun e w' => e = .returned (.tuple #[.agg #[.int .i64 0, .int .i64 0, .int .i64 0, .int .i64 0], .int .i64 1]) ∧ Below w.heap.size w w' := by
  have HG := Aside0.mk (show (if goodP cal ls re ba = true then (0 : Int) else 2) = 0 by rw [hg]; rfl)
  obtain ⟨gg, gl⟩ := goodP_iff.1 hg
  have p0 : (0 : Int) < ls.length := by omega
  have p1 : 0 < ls.length := by omega
  obtain ⟨ad, e1, hx0, hx1⟩ := at_T75 h1.1 0 (Int.le_refl _) (by omega)
  subst e1
  generalize (rd_T75 ls 0).f0 = B at hx0
  have HX : Aside0 (w.cell? ad = some (.int .i64 B)) := ⟨by have := hx0; rwa [show ad.add ((0 : Int).toNat * 2) = ad from by simp [Addr.add]] at this⟩
  have HLL := Aside0.mk h1
  clear hg gg gl hx0 hx1 h1
  have HB_1 : Aside0 (Below w.heap.size w ((w.alloc (.cells #[.int .i64 cal, .slice (some ad) ls.length k, .int .i64 re, .int .i64 ba] 30)).alloc (.cells #[.int .i64 0, .int .i64 0, .int .i64 0, .int .i64 0] 26))) := ⟨(below_alloc (below_alloc (Below.refl w.heap.size w) (.cells #[.int .i64 cal, .slice (some ad) ls.length k, .int .i64 re, .int .i64 ba] 30)) (.cells #[.int .i64 0, .int .i64 0, .int .i64 0, .int .i64 0] 26))⟩
  have hs_1 : w.heap.size ≤ ((w.alloc (.cells #[.int .i64 cal, .slice (some ad) ls.length k, .int .i64 re, .int .i64 ba] 30)).alloc (.cells #[.int .i64 0, .int .i64 0, .int .i64 0, .int .i64 0] 26)).heap.size := HB_1.out.size
  have Bc_1 : Aside0 (((w.alloc (.cells #[.int .i64 cal, .slice (some ad) ls.length k, .int .i64 re, .int .i64 ba] 30)).alloc (.cells #[.int .i64 0, .int .i64 0, .int .i64 0, .int .i64 0] 26)).heap[w.heap.size]? = some (.cells #[.int .i64 cal, .slice (some ad) ls.length k, .int .i64 re, .int .i64 ba] 30 (0, 0))) := ⟨(blk_alloc (blk_new w _) _)⟩
  have Bz_1 : Aside0 (((w.alloc (.cells #[.int .i64 cal, .slice (some ad) ls.length k, .int .i64 re, .int .i64 ba] 30)).alloc (.cells #[.int .i64 0, .int .i64 0, .int .i64 0, .int .i64 0] 26)).heap[w.heap.size + 1]? = some (.cells #[.int .i64 0, .int .i64 0, .int .i64 0, .int .i64 0] 26 (0, 0))) := ⟨(by simpa using blk_new (w.alloc (.cells #[.int .i64 cal, .slice (some ad) ls.length k, .int .i64 re, .int .i64 ba] 30)) (.cells #[.int .i64 0, .int .i64 0, .int .i64 0, .int .i64 0] 26))⟩
  have hz_1 : w.heap.size + 1 < ((w.alloc (.cells #[.int .i64 cal, .slice (some ad) ls.length k, .int .i64 re, .int .i64 ba] 30)).alloc (.cells #[.int .i64 0, .int .i64 0, .int .i64 0, .int .i64 0] 26)).heap.size := blk_lt Bz_1.out
  go_enter Try.func16, Try.ntmps16
  go_wp2_with fail
  generalize ((w.alloc (.cells #[.int .i64 cal, .slice (some ad) ls.length k, .int .i64 re, .int .i64 ba] 30)).alloc (.cells #[.int .i64 0, .int .i64 0, .int .i64 0, .int .i64 0] 26)) = w1 at HB_1 hs_1 Bc_1 Bz_1 hz_1 ⊢
  have dc0 : w1.cell? ⟨w.heap.size, 0, none⟩ = some (.int .i64 cal) := (blk_cell Bc_1.out 0).trans rfl
  have fc0 : w1.frozen? ⟨w.heap.size, 0, none⟩ = false := blk_frozen Bc_1.out 0
  have dc1 : w1.cell? ⟨w.heap.size, 1, none⟩ = some (.slice (some ad) ls.length k) := (blk_cell Bc_1.out 1).trans rfl
  have fc1 : w1.frozen? ⟨w.heap.size, 1, none⟩ = false := blk_frozen Bc_1.out 1
  have dc2 : w1.cell? ⟨w.heap.size, 2, none⟩ = some (.int .i64 re) := (blk_cell Bc_1.out 2).trans rfl
  have fc2 : w1.frozen? ⟨w.heap.size, 2, none⟩ = false := blk_frozen Bc_1.out 2
  have dc3 : w1.cell? ⟨w.heap.size, 3, none⟩ = some (.int .i64 ba) := (blk_cell Bc_1.out 3).trans rfl
  have fc3 : w1.frozen? ⟨w.heap.size, 3, none⟩ = false := blk_frozen Bc_1.out 3
  have dz0 : w1.cell? ⟨w.heap.size + 1, 0, none⟩ = some (.int .i64 0) := (blk_cell Bz_1.out 0).trans rfl
  have fz0 : w1.frozen? ⟨w.heap.size + 1, 0, none⟩ = false := blk_frozen Bz_1.out 0
  have dz1 : w1.cell? ⟨w.heap.size + 1, 1, none⟩ = some (.int .i64 0) := (blk_cell Bz_1.out 1).trans rfl
  have fz1 : w1.frozen? ⟨w.heap.size + 1, 1, none⟩ = false := blk_frozen Bz_1.out 1
  have dz2 : w1.cell? ⟨w.heap.size + 1, 2, none⟩ = some (.int .i64 0) := (blk_cell Bz_1.out 2).trans rfl
  have fz2 : w1.frozen? ⟨w.heap.size + 1, 2, none⟩ = false := blk_frozen Bz_1.out 2
  have dz3 : w1.cell? ⟨w.heap.size + 1, 3, none⟩ = some (.int .i64 0) := (blk_cell Bz_1.out 3).trans rfl
  have fz3 : w1.frozen? ⟨w.heap.size + 1, 3, none⟩ = false := blk_frozen Bz_1.out 3
  go_wp2_with (first | (go_at_call 33; with_reducible refine (check14_any w1 ⟨Kd.C_below HLL.out.1 HB_1.out, HLL.out.2⟩).mono ?_; rintro e w2 ⟨rfl, q1⟩; rw [HG.out]; clear dc0 fc0 dc1 fc1 dc2 fc2 dc3 fc3 dz0 fz0 dz1 fz1 dz2 fz2 dz3 fz3; have HB_2 := Aside0.mk (below_step HB_1.out q1); have hs_2 : w1.heap.size ≤ w2.heap.size := q1.size; have Bc_2 := Aside0.mk (blk_below Bc_1.out q1); have Bz_2 := Aside0.mk (blk_below Bz_1.out q1); clear q1; have dc0 : w2.cell? ⟨w.heap.size, 0, none⟩ = some (.int .i64 cal) := (blk_cell Bc_2.out 0).trans rfl; have fc0 : w2.frozen? ⟨w.heap.size, 0, none⟩ = false := blk_frozen Bc_2.out 0; have dc1 : w2.cell? ⟨w.heap.size, 1, none⟩ = some (.slice (some ad) ls.length k) := (blk_cell Bc_2.out 1).trans rfl; have fc1 : w2.frozen? ⟨w.heap.size, 1, none⟩ = false := blk_frozen Bc_2.out 1; have dc2 : w2.cell? ⟨w.heap.size, 2, none⟩ = some (.int .i64 re) := (blk_cell Bc_2.out 2).trans rfl; have fc2 : w2.frozen? ⟨w.heap.size, 2, none⟩ = false := blk_frozen Bc_2.out 2; have dc3 : w2.cell? ⟨w.heap.size, 3, none⟩ = some (.int .i64 ba) := (blk_cell Bc_2.out 3).trans rfl; have fc3 : w2.frozen? ⟨w.heap.size, 3, none⟩ = false := blk_frozen Bc_2.out 3; have dz0 : w2.cell? ⟨w.heap.size + 1, 0, none⟩ = some (.int .i64 0) := (blk_cell Bz_2.out 0).trans rfl; have fz0 : w2.frozen? ⟨w.heap.size + 1, 0, none⟩ = false := blk_frozen Bz_2.out 0; have dz1 : w2.cell? ⟨w.heap.size + 1, 1, none⟩ = some (.int .i64 0) := (blk_cell Bz_2.out 1).trans rfl; have fz1 : w2.frozen? ⟨w.heap.size + 1, 1, none⟩ = false := blk_frozen Bz_2.out 1; have dz2 : w2.cell? ⟨w.heap.size + 1, 2, none⟩ = some (.int .i64 0) := (blk_cell Bz_2.out 2).trans rfl; have fz2 : w2.frozen? ⟨w.heap.size + 1, 2, none⟩ = false := blk_frozen Bz_2.out 2; have dz3 : w2.cell? ⟨w.heap.size + 1, 3, none⟩ = some (.int .i64 0) := (blk_cell Bz_2.out 3).trans rfl; have fz3 : w2.frozen? ⟨w.heap.size + 1, 3, none⟩ = false := blk_frozen Bz_2.out 3; have y0 : w2.cell? ad = some (.int .i64 B) := (HB_2.out.cell (World.block_lt_of_cell? w _ HX.out)).trans HX.out) | (go_at_call 31; with_reducible refine (atnil_any 0 0 B 0 now w2).mono ?_; rintro e w3 ⟨rfl, q1⟩; clear y0; clear dc0 fc0 dc1 fc1 dc2 fc2 dc3 fc3 dz0 fz0 dz1 fz1 dz2 fz2 dz3 fz3; have HB_3 := Aside0.mk (below_step HB_2.out q1); have hs_3 : w2.heap.size ≤ w3.heap.size := q1.size; have Bc_3 := Aside0.mk (blk_below Bc_2.out q1); have Bz_3 := Aside0.mk (blk_below Bz_2.out q1); clear q1; have dc0 : w3.cell? ⟨w.heap.size, 0, none⟩ = some (.int .i64 cal) := (blk_cell Bc_3.out 0).trans rfl; have fc0 : w3.frozen? ⟨w.heap.size, 0, none⟩ = false := blk_frozen Bc_3.out 0; have dc1 : w3.cell? ⟨w.heap.size, 1, none⟩ = some (.slice (some ad) ls.length k) := (blk_cell Bc_3.out 1).trans rfl; have fc1 : w3.frozen? ⟨w.heap.size, 1, none⟩ = false := blk_frozen Bc_3.out 1; have dc2 : w3.cell? ⟨w.heap.size, 2, none⟩ = some (.int .i64 re) := (blk_cell Bc_3.out 2).trans rfl; have fc2 : w3.frozen? ⟨w.heap.size, 2, none⟩ = false := blk_frozen Bc_3.out 2; have dc3 : w3.cell? ⟨w.heap.size, 3, none⟩ = some (.int .i64 ba) := (blk_cell Bc_3.out 3).trans rfl; have fc3 : w3.frozen? ⟨w.heap.size, 3, none⟩ = false := blk_frozen Bc_3.out 3; have dz0 : w3.cell? ⟨w.heap.size + 1, 0, none⟩ = some (.int .i64 0) := (blk_cell Bz_3.out 0).trans rfl; have fz0 : w3.frozen? ⟨w.heap.size + 1, 0, none⟩ = false := blk_frozen Bz_3.out 0; have dz1 : w3.cell? ⟨w.heap.size + 1, 1, none⟩ = some (.int .i64 0) := (blk_cell Bz_3.out 1).trans rfl; have fz1 : w3.frozen? ⟨w.heap.size + 1, 1, none⟩ = false := blk_frozen Bz_3.out 1; have dz2 : w3.cell? ⟨w.heap.size + 1, 2, none⟩ = some (.int .i64 0) := (blk_cell Bz_3.out 2).trans rfl; have fz2 : w3.frozen? ⟨w.heap.size + 1, 2, none⟩ = false := blk_frozen Bz_3.out 2; have dz3 : w3.cell? ⟨w.heap.size + 1, 3, none⟩ = some (.int .i64 0) := (blk_cell Bz_3.out 3).trans rfl; have fz3 : w3.frozen? ⟨w.heap.size + 1, 3, none⟩ = false := blk_frozen Bz_3.out 3))
  clear dc0 fc0 dc1 fc1 dc2 fc2 dc3 fc3 dz0 fz0 dz1 fz1 dz2 fz2 dz3 fz3
  have Bz_4 := Aside0.mk (blk_put (cs' := #[.int .i64 0, .int .i64 0, .int .i64 0, .int .i64 0]) (blk_put (cs' := #[.int .i64 0, .int .i64 0, .int .i64 0, .int .i64 0]) (blk_put (cs' := #[.int .i64 0, .int .i64 0, .int .i64 0, .int .i64 0]) (blk_put (cs' := #[.int .i64 0, .int .i64 0, .int .i64 0, .int .i64 0]) Bz_3.out 0 (.int .i64 0) rfl) 1 (.int .i64 0) rfl) 2 (.int .i64 0) rfl) 3 (.int .i64 0) rfl)
  have HB_4 := Aside0.mk (below_set (g := w.heap.size + 1) (j := 3) (v := .int .i64 0) (below_set (g := w.heap.size + 1) (j := 2) (v := .int .i64 0) (below_set (g := w.heap.size + 1) (j := 1) (v := .int .i64 0) (below_set (g := w.heap.size + 1) (j := 0) (v := .int .i64 0) HB_3.out (by omega)) (by omega)) (by omega)) (by omega))
  have hs_4 : w3.heap.size ≤ ((((w3.setCell ⟨w.heap.size + 1, 0, none⟩ (.int .i64 0)).setCell ⟨w.heap.size + 1, 1, none⟩ (.int .i64 0)).setCell ⟨w.heap.size + 1, 2, none⟩ (.int .i64 0)).setCell ⟨w.heap.size + 1, 3, none⟩ (.int .i64 0)).heap.size := by simp
  have Bc_4 : Aside0 (((((w3.setCell ⟨w.heap.size + 1, 0, none⟩ (.int .i64 0)).setCell ⟨w.heap.size + 1, 1, none⟩ (.int .i64 0)).setCell ⟨w.heap.size + 1, 2, none⟩ (.int .i64 0)).setCell ⟨w.heap.size + 1, 3, none⟩ (.int .i64 0)).heap[w.heap.size]? = _) := ⟨((Below.heap_setCell _ _ _ _ (by show w.heap.size ≠ w.heap.size + 1; omega)).trans ((Below.heap_setCell _ _ _ _ (by show w.heap.size ≠ w.heap.size + 1; omega)).trans ((Below.heap_setCell _ _ _ _ (by show w.heap.size ≠ w.heap.size + 1; omega)).trans ((Below.heap_setCell _ _ _ _ (by show w.heap.size ≠ w.heap.size + 1; omega)).trans Bc_3.out))))⟩
  generalize ((((w3.setCell ⟨w.heap.size + 1, 0, none⟩ (.int .i64 0)).setCell ⟨w.heap.size + 1, 1, none⟩ (.int .i64 0)).setCell ⟨w.heap.size + 1, 2, none⟩ (.int .i64 0)).setCell ⟨w.heap.size + 1, 3, none⟩ (.int .i64 0)) = w4 at Bz_4 HB_4 hs_4 Bc_4 ⊢
  have dc0 : w4.cell? ⟨w.heap.size, 0, none⟩ = some (.int .i64 cal) := (blk_cell Bc_4.out 0).trans rfl
  have fc0 : w4.frozen? ⟨w.heap.size, 0, none⟩ = false := blk_frozen Bc_4.out 0
  have dc1 : w4.cell? ⟨w.heap.size, 1, none⟩ = some (.slice (some ad) ls.length k) := (blk_cell Bc_4.out 1).trans rfl
  have fc1 : w4.frozen? ⟨w.heap.size, 1, none⟩ = false := blk_frozen Bc_4.out 1
  have dc2 : w4.cell? ⟨w.heap.size, 2, none⟩ = some (.int .i64 re) := (blk_cell Bc_4.out 2).trans rfl
  have fc2 : w4.frozen? ⟨w.heap.size, 2, none⟩ = false := blk_frozen Bc_4.out 2
  have dc3 : w4.cell? ⟨w.heap.size, 3, none⟩ = some (.int .i64 ba) := (blk_cell Bc_4.out 3).trans rfl
  have fc3 : w4.frozen? ⟨w.heap.size, 3, none⟩ = false := blk_frozen Bc_4.out 3
  have dz0 : w4.cell? ⟨w.heap.size + 1, 0, none⟩ = some (.int .i64 0) := (blk_cell Bz_4.out 0).trans rfl
  have fz0 : w4.frozen? ⟨w.heap.size + 1, 0, none⟩ = false := blk_frozen Bz_4.out 0
  have dz1 : w4.cell? ⟨w.heap.size + 1, 1, none⟩ = some (.int .i64 0) := (blk_cell Bz_4.out 1).trans rfl
  have fz1 : w4.frozen? ⟨w.heap.size + 1, 1, none⟩ = false := blk_frozen Bz_4.out 1
  have dz2 : w4.cell? ⟨w.heap.size + 1, 2, none⟩ = some (.int .i64 0) := (blk_cell Bz_4.out 2).trans rfl
  have fz2 : w4.frozen? ⟨w.heap.size + 1, 2, none⟩ = false := blk_frozen Bz_4.out 2
  have dz3 : w4.cell? ⟨w.heap.size + 1, 3, none⟩ = some (.int .i64 0) := (blk_cell Bz_4.out 3).trans rfl
  have fz3 : w4.frozen? ⟨w.heap.size + 1, 3, none⟩ = false := blk_frozen Bz_4.out 3
  refine bodyPost_ret (v := .tuple #[.agg #[.int .i64 0, .int .i64 0, .int .i64 0, .int .i64 0], .int .i64 1]) (by simp [results, Try.results16, go_sem, dz0, dz1, dz2, dz3]) rfl ⟨rfl, HB_4.out⟩
set_option maxHeartbeats 4000000 in
set_option maxRecDepth 100000 in
theorem gonil_any (now : Int) (w : World) : Calls Try.prog 13 #[.pointer none, .agg #[.int .i64 0, .int .i64 0, .int .i64 1, .int .i64 0], .int .i64 now] w fun e w' => e = .returned (.tuple #[.agg #[.int .i64 0, .int .i64 0, .int .i64 0, .int .i64 0], .int .i64 1]) ∧ Below w.heap.size w w' := by
  have hnot : ∀ (x : Bool) (w : World), (Op.unary .not (.bool x)).run Try.prog w = .ok (.bool (!x)) w := fun _ _ => rfl
  have hmf : ∀ (fn : Fn) (first cap : Array Value) (w : World), (Instr.makeFunc fn first cap).run Try.prog w = .ok (.func fn first cap) w := fun _ _ _ _ => rfl
  have HB_1 : Aside0 (Below w.heap.size w ((w.alloc (.cells #[.int .i64 0, .int .i64 0, .int .i64 1, .int .i64 0] 26)).alloc (.cells #[.int .i64 0, .int .i64 0, .int .i64 0, .int .i64 0] 26))) := ⟨(below_alloc (below_alloc (Below.refl w.heap.size w) (.cells #[.int .i64 0, .int .i64 0, .int .i64 1, .int .i64 0] 26)) (.cells #[.int .i64 0, .int .i64 0, .int .i64 0, .int .i64 0] 26))⟩
  have hs_1 : w.heap.size ≤ ((w.alloc (.cells #[.int .i64 0, .int .i64 0, .int .i64 1, .int .i64 0] 26)).alloc (.cells #[.int .i64 0, .int .i64 0, .int .i64 0, .int .i64 0] 26)).heap.size := HB_1.out.size
  have Bs_1 : Aside0 (((w.alloc (.cells #[.int .i64 0, .int .i64 0, .int .i64 1, .int .i64 0] 26)).alloc (.cells #[.int .i64 0, .int .i64 0, .int .i64 0, .int .i64 0] 26)).heap[w.heap.size]? = some (.cells #[.int .i64 0, .int .i64 0, .int .i64 1, .int .i64 0] 26 (0, 0))) := ⟨(blk_alloc (blk_new w _) _)⟩
  have Bz_1 : Aside0 (((w.alloc (.cells #[.int .i64 0, .int .i64 0, .int .i64 1, .int .i64 0] 26)).alloc (.cells #[.int .i64 0, .int .i64 0, .int .i64 0, .int .i64 0] 26)).heap[w.heap.size + 1]? = some (.cells #[.int .i64 0, .int .i64 0, .int .i64 0, .int .i64 0] 26 (0, 0))) := ⟨(by simpa using blk_new (w.alloc (.cells #[.int .i64 0, .int .i64 0, .int .i64 1, .int .i64 0] 26)) (.cells #[.int .i64 0, .int .i64 0, .int .i64 0, .int .i64 0] 26))⟩
  have hz_1 : w.heap.size + 1 < ((w.alloc (.cells #[.int .i64 0, .int .i64 0, .int .i64 1, .int .i64 0] 26)).alloc (.cells #[.int .i64 0, .int .i64 0, .int .i64 0, .int .i64 0] 26)).heap.size := blk_lt Bz_1.out
  go_enter Try.func13, Try.ntmps13
  go_wp2_with fail
  generalize ((w.alloc (.cells #[.int .i64 0, .int .i64 0, .int .i64 1, .int .i64 0] 26)).alloc (.cells #[.int .i64 0, .int .i64 0, .int .i64 0, .int .i64 0] 26)) = w1 at HB_1 hs_1 Bs_1 Bz_1 hz_1 ⊢
  have ds0 : w1.cell? ⟨w.heap.size, 0, none⟩ = some (.int .i64 0) := (blk_cell Bs_1.out 0).trans rfl
  have fs0 : w1.frozen? ⟨w.heap.size, 0, none⟩ = false := blk_frozen Bs_1.out 0
  have ds1 : w1.cell? ⟨w.heap.size, 1, none⟩ = some (.int .i64 0) := (blk_cell Bs_1.out 1).trans rfl
  have fs1 : w1.frozen? ⟨w.heap.size, 1, none⟩ = false := blk_frozen Bs_1.out 1
  have ds2 : w1.cell? ⟨w.heap.size, 2, none⟩ = some (.int .i64 1) := (blk_cell Bs_1.out 2).trans rfl
  have fs2 : w1.frozen? ⟨w.heap.size, 2, none⟩ = false := blk_frozen Bs_1.out 2
  have ds3 : w1.cell? ⟨w.heap.size, 3, none⟩ = some (.int .i64 0) := (blk_cell Bs_1.out 3).trans rfl
  have fs3 : w1.frozen? ⟨w.heap.size, 3, none⟩ = false := blk_frozen Bs_1.out 3
  have dz0 : w1.cell? ⟨w.heap.size + 1, 0, none⟩ = some (.int .i64 0) := (blk_cell Bz_1.out 0).trans rfl
  have fz0 : w1.frozen? ⟨w.heap.size + 1, 0, none⟩ = false := blk_frozen Bz_1.out 0
  have dz1 : w1.cell? ⟨w.heap.size + 1, 1, none⟩ = some (.int .i64 0) := (blk_cell Bz_1.out 1).trans rfl
  have fz1 : w1.frozen? ⟨w.heap.size + 1, 1, none⟩ = false := blk_frozen Bz_1.out 1
  have dz2 : w1.cell? ⟨w.heap.size + 1, 2, none⟩ = some (.int .i64 0) := (blk_cell Bz_1.out 2).trans rfl
  have fz2 : w1.frozen? ⟨w.heap.size + 1, 2, none⟩ = false := blk_frozen Bz_1.out 2
  have dz3 : w1.cell? ⟨w.heap.size + 1, 3, none⟩ = some (.int .i64 0) := (blk_cell Bz_1.out 3).trans rfl
  have fz3 : w1.frozen? ⟨w.heap.size + 1, 3, none⟩ = false := blk_frozen Bz_1.out 3
  go_wp2_with (first | (go_at_call 28; with_reducible refine (chain_Step_going.calls 0 0 1 0 _ w1 rfl).mono ?_; rintro e w2 ⟨rfl, q1⟩; clear ds0 fs0 ds1 fs1 ds2 fs2 ds3 fs3 dz0 fz0 dz1 fz1 dz2 fz2 dz3 fz3; have HB_2 := Aside0.mk (below_step HB_1.out q1); have hs_2 : w1.heap.size ≤ w2.heap.size := q1.size; have Bs_2 := Aside0.mk (blk_below Bs_1.out q1); have Bz_2 := Aside0.mk (blk_below Bz_1.out q1); clear q1; have ds0 : w2.cell? ⟨w.heap.size, 0, none⟩ = some (.int .i64 0) := (blk_cell Bs_2.out 0).trans rfl; have fs0 : w2.frozen? ⟨w.heap.size, 0, none⟩ = false := blk_frozen Bs_2.out 0; have ds1 : w2.cell? ⟨w.heap.size, 1, none⟩ = some (.int .i64 0) := (blk_cell Bs_2.out 1).trans rfl; have fs1 : w2.frozen? ⟨w.heap.size, 1, none⟩ = false := blk_frozen Bs_2.out 1; have ds2 : w2.cell? ⟨w.heap.size, 2, none⟩ = some (.int .i64 1) := (blk_cell Bs_2.out 2).trans rfl; have fs2 : w2.frozen? ⟨w.heap.size, 2, none⟩ = false := blk_frozen Bs_2.out 2; have ds3 : w2.cell? ⟨w.heap.size, 3, none⟩ = some (.int .i64 0) := (blk_cell Bs_2.out 3).trans rfl; have fs3 : w2.frozen? ⟨w.heap.size, 3, none⟩ = false := blk_frozen Bs_2.out 3; have dz0 : w2.cell? ⟨w.heap.size + 1, 0, none⟩ = some (.int .i64 0) := (blk_cell Bz_2.out 0).trans rfl; have fz0 : w2.frozen? ⟨w.heap.size + 1, 0, none⟩ = false := blk_frozen Bz_2.out 0; have dz1 : w2.cell? ⟨w.heap.size + 1, 1, none⟩ = some (.int .i64 0) := (blk_cell Bz_2.out 1).trans rfl; have fz1 : w2.frozen? ⟨w.heap.size + 1, 1, none⟩ = false := blk_frozen Bz_2.out 1; have dz2 : w2.cell? ⟨w.heap.size + 1, 2, none⟩ = some (.int .i64 0) := (blk_cell Bz_2.out 2).trans rfl; have fz2 : w2.frozen? ⟨w.heap.size + 1, 2, none⟩ = false := blk_frozen Bz_2.out 2; have dz3 : w2.cell? ⟨w.heap.size + 1, 3, none⟩ = some (.int .i64 0) := (blk_cell Bz_2.out 3).trans rfl; have fz3 : w2.frozen? ⟨w.heap.size + 1, 3, none⟩ = false := blk_frozen Bz_2.out 3) | (go_at_call 31; with_reducible refine (atnil_any 0 0 1 0 now w2).mono ?_; rintro e w3 ⟨rfl, q1⟩; clear ds0 fs0 ds1 fs1 ds2 fs2 ds3 fs3 dz0 fz0 dz1 fz1 dz2 fz2 dz3 fz3; have HB_3 := Aside0.mk (below_step HB_2.out q1); have hs_3 : w2.heap.size ≤ w3.heap.size := q1.size; have Bs_3 := Aside0.mk (blk_below Bs_2.out q1); have Bz_3 := Aside0.mk (blk_below Bz_2.out q1); clear q1; have ds0 : w3.cell? ⟨w.heap.size, 0, none⟩ = some (.int .i64 0) := (blk_cell Bs_3.out 0).trans rfl; have fs0 : w3.frozen? ⟨w.heap.size, 0, none⟩ = false := blk_frozen Bs_3.out 0; have ds1 : w3.cell? ⟨w.heap.size, 1, none⟩ = some (.int .i64 0) := (blk_cell Bs_3.out 1).trans rfl; have fs1 : w3.frozen? ⟨w.heap.size, 1, none⟩ = false := blk_frozen Bs_3.out 1; have ds2 : w3.cell? ⟨w.heap.size, 2, none⟩ = some (.int .i64 1) := (blk_cell Bs_3.out 2).trans rfl; have fs2 : w3.frozen? ⟨w.heap.size, 2, none⟩ = false := blk_frozen Bs_3.out 2; have ds3 : w3.cell? ⟨w.heap.size, 3, none⟩ = some (.int .i64 0) := (blk_cell Bs_3.out 3).trans rfl; have fs3 : w3.frozen? ⟨w.heap.size, 3, none⟩ = false := blk_frozen Bs_3.out 3; have dz0 : w3.cell? ⟨w.heap.size + 1, 0, none⟩ = some (.int .i64 0) := (blk_cell Bz_3.out 0).trans rfl; have fz0 : w3.frozen? ⟨w.heap.size + 1, 0, none⟩ = false := blk_frozen Bz_3.out 0; have dz1 : w3.cell? ⟨w.heap.size + 1, 1, none⟩ = some (.int .i64 0) := (blk_cell Bz_3.out 1).trans rfl; have fz1 : w3.frozen? ⟨w.heap.size + 1, 1, none⟩ = false := blk_frozen Bz_3.out 1; have dz2 : w3.cell? ⟨w.heap.size + 1, 2, none⟩ = some (.int .i64 0) := (blk_cell Bz_3.out 2).trans rfl; have fz2 : w3.frozen? ⟨w.heap.size + 1, 2, none⟩ = false := blk_frozen Bz_3.out 2; have dz3 : w3.cell? ⟨w.heap.size + 1, 3, none⟩ = some (.int .i64 0) := (blk_cell Bz_3.out 3).trans rfl; have fz3 : w3.frozen? ⟨w.heap.size + 1, 3, none⟩ = false := blk_frozen Bz_3.out 3))
  clear ds0 fs0 ds1 fs1 ds2 fs2 ds3 fs3 dz0 fz0 dz1 fz1 dz2 fz2 dz3 fz3
  have Bz_4 := Aside0.mk (blk_put (cs' := #[.int .i64 0, .int .i64 0, .int .i64 0, .int .i64 0]) (blk_put (cs' := #[.int .i64 0, .int .i64 0, .int .i64 0, .int .i64 0]) (blk_put (cs' := #[.int .i64 0, .int .i64 0, .int .i64 0, .int .i64 0]) (blk_put (cs' := #[.int .i64 0, .int .i64 0, .int .i64 0, .int .i64 0]) Bz_3.out 0 (.int .i64 0) rfl) 1 (.int .i64 0) rfl) 2 (.int .i64 0) rfl) 3 (.int .i64 0) rfl)
  have HB_4 := Aside0.mk (below_set (g := w.heap.size + 1) (j := 3) (v := .int .i64 0) (below_set (g := w.heap.size + 1) (j := 2) (v := .int .i64 0) (below_set (g := w.heap.size + 1) (j := 1) (v := .int .i64 0) (below_set (g := w.heap.size + 1) (j := 0) (v := .int .i64 0) HB_3.out (by omega)) (by omega)) (by omega)) (by omega))
  have hs_4 : w3.heap.size ≤ ((((w3.setCell ⟨w.heap.size + 1, 0, none⟩ (.int .i64 0)).setCell ⟨w.heap.size + 1, 1, none⟩ (.int .i64 0)).setCell ⟨w.heap.size + 1, 2, none⟩ (.int .i64 0)).setCell ⟨w.heap.size + 1, 3, none⟩ (.int .i64 0)).heap.size := by simp
  have Bs_4 : Aside0 (((((w3.setCell ⟨w.heap.size + 1, 0, none⟩ (.int .i64 0)).setCell ⟨w.heap.size + 1, 1, none⟩ (.int .i64 0)).setCell ⟨w.heap.size + 1, 2, none⟩ (.int .i64 0)).setCell ⟨w.heap.size + 1, 3, none⟩ (.int .i64 0)).heap[w.heap.size]? = _) := ⟨((Below.heap_setCell _ _ _ _ (by show w.heap.size ≠ w.heap.size + 1; omega)).trans ((Below.heap_setCell _ _ _ _ (by show w.heap.size ≠ w.heap.size + 1; omega)).trans ((Below.heap_setCell _ _ _ _ (by show w.heap.size ≠ w.heap.size + 1; omega)).trans ((Below.heap_setCell _ _ _ _ (by show w.heap.size ≠ w.heap.size + 1; omega)).trans Bs_3.out))))⟩
  generalize ((((w3.setCell ⟨w.heap.size + 1, 0, none⟩ (.int .i64 0)).setCell ⟨w.heap.size + 1, 1, none⟩ (.int .i64 0)).setCell ⟨w.heap.size + 1, 2, none⟩ (.int .i64 0)).setCell ⟨w.heap.size + 1, 3, none⟩ (.int .i64 0)) = w4 at Bz_4 HB_4 hs_4 Bs_4 ⊢
  have ds0 : w4.cell? ⟨w.heap.size, 0, none⟩ = some (.int .i64 0) := (blk_cell Bs_4.out 0).trans rfl
  have fs0 : w4.frozen? ⟨w.heap.size, 0, none⟩ = false := blk_frozen Bs_4.out 0
  have ds1 : w4.cell? ⟨w.heap.size, 1, none⟩ = some (.int .i64 0) := (blk_cell Bs_4.out 1).trans rfl
  have fs1 : w4.frozen? ⟨w.heap.size, 1, none⟩ = false := blk_frozen Bs_4.out 1
  have ds2 : w4.cell? ⟨w.heap.size, 2, none⟩ = some (.int .i64 1) := (blk_cell Bs_4.out 2).trans rfl
  have fs2 : w4.frozen? ⟨w.heap.size, 2, none⟩ = false := blk_frozen Bs_4.out 2
  have ds3 : w4.cell? ⟨w.heap.size, 3, none⟩ = some (.int .i64 0) := (blk_cell Bs_4.out 3).trans rfl
  have fs3 : w4.frozen? ⟨w.heap.size, 3, none⟩ = false := blk_frozen Bs_4.out 3
  have dz0 : w4.cell? ⟨w.heap.size + 1, 0, none⟩ = some (.int .i64 0) := (blk_cell Bz_4.out 0).trans rfl
  have fz0 : w4.frozen? ⟨w.heap.size + 1, 0, none⟩ = false := blk_frozen Bz_4.out 0
  have dz1 : w4.cell? ⟨w.heap.size + 1, 1, none⟩ = some (.int .i64 0) := (blk_cell Bz_4.out 1).trans rfl
  have fz1 : w4.frozen? ⟨w.heap.size + 1, 1, none⟩ = false := blk_frozen Bz_4.out 1
  have dz2 : w4.cell? ⟨w.heap.size + 1, 2, none⟩ = some (.int .i64 0) := (blk_cell Bz_4.out 2).trans rfl
  have fz2 : w4.frozen? ⟨w.heap.size + 1, 2, none⟩ = false := blk_frozen Bz_4.out 2
  have dz3 : w4.cell? ⟨w.heap.size + 1, 3, none⟩ = some (.int .i64 0) := (blk_cell Bz_4.out 3).trans rfl
  have fz3 : w4.frozen? ⟨w.heap.size + 1, 3, none⟩ = false := blk_frozen Bz_4.out 3
  refine bodyPost_ret (v := .tuple #[.agg #[.int .i64 0, .int .i64 0, .int .i64 0, .int .i64 0], .int .i64 1]) (by simp [results, Try.results13, go_sem, dz0, dz1, dz2, dz3]) rfl ⟨rfl, HB_4.out⟩
set_option maxHeartbeats 4000000 in
set_option maxRecDepth 100000 in
theorem plannil_any (cal re ba now : Int) (w : World) (h1 : Kd.C k75 w A ls.length ls ∧ ls.length ≤ k) (hg : goodP cal ls re ba = true) : Calls Try.prog 20 #[.pointer none, .agg #[.int .i64 cal, .slice A ls.length k, .int .i64 re, .int .i64 ba], .int .i64 now] w fun e w' => e = .returned (.tuple #[.slice none 0 0, .int .i64 1]) ∧ Below w.heap.size w w' := by
  have HLL := Aside0.mk h1
  have HG := Aside0.mk hg
  clear h1 hg
  have HB_1 : Aside0 (Below w.heap.size w (w.alloc (.cells #[.int .i64 cal, .slice A ls.length k, .int .i64 re, .int .i64 ba] 30))) := ⟨(below_alloc (Below.refl w.heap.size w) (.cells #[.int .i64 cal, .slice A ls.length k, .int .i64 re, .int .i64 ba] 30))⟩
  have hs_1 : w.heap.size ≤ (w.alloc (.cells #[.int .i64 cal, .slice A ls.length k, .int .i64 re, .int .i64 ba] 30)).heap.size := HB_1.out.size
  have Bc_1 : Aside0 ((w.alloc (.cells #[.int .i64 cal, .slice A ls.length k, .int .i64 re, .int .i64 ba] 30)).heap[w.heap.size]? = some (.cells #[.int .i64 cal, .slice A ls.length k, .int .i64 re, .int .i64 ba] 30 (0, 0))) := ⟨(blk_new w _)⟩
  have hz_1 : w.heap.size < (w.alloc (.cells #[.int .i64 cal, .slice A ls.length k, .int .i64 re, .int .i64 ba] 30)).heap.size := blk_lt Bc_1.out
  go_enter Try.func20, Try.ntmps20
  go_wp2_with fail
  generalize (w.alloc (.cells #[.int .i64 cal, .slice A ls.length k, .int .i64 re, .int .i64 ba] 30)) = w1 at HB_1 hs_1 Bc_1 hz_1 ⊢
  have dc0 : w1.cell? ⟨w.heap.size, 0, none⟩ = some (.int .i64 cal) := (blk_cell Bc_1.out 0).trans rfl
  have fc0 : w1.frozen? ⟨w.heap.size, 0, none⟩ = false := blk_frozen Bc_1.out 0
  have dc1 : w1.cell? ⟨w.heap.size, 1, none⟩ = some (.slice A ls.length k) := (blk_cell Bc_1.out 1).trans rfl
  have fc1 : w1.frozen? ⟨w.heap.size, 1, none⟩ = false := blk_frozen Bc_1.out 1
  have dc2 : w1.cell? ⟨w.heap.size, 2, none⟩ = some (.int .i64 re) := (blk_cell Bc_1.out 2).trans rfl
  have fc2 : w1.frozen? ⟨w.heap.size, 2, none⟩ = false := blk_frozen Bc_1.out 2
  have dc3 : w1.cell? ⟨w.heap.size, 3, none⟩ = some (.int .i64 ba) := (blk_cell Bc_1.out 3).trans rfl
  have fc3 : w1.frozen? ⟨w.heap.size, 3, none⟩ = false := blk_frozen Bc_1.out 3
  go_step3
  go_wp2_with (go_at_call 16; with_reducible refine (firstnil_any cal re ba now w1 ⟨Kd.C_below HLL.out.1 HB_1.out, HLL.out.2⟩ HG.out).mono ?_; rintro e w2 ⟨rfl, q1⟩; clear dc0 fc0 dc1 fc1 dc2 fc2 dc3 fc3; have HB_2 := Aside0.mk (below_step HB_1.out q1); have hs_2 : w1.heap.size ≤ w2.heap.size := q1.size; have Bc_2 := Aside0.mk (blk_below Bc_1.out q1); clear q1; have dc0 : w2.cell? ⟨w.heap.size, 0, none⟩ = some (.int .i64 cal) := (blk_cell Bc_2.out 0).trans rfl; have fc0 : w2.frozen? ⟨w.heap.size, 0, none⟩ = false := blk_frozen Bc_2.out 0; have dc1 : w2.cell? ⟨w.heap.size, 1, none⟩ = some (.slice A ls.length k) := (blk_cell Bc_2.out 1).trans rfl; have fc1 : w2.frozen? ⟨w.heap.size, 1, none⟩ = false := blk_frozen Bc_2.out 1; have dc2 : w2.cell? ⟨w.heap.size, 2, none⟩ = some (.int .i64 re) := (blk_cell Bc_2.out 2).trans rfl; have fc2 : w2.frozen? ⟨w.heap.size, 2, none⟩ = false := blk_frozen Bc_2.out 2; have dc3 : w2.cell? ⟨w.heap.size, 3, none⟩ = some (.int .i64 ba) := (blk_cell Bc_2.out 3).trans rfl; have fc3 : w2.frozen? ⟨w.heap.size, 3, none⟩ = false := blk_frozen Bc_2.out 3)
  go_step3
  go_wp2
  refine wp_loop_once ?_
  go_wp2
  rw [Exit.noGoto_ret]
  go_ret2
  exact ⟨rfl, below_alloc HB_2.out _⟩
end Go.Proofs.Ytepkbadgpoploaa.Own
namespace Go.Proofs.Ytepkbadgpoploaa.Own
open Go.RowKit Go.Proofs Go.Proofs.YtepkbadgpoploaaW.PrintWords Go.Proofs.YtepkbadgpoploaaW.PrintLast Go.Proofs.YtepkbadgpoploaaW.PrintMore Go.Proofs.Ytepkbadgpoploaa.Base
set_option maxHeartbeats 4000000 in
set_option maxRecDepth 100000 in
theorem nobc_long {calq req baq : Int} {lsq : List S75} {Aq3 : Option Addr} {cq3 : Nat} {now : Int} (w : World) (hq3 : Kd.C k75 w Aq3 lsq.length lsq ∧ lsq.length ≤ cq3) (hx : (60 : Int) < lsq.length) :
    Calls Try.prog 6 #[.agg #[.int .i64 calq, .slice Aq3 lsq.length cq3, .int .i64 req, .int .i64 baq], .int .i64 now] w fun e w' => e = .returned (.bool true) ∧ Below w.heap.size w w' := by
  have hnot : ∀ (x : Bool) (w : World), (Op.unary .not (.bool x)).run Try.prog w = .ok (.bool (!x)) w := fun _ _ => rfl
  have HB_1 : Aside0 (Below w.heap.size w (w.alloc (.cells #[.int .i64 calq, .slice Aq3 lsq.length cq3, .int .i64 req, .int .i64 baq] 30))) := ⟨(below_alloc (Below.refl w.heap.size w) (.cells #[.int .i64 calq, .slice Aq3 lsq.length cq3, .int .i64 req, .int .i64 baq] 30))⟩
  have Bq_1 : Aside0 ((w.alloc (.cells #[.int .i64 calq, .slice Aq3 lsq.length cq3, .int .i64 req, .int .i64 baq] 30)).heap[w.heap.size]? = some (.cells #[.int .i64 calq, .slice Aq3 lsq.length cq3, .int .i64 req, .int .i64 baq] 30 (0, 0))) := ⟨(blk_new w _)⟩
  have Rq3_1 : Aside0 (Kd.C k75 (w.alloc (.cells #[.int .i64 calq, .slice Aq3 lsq.length cq3, .int .i64 req, .int .i64 baq] 30)) Aq3 lsq.length lsq ∧ lsq.length ≤ cq3) := ⟨⟨Kd.C_below hq3.1 HB_1.out, hq3.2⟩⟩
  clear hq3
  have f1_ : decide ((60 : Int) < lsq.length) = true := decide_eq_true hx
  go_enter Try.func6, Try.ntmps6
  go_wp2_with fail
  generalize (w.alloc (.cells #[.int .i64 calq, .slice Aq3 lsq.length cq3, .int .i64 req, .int .i64 baq] 30)) = w1 at HB_1 Bq_1 Rq3_1 ⊢
  have dq0 : w1.cell? ⟨w.heap.size, 0, none⟩ = some (.int .i64 calq) := (blk_cell Bq_1.out 0).trans rfl
  have dq1 : w1.cell? ⟨w.heap.size, 1, none⟩ = some (.slice Aq3 lsq.length cq3) := (blk_cell Bq_1.out 1).trans rfl
  have dq2 : w1.cell? ⟨w.heap.size, 2, none⟩ = some (.int .i64 req) := (blk_cell Bq_1.out 2).trans rfl
  have dq3 : w1.cell? ⟨w.heap.size, 3, none⟩ = some (.int .i64 baq) := (blk_cell Bq_1.out 3).trans rfl
  go_wp2_with (first | (go_at_call 9; with_reducible refine (lives15_any w1).mono ?_; rintro e w2 ⟨rfl, hb⟩; clear dq0 dq1 dq2 dq3; have Bq_2 := Aside0.mk (blk_below Bq_1.out hb); have Rq3_2 : Aside0 (Kd.C k75 w2 Aq3 lsq.length lsq ∧ lsq.length ≤ cq3) := ⟨⟨Kd.C_below Rq3_1.out.1 hb, Rq3_1.out.2⟩⟩; have HB_2 := Aside0.mk (below_step HB_1.out hb); have hs_2 : w1.heap.size ≤ w2.heap.size := hb.size; clear hb; have dq0 : w2.cell? ⟨w.heap.size, 0, none⟩ = some (.int .i64 calq) := (blk_cell Bq_2.out 0).trans rfl; have dq1 : w2.cell? ⟨w.heap.size, 1, none⟩ = some (.slice Aq3 lsq.length cq3) := (blk_cell Bq_2.out 1).trans rfl; have dq2 : w2.cell? ⟨w.heap.size, 2, none⟩ = some (.int .i64 req) := (blk_cell Bq_2.out 2).trans rfl; have dq3 : w2.cell? ⟨w.heap.size, 3, none⟩ = some (.int .i64 baq) := (blk_cell Bq_2.out 3).trans rfl))
  go_ret
  exact ⟨rfl, HB_2.out⟩
set_option maxHeartbeats 4000000 in
set_option maxRecDepth 100000 in
theorem nobc_bad {calq req baq : Int} {lsq : List S75} {Aq3 : Option Addr} {cq3 : Nat} {now : Int} (w : World) (hq3 : Kd.C k75 w Aq3 lsq.length lsq ∧ lsq.length ≤ cq3) (hx : ¬ (60 : Int) < lsq.length) (hG : goodP calq lsq req baq = false) :
    Calls Try.prog 6 #[.agg #[.int .i64 calq, .slice Aq3 lsq.length cq3, .int .i64 req, .int .i64 baq], .int .i64 now] w fun e w' => e = .returned (.bool true) ∧ Below w.heap.size w w' := by
  have hnot : ∀ (x : Bool) (w : World), (Op.unary .not (.bool x)).run Try.prog w = .ok (.bool (!x)) w := fun _ _ => rfl
  have HB_1 : Aside0 (Below w.heap.size w (w.alloc (.cells #[.int .i64 calq, .slice Aq3 lsq.length cq3, .int .i64 req, .int .i64 baq] 30))) := ⟨(below_alloc (Below.refl w.heap.size w) (.cells #[.int .i64 calq, .slice Aq3 lsq.length cq3, .int .i64 req, .int .i64 baq] 30))⟩
  have Bq_1 : Aside0 ((w.alloc (.cells #[.int .i64 calq, .slice Aq3 lsq.length cq3, .int .i64 req, .int .i64 baq] 30)).heap[w.heap.size]? = some (.cells #[.int .i64 calq, .slice Aq3 lsq.length cq3, .int .i64 req, .int .i64 baq] 30 (0, 0))) := ⟨(blk_new w _)⟩
  have Rq3_1 : Aside0 (Kd.C k75 (w.alloc (.cells #[.int .i64 calq, .slice Aq3 lsq.length cq3, .int .i64 req, .int .i64 baq] 30)) Aq3 lsq.length lsq ∧ lsq.length ≤ cq3) := ⟨⟨Kd.C_below hq3.1 HB_1.out, hq3.2⟩⟩
  clear hq3
  have f1_ : decide ((60 : Int) < lsq.length) = false := decide_eq_false hx
  have HG := Aside0.mk hG
  clear hG
  go_enter Try.func6, Try.ntmps6
  go_wp2_with fail
  generalize (w.alloc (.cells #[.int .i64 calq, .slice Aq3 lsq.length cq3, .int .i64 req, .int .i64 baq] 30)) = w1 at HB_1 Bq_1 Rq3_1 ⊢
  have dq0 : w1.cell? ⟨w.heap.size, 0, none⟩ = some (.int .i64 calq) := (blk_cell Bq_1.out 0).trans rfl
  have dq1 : w1.cell? ⟨w.heap.size, 1, none⟩ = some (.slice Aq3 lsq.length cq3) := (blk_cell Bq_1.out 1).trans rfl
  have dq2 : w1.cell? ⟨w.heap.size, 2, none⟩ = some (.int .i64 req) := (blk_cell Bq_1.out 2).trans rfl
  have dq3 : w1.cell? ⟨w.heap.size, 3, none⟩ = some (.int .i64 baq) := (blk_cell Bq_1.out 3).trans rfl
  go_wp2_with (first | (go_at_call 15; with_reducible refine (good14_any w1 Rq3_1.out).mono ?_; rintro e w2 ⟨rfl, hb⟩; rw [HG.out]; clear dq0 dq1 dq2 dq3; have Bq_2 := Aside0.mk (blk_below Bq_1.out hb); have Rq3_2 : Aside0 (Kd.C k75 w2 Aq3 lsq.length lsq ∧ lsq.length ≤ cq3) := ⟨⟨Kd.C_below Rq3_1.out.1 hb, Rq3_1.out.2⟩⟩; have HB_2 := Aside0.mk (below_step HB_1.out hb); have hs_2 : w1.heap.size ≤ w2.heap.size := hb.size; clear hb; have dq0 : w2.cell? ⟨w.heap.size, 0, none⟩ = some (.int .i64 calq) := (blk_cell Bq_2.out 0).trans rfl; have dq1 : w2.cell? ⟨w.heap.size, 1, none⟩ = some (.slice Aq3 lsq.length cq3) := (blk_cell Bq_2.out 1).trans rfl; have dq2 : w2.cell? ⟨w.heap.size, 2, none⟩ = some (.int .i64 req) := (blk_cell Bq_2.out 2).trans rfl; have dq3 : w2.cell? ⟨w.heap.size, 3, none⟩ = some (.int .i64 baq) := (blk_cell Bq_2.out 3).trans rfl) | (go_at_call 9; with_reducible refine (lives15_any w2).mono ?_; rintro e w3 ⟨rfl, hb⟩; clear dq0 dq1 dq2 dq3; have Bq_3 := Aside0.mk (blk_below Bq_2.out hb); have Rq3_3 : Aside0 (Kd.C k75 w3 Aq3 lsq.length lsq ∧ lsq.length ≤ cq3) := ⟨⟨Kd.C_below Rq3_2.out.1 hb, Rq3_2.out.2⟩⟩; have HB_3 := Aside0.mk (below_step HB_2.out hb); have hs_3 : w2.heap.size ≤ w3.heap.size := hb.size; clear hb; have dq0 : w3.cell? ⟨w.heap.size, 0, none⟩ = some (.int .i64 calq) := (blk_cell Bq_3.out 0).trans rfl; have dq1 : w3.cell? ⟨w.heap.size, 1, none⟩ = some (.slice Aq3 lsq.length cq3) := (blk_cell Bq_3.out 1).trans rfl; have dq2 : w3.cell? ⟨w.heap.size, 2, none⟩ = some (.int .i64 req) := (blk_cell Bq_3.out 2).trans rfl; have dq3 : w3.cell? ⟨w.heap.size, 3, none⟩ = some (.int .i64 baq) := (blk_cell Bq_3.out 3).trans rfl))
  go_ret
  exact ⟨rfl, HB_3.out⟩
set_option maxHeartbeats 4000000 in
set_option maxRecDepth 100000 in
theorem nobc_main {calq req baq : Int} {lsq : List S75} {Aq3 : Option Addr} {cq3 : Nat} {now : Int} (w : World) (hq3 : Kd.C k75 w Aq3 lsq.length lsq ∧ lsq.length ≤ cq3) (hx : ¬ (60 : Int) < lsq.length) (hG : goodP calq lsq req baq = true) :
    Calls Try.prog 6 #[.agg #[.int .i64 calq, .slice Aq3 lsq.length cq3, .int .i64 req, .int .i64 baq], .int .i64 now] w fun e w' => e = .returned (.bool true) ∧ Below w.heap.size w w' := by
  have hnot : ∀ (x : Bool) (w : World), (Op.unary .not (.bool x)).run Try.prog w = .ok (.bool (!x)) w := fun _ _ => rfl
  have HB_1 : Aside0 (Below w.heap.size w (w.alloc (.cells #[.int .i64 calq, .slice Aq3 lsq.length cq3, .int .i64 req, .int .i64 baq] 30))) := ⟨(below_alloc (Below.refl w.heap.size w) (.cells #[.int .i64 calq, .slice Aq3 lsq.length cq3, .int .i64 req, .int .i64 baq] 30))⟩
  have Bq_1 : Aside0 ((w.alloc (.cells #[.int .i64 calq, .slice Aq3 lsq.length cq3, .int .i64 req, .int .i64 baq] 30)).heap[w.heap.size]? = some (.cells #[.int .i64 calq, .slice Aq3 lsq.length cq3, .int .i64 req, .int .i64 baq] 30 (0, 0))) := ⟨(blk_new w _)⟩
  have Rq3_1 : Aside0 (Kd.C k75 (w.alloc (.cells #[.int .i64 calq, .slice Aq3 lsq.length cq3, .int .i64 req, .int .i64 baq] 30)) Aq3 lsq.length lsq ∧ lsq.length ≤ cq3) := ⟨⟨Kd.C_below hq3.1 HB_1.out, hq3.2⟩⟩
  clear hq3
  have f1_ : decide ((60 : Int) < lsq.length) = false := decide_eq_false hx
  have HG := Aside0.mk hG
  clear hG
  go_enter Try.func6, Try.ntmps6
  go_wp2_with fail
  generalize (w.alloc (.cells #[.int .i64 calq, .slice Aq3 lsq.length cq3, .int .i64 req, .int .i64 baq] 30)) = w1 at HB_1 Bq_1 Rq3_1 ⊢
  have dq0 : w1.cell? ⟨w.heap.size, 0, none⟩ = some (.int .i64 calq) := (blk_cell Bq_1.out 0).trans rfl
  have dq1 : w1.cell? ⟨w.heap.size, 1, none⟩ = some (.slice Aq3 lsq.length cq3) := (blk_cell Bq_1.out 1).trans rfl
  have dq2 : w1.cell? ⟨w.heap.size, 2, none⟩ = some (.int .i64 req) := (blk_cell Bq_1.out 2).trans rfl
  have dq3 : w1.cell? ⟨w.heap.size, 3, none⟩ = some (.int .i64 baq) := (blk_cell Bq_1.out 3).trans rfl
  go_upto_region 4 with (first | (go_at_call 15; with_reducible refine (good14_any w1 Rq3_1.out).mono ?_; rintro e w2 ⟨rfl, hb⟩; rw [HG.out]; clear dq0 dq1 dq2 dq3; have Bq_2 := Aside0.mk (blk_below Bq_1.out hb); have Rq3_2 : Aside0 (Kd.C k75 w2 Aq3 lsq.length lsq ∧ lsq.length ≤ cq3) := ⟨⟨Kd.C_below Rq3_1.out.1 hb, Rq3_1.out.2⟩⟩; have HB_2 := Aside0.mk (below_step HB_1.out hb); have hs_2 : w1.heap.size ≤ w2.heap.size := hb.size; clear hb; have dq0 : w2.cell? ⟨w.heap.size, 0, none⟩ = some (.int .i64 calq) := (blk_cell Bq_2.out 0).trans rfl; have dq1 : w2.cell? ⟨w.heap.size, 1, none⟩ = some (.slice Aq3 lsq.length cq3) := (blk_cell Bq_2.out 1).trans rfl; have dq2 : w2.cell? ⟨w.heap.size, 2, none⟩ = some (.int .i64 req) := (blk_cell Bq_2.out 2).trans rfl; have dq3 : w2.cell? ⟨w.heap.size, 3, none⟩ = some (.int .i64 baq) := (blk_cell Bq_2.out 3).trans rfl) | (go_at_call 16; with_reducible refine (firstnil_any calq req baq now w2 Rq3_2.out HG.out).mono ?_; rintro e w3 ⟨rfl, hb⟩; clear dq0 dq1 dq2 dq3; have Bq_3 := Aside0.mk (blk_below Bq_2.out hb); have Rq3_3 : Aside0 (Kd.C k75 w3 Aq3 lsq.length lsq ∧ lsq.length ≤ cq3) := ⟨⟨Kd.C_below Rq3_2.out.1 hb, Rq3_2.out.2⟩⟩; have HB_3 := Aside0.mk (below_step HB_2.out hb); have hs_3 : w2.heap.size ≤ w3.heap.size := hb.size; clear hb; have dq0 : w3.cell? ⟨w.heap.size, 0, none⟩ = some (.int .i64 calq) := (blk_cell Bq_3.out 0).trans rfl; have dq1 : w3.cell? ⟨w.heap.size, 1, none⟩ = some (.slice Aq3 lsq.length cq3) := (blk_cell Bq_3.out 1).trans rfl; have dq2 : w3.cell? ⟨w.heap.size, 2, none⟩ = some (.int .i64 req) := (blk_cell Bq_3.out 2).trans rfl; have dq3 : w3.cell? ⟨w.heap.size, 3, none⟩ = some (.int .i64 baq) := (blk_cell Bq_3.out 3).trans rfl))
  clear dq0 dq1 dq2 dq3
  have hb : Below w3.heap.size w3 (w3.alloc (.cells #[.int .i64 0, .int .i64 0, .int .i64 0, .int .i64 0] 26)) := below_alloc (Below.refl _ _) _
  have Bx_4 := Aside0.mk (blk_new w3 (.cells #[.int .i64 0, .int .i64 0, .int .i64 0, .int .i64 0] 26))
  have Bq_4 := Aside0.mk (blk_below Bq_3.out hb)
  have Rq3_4 : Aside0 (Kd.C k75 (w3.alloc (.cells #[.int .i64 0, .int .i64 0, .int .i64 0, .int .i64 0] 26)) Aq3 lsq.length lsq ∧ lsq.length ≤ cq3) := ⟨⟨Kd.C_below Rq3_3.out.1 hb, Rq3_3.out.2⟩⟩
  have HB_4 := Aside0.mk (below_step HB_3.out hb)
  have hs_4 : w3.heap.size ≤ (w3.alloc (.cells #[.int .i64 0, .int .i64 0, .int .i64 0, .int .i64 0] 26)).heap.size := hb.size
  have hz_4 : w3.heap.size < (w3.alloc (.cells #[.int .i64 0, .int .i64 0, .int .i64 0, .int .i64 0] 26)).heap.size := blk_lt Bx_4.out
  clear hb
  generalize (w3.alloc (.cells #[.int .i64 0, .int .i64 0, .int .i64 0, .int .i64 0] 26)) = w4 at Bx_4 Bq_4 Rq3_4 HB_4 hs_4 hz_4 ⊢
  have dq0 : w4.cell? ⟨w.heap.size, 0, none⟩ = some (.int .i64 calq) := (blk_cell Bq_4.out 0).trans rfl
  have dq1 : w4.cell? ⟨w.heap.size, 1, none⟩ = some (.slice Aq3 lsq.length cq3) := (blk_cell Bq_4.out 1).trans rfl
  have dq2 : w4.cell? ⟨w.heap.size, 2, none⟩ = some (.int .i64 req) := (blk_cell Bq_4.out 2).trans rfl
  have dq3 : w4.cell? ⟨w.heap.size, 3, none⟩ = some (.int .i64 baq) := (blk_cell Bq_4.out 3).trans rfl
  have dx0 : w4.cell? ⟨w3.heap.size, 0, none⟩ = some (.int .i64 0) := (blk_cell Bx_4.out 0).trans rfl
  have dx1 : w4.cell? ⟨w3.heap.size, 1, none⟩ = some (.int .i64 0) := (blk_cell Bx_4.out 1).trans rfl
  have dx2 : w4.cell? ⟨w3.heap.size, 2, none⟩ = some (.int .i64 0) := (blk_cell Bx_4.out 2).trans rfl
  have dx3 : w4.cell? ⟨w3.heap.size, 3, none⟩ = some (.int .i64 0) := (blk_cell Bx_4.out 3).trans rfl
  go_upto_region 5 with (first | (go_at_call 13; with_reducible refine (gonil_any now w4).mono ?_; rintro e w5 ⟨rfl, hb⟩; clear dq0 dq1 dq2 dq3 dx0 dx1 dx2 dx3; have Bq_5 := Aside0.mk (blk_below Bq_4.out hb); have Bx_5 := Aside0.mk (blk_below Bx_4.out hb); have Rq3_5 : Aside0 (Kd.C k75 w5 Aq3 lsq.length lsq ∧ lsq.length ≤ cq3) := ⟨⟨Kd.C_below Rq3_4.out.1 hb, Rq3_4.out.2⟩⟩; have HB_5 := Aside0.mk (below_step HB_4.out hb); have hs_5 : w4.heap.size ≤ w5.heap.size := hb.size; clear hb; have dq0 : w5.cell? ⟨w.heap.size, 0, none⟩ = some (.int .i64 calq) := (blk_cell Bq_5.out 0).trans rfl; have dq1 : w5.cell? ⟨w.heap.size, 1, none⟩ = some (.slice Aq3 lsq.length cq3) := (blk_cell Bq_5.out 1).trans rfl; have dq2 : w5.cell? ⟨w.heap.size, 2, none⟩ = some (.int .i64 req) := (blk_cell Bq_5.out 2).trans rfl; have dq3 : w5.cell? ⟨w.heap.size, 3, none⟩ = some (.int .i64 baq) := (blk_cell Bq_5.out 3).trans rfl; have dx0 : w5.cell? ⟨w3.heap.size, 0, none⟩ = some (.int .i64 0) := (blk_cell Bx_5.out 0).trans rfl; have dx1 : w5.cell? ⟨w3.heap.size, 1, none⟩ = some (.int .i64 0) := (blk_cell Bx_5.out 1).trans rfl; have dx2 : w5.cell? ⟨w3.heap.size, 2, none⟩ = some (.int .i64 0) := (blk_cell Bx_5.out 2).trans rfl; have dx3 : w5.cell? ⟨w3.heap.size, 3, none⟩ = some (.int .i64 0) := (blk_cell Bx_5.out 3).trans rfl))
  clear dq0 dq1 dq2 dq3 dx0 dx1 dx2 dx3
  have hb : Below w5.heap.size w5 (w5.alloc (.cells #[.int .i64 0, .int .i64 0, .int .i64 0, .int .i64 0] 26)) := below_alloc (Below.refl _ _) _
  have By_6 := Aside0.mk (blk_new w5 (.cells #[.int .i64 0, .int .i64 0, .int .i64 0, .int .i64 0] 26))
  have Bq_6 := Aside0.mk (blk_below Bq_5.out hb)
  have Bx_6 := Aside0.mk (blk_below Bx_5.out hb)
  have Rq3_6 : Aside0 (Kd.C k75 (w5.alloc (.cells #[.int .i64 0, .int .i64 0, .int .i64 0, .int .i64 0] 26)) Aq3 lsq.length lsq ∧ lsq.length ≤ cq3) := ⟨⟨Kd.C_below Rq3_5.out.1 hb, Rq3_5.out.2⟩⟩
  have HB_6 := Aside0.mk (below_step HB_5.out hb)
  have hs_6 : w5.heap.size ≤ (w5.alloc (.cells #[.int .i64 0, .int .i64 0, .int .i64 0, .int .i64 0] 26)).heap.size := hb.size
  have hz_6 : w5.heap.size < (w5.alloc (.cells #[.int .i64 0, .int .i64 0, .int .i64 0, .int .i64 0] 26)).heap.size := blk_lt By_6.out
  clear hb
  generalize (w5.alloc (.cells #[.int .i64 0, .int .i64 0, .int .i64 0, .int .i64 0] 26)) = w6 at By_6 Bq_6 Bx_6 Rq3_6 HB_6 hs_6 hz_6 ⊢
  have dq0 : w6.cell? ⟨w.heap.size, 0, none⟩ = some (.int .i64 calq) := (blk_cell Bq_6.out 0).trans rfl
  have dq1 : w6.cell? ⟨w.heap.size, 1, none⟩ = some (.slice Aq3 lsq.length cq3) := (blk_cell Bq_6.out 1).trans rfl
  have dq2 : w6.cell? ⟨w.heap.size, 2, none⟩ = some (.int .i64 req) := (blk_cell Bq_6.out 2).trans rfl
  have dq3 : w6.cell? ⟨w.heap.size, 3, none⟩ = some (.int .i64 baq) := (blk_cell Bq_6.out 3).trans rfl
  have dx0 : w6.cell? ⟨w3.heap.size, 0, none⟩ = some (.int .i64 0) := (blk_cell Bx_6.out 0).trans rfl
  have dx1 : w6.cell? ⟨w3.heap.size, 1, none⟩ = some (.int .i64 0) := (blk_cell Bx_6.out 1).trans rfl
  have dx2 : w6.cell? ⟨w3.heap.size, 2, none⟩ = some (.int .i64 0) := (blk_cell Bx_6.out 2).trans rfl
  have dx3 : w6.cell? ⟨w3.heap.size, 3, none⟩ = some (.int .i64 0) := (blk_cell Bx_6.out 3).trans rfl
  have dy0 : w6.cell? ⟨w5.heap.size, 0, none⟩ = some (.int .i64 0) := (blk_cell By_6.out 0).trans rfl
  have dy1 : w6.cell? ⟨w5.heap.size, 1, none⟩ = some (.int .i64 0) := (blk_cell By_6.out 1).trans rfl
  have dy2 : w6.cell? ⟨w5.heap.size, 2, none⟩ = some (.int .i64 0) := (blk_cell By_6.out 2).trans rfl
  have dy3 : w6.cell? ⟨w5.heap.size, 3, none⟩ = some (.int .i64 0) := (blk_cell By_6.out 3).trans rfl
  go_wp2_with (first | (go_at_call 20; with_reducible refine (plannil_any calq req baq now w6 Rq3_6.out HG.out).mono ?_; rintro e w7 ⟨rfl, hb⟩; clear dq0 dq1 dq2 dq3 dx0 dx1 dx2 dx3 dy0 dy1 dy2 dy3; have Bq_7 := Aside0.mk (blk_below Bq_6.out hb); have Bx_7 := Aside0.mk (blk_below Bx_6.out hb); have By_7 := Aside0.mk (blk_below By_6.out hb); have Rq3_7 : Aside0 (Kd.C k75 w7 Aq3 lsq.length lsq ∧ lsq.length ≤ cq3) := ⟨⟨Kd.C_below Rq3_6.out.1 hb, Rq3_6.out.2⟩⟩; have HB_7 := Aside0.mk (below_step HB_6.out hb); have hs_7 : w6.heap.size ≤ w7.heap.size := hb.size; clear hb; have dq0 : w7.cell? ⟨w.heap.size, 0, none⟩ = some (.int .i64 calq) := (blk_cell Bq_7.out 0).trans rfl; have dq1 : w7.cell? ⟨w.heap.size, 1, none⟩ = some (.slice Aq3 lsq.length cq3) := (blk_cell Bq_7.out 1).trans rfl; have dq2 : w7.cell? ⟨w.heap.size, 2, none⟩ = some (.int .i64 req) := (blk_cell Bq_7.out 2).trans rfl; have dq3 : w7.cell? ⟨w.heap.size, 3, none⟩ = some (.int .i64 baq) := (blk_cell Bq_7.out 3).trans rfl; have dx0 : w7.cell? ⟨w3.heap.size, 0, none⟩ = some (.int .i64 0) := (blk_cell Bx_7.out 0).trans rfl; have dx1 : w7.cell? ⟨w3.heap.size, 1, none⟩ = some (.int .i64 0) := (blk_cell Bx_7.out 1).trans rfl; have dx2 : w7.cell? ⟨w3.heap.size, 2, none⟩ = some (.int .i64 0) := (blk_cell Bx_7.out 2).trans rfl; have dx3 : w7.cell? ⟨w3.heap.size, 3, none⟩ = some (.int .i64 0) := (blk_cell Bx_7.out 3).trans rfl; have dy0 : w7.cell? ⟨w5.heap.size, 0, none⟩ = some (.int .i64 0) := (blk_cell By_7.out 0).trans rfl; have dy1 : w7.cell? ⟨w5.heap.size, 1, none⟩ = some (.int .i64 0) := (blk_cell By_7.out 1).trans rfl; have dy2 : w7.cell? ⟨w5.heap.size, 2, none⟩ = some (.int .i64 0) := (blk_cell By_7.out 2).trans rfl; have dy3 : w7.cell? ⟨w5.heap.size, 3, none⟩ = some (.int .i64 0) := (blk_cell By_7.out 3).trans rfl) | (go_at_call 9; with_reducible refine (lives15_any w7).mono ?_; rintro e w8 ⟨rfl, hb⟩; clear dq0 dq1 dq2 dq3 dx0 dx1 dx2 dx3 dy0 dy1 dy2 dy3; have Bq_8 := Aside0.mk (blk_below Bq_7.out hb); have Bx_8 := Aside0.mk (blk_below Bx_7.out hb); have By_8 := Aside0.mk (blk_below By_7.out hb); have Rq3_8 : Aside0 (Kd.C k75 w8 Aq3 lsq.length lsq ∧ lsq.length ≤ cq3) := ⟨⟨Kd.C_below Rq3_7.out.1 hb, Rq3_7.out.2⟩⟩; have HB_8 := Aside0.mk (below_step HB_7.out hb); have hs_8 : w7.heap.size ≤ w8.heap.size := hb.size; clear hb; have dq0 : w8.cell? ⟨w.heap.size, 0, none⟩ = some (.int .i64 calq) := (blk_cell Bq_8.out 0).trans rfl; have dq1 : w8.cell? ⟨w.heap.size, 1, none⟩ = some (.slice Aq3 lsq.length cq3) := (blk_cell Bq_8.out 1).trans rfl; have dq2 : w8.cell? ⟨w.heap.size, 2, none⟩ = some (.int .i64 req) := (blk_cell Bq_8.out 2).trans rfl; have dq3 : w8.cell? ⟨w.heap.size, 3, none⟩ = some (.int .i64 baq) := (blk_cell Bq_8.out 3).trans rfl; have dx0 : w8.cell? ⟨w3.heap.size, 0, none⟩ = some (.int .i64 0) := (blk_cell Bx_8.out 0).trans rfl; have dx1 : w8.cell? ⟨w3.heap.size, 1, none⟩ = some (.int .i64 0) := (blk_cell Bx_8.out 1).trans rfl; have dx2 : w8.cell? ⟨w3.heap.size, 2, none⟩ = some (.int .i64 0) := (blk_cell Bx_8.out 2).trans rfl; have dx3 : w8.cell? ⟨w3.heap.size, 3, none⟩ = some (.int .i64 0) := (blk_cell Bx_8.out 3).trans rfl; have dy0 : w8.cell? ⟨w5.heap.size, 0, none⟩ = some (.int .i64 0) := (blk_cell By_8.out 0).trans rfl; have dy1 : w8.cell? ⟨w5.heap.size, 1, none⟩ = some (.int .i64 0) := (blk_cell By_8.out 1).trans rfl; have dy2 : w8.cell? ⟨w5.heap.size, 2, none⟩ = some (.int .i64 0) := (blk_cell By_8.out 2).trans rfl; have dy3 : w8.cell? ⟨w5.heap.size, 3, none⟩ = some (.int .i64 0) := (blk_cell By_8.out 3).trans rfl))
  go_ret
  exact ⟨rfl, HB_8.out⟩
theorem nobc_any {calq req baq : Int} {lsq : List S75} {Aq3 : Option Addr} {cq3 : Nat} {now : Int} (w : World) (hq3 : Kd.C k75 w Aq3 lsq.length lsq ∧ lsq.length ≤ cq3) : Calls Try.prog 6 #[.agg #[.int .i64 calq, .slice Aq3 lsq.length cq3, .int .i64 req, .int .i64 baq], .int .i64 now] w fun e w' => e = .returned (.bool true) ∧ Below w.heap.size w w' := by
  by_cases hx : (60 : Int) < lsq.length
  · exact nobc_long w hq3 hx
  · cases hG : goodP calq lsq req baq with
    | false => exact nobc_bad w hq3 hx hG
    | true => exact nobc_main w hq3 hx hG
end Go.Proofs.Ytepkbadgpoploaa.Own
