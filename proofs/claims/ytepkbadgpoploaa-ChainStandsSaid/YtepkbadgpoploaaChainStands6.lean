/- ChainStands, part 6: what the claim needs of ChainW, ChainF, Base11, ChainL, ChainK, OpenCal, OpenCon, Stands. -/
import Derived.Test.YtepkbadgpoploaaChainStands5
import Derived.Test.YtepkbadgpoploaaProg
import Derived.Below
import Derived.Deep.Draws
import Derived.Deep.AppendLies
import Derived.Maps.AppendAt
import Derived.OwnWalk
import Derived.Laws.BytesArg
import Derived.Laws.MakeOwn
import Derived.Laws.OwnMore
import Derived.Deep.OwnRows
import Derived.Tactics
import Derived.Lib.ConvBytes
import Derived.Laws.Slices
import Derived.WalkKit
import Derived.KernelRfl
import Derived.RowKit3
import Derived.Deep.LoopGhost
import Derived.Deep.QuietTactic
import Derived.BigQuiet
import Derived.WideLaws
import Derived.Deep.DeepCutAuto
import Derived.Deep.CutBlock
import Derived.Deep.RegionHeld3
import Derived.Laws.Rows
import Derived.Lib.AppendStr
import Derived.ArgAppend
import Derived.Laws.IdiomCopy
import Derived.OrdersHeld
import Derived.Laws.BitsLemmas
import Derived.RowKit
import Derived.Laws.StructEq
import Derived.Tactics2
import Derived.Defers
import Derived.Laws.Pointers
import Derived.Laws.LoneSync
import Derived.Laws.NewBlocks
import Derived.RegionTactic
import Derived.RegionCalls
import Derived.ChangeAlike
import Derived.StillTailTactics
import Derived.Outline
import Derived.Handy
import Derived.SizedLaws
import Derived.ChangeSlices
import Derived.Laws.EntriesVeiled
import Derived.WalkSpells
import Derived.RangeFuncNested
import Derived.RangeFuncBound
import Derived.RangeFuncCalls
import Derived.RangeFuncLeaves
import Derived.Shelf.Abstract
import Derived.Shelf.RegionOpen
import Derived.OwnWalkIn
import Derived.TacticsInMore
import Derived.LoopNIn
import Derived.LoopIn
import Derived.OrdersIn
import Derived.Test.YtepkbadgpoploaaRows
import Derived.ProofKit
import Derived.OpenShut
import Derived.ShutString
import Derived.ChangeOld
import Derived.Lib.SmallJoins
import Derived.Deep.SlicePairs
set_option linter.unusedVariables false
set_option linter.unusedSimpArgs false
namespace Go.Proofs.Ytepkbadgpoploaa.Own
open Go.RowKit Go.Proofs Go.Proofs.YtepkbadgpoploaaW.PrintWords Go.Proofs.YtepkbadgpoploaaW.PrintLast Go.Proofs.YtepkbadgpoploaaW.PrintMore Go.Proofs.Ytepkbadgpoploaa.Base
variable {w w' : World} {n kb ab pb cb : Nat} {off : Int} {week closed : List S78}
theorem stepat_any (lv fr l du now a b c d e : Int) (w : World) (h : ClkAt w n kb ab pb cb off week closed) (hn : n ≤ w.heap.size) (hl : l ≤ 9223372036854775807) (hd : atS off week closed lv l now = (a, b, c, d, e)) :
    Calls Try.prog 31 #[.agg #[.int .i64 lv, .int .i64 fr, .int .i64 l, .int .i64 du], .pointer (some ⟨kb, 0, none⟩), .int .i64 now] w fun r w' => r = .returned (.tuple #[.agg #[.int .i64 a, .int .i64 b, .int .i64 c, .int .i64 d], .int .i64 e]) ∧ ClkAt w' n kb ab pb cb off week closed ∧ Upd cb w w' := by
  unfold atS at hd
  by_cases h0 : (dueP off week closed now l).2 = 0
  · rw [if_pos h0] at hd
    cases hd
    exact at_ok lv fr l du now _ w h hn hl (Prod.ext rfl h0)
  · rw [if_neg h0] at hd
    cases hd
    exact at_no lv fr l du now _ w h hn hl (Prod.ext (dueP_zero h0) rfl) h0
theorem rest2 (hk : CalOk off week closed) (a u b : Int) (w : World) (h : ClkAt w n kb ab pb cb off week closed) (hn : n ≤ w.heap.size) (hu : u ≤ 9223372036854775807) :
    Calls Try.prog 29 #[.pointer (some ⟨kb, 0, none⟩), .int .i64 a, .int .i64 u, .int .i64 b] w fun e w' => e = .returned (.tuple #[.int .i64 (restR off week closed a u b).1, .int .i64 (restR off week closed a u b).2]) ∧ ClkAt w' n kb ab pb cb off week closed ∧ Upd cb w w' := by
  unfold restR
  by_cases hu0 : u < 0
  · rw [if_pos hu0]; exact (rest_neg a u b w h hu0).mono fun e w' ⟨he, hb⟩ => by subst hb; exact ⟨he, h, Upd.refl _ _⟩
  · rw [if_neg hu0]
    by_cases hx : 0 ≤ a ∧ a ≤ b ∧ b ≤ 1125899906842624
    · rw [if_pos hx]; exact rest_any a u b w h hn hx.1 hx.2.1 hx.2.2 (by omega) hu (elap_nonneg hk.week hk.closed hk.lo hk.hi hx.1 hx.2.1 hx.2.2)
    · rw [if_neg hx]; exact (rest_arg a u b w h (by omega) hx).mono fun e w' ⟨he, hb⟩ => ⟨he, h.below hb, Upd.of_below hb⟩
theorem put4 {w W : World} {b : Nat} {x0 x1 x2 x3 : Value} (E : W.heap[b]? = some (.cells #[x0, x1, x2, x3] 26 (0, 0))) (C : ClkAt W n kb ab pb cb off week closed) (U : Upd cb w W) (hge : w.heap.size ≤ b) (v0 v1 v2 v3 : Value) :
    ClkAt ((((W.setCell ⟨b, 0, none⟩ v0).setCell ⟨b, 1, none⟩ v1).setCell ⟨b, 2, none⟩ v2).setCell ⟨b, 3, none⟩ v3) n kb ab pb cb off week closed ∧ Upd cb w ((((W.setCell ⟨b, 0, none⟩ v0).setCell ⟨b, 1, none⟩ v1).setCell ⟨b, 2, none⟩ v2).setCell ⟨b, 3, none⟩ v3) ∧
      ((((W.setCell ⟨b, 0, none⟩ v0).setCell ⟨b, 1, none⟩ v1).setCell ⟨b, 2, none⟩ v2).setCell ⟨b, 3, none⟩ v3).heap[b]? = some (.cells #[v0, v1, v2, v3] 26 (0, 0)) := by
  have F : FarT 26 := ⟨by decide, by decide, by decide, by decide, by decide, by decide⟩
  have E2 := blk_put E 0 v0 rfl
  have S2 := step_set C U E F hge 0 v0
  have E3 := blk_put E2 1 v1 rfl
  have S3 := step_set S2.1 S2.2 E2 F hge 1 v1
  have E4 := blk_put E3 2 v2 rfl
  have S4 := step_set S3.1 S3.2 E3 F hge 2 v2
  have E5 := blk_put E4 3 v3 rfl
  have S5 := step_set S4.1 S4.2 E4 F hge 3 v3
  exact ⟨S5.1, S5.2, E5⟩
set_option maxHeartbeats 4000000 in
set_option maxRecDepth 100000 in
theorem stand_state (lv fr l du now : Int) (w : World) (h : ClkAt w n kb ab pb cb off week closed) (hn : n ≤ w.heap.size) (hx : du = 0) :
    Calls Try.prog 11 #[.pointer (some ⟨kb, 0, none⟩), .agg #[.int .i64 lv, .int .i64 fr, .int .i64 l, .int .i64 du], .int .i64 now] w fun r w' => r = .returned (.tuple #[.agg #[.int .i64 0, .int .i64 0, .int .i64 0, .int .i64 0], .int .i64 33]) ∧ ClkAt w' n kb ab pb cb off week closed ∧ Upd cb w w' := by
  have hcb := h.lt
  have hnot : ∀ (x : Bool) (w : World), (Op.unary .not (.bool x)).run Try.prog w = .ok (.bool (!x)) w := fun _ _ => rfl
  have hmf : ∀ (fn : Fn) (first cap : Array Value) (w : World), (Instr.makeFunc fn first cap).run Try.prog w = .ok (.func fn first cap) w := fun _ _ _ _ => rfl
  have C0 : Aside0 (((w.alloc (.cells #[.int .i64 lv, .int .i64 fr, .int .i64 l, .int .i64 du] 26)).alloc (.cells #[.int .i64 0, .int .i64 0, .int .i64 0, .int .i64 0] 26)).heap[w.heap.size]? = some (.cells #[.int .i64 lv, .int .i64 fr, .int .i64 l, .int .i64 du] 26 (0, 0))) := ⟨blk_alloc (blk_new w _) _⟩
  have C1 : Aside0 (((w.alloc (.cells #[.int .i64 lv, .int .i64 fr, .int .i64 l, .int .i64 du] 26)).alloc (.cells #[.int .i64 0, .int .i64 0, .int .i64 0, .int .i64 0] 26)).heap[w.heap.size + 1]? = some (.cells #[.int .i64 0, .int .i64 0, .int .i64 0, .int .i64 0] 26 (0, 0))) := ⟨by simpa using blk_new (w.alloc (.cells #[.int .i64 lv, .int .i64 fr, .int .i64 l, .int .i64 du] 26)) (.cells #[.int .i64 0, .int .i64 0, .int .i64 0, .int .i64 0] 26)⟩
  have HB := below_alloc (below_alloc (Below.refl w.heap.size w) (.cells #[.int .i64 lv, .int .i64 fr, .int .i64 l, .int .i64 du] 26)) (.cells #[.int .i64 0, .int .i64 0, .int .i64 0, .int .i64 0] 26)
  have HC := Aside0.mk (h.below HB)
  have HU := Aside0.mk (Upd.of_below (b := cb) HB)
  have HN := Aside0.mk (Nat.le_trans hn HB.size)
  clear h HB
  have hd : (du != 0) = false := by simp [hx]
  clear hx
  go_enter Try.func11, Try.ntmps11
  go_wp2_with fail
  generalize ((w.alloc (.cells #[.int .i64 lv, .int .i64 fr, .int .i64 l, .int .i64 du] 26)).alloc (.cells #[.int .i64 0, .int .i64 0, .int .i64 0, .int .i64 0] 26)) = w2 at C0 C1 HC HU HN ⊢
  have c0 : w2.cell? ⟨w.heap.size, 0, none⟩ = some (.int .i64 lv) := (blk_cell C0.out 0).trans rfl
  have c1 : w2.cell? ⟨w.heap.size, 1, none⟩ = some (.int .i64 fr) := (blk_cell C0.out 1).trans rfl
  have c2 : w2.cell? ⟨w.heap.size, 2, none⟩ = some (.int .i64 l) := (blk_cell C0.out 2).trans rfl
  have c3 : w2.cell? ⟨w.heap.size, 3, none⟩ = some (.int .i64 du) := (blk_cell C0.out 3).trans rfl
  have r0 : w2.cell? ⟨w.heap.size + 1, 0, none⟩ = some (.int .i64 0) := (blk_cell C1.out 0).trans rfl
  have r1 : w2.cell? ⟨w.heap.size + 1, 1, none⟩ = some (.int .i64 0) := (blk_cell C1.out 1).trans rfl
  have r2 : w2.cell? ⟨w.heap.size + 1, 2, none⟩ = some (.int .i64 0) := (blk_cell C1.out 2).trans rfl
  have r3 : w2.cell? ⟨w.heap.size + 1, 3, none⟩ = some (.int .i64 0) := (blk_cell C1.out 3).trans rfl
  have g0 : w2.frozen? ⟨w.heap.size + 1, 0, none⟩ = false := blk_frozen C1.out 0
  have g1 : w2.frozen? ⟨w.heap.size + 1, 1, none⟩ = false := blk_frozen C1.out 1
  have g2 : w2.frozen? ⟨w.heap.size + 1, 2, none⟩ = false := blk_frozen C1.out 2
  have g3 : w2.frozen? ⟨w.heap.size + 1, 3, none⟩ = false := blk_frozen C1.out 3
  go_wp2_with (go_at_call 28; refine (chain_Step_going.calls lv fr l du _ w2 rfl).mono ?_; rintro e w3 ⟨rfl, hb⟩; have HC3 := Aside0.mk (HC.out.below hb); have HU3 := Aside0.mk (HU.out.then hb); have HN3 := Aside0.mk (Nat.le_trans HN.out hb.size); have n0 := Aside0.mk (blk_below C0.out hb); have n1 := Aside0.mk (blk_below C1.out hb); clear hb C0 C1 c0 c1 c2 c3 r0 r1 r2 r3 g0 g1 g2 g3; have C0 := n0; have C1 := n1; clear n0 n1; have c0 : w3.cell? ⟨w.heap.size, 0, none⟩ = some (.int .i64 lv) := (blk_cell C0.out 0).trans rfl; have c1 : w3.cell? ⟨w.heap.size, 1, none⟩ = some (.int .i64 fr) := (blk_cell C0.out 1).trans rfl; have c2 : w3.cell? ⟨w.heap.size, 2, none⟩ = some (.int .i64 l) := (blk_cell C0.out 2).trans rfl; have c3 : w3.cell? ⟨w.heap.size, 3, none⟩ = some (.int .i64 du) := (blk_cell C0.out 3).trans rfl; have r0 : w3.cell? ⟨w.heap.size + 1, 0, none⟩ = some (.int .i64 0) := (blk_cell C1.out 0).trans rfl; have r1 : w3.cell? ⟨w.heap.size + 1, 1, none⟩ = some (.int .i64 0) := (blk_cell C1.out 1).trans rfl; have r2 : w3.cell? ⟨w.heap.size + 1, 2, none⟩ = some (.int .i64 0) := (blk_cell C1.out 2).trans rfl; have r3 : w3.cell? ⟨w.heap.size + 1, 3, none⟩ = some (.int .i64 0) := (blk_cell C1.out 3).trans rfl; have g0 : w3.frozen? ⟨w.heap.size + 1, 0, none⟩ = false := blk_frozen C1.out 0; have g1 : w3.frozen? ⟨w.heap.size + 1, 1, none⟩ = false := blk_frozen C1.out 1; have g2 : w3.frozen? ⟨w.heap.size + 1, 2, none⟩ = false := blk_frozen C1.out 2; have g3 : w3.frozen? ⟨w.heap.size + 1, 3, none⟩ = false := blk_frozen C1.out 3)
  obtain ⟨C9, U9, E9⟩ := put4 C1.out HC3.out HU3.out (by omega) (.int .i64 0) (.int .i64 0) (.int .i64 0) (.int .i64 0)
  have k0 := (blk_cell E9 0).trans (rfl : _ = some (Value.int .i64 0))
  have k1 := (blk_cell E9 1).trans (rfl : _ = some (Value.int .i64 0))
  have k2 := (blk_cell E9 2).trans (rfl : _ = some (Value.int .i64 0))
  have k3 := (blk_cell E9 3).trans (rfl : _ = some (Value.int .i64 0))
  refine bodyPost_ret (v := .tuple #[.agg #[.int .i64 0, .int .i64 0, .int .i64 0, .int .i64 0], .int .i64 33]) (by simp [results, Try.results11, go_sem, k0, k1, k2, k3]) rfl ⟨rfl, C9, U9⟩
set_option maxHeartbeats 4000000 in
set_option maxRecDepth 100000 in
theorem stand_old (lv fr l du now : Int) (w : World) (h : ClkAt w n kb ab pb cb off week closed) (hn : n ≤ w.heap.size) (hx : du ≠ 0) (hy : du ≤ now) :
    Calls Try.prog 11 #[.pointer (some ⟨kb, 0, none⟩), .agg #[.int .i64 lv, .int .i64 fr, .int .i64 l, .int .i64 du], .int .i64 now] w fun r w' => r = .returned (.tuple #[.agg #[.int .i64 0, .int .i64 0, .int .i64 0, .int .i64 0], .int .i64 34]) ∧ ClkAt w' n kb ab pb cb off week closed ∧ Upd cb w w' := by
  have hcb := h.lt
  have hnot : ∀ (x : Bool) (w : World), (Op.unary .not (.bool x)).run Try.prog w = .ok (.bool (!x)) w := fun _ _ => rfl
  have hmf : ∀ (fn : Fn) (first cap : Array Value) (w : World), (Instr.makeFunc fn first cap).run Try.prog w = .ok (.func fn first cap) w := fun _ _ _ _ => rfl
  have C0 : Aside0 (((w.alloc (.cells #[.int .i64 lv, .int .i64 fr, .int .i64 l, .int .i64 du] 26)).alloc (.cells #[.int .i64 0, .int .i64 0, .int .i64 0, .int .i64 0] 26)).heap[w.heap.size]? = some (.cells #[.int .i64 lv, .int .i64 fr, .int .i64 l, .int .i64 du] 26 (0, 0))) := ⟨blk_alloc (blk_new w _) _⟩
  have C1 : Aside0 (((w.alloc (.cells #[.int .i64 lv, .int .i64 fr, .int .i64 l, .int .i64 du] 26)).alloc (.cells #[.int .i64 0, .int .i64 0, .int .i64 0, .int .i64 0] 26)).heap[w.heap.size + 1]? = some (.cells #[.int .i64 0, .int .i64 0, .int .i64 0, .int .i64 0] 26 (0, 0))) := ⟨by simpa using blk_new (w.alloc (.cells #[.int .i64 lv, .int .i64 fr, .int .i64 l, .int .i64 du] 26)) (.cells #[.int .i64 0, .int .i64 0, .int .i64 0, .int .i64 0] 26)⟩
  have HB := below_alloc (below_alloc (Below.refl w.heap.size w) (.cells #[.int .i64 lv, .int .i64 fr, .int .i64 l, .int .i64 du] 26)) (.cells #[.int .i64 0, .int .i64 0, .int .i64 0, .int .i64 0] 26)
  have HC := Aside0.mk (h.below HB)
  have HU := Aside0.mk (Upd.of_below (b := cb) HB)
  have HN := Aside0.mk (Nat.le_trans hn HB.size)
  clear h HB
  have hd : (du != 0) = true := by simp [hx]
  clear hx
  go_enter Try.func11, Try.ntmps11
  go_wp2_with fail
  generalize ((w.alloc (.cells #[.int .i64 lv, .int .i64 fr, .int .i64 l, .int .i64 du] 26)).alloc (.cells #[.int .i64 0, .int .i64 0, .int .i64 0, .int .i64 0] 26)) = w2 at C0 C1 HC HU HN ⊢
  have c0 : w2.cell? ⟨w.heap.size, 0, none⟩ = some (.int .i64 lv) := (blk_cell C0.out 0).trans rfl
  have c1 : w2.cell? ⟨w.heap.size, 1, none⟩ = some (.int .i64 fr) := (blk_cell C0.out 1).trans rfl
  have c2 : w2.cell? ⟨w.heap.size, 2, none⟩ = some (.int .i64 l) := (blk_cell C0.out 2).trans rfl
  have c3 : w2.cell? ⟨w.heap.size, 3, none⟩ = some (.int .i64 du) := (blk_cell C0.out 3).trans rfl
  have r0 : w2.cell? ⟨w.heap.size + 1, 0, none⟩ = some (.int .i64 0) := (blk_cell C1.out 0).trans rfl
  have r1 : w2.cell? ⟨w.heap.size + 1, 1, none⟩ = some (.int .i64 0) := (blk_cell C1.out 1).trans rfl
  have r2 : w2.cell? ⟨w.heap.size + 1, 2, none⟩ = some (.int .i64 0) := (blk_cell C1.out 2).trans rfl
  have r3 : w2.cell? ⟨w.heap.size + 1, 3, none⟩ = some (.int .i64 0) := (blk_cell C1.out 3).trans rfl
  have g0 : w2.frozen? ⟨w.heap.size + 1, 0, none⟩ = false := blk_frozen C1.out 0
  have g1 : w2.frozen? ⟨w.heap.size + 1, 1, none⟩ = false := blk_frozen C1.out 1
  have g2 : w2.frozen? ⟨w.heap.size + 1, 2, none⟩ = false := blk_frozen C1.out 2
  have g3 : w2.frozen? ⟨w.heap.size + 1, 3, none⟩ = false := blk_frozen C1.out 3
  go_wp2_with (go_at_call 28; refine (chain_Step_going.calls lv fr l du _ w2 rfl).mono ?_; rintro e w3 ⟨rfl, hb⟩; have HC3 := Aside0.mk (HC.out.below hb); have HU3 := Aside0.mk (HU.out.then hb); have HN3 := Aside0.mk (Nat.le_trans HN.out hb.size); have n0 := Aside0.mk (blk_below C0.out hb); have n1 := Aside0.mk (blk_below C1.out hb); clear hb C0 C1 c0 c1 c2 c3 r0 r1 r2 r3 g0 g1 g2 g3; have C0 := n0; have C1 := n1; clear n0 n1; have c0 : w3.cell? ⟨w.heap.size, 0, none⟩ = some (.int .i64 lv) := (blk_cell C0.out 0).trans rfl; have c1 : w3.cell? ⟨w.heap.size, 1, none⟩ = some (.int .i64 fr) := (blk_cell C0.out 1).trans rfl; have c2 : w3.cell? ⟨w.heap.size, 2, none⟩ = some (.int .i64 l) := (blk_cell C0.out 2).trans rfl; have c3 : w3.cell? ⟨w.heap.size, 3, none⟩ = some (.int .i64 du) := (blk_cell C0.out 3).trans rfl; have r0 : w3.cell? ⟨w.heap.size + 1, 0, none⟩ = some (.int .i64 0) := (blk_cell C1.out 0).trans rfl; have r1 : w3.cell? ⟨w.heap.size + 1, 1, none⟩ = some (.int .i64 0) := (blk_cell C1.out 1).trans rfl; have r2 : w3.cell? ⟨w.heap.size + 1, 2, none⟩ = some (.int .i64 0) := (blk_cell C1.out 2).trans rfl; have r3 : w3.cell? ⟨w.heap.size + 1, 3, none⟩ = some (.int .i64 0) := (blk_cell C1.out 3).trans rfl; have g0 : w3.frozen? ⟨w.heap.size + 1, 0, none⟩ = false := blk_frozen C1.out 0; have g1 : w3.frozen? ⟨w.heap.size + 1, 1, none⟩ = false := blk_frozen C1.out 1; have g2 : w3.frozen? ⟨w.heap.size + 1, 2, none⟩ = false := blk_frozen C1.out 2; have g3 : w3.frozen? ⟨w.heap.size + 1, 3, none⟩ = false := blk_frozen C1.out 3)
  obtain ⟨C9, U9, E9⟩ := put4 C1.out HC3.out HU3.out (by omega) (.int .i64 0) (.int .i64 0) (.int .i64 0) (.int .i64 0)
  have k0 := (blk_cell E9 0).trans (rfl : _ = some (Value.int .i64 0))
  have k1 := (blk_cell E9 1).trans (rfl : _ = some (Value.int .i64 0))
  have k2 := (blk_cell E9 2).trans (rfl : _ = some (Value.int .i64 0))
  have k3 := (blk_cell E9 3).trans (rfl : _ = some (Value.int .i64 0))
  refine bodyPost_ret (v := .tuple #[.agg #[.int .i64 0, .int .i64 0, .int .i64 0, .int .i64 0], .int .i64 34]) (by simp [results, Try.results11, go_sem, k0, k1, k2, k3]) rfl ⟨rfl, C9, U9⟩
set_option maxHeartbeats 4000000 in
set_option maxRecDepth 100000 in
theorem stand_no (lv fr l du now : Int) (w : World) (h : ClkAt w n kb ab pb cb off week closed) (hn : n ≤ w.heap.size) (hk : CalOk off week closed) (hl : l ≤ 9223372036854775807) (hx : du ≠ 0) (hy : ¬ du ≤ now) (x e : Int) (hr : restR off week closed fr l now = (x, e)) (he : e ≠ 0) :
    Calls Try.prog 11 #[.pointer (some ⟨kb, 0, none⟩), .agg #[.int .i64 lv, .int .i64 fr, .int .i64 l, .int .i64 du], .int .i64 now] w fun r w' => r = .returned (.tuple #[.agg #[.int .i64 0, .int .i64 0, .int .i64 0, .int .i64 0], .int .i64 e]) ∧ ClkAt w' n kb ab pb cb off week closed ∧ Upd cb w w' := by
  have hcb := h.lt
  have hnot : ∀ (x : Bool) (w : World), (Op.unary .not (.bool x)).run Try.prog w = .ok (.bool (!x)) w := fun _ _ => rfl
  have hmf : ∀ (fn : Fn) (first cap : Array Value) (w : World), (Instr.makeFunc fn first cap).run Try.prog w = .ok (.func fn first cap) w := fun _ _ _ _ => rfl
  have C0 : Aside0 (((w.alloc (.cells #[.int .i64 lv, .int .i64 fr, .int .i64 l, .int .i64 du] 26)).alloc (.cells #[.int .i64 0, .int .i64 0, .int .i64 0, .int .i64 0] 26)).heap[w.heap.size]? = some (.cells #[.int .i64 lv, .int .i64 fr, .int .i64 l, .int .i64 du] 26 (0, 0))) := ⟨blk_alloc (blk_new w _) _⟩
  have C1 : Aside0 (((w.alloc (.cells #[.int .i64 lv, .int .i64 fr, .int .i64 l, .int .i64 du] 26)).alloc (.cells #[.int .i64 0, .int .i64 0, .int .i64 0, .int .i64 0] 26)).heap[w.heap.size + 1]? = some (.cells #[.int .i64 0, .int .i64 0, .int .i64 0, .int .i64 0] 26 (0, 0))) := ⟨by simpa using blk_new (w.alloc (.cells #[.int .i64 lv, .int .i64 fr, .int .i64 l, .int .i64 du] 26)) (.cells #[.int .i64 0, .int .i64 0, .int .i64 0, .int .i64 0] 26)⟩
  have HB := below_alloc (below_alloc (Below.refl w.heap.size w) (.cells #[.int .i64 lv, .int .i64 fr, .int .i64 l, .int .i64 du] 26)) (.cells #[.int .i64 0, .int .i64 0, .int .i64 0, .int .i64 0] 26)
  have HC := Aside0.mk (h.below HB)
  have HU := Aside0.mk (Upd.of_below (b := cb) HB)
  have HN := Aside0.mk (Nat.le_trans hn HB.size)
  clear h HB
  have HK := Aside0.mk hk
  have HR := Aside0.mk hr
  have hd : (du != 0) = true := by simp [hx]
  have he2 : (e != 0) = true := bne_iff_ne.mpr he
  clear hx hr hk he
  go_enter Try.func11, Try.ntmps11
  go_wp2_with fail
  generalize ((w.alloc (.cells #[.int .i64 lv, .int .i64 fr, .int .i64 l, .int .i64 du] 26)).alloc (.cells #[.int .i64 0, .int .i64 0, .int .i64 0, .int .i64 0] 26)) = w2 at C0 C1 HC HU HN ⊢
  have c0 : w2.cell? ⟨w.heap.size, 0, none⟩ = some (.int .i64 lv) := (blk_cell C0.out 0).trans rfl
  have c1 : w2.cell? ⟨w.heap.size, 1, none⟩ = some (.int .i64 fr) := (blk_cell C0.out 1).trans rfl
  have c2 : w2.cell? ⟨w.heap.size, 2, none⟩ = some (.int .i64 l) := (blk_cell C0.out 2).trans rfl
  have c3 : w2.cell? ⟨w.heap.size, 3, none⟩ = some (.int .i64 du) := (blk_cell C0.out 3).trans rfl
  have r0 : w2.cell? ⟨w.heap.size + 1, 0, none⟩ = some (.int .i64 0) := (blk_cell C1.out 0).trans rfl
  have r1 : w2.cell? ⟨w.heap.size + 1, 1, none⟩ = some (.int .i64 0) := (blk_cell C1.out 1).trans rfl
  have r2 : w2.cell? ⟨w.heap.size + 1, 2, none⟩ = some (.int .i64 0) := (blk_cell C1.out 2).trans rfl
  have r3 : w2.cell? ⟨w.heap.size + 1, 3, none⟩ = some (.int .i64 0) := (blk_cell C1.out 3).trans rfl
  have g0 : w2.frozen? ⟨w.heap.size + 1, 0, none⟩ = false := blk_frozen C1.out 0
  have g1 : w2.frozen? ⟨w.heap.size + 1, 1, none⟩ = false := blk_frozen C1.out 1
  have g2 : w2.frozen? ⟨w.heap.size + 1, 2, none⟩ = false := blk_frozen C1.out 2
  have g3 : w2.frozen? ⟨w.heap.size + 1, 3, none⟩ = false := blk_frozen C1.out 3
  go_wp2_with (first | (go_at_call 28; refine (chain_Step_going.calls lv fr l du _ w2 rfl).mono ?_; rintro e w3 ⟨rfl, hb⟩; have HC3 := Aside0.mk (HC.out.below hb); have HU3 := Aside0.mk (HU.out.then hb); have HN3 := Aside0.mk (Nat.le_trans HN.out hb.size); have n0 := Aside0.mk (blk_below C0.out hb); have n1 := Aside0.mk (blk_below C1.out hb); clear hb C0 C1 c0 c1 c2 c3 r0 r1 r2 r3 g0 g1 g2 g3; have C0 := n0; have C1 := n1; clear n0 n1; have c0 : w3.cell? ⟨w.heap.size, 0, none⟩ = some (.int .i64 lv) := (blk_cell C0.out 0).trans rfl; have c1 : w3.cell? ⟨w.heap.size, 1, none⟩ = some (.int .i64 fr) := (blk_cell C0.out 1).trans rfl; have c2 : w3.cell? ⟨w.heap.size, 2, none⟩ = some (.int .i64 l) := (blk_cell C0.out 2).trans rfl; have c3 : w3.cell? ⟨w.heap.size, 3, none⟩ = some (.int .i64 du) := (blk_cell C0.out 3).trans rfl; have r0 : w3.cell? ⟨w.heap.size + 1, 0, none⟩ = some (.int .i64 0) := (blk_cell C1.out 0).trans rfl; have r1 : w3.cell? ⟨w.heap.size + 1, 1, none⟩ = some (.int .i64 0) := (blk_cell C1.out 1).trans rfl; have r2 : w3.cell? ⟨w.heap.size + 1, 2, none⟩ = some (.int .i64 0) := (blk_cell C1.out 2).trans rfl; have r3 : w3.cell? ⟨w.heap.size + 1, 3, none⟩ = some (.int .i64 0) := (blk_cell C1.out 3).trans rfl; have g0 : w3.frozen? ⟨w.heap.size + 1, 0, none⟩ = false := blk_frozen C1.out 0; have g1 : w3.frozen? ⟨w.heap.size + 1, 1, none⟩ = false := blk_frozen C1.out 1; have g2 : w3.frozen? ⟨w.heap.size + 1, 2, none⟩ = false := blk_frozen C1.out 2; have g3 : w3.frozen? ⟨w.heap.size + 1, 3, none⟩ = false := blk_frozen C1.out 3) | (go_at_call 29; refine (rest2 HK.out fr l now w3 HC3.out HN3.out hl).mono ?_; rintro e w4 ⟨rfl, CK, UK⟩; rw [HR.out]; have n0 := Aside0.mk (UK.blk C0.out (by omega)); have n1 := Aside0.mk (UK.blk C1.out (by omega)); have HC4 := Aside0.mk CK; have HU4 := Aside0.mk (HU3.out.trans UK); clear CK UK C0 C1 c0 c1 c2 c3 r0 r1 r2 r3 g0 g1 g2 g3; have C0 := n0; have C1 := n1; clear n0 n1; have c0 : w4.cell? ⟨w.heap.size, 0, none⟩ = some (.int .i64 lv) := (blk_cell C0.out 0).trans rfl; have c1 : w4.cell? ⟨w.heap.size, 1, none⟩ = some (.int .i64 fr) := (blk_cell C0.out 1).trans rfl; have c2 : w4.cell? ⟨w.heap.size, 2, none⟩ = some (.int .i64 l) := (blk_cell C0.out 2).trans rfl; have c3 : w4.cell? ⟨w.heap.size, 3, none⟩ = some (.int .i64 du) := (blk_cell C0.out 3).trans rfl; have r0 : w4.cell? ⟨w.heap.size + 1, 0, none⟩ = some (.int .i64 0) := (blk_cell C1.out 0).trans rfl; have r1 : w4.cell? ⟨w.heap.size + 1, 1, none⟩ = some (.int .i64 0) := (blk_cell C1.out 1).trans rfl; have r2 : w4.cell? ⟨w.heap.size + 1, 2, none⟩ = some (.int .i64 0) := (blk_cell C1.out 2).trans rfl; have r3 : w4.cell? ⟨w.heap.size + 1, 3, none⟩ = some (.int .i64 0) := (blk_cell C1.out 3).trans rfl; have g0 : w4.frozen? ⟨w.heap.size + 1, 0, none⟩ = false := blk_frozen C1.out 0; have g1 : w4.frozen? ⟨w.heap.size + 1, 1, none⟩ = false := blk_frozen C1.out 1; have g2 : w4.frozen? ⟨w.heap.size + 1, 2, none⟩ = false := blk_frozen C1.out 2; have g3 : w4.frozen? ⟨w.heap.size + 1, 3, none⟩ = false := blk_frozen C1.out 3))
  obtain ⟨C9, U9, E9⟩ := put4 C1.out HC4.out HU4.out (by omega) (.int .i64 0) (.int .i64 0) (.int .i64 0) (.int .i64 0)
  have k0 := (blk_cell E9 0).trans (rfl : _ = some (Value.int .i64 0))
  have k1 := (blk_cell E9 1).trans (rfl : _ = some (Value.int .i64 0))
  have k2 := (blk_cell E9 2).trans (rfl : _ = some (Value.int .i64 0))
  have k3 := (blk_cell E9 3).trans (rfl : _ = some (Value.int .i64 0))
  refine bodyPost_ret (v := .tuple #[.agg #[.int .i64 0, .int .i64 0, .int .i64 0, .int .i64 0], .int .i64 e]) (by simp [results, Try.results11, go_sem, k0, k1, k2, k3]) rfl ⟨rfl, C9, U9⟩
set_option maxHeartbeats 4000000 in
set_option maxRecDepth 100000 in
theorem stand_ok (lv fr l du now : Int) (w : World) (h : ClkAt w n kb ab pb cb off week closed) (hn : n ≤ w.heap.size) (hk : CalOk off week closed) (hl : l ≤ 9223372036854775807) (hx : du ≠ 0) (hy : ¬ du ≤ now) (x : Int) (hr : restR off week closed fr l now = (x, 0)) :
    Calls Try.prog 11 #[.pointer (some ⟨kb, 0, none⟩), .agg #[.int .i64 lv, .int .i64 fr, .int .i64 l, .int .i64 du], .int .i64 now] w fun r w' => r = .returned (.tuple #[.agg #[.int .i64 lv, .int .i64 now, .int .i64 x, .int .i64 0], .int .i64 0]) ∧ ClkAt w' n kb ab pb cb off week closed ∧ Upd cb w w' := by
  have hcb := h.lt
  have hnot : ∀ (x : Bool) (w : World), (Op.unary .not (.bool x)).run Try.prog w = .ok (.bool (!x)) w := fun _ _ => rfl
  have hmf : ∀ (fn : Fn) (first cap : Array Value) (w : World), (Instr.makeFunc fn first cap).run Try.prog w = .ok (.func fn first cap) w := fun _ _ _ _ => rfl
  have C0 : Aside0 (((w.alloc (.cells #[.int .i64 lv, .int .i64 fr, .int .i64 l, .int .i64 du] 26)).alloc (.cells #[.int .i64 0, .int .i64 0, .int .i64 0, .int .i64 0] 26)).heap[w.heap.size]? = some (.cells #[.int .i64 lv, .int .i64 fr, .int .i64 l, .int .i64 du] 26 (0, 0))) := ⟨blk_alloc (blk_new w _) _⟩
  have C1 : Aside0 (((w.alloc (.cells #[.int .i64 lv, .int .i64 fr, .int .i64 l, .int .i64 du] 26)).alloc (.cells #[.int .i64 0, .int .i64 0, .int .i64 0, .int .i64 0] 26)).heap[w.heap.size + 1]? = some (.cells #[.int .i64 0, .int .i64 0, .int .i64 0, .int .i64 0] 26 (0, 0))) := ⟨by simpa using blk_new (w.alloc (.cells #[.int .i64 lv, .int .i64 fr, .int .i64 l, .int .i64 du] 26)) (.cells #[.int .i64 0, .int .i64 0, .int .i64 0, .int .i64 0] 26)⟩
  have HB := below_alloc (below_alloc (Below.refl w.heap.size w) (.cells #[.int .i64 lv, .int .i64 fr, .int .i64 l, .int .i64 du] 26)) (.cells #[.int .i64 0, .int .i64 0, .int .i64 0, .int .i64 0] 26)
  have HC := Aside0.mk (h.below HB)
  have HU := Aside0.mk (Upd.of_below (b := cb) HB)
  have HN := Aside0.mk (Nat.le_trans hn HB.size)
  clear h HB
  have HK := Aside0.mk hk
  have HR := Aside0.mk hr
  have hd : (du != 0) = true := by simp [hx]
  clear hx hr hk
  go_enter Try.func11, Try.ntmps11
  go_wp2_with fail
  generalize ((w.alloc (.cells #[.int .i64 lv, .int .i64 fr, .int .i64 l, .int .i64 du] 26)).alloc (.cells #[.int .i64 0, .int .i64 0, .int .i64 0, .int .i64 0] 26)) = w2 at C0 C1 HC HU HN ⊢
  have c0 : w2.cell? ⟨w.heap.size, 0, none⟩ = some (.int .i64 lv) := (blk_cell C0.out 0).trans rfl
  have c1 : w2.cell? ⟨w.heap.size, 1, none⟩ = some (.int .i64 fr) := (blk_cell C0.out 1).trans rfl
  have c2 : w2.cell? ⟨w.heap.size, 2, none⟩ = some (.int .i64 l) := (blk_cell C0.out 2).trans rfl
  have c3 : w2.cell? ⟨w.heap.size, 3, none⟩ = some (.int .i64 du) := (blk_cell C0.out 3).trans rfl
  have r0 : w2.cell? ⟨w.heap.size + 1, 0, none⟩ = some (.int .i64 0) := (blk_cell C1.out 0).trans rfl
  have r1 : w2.cell? ⟨w.heap.size + 1, 1, none⟩ = some (.int .i64 0) := (blk_cell C1.out 1).trans rfl
  have r2 : w2.cell? ⟨w.heap.size + 1, 2, none⟩ = some (.int .i64 0) := (blk_cell C1.out 2).trans rfl
  have r3 : w2.cell? ⟨w.heap.size + 1, 3, none⟩ = some (.int .i64 0) := (blk_cell C1.out 3).trans rfl
  have g0 : w2.frozen? ⟨w.heap.size + 1, 0, none⟩ = false := blk_frozen C1.out 0
  have g1 : w2.frozen? ⟨w.heap.size + 1, 1, none⟩ = false := blk_frozen C1.out 1
  have g2 : w2.frozen? ⟨w.heap.size + 1, 2, none⟩ = false := blk_frozen C1.out 2
  have g3 : w2.frozen? ⟨w.heap.size + 1, 3, none⟩ = false := blk_frozen C1.out 3
  go_wp2_with (first | (go_at_call 28; refine (chain_Step_going.calls lv fr l du _ w2 rfl).mono ?_; rintro e w3 ⟨rfl, hb⟩; have HC3 := Aside0.mk (HC.out.below hb); have HU3 := Aside0.mk (HU.out.then hb); have HN3 := Aside0.mk (Nat.le_trans HN.out hb.size); have n0 := Aside0.mk (blk_below C0.out hb); have n1 := Aside0.mk (blk_below C1.out hb); clear hb C0 C1 c0 c1 c2 c3 r0 r1 r2 r3 g0 g1 g2 g3; have C0 := n0; have C1 := n1; clear n0 n1; have c0 : w3.cell? ⟨w.heap.size, 0, none⟩ = some (.int .i64 lv) := (blk_cell C0.out 0).trans rfl; have c1 : w3.cell? ⟨w.heap.size, 1, none⟩ = some (.int .i64 fr) := (blk_cell C0.out 1).trans rfl; have c2 : w3.cell? ⟨w.heap.size, 2, none⟩ = some (.int .i64 l) := (blk_cell C0.out 2).trans rfl; have c3 : w3.cell? ⟨w.heap.size, 3, none⟩ = some (.int .i64 du) := (blk_cell C0.out 3).trans rfl; have r0 : w3.cell? ⟨w.heap.size + 1, 0, none⟩ = some (.int .i64 0) := (blk_cell C1.out 0).trans rfl; have r1 : w3.cell? ⟨w.heap.size + 1, 1, none⟩ = some (.int .i64 0) := (blk_cell C1.out 1).trans rfl; have r2 : w3.cell? ⟨w.heap.size + 1, 2, none⟩ = some (.int .i64 0) := (blk_cell C1.out 2).trans rfl; have r3 : w3.cell? ⟨w.heap.size + 1, 3, none⟩ = some (.int .i64 0) := (blk_cell C1.out 3).trans rfl; have g0 : w3.frozen? ⟨w.heap.size + 1, 0, none⟩ = false := blk_frozen C1.out 0; have g1 : w3.frozen? ⟨w.heap.size + 1, 1, none⟩ = false := blk_frozen C1.out 1; have g2 : w3.frozen? ⟨w.heap.size + 1, 2, none⟩ = false := blk_frozen C1.out 2; have g3 : w3.frozen? ⟨w.heap.size + 1, 3, none⟩ = false := blk_frozen C1.out 3) | (go_at_call 29; refine (rest2 HK.out fr l now w3 HC3.out HN3.out hl).mono ?_; rintro e w4 ⟨rfl, CK, UK⟩; rw [HR.out]; have n0 := Aside0.mk (UK.blk C0.out (by omega)); have n1 := Aside0.mk (UK.blk C1.out (by omega)); have HC4 := Aside0.mk CK; have HU4 := Aside0.mk (HU3.out.trans UK); clear CK UK C0 C1 c0 c1 c2 c3 r0 r1 r2 r3 g0 g1 g2 g3; have C0 := n0; have C1 := n1; clear n0 n1; have c0 : w4.cell? ⟨w.heap.size, 0, none⟩ = some (.int .i64 lv) := (blk_cell C0.out 0).trans rfl; have c1 : w4.cell? ⟨w.heap.size, 1, none⟩ = some (.int .i64 fr) := (blk_cell C0.out 1).trans rfl; have c2 : w4.cell? ⟨w.heap.size, 2, none⟩ = some (.int .i64 l) := (blk_cell C0.out 2).trans rfl; have c3 : w4.cell? ⟨w.heap.size, 3, none⟩ = some (.int .i64 du) := (blk_cell C0.out 3).trans rfl; have r0 : w4.cell? ⟨w.heap.size + 1, 0, none⟩ = some (.int .i64 0) := (blk_cell C1.out 0).trans rfl; have r1 : w4.cell? ⟨w.heap.size + 1, 1, none⟩ = some (.int .i64 0) := (blk_cell C1.out 1).trans rfl; have r2 : w4.cell? ⟨w.heap.size + 1, 2, none⟩ = some (.int .i64 0) := (blk_cell C1.out 2).trans rfl; have r3 : w4.cell? ⟨w.heap.size + 1, 3, none⟩ = some (.int .i64 0) := (blk_cell C1.out 3).trans rfl; have g0 : w4.frozen? ⟨w.heap.size + 1, 0, none⟩ = false := blk_frozen C1.out 0; have g1 : w4.frozen? ⟨w.heap.size + 1, 1, none⟩ = false := blk_frozen C1.out 1; have g2 : w4.frozen? ⟨w.heap.size + 1, 2, none⟩ = false := blk_frozen C1.out 2; have g3 : w4.frozen? ⟨w.heap.size + 1, 3, none⟩ = false := blk_frozen C1.out 3))
  obtain ⟨C9, U9, E9⟩ := put4 C1.out HC4.out HU4.out (by omega) (.int .i64 lv) (.int .i64 now) (.int .i64 x) (.int .i64 0)
  have k0 := (blk_cell E9 0).trans (rfl : _ = some (Value.int .i64 lv))
  have k1 := (blk_cell E9 1).trans (rfl : _ = some (Value.int .i64 now))
  have k2 := (blk_cell E9 2).trans (rfl : _ = some (Value.int .i64 x))
  have k3 := (blk_cell E9 3).trans (rfl : _ = some (Value.int .i64 0))
  refine bodyPost_ret (v := .tuple #[.agg #[.int .i64 lv, .int .i64 now, .int .i64 x, .int .i64 0], .int .i64 0]) (by simp [results, Try.results11, go_sem, k0, k1, k2, k3]) rfl ⟨rfl, C9, U9⟩
set_option maxHeartbeats 4000000 in
set_option maxRecDepth 100000 in
theorem go_state (lv fr l du now : Int) (w : World) (h : ClkAt w n kb ab pb cb off week closed) (hn : n ≤ w.heap.size) (hx : du ≠ 0) :
    Calls Try.prog 13 #[.pointer (some ⟨kb, 0, none⟩), .agg #[.int .i64 lv, .int .i64 fr, .int .i64 l, .int .i64 du], .int .i64 now] w fun r w' => r = .returned (.tuple #[.agg #[.int .i64 0, .int .i64 0, .int .i64 0, .int .i64 0], .int .i64 33]) ∧ ClkAt w' n kb ab pb cb off week closed ∧ Upd cb w w' := by
  have hcb := h.lt
  have hnot : ∀ (x : Bool) (w : World), (Op.unary .not (.bool x)).run Try.prog w = .ok (.bool (!x)) w := fun _ _ => rfl
  have hmf : ∀ (fn : Fn) (first cap : Array Value) (w : World), (Instr.makeFunc fn first cap).run Try.prog w = .ok (.func fn first cap) w := fun _ _ _ _ => rfl
  have C0 : Aside0 (((w.alloc (.cells #[.int .i64 lv, .int .i64 fr, .int .i64 l, .int .i64 du] 26)).alloc (.cells #[.int .i64 0, .int .i64 0, .int .i64 0, .int .i64 0] 26)).heap[w.heap.size]? = some (.cells #[.int .i64 lv, .int .i64 fr, .int .i64 l, .int .i64 du] 26 (0, 0))) := ⟨blk_alloc (blk_new w _) _⟩
  have C1 : Aside0 (((w.alloc (.cells #[.int .i64 lv, .int .i64 fr, .int .i64 l, .int .i64 du] 26)).alloc (.cells #[.int .i64 0, .int .i64 0, .int .i64 0, .int .i64 0] 26)).heap[w.heap.size + 1]? = some (.cells #[.int .i64 0, .int .i64 0, .int .i64 0, .int .i64 0] 26 (0, 0))) := ⟨by simpa using blk_new (w.alloc (.cells #[.int .i64 lv, .int .i64 fr, .int .i64 l, .int .i64 du] 26)) (.cells #[.int .i64 0, .int .i64 0, .int .i64 0, .int .i64 0] 26)⟩
  have HB := below_alloc (below_alloc (Below.refl w.heap.size w) (.cells #[.int .i64 lv, .int .i64 fr, .int .i64 l, .int .i64 du] 26)) (.cells #[.int .i64 0, .int .i64 0, .int .i64 0, .int .i64 0] 26)
  have HC := Aside0.mk (h.below HB)
  have HU := Aside0.mk (Upd.of_below (b := cb) HB)
  have HN := Aside0.mk (Nat.le_trans hn HB.size)
  clear h HB
  have hd : (du != 0) = true := by simp [hx]
  clear hx
  go_enter Try.func13, Try.ntmps13
  go_wp2_with fail
  generalize ((w.alloc (.cells #[.int .i64 lv, .int .i64 fr, .int .i64 l, .int .i64 du] 26)).alloc (.cells #[.int .i64 0, .int .i64 0, .int .i64 0, .int .i64 0] 26)) = w2 at C0 C1 HC HU HN ⊢
  have c0 : w2.cell? ⟨w.heap.size, 0, none⟩ = some (.int .i64 lv) := (blk_cell C0.out 0).trans rfl
  have c1 : w2.cell? ⟨w.heap.size, 1, none⟩ = some (.int .i64 fr) := (blk_cell C0.out 1).trans rfl
  have c2 : w2.cell? ⟨w.heap.size, 2, none⟩ = some (.int .i64 l) := (blk_cell C0.out 2).trans rfl
  have c3 : w2.cell? ⟨w.heap.size, 3, none⟩ = some (.int .i64 du) := (blk_cell C0.out 3).trans rfl
  have r0 : w2.cell? ⟨w.heap.size + 1, 0, none⟩ = some (.int .i64 0) := (blk_cell C1.out 0).trans rfl
  have r1 : w2.cell? ⟨w.heap.size + 1, 1, none⟩ = some (.int .i64 0) := (blk_cell C1.out 1).trans rfl
  have r2 : w2.cell? ⟨w.heap.size + 1, 2, none⟩ = some (.int .i64 0) := (blk_cell C1.out 2).trans rfl
  have r3 : w2.cell? ⟨w.heap.size + 1, 3, none⟩ = some (.int .i64 0) := (blk_cell C1.out 3).trans rfl
  have g0 : w2.frozen? ⟨w.heap.size + 1, 0, none⟩ = false := blk_frozen C1.out 0
  have g1 : w2.frozen? ⟨w.heap.size + 1, 1, none⟩ = false := blk_frozen C1.out 1
  have g2 : w2.frozen? ⟨w.heap.size + 1, 2, none⟩ = false := blk_frozen C1.out 2
  have g3 : w2.frozen? ⟨w.heap.size + 1, 3, none⟩ = false := blk_frozen C1.out 3
  go_wp2_with (go_at_call 28; refine (chain_Step_going.calls lv fr l du _ w2 rfl).mono ?_; rintro e w3 ⟨rfl, hb⟩; have HC3 := Aside0.mk (HC.out.below hb); have HU3 := Aside0.mk (HU.out.then hb); have HN3 := Aside0.mk (Nat.le_trans HN.out hb.size); have n0 := Aside0.mk (blk_below C0.out hb); have n1 := Aside0.mk (blk_below C1.out hb); clear hb C0 C1 c0 c1 c2 c3 r0 r1 r2 r3 g0 g1 g2 g3; have C0 := n0; have C1 := n1; clear n0 n1; have c0 : w3.cell? ⟨w.heap.size, 0, none⟩ = some (.int .i64 lv) := (blk_cell C0.out 0).trans rfl; have c1 : w3.cell? ⟨w.heap.size, 1, none⟩ = some (.int .i64 fr) := (blk_cell C0.out 1).trans rfl; have c2 : w3.cell? ⟨w.heap.size, 2, none⟩ = some (.int .i64 l) := (blk_cell C0.out 2).trans rfl; have c3 : w3.cell? ⟨w.heap.size, 3, none⟩ = some (.int .i64 du) := (blk_cell C0.out 3).trans rfl; have r0 : w3.cell? ⟨w.heap.size + 1, 0, none⟩ = some (.int .i64 0) := (blk_cell C1.out 0).trans rfl; have r1 : w3.cell? ⟨w.heap.size + 1, 1, none⟩ = some (.int .i64 0) := (blk_cell C1.out 1).trans rfl; have r2 : w3.cell? ⟨w.heap.size + 1, 2, none⟩ = some (.int .i64 0) := (blk_cell C1.out 2).trans rfl; have r3 : w3.cell? ⟨w.heap.size + 1, 3, none⟩ = some (.int .i64 0) := (blk_cell C1.out 3).trans rfl; have g0 : w3.frozen? ⟨w.heap.size + 1, 0, none⟩ = false := blk_frozen C1.out 0; have g1 : w3.frozen? ⟨w.heap.size + 1, 1, none⟩ = false := blk_frozen C1.out 1; have g2 : w3.frozen? ⟨w.heap.size + 1, 2, none⟩ = false := blk_frozen C1.out 2; have g3 : w3.frozen? ⟨w.heap.size + 1, 3, none⟩ = false := blk_frozen C1.out 3)
  obtain ⟨C9, U9, E9⟩ := put4 C1.out HC3.out HU3.out (by omega) (.int .i64 0) (.int .i64 0) (.int .i64 0) (.int .i64 0)
  have k0 := (blk_cell E9 0).trans (rfl : _ = some (Value.int .i64 0))
  have k1 := (blk_cell E9 1).trans (rfl : _ = some (Value.int .i64 0))
  have k2 := (blk_cell E9 2).trans (rfl : _ = some (Value.int .i64 0))
  have k3 := (blk_cell E9 3).trans (rfl : _ = some (Value.int .i64 0))
  refine bodyPost_ret (v := .tuple #[.agg #[.int .i64 0, .int .i64 0, .int .i64 0, .int .i64 0], .int .i64 33]) (by simp [results, Try.results13, go_sem, k0, k1, k2, k3]) rfl ⟨rfl, C9, U9⟩
set_option maxHeartbeats 4000000 in
set_option maxRecDepth 100000 in
theorem go_arg (lv fr l du now : Int) (w : World) (h : ClkAt w n kb ab pb cb off week closed) (hn : n ≤ w.heap.size) (hx : du = 0) (hy : l < 1) :
    Calls Try.prog 13 #[.pointer (some ⟨kb, 0, none⟩), .agg #[.int .i64 lv, .int .i64 fr, .int .i64 l, .int .i64 du], .int .i64 now] w fun r w' => r = .returned (.tuple #[.agg #[.int .i64 0, .int .i64 0, .int .i64 0, .int .i64 0], .int .i64 2]) ∧ ClkAt w' n kb ab pb cb off week closed ∧ Upd cb w w' := by
  have hcb := h.lt
  have hnot : ∀ (x : Bool) (w : World), (Op.unary .not (.bool x)).run Try.prog w = .ok (.bool (!x)) w := fun _ _ => rfl
  have hmf : ∀ (fn : Fn) (first cap : Array Value) (w : World), (Instr.makeFunc fn first cap).run Try.prog w = .ok (.func fn first cap) w := fun _ _ _ _ => rfl
  have C0 : Aside0 (((w.alloc (.cells #[.int .i64 lv, .int .i64 fr, .int .i64 l, .int .i64 du] 26)).alloc (.cells #[.int .i64 0, .int .i64 0, .int .i64 0, .int .i64 0] 26)).heap[w.heap.size]? = some (.cells #[.int .i64 lv, .int .i64 fr, .int .i64 l, .int .i64 du] 26 (0, 0))) := ⟨blk_alloc (blk_new w _) _⟩
  have C1 : Aside0 (((w.alloc (.cells #[.int .i64 lv, .int .i64 fr, .int .i64 l, .int .i64 du] 26)).alloc (.cells #[.int .i64 0, .int .i64 0, .int .i64 0, .int .i64 0] 26)).heap[w.heap.size + 1]? = some (.cells #[.int .i64 0, .int .i64 0, .int .i64 0, .int .i64 0] 26 (0, 0))) := ⟨by simpa using blk_new (w.alloc (.cells #[.int .i64 lv, .int .i64 fr, .int .i64 l, .int .i64 du] 26)) (.cells #[.int .i64 0, .int .i64 0, .int .i64 0, .int .i64 0] 26)⟩
  have HB := below_alloc (below_alloc (Below.refl w.heap.size w) (.cells #[.int .i64 lv, .int .i64 fr, .int .i64 l, .int .i64 du] 26)) (.cells #[.int .i64 0, .int .i64 0, .int .i64 0, .int .i64 0] 26)
  have HC := Aside0.mk (h.below HB)
  have HU := Aside0.mk (Upd.of_below (b := cb) HB)
  have HN := Aside0.mk (Nat.le_trans hn HB.size)
  clear h HB
  have hd : (du != 0) = false := by simp [hx]
  clear hx
  go_enter Try.func13, Try.ntmps13
  go_wp2_with fail
  generalize ((w.alloc (.cells #[.int .i64 lv, .int .i64 fr, .int .i64 l, .int .i64 du] 26)).alloc (.cells #[.int .i64 0, .int .i64 0, .int .i64 0, .int .i64 0] 26)) = w2 at C0 C1 HC HU HN ⊢
  have c0 : w2.cell? ⟨w.heap.size, 0, none⟩ = some (.int .i64 lv) := (blk_cell C0.out 0).trans rfl
  have c1 : w2.cell? ⟨w.heap.size, 1, none⟩ = some (.int .i64 fr) := (blk_cell C0.out 1).trans rfl
  have c2 : w2.cell? ⟨w.heap.size, 2, none⟩ = some (.int .i64 l) := (blk_cell C0.out 2).trans rfl
  have c3 : w2.cell? ⟨w.heap.size, 3, none⟩ = some (.int .i64 du) := (blk_cell C0.out 3).trans rfl
  have r0 : w2.cell? ⟨w.heap.size + 1, 0, none⟩ = some (.int .i64 0) := (blk_cell C1.out 0).trans rfl
  have r1 : w2.cell? ⟨w.heap.size + 1, 1, none⟩ = some (.int .i64 0) := (blk_cell C1.out 1).trans rfl
  have r2 : w2.cell? ⟨w.heap.size + 1, 2, none⟩ = some (.int .i64 0) := (blk_cell C1.out 2).trans rfl
  have r3 : w2.cell? ⟨w.heap.size + 1, 3, none⟩ = some (.int .i64 0) := (blk_cell C1.out 3).trans rfl
  have g0 : w2.frozen? ⟨w.heap.size + 1, 0, none⟩ = false := blk_frozen C1.out 0
  have g1 : w2.frozen? ⟨w.heap.size + 1, 1, none⟩ = false := blk_frozen C1.out 1
  have g2 : w2.frozen? ⟨w.heap.size + 1, 2, none⟩ = false := blk_frozen C1.out 2
  have g3 : w2.frozen? ⟨w.heap.size + 1, 3, none⟩ = false := blk_frozen C1.out 3
  go_wp2_with (go_at_call 28; refine (chain_Step_going.calls lv fr l du _ w2 rfl).mono ?_; rintro e w3 ⟨rfl, hb⟩; have HC3 := Aside0.mk (HC.out.below hb); have HU3 := Aside0.mk (HU.out.then hb); have HN3 := Aside0.mk (Nat.le_trans HN.out hb.size); have n0 := Aside0.mk (blk_below C0.out hb); have n1 := Aside0.mk (blk_below C1.out hb); clear hb C0 C1 c0 c1 c2 c3 r0 r1 r2 r3 g0 g1 g2 g3; have C0 := n0; have C1 := n1; clear n0 n1; have c0 : w3.cell? ⟨w.heap.size, 0, none⟩ = some (.int .i64 lv) := (blk_cell C0.out 0).trans rfl; have c1 : w3.cell? ⟨w.heap.size, 1, none⟩ = some (.int .i64 fr) := (blk_cell C0.out 1).trans rfl; have c2 : w3.cell? ⟨w.heap.size, 2, none⟩ = some (.int .i64 l) := (blk_cell C0.out 2).trans rfl; have c3 : w3.cell? ⟨w.heap.size, 3, none⟩ = some (.int .i64 du) := (blk_cell C0.out 3).trans rfl; have r0 : w3.cell? ⟨w.heap.size + 1, 0, none⟩ = some (.int .i64 0) := (blk_cell C1.out 0).trans rfl; have r1 : w3.cell? ⟨w.heap.size + 1, 1, none⟩ = some (.int .i64 0) := (blk_cell C1.out 1).trans rfl; have r2 : w3.cell? ⟨w.heap.size + 1, 2, none⟩ = some (.int .i64 0) := (blk_cell C1.out 2).trans rfl; have r3 : w3.cell? ⟨w.heap.size + 1, 3, none⟩ = some (.int .i64 0) := (blk_cell C1.out 3).trans rfl; have g0 : w3.frozen? ⟨w.heap.size + 1, 0, none⟩ = false := blk_frozen C1.out 0; have g1 : w3.frozen? ⟨w.heap.size + 1, 1, none⟩ = false := blk_frozen C1.out 1; have g2 : w3.frozen? ⟨w.heap.size + 1, 2, none⟩ = false := blk_frozen C1.out 2; have g3 : w3.frozen? ⟨w.heap.size + 1, 3, none⟩ = false := blk_frozen C1.out 3)
  obtain ⟨C9, U9, E9⟩ := put4 C1.out HC3.out HU3.out (by omega) (.int .i64 0) (.int .i64 0) (.int .i64 0) (.int .i64 0)
  have k0 := (blk_cell E9 0).trans (rfl : _ = some (Value.int .i64 0))
  have k1 := (blk_cell E9 1).trans (rfl : _ = some (Value.int .i64 0))
  have k2 := (blk_cell E9 2).trans (rfl : _ = some (Value.int .i64 0))
  have k3 := (blk_cell E9 3).trans (rfl : _ = some (Value.int .i64 0))
  refine bodyPost_ret (v := .tuple #[.agg #[.int .i64 0, .int .i64 0, .int .i64 0, .int .i64 0], .int .i64 2]) (by simp [results, Try.results13, go_sem, k0, k1, k2, k3]) rfl ⟨rfl, C9, U9⟩
set_option maxHeartbeats 4000000 in
set_option maxRecDepth 100000 in
theorem go_ok (lv fr l du now : Int) (w : World) (h : ClkAt w n kb ab pb cb off week closed) (hn : n ≤ w.heap.size) (hl : l ≤ 9223372036854775807) (hx : du = 0) (hy : ¬ l < 1) (a b c d e : Int) (ha : atS off week closed lv l now = (a, b, c, d, e)) :
    Calls Try.prog 13 #[.pointer (some ⟨kb, 0, none⟩), .agg #[.int .i64 lv, .int .i64 fr, .int .i64 l, .int .i64 du], .int .i64 now] w fun r w' => r = .returned (.tuple #[.agg #[.int .i64 a, .int .i64 b, .int .i64 c, .int .i64 d], .int .i64 e]) ∧ ClkAt w' n kb ab pb cb off week closed ∧ Upd cb w w' := by
  have hcb := h.lt
  have hnot : ∀ (x : Bool) (w : World), (Op.unary .not (.bool x)).run Try.prog w = .ok (.bool (!x)) w := fun _ _ => rfl
  have hmf : ∀ (fn : Fn) (first cap : Array Value) (w : World), (Instr.makeFunc fn first cap).run Try.prog w = .ok (.func fn first cap) w := fun _ _ _ _ => rfl
  have C0 : Aside0 (((w.alloc (.cells #[.int .i64 lv, .int .i64 fr, .int .i64 l, .int .i64 du] 26)).alloc (.cells #[.int .i64 0, .int .i64 0, .int .i64 0, .int .i64 0] 26)).heap[w.heap.size]? = some (.cells #[.int .i64 lv, .int .i64 fr, .int .i64 l, .int .i64 du] 26 (0, 0))) := ⟨blk_alloc (blk_new w _) _⟩
  have C1 : Aside0 (((w.alloc (.cells #[.int .i64 lv, .int .i64 fr, .int .i64 l, .int .i64 du] 26)).alloc (.cells #[.int .i64 0, .int .i64 0, .int .i64 0, .int .i64 0] 26)).heap[w.heap.size + 1]? = some (.cells #[.int .i64 0, .int .i64 0, .int .i64 0, .int .i64 0] 26 (0, 0))) := ⟨by simpa using blk_new (w.alloc (.cells #[.int .i64 lv, .int .i64 fr, .int .i64 l, .int .i64 du] 26)) (.cells #[.int .i64 0, .int .i64 0, .int .i64 0, .int .i64 0] 26)⟩
  have HB := below_alloc (below_alloc (Below.refl w.heap.size w) (.cells #[.int .i64 lv, .int .i64 fr, .int .i64 l, .int .i64 du] 26)) (.cells #[.int .i64 0, .int .i64 0, .int .i64 0, .int .i64 0] 26)
  have HC := Aside0.mk (h.below HB)
  have HU := Aside0.mk (Upd.of_below (b := cb) HB)
  have HN := Aside0.mk (Nat.le_trans hn HB.size)
  clear h HB
  have HA := Aside0.mk ha
  have hd : (du != 0) = false := by simp [hx]
  clear hx ha
  go_enter Try.func13, Try.ntmps13
  go_wp2_with fail
  generalize ((w.alloc (.cells #[.int .i64 lv, .int .i64 fr, .int .i64 l, .int .i64 du] 26)).alloc (.cells #[.int .i64 0, .int .i64 0, .int .i64 0, .int .i64 0] 26)) = w2 at C0 C1 HC HU HN ⊢
  have c0 : w2.cell? ⟨w.heap.size, 0, none⟩ = some (.int .i64 lv) := (blk_cell C0.out 0).trans rfl
  have c1 : w2.cell? ⟨w.heap.size, 1, none⟩ = some (.int .i64 fr) := (blk_cell C0.out 1).trans rfl
  have c2 : w2.cell? ⟨w.heap.size, 2, none⟩ = some (.int .i64 l) := (blk_cell C0.out 2).trans rfl
  have c3 : w2.cell? ⟨w.heap.size, 3, none⟩ = some (.int .i64 du) := (blk_cell C0.out 3).trans rfl
  have r0 : w2.cell? ⟨w.heap.size + 1, 0, none⟩ = some (.int .i64 0) := (blk_cell C1.out 0).trans rfl
  have r1 : w2.cell? ⟨w.heap.size + 1, 1, none⟩ = some (.int .i64 0) := (blk_cell C1.out 1).trans rfl
  have r2 : w2.cell? ⟨w.heap.size + 1, 2, none⟩ = some (.int .i64 0) := (blk_cell C1.out 2).trans rfl
  have r3 : w2.cell? ⟨w.heap.size + 1, 3, none⟩ = some (.int .i64 0) := (blk_cell C1.out 3).trans rfl
  have g0 : w2.frozen? ⟨w.heap.size + 1, 0, none⟩ = false := blk_frozen C1.out 0
  have g1 : w2.frozen? ⟨w.heap.size + 1, 1, none⟩ = false := blk_frozen C1.out 1
  have g2 : w2.frozen? ⟨w.heap.size + 1, 2, none⟩ = false := blk_frozen C1.out 2
  have g3 : w2.frozen? ⟨w.heap.size + 1, 3, none⟩ = false := blk_frozen C1.out 3
  go_wp2_with (first | (go_at_call 28; refine (chain_Step_going.calls lv fr l du _ w2 rfl).mono ?_; rintro e w3 ⟨rfl, hb⟩; have HC3 := Aside0.mk (HC.out.below hb); have HU3 := Aside0.mk (HU.out.then hb); have HN3 := Aside0.mk (Nat.le_trans HN.out hb.size); have n0 := Aside0.mk (blk_below C0.out hb); have n1 := Aside0.mk (blk_below C1.out hb); clear hb C0 C1 c0 c1 c2 c3 r0 r1 r2 r3 g0 g1 g2 g3; have C0 := n0; have C1 := n1; clear n0 n1; have c0 : w3.cell? ⟨w.heap.size, 0, none⟩ = some (.int .i64 lv) := (blk_cell C0.out 0).trans rfl; have c1 : w3.cell? ⟨w.heap.size, 1, none⟩ = some (.int .i64 fr) := (blk_cell C0.out 1).trans rfl; have c2 : w3.cell? ⟨w.heap.size, 2, none⟩ = some (.int .i64 l) := (blk_cell C0.out 2).trans rfl; have c3 : w3.cell? ⟨w.heap.size, 3, none⟩ = some (.int .i64 du) := (blk_cell C0.out 3).trans rfl; have r0 : w3.cell? ⟨w.heap.size + 1, 0, none⟩ = some (.int .i64 0) := (blk_cell C1.out 0).trans rfl; have r1 : w3.cell? ⟨w.heap.size + 1, 1, none⟩ = some (.int .i64 0) := (blk_cell C1.out 1).trans rfl; have r2 : w3.cell? ⟨w.heap.size + 1, 2, none⟩ = some (.int .i64 0) := (blk_cell C1.out 2).trans rfl; have r3 : w3.cell? ⟨w.heap.size + 1, 3, none⟩ = some (.int .i64 0) := (blk_cell C1.out 3).trans rfl; have g0 : w3.frozen? ⟨w.heap.size + 1, 0, none⟩ = false := blk_frozen C1.out 0; have g1 : w3.frozen? ⟨w.heap.size + 1, 1, none⟩ = false := blk_frozen C1.out 1; have g2 : w3.frozen? ⟨w.heap.size + 1, 2, none⟩ = false := blk_frozen C1.out 2; have g3 : w3.frozen? ⟨w.heap.size + 1, 3, none⟩ = false := blk_frozen C1.out 3) | (go_at_call 31; refine (stepat_any lv fr l du now a b c d e w3 HC3.out HN3.out hl HA.out).mono ?_; rintro r w4 ⟨rfl, CK, UK⟩; have n0 := Aside0.mk (UK.blk C0.out (by omega)); have n1 := Aside0.mk (UK.blk C1.out (by omega)); have HC4 := Aside0.mk CK; have HU4 := Aside0.mk (HU3.out.trans UK); clear CK UK C0 C1 c0 c1 c2 c3 r0 r1 r2 r3 g0 g1 g2 g3; have C0 := n0; have C1 := n1; clear n0 n1; have c0 : w4.cell? ⟨w.heap.size, 0, none⟩ = some (.int .i64 lv) := (blk_cell C0.out 0).trans rfl; have c1 : w4.cell? ⟨w.heap.size, 1, none⟩ = some (.int .i64 fr) := (blk_cell C0.out 1).trans rfl; have c2 : w4.cell? ⟨w.heap.size, 2, none⟩ = some (.int .i64 l) := (blk_cell C0.out 2).trans rfl; have c3 : w4.cell? ⟨w.heap.size, 3, none⟩ = some (.int .i64 du) := (blk_cell C0.out 3).trans rfl; have r0 : w4.cell? ⟨w.heap.size + 1, 0, none⟩ = some (.int .i64 0) := (blk_cell C1.out 0).trans rfl; have r1 : w4.cell? ⟨w.heap.size + 1, 1, none⟩ = some (.int .i64 0) := (blk_cell C1.out 1).trans rfl; have r2 : w4.cell? ⟨w.heap.size + 1, 2, none⟩ = some (.int .i64 0) := (blk_cell C1.out 2).trans rfl; have r3 : w4.cell? ⟨w.heap.size + 1, 3, none⟩ = some (.int .i64 0) := (blk_cell C1.out 3).trans rfl; have g0 : w4.frozen? ⟨w.heap.size + 1, 0, none⟩ = false := blk_frozen C1.out 0; have g1 : w4.frozen? ⟨w.heap.size + 1, 1, none⟩ = false := blk_frozen C1.out 1; have g2 : w4.frozen? ⟨w.heap.size + 1, 2, none⟩ = false := blk_frozen C1.out 2; have g3 : w4.frozen? ⟨w.heap.size + 1, 3, none⟩ = false := blk_frozen C1.out 3))
  obtain ⟨C9, U9, E9⟩ := put4 C1.out HC4.out HU4.out (by omega) (.int .i64 a) (.int .i64 b) (.int .i64 c) (.int .i64 d)
  have k0 := (blk_cell E9 0).trans (rfl : _ = some (Value.int .i64 a))
  have k1 := (blk_cell E9 1).trans (rfl : _ = some (Value.int .i64 b))
  have k2 := (blk_cell E9 2).trans (rfl : _ = some (Value.int .i64 c))
  have k3 := (blk_cell E9 3).trans (rfl : _ = some (Value.int .i64 d))
  refine bodyPost_ret (v := .tuple #[.agg #[.int .i64 a, .int .i64 b, .int .i64 c, .int .i64 d], .int .i64 e]) (by simp [results, Try.results13, go_sem, k0, k1, k2, k3]) rfl ⟨rfl, C9, U9⟩
theorem stand_any (hk : CalOk off week closed) (lv fr l du now a b c d e : Int) (w : World) (h : ClkAt w n kb ab pb cb off week closed) (hn : n ≤ w.heap.size) (hl : l ≤ 9223372036854775807) (hd : standP off week closed lv fr l du now = (a, b, c, d, e)) :
    Calls Try.prog 11 #[.pointer (some ⟨kb, 0, none⟩), .agg #[.int .i64 lv, .int .i64 fr, .int .i64 l, .int .i64 du], .int .i64 now] w fun r w' => r = .returned (.tuple #[.agg #[.int .i64 a, .int .i64 b, .int .i64 c, .int .i64 d], .int .i64 e]) ∧ ClkAt w' n kb ab pb cb off week closed ∧ Upd cb w w' := by
  unfold standP at hd
  by_cases h1 : du = 0
  · rw [if_pos h1] at hd; cases hd; exact stand_state lv fr l du now w h hn h1
  · rw [if_neg h1] at hd
    by_cases h2 : du ≤ now
    · rw [if_pos h2] at hd; cases hd; exact stand_old lv fr l du now w h hn h1 h2
    · rw [if_neg h2] at hd
      by_cases h3 : (restR off week closed fr l now).2 = 0
      · rw [if_pos h3] at hd; cases hd; exact stand_ok lv fr l du now w h hn hk hl h1 h2 _ (Prod.ext rfl h3)
      · rw [if_neg h3] at hd; cases hd; exact stand_no lv fr l du now w h hn hk hl h1 h2 _ _ rfl h3
theorem go_any (lv fr l du now a b c d e : Int) (w : World) (h : ClkAt w n kb ab pb cb off week closed) (hn : n ≤ w.heap.size) (hl : l ≤ 9223372036854775807) (hd : goP off week closed lv l du now = (a, b, c, d, e)) :
    Calls Try.prog 13 #[.pointer (some ⟨kb, 0, none⟩), .agg #[.int .i64 lv, .int .i64 fr, .int .i64 l, .int .i64 du], .int .i64 now] w fun r w' => r = .returned (.tuple #[.agg #[.int .i64 a, .int .i64 b, .int .i64 c, .int .i64 d], .int .i64 e]) ∧ ClkAt w' n kb ab pb cb off week closed ∧ Upd cb w w' := by
  unfold goP at hd
  by_cases h1 : du = 0
  · rw [if_neg (show ¬ du ≠ 0 by simpa using h1)] at hd
    by_cases h2 : l < 1
    · rw [if_pos h2] at hd; cases hd; exact go_arg lv fr l du now w h hn h1 h2
    · rw [if_neg h2] at hd; exact go_ok lv fr l du now w h hn hl h1 h2 a b c d e hd
  · rw [if_pos h1] at hd; cases hd; exact go_state lv fr l du now w h hn h1
end Go.Proofs.Ytepkbadgpoploaa.Own
namespace Go.Proofs.Ytepkbadgpoploaa.Own
open Go.RowKit Go.Proofs Go.Proofs.YtepkbadgpoploaaW.PrintWords Go.Proofs.YtepkbadgpoploaaW.PrintLast Go.Proofs.YtepkbadgpoploaaW.PrintMore Go.Proofs.Ytepkbadgpoploaa.Base
variable {w w' : World} {n kb ab pb cb : Nat} {off : Int} {week closed : List S78} {A : Option Addr} {k : Nat} {ls : List S75}
set_option maxHeartbeats 4000000 in
set_option maxRecDepth 100000 in
theorem first_no (cal re ba now : Int) (w : World) (h : ClkAt w n kb ab pb cb off week closed) (hn : n ≤ w.heap.size) (h1 : Kd.C k75 w A ls.length ls ∧ ls.length ≤ k) (hg : goodP cal ls re ba = false) :
    Calls Try.prog 16 #[.pointer (some ⟨kb, 0, none⟩), .agg #[.int .i64 cal, .slice A ls.length k, .int .i64 re, .int .i64 ba], .int .i64 now] w fun r w' => r = .returned (.tuple #[.agg #[.int .i64 0, .int .i64 0, .int .i64 0, .int .i64 0], .int .i64 2]) ∧ ClkAt w' n kb ab pb cb off week closed ∧ Upd cb w w' := by
  have HG := Aside0.mk (show (if goodP cal ls re ba = true then (0 : Int) else 2) = 2 by rw [hg]; rfl)
  clear hg
  have hcb := h.lt
  have C0 : Aside0 (((w.alloc (.cells #[.int .i64 cal, .slice A ls.length k, .int .i64 re, .int .i64 ba] 30)).alloc (.cells #[.int .i64 0, .int .i64 0, .int .i64 0, .int .i64 0] 26)).heap[w.heap.size]? = some (.cells #[.int .i64 cal, .slice A ls.length k, .int .i64 re, .int .i64 ba] 30 (0, 0))) := ⟨blk_alloc (blk_new w _) _⟩
  have C1 : Aside0 (((w.alloc (.cells #[.int .i64 cal, .slice A ls.length k, .int .i64 re, .int .i64 ba] 30)).alloc (.cells #[.int .i64 0, .int .i64 0, .int .i64 0, .int .i64 0] 26)).heap[w.heap.size + 1]? = some (.cells #[.int .i64 0, .int .i64 0, .int .i64 0, .int .i64 0] 26 (0, 0))) := ⟨by simpa using blk_new (w.alloc (.cells #[.int .i64 cal, .slice A ls.length k, .int .i64 re, .int .i64 ba] 30)) (.cells #[.int .i64 0, .int .i64 0, .int .i64 0, .int .i64 0] 26)⟩
  have HB := below_alloc (below_alloc (Below.refl w.heap.size w) (.cells #[.int .i64 cal, .slice A ls.length k, .int .i64 re, .int .i64 ba] 30)) (.cells #[.int .i64 0, .int .i64 0, .int .i64 0, .int .i64 0] 26)
  have HC := Aside0.mk (h.below HB)
  have HU := Aside0.mk (Upd.of_below (b := cb) HB)
  have HN := Aside0.mk (Nat.le_trans hn HB.size)
  have HL : Aside0 (Kd.C k75 _ A ls.length ls ∧ ls.length ≤ k) := ⟨⟨Kd.C_below h1.1 HB, h1.2⟩⟩
  clear h HB h1
  go_enter Try.func16, Try.ntmps16
  go_wp2_with fail
  generalize ((w.alloc (.cells #[.int .i64 cal, .slice A ls.length k, .int .i64 re, .int .i64 ba] 30)).alloc (.cells #[.int .i64 0, .int .i64 0, .int .i64 0, .int .i64 0] 26)) = w2 at C0 C1 HC HU HN HL ⊢
  have c0 : w2.cell? ⟨w.heap.size, 0, none⟩ = some (.int .i64 cal) := (blk_cell C0.out 0).trans rfl
  have c1 : w2.cell? ⟨w.heap.size, 1, none⟩ = some (.slice A ls.length k) := (blk_cell C0.out 1).trans rfl
  have c2 : w2.cell? ⟨w.heap.size, 2, none⟩ = some (.int .i64 re) := (blk_cell C0.out 2).trans rfl
  have c3 : w2.cell? ⟨w.heap.size, 3, none⟩ = some (.int .i64 ba) := (blk_cell C0.out 3).trans rfl
  have r0 : w2.cell? ⟨w.heap.size + 1, 0, none⟩ = some (.int .i64 0) := (blk_cell C1.out 0).trans rfl
  have r1 : w2.cell? ⟨w.heap.size + 1, 1, none⟩ = some (.int .i64 0) := (blk_cell C1.out 1).trans rfl
  have r2 : w2.cell? ⟨w.heap.size + 1, 2, none⟩ = some (.int .i64 0) := (blk_cell C1.out 2).trans rfl
  have r3 : w2.cell? ⟨w.heap.size + 1, 3, none⟩ = some (.int .i64 0) := (blk_cell C1.out 3).trans rfl
  have g0 : w2.frozen? ⟨w.heap.size + 1, 0, none⟩ = false := blk_frozen C1.out 0
  have g1 : w2.frozen? ⟨w.heap.size + 1, 1, none⟩ = false := blk_frozen C1.out 1
  have g2 : w2.frozen? ⟨w.heap.size + 1, 2, none⟩ = false := blk_frozen C1.out 2
  have g3 : w2.frozen? ⟨w.heap.size + 1, 3, none⟩ = false := blk_frozen C1.out 3
  go_wp2_with (go_at_call 33; refine (check14_any w2 HL.out).mono ?_; rintro e w3 ⟨rfl, hb⟩; rw [HG.out]; have HC3 := Aside0.mk (HC.out.below hb); have HU3 := Aside0.mk (HU.out.then hb); have HN3 := Aside0.mk (Nat.le_trans HN.out hb.size); have HL3 : Aside0 (Kd.C k75 w3 A ls.length ls ∧ ls.length ≤ k) := ⟨⟨Kd.C_below HL.out.1 hb, HL.out.2⟩⟩; have n0 := Aside0.mk (blk_below C0.out hb); have n1 := Aside0.mk (blk_below C1.out hb); clear hb; clear C0 C1 c0 c1 c2 c3 r0 r1 r2 r3 g0 g1 g2 g3; have C0 := n0; have C1 := n1; clear n0 n1; have c0 : w3.cell? ⟨w.heap.size, 0, none⟩ = some (.int .i64 cal) := (blk_cell C0.out 0).trans rfl; have c1 : w3.cell? ⟨w.heap.size, 1, none⟩ = some (.slice A ls.length k) := (blk_cell C0.out 1).trans rfl; have c2 : w3.cell? ⟨w.heap.size, 2, none⟩ = some (.int .i64 re) := (blk_cell C0.out 2).trans rfl; have c3 : w3.cell? ⟨w.heap.size, 3, none⟩ = some (.int .i64 ba) := (blk_cell C0.out 3).trans rfl; have r0 : w3.cell? ⟨w.heap.size + 1, 0, none⟩ = some (.int .i64 0) := (blk_cell C1.out 0).trans rfl; have r1 : w3.cell? ⟨w.heap.size + 1, 1, none⟩ = some (.int .i64 0) := (blk_cell C1.out 1).trans rfl; have r2 : w3.cell? ⟨w.heap.size + 1, 2, none⟩ = some (.int .i64 0) := (blk_cell C1.out 2).trans rfl; have r3 : w3.cell? ⟨w.heap.size + 1, 3, none⟩ = some (.int .i64 0) := (blk_cell C1.out 3).trans rfl; have g0 : w3.frozen? ⟨w.heap.size + 1, 0, none⟩ = false := blk_frozen C1.out 0; have g1 : w3.frozen? ⟨w.heap.size + 1, 1, none⟩ = false := blk_frozen C1.out 1; have g2 : w3.frozen? ⟨w.heap.size + 1, 2, none⟩ = false := blk_frozen C1.out 2; have g3 : w3.frozen? ⟨w.heap.size + 1, 3, none⟩ = false := blk_frozen C1.out 3)
  obtain ⟨C9, U9, E9⟩ := put4 C1.out HC3.out HU3.out (by omega) (.int .i64 0) (.int .i64 0) (.int .i64 0) (.int .i64 0)
  have k0 := (blk_cell E9 0).trans (rfl : _ = some (Value.int .i64 0))
  have k1 := (blk_cell E9 1).trans (rfl : _ = some (Value.int .i64 0))
  have k2 := (blk_cell E9 2).trans (rfl : _ = some (Value.int .i64 0))
  have k3 := (blk_cell E9 3).trans (rfl : _ = some (Value.int .i64 0))
  refine bodyPost_ret (v := .tuple #[.agg #[.int .i64 0, .int .i64 0, .int .i64 0, .int .i64 0], .int .i64 2]) (by simp [results, Try.results16, go_sem, k0, k1, k2, k3]) rfl ⟨rfl, C9, U9⟩
set_option maxHeartbeats 4000000 in
set_option maxRecDepth 100000 in
theorem first_ok (cal re ba now : Int) (w : World) (h : ClkAt w n kb ab pb cb off week closed) (hn : n ≤ w.heap.size) (h1 : Kd.C k75 w A ls.length ls ∧ ls.length ≤ k) (hg : goodP cal ls re ba = true) (a b c d e : Int) (ha : atS off week closed 0 (rd_T75 ls 0).f0 now = (a, b, c, d, e)) :
    Calls Try.prog 16 #[.pointer (some ⟨kb, 0, none⟩), .agg #[.int .i64 cal, .slice A ls.length k, .int .i64 re, .int .i64 ba], .int .i64 now] w fun r w' => r = .returned (.tuple #[.agg #[.int .i64 a, .int .i64 b, .int .i64 c, .int .i64 d], .int .i64 e]) ∧ ClkAt w' n kb ab pb cb off week closed ∧ Upd cb w w' := by
  have HG := Aside0.mk (show (if goodP cal ls re ba = true then (0 : Int) else 2) = 0 by rw [hg]; rfl)
  obtain ⟨gg, gl⟩ := goodP_iff.1 hg
  have p0 : (0 : Int) < ls.length := by omega
  have p1 : 0 < ls.length := by omega
  have hm := gl (rd_T75 ls ((0 : Nat) : Int)) (by rw [rdL_at ls 0 (by omega)]; exact List.getElem_mem _)
  rw [Int.natCast_zero] at hm
  obtain ⟨b0, b1, _, _⟩ := hm
  obtain ⟨ad, e1, hx0, hx1⟩ := at_T75 h1.1 0 (Int.le_refl _) (by omega)
  subst e1
  generalize (rd_T75 ls 0).f0 = B at ha b0 b1 hx0
  have HA := Aside0.mk ha
  have HX : Aside0 (w.cell? ad = some (.int .i64 B)) := ⟨by have := hx0; rwa [show ad.add ((0 : Int).toNat * 2) = ad from by simp [Addr.add]] at this⟩
  clear hg gg gl hx0 hx1 ha
  have hcb := h.lt
  have C0 : Aside0 (((w.alloc (.cells #[.int .i64 cal, .slice (some ad) ls.length k, .int .i64 re, .int .i64 ba] 30)).alloc (.cells #[.int .i64 0, .int .i64 0, .int .i64 0, .int .i64 0] 26)).heap[w.heap.size]? = some (.cells #[.int .i64 cal, .slice (some ad) ls.length k, .int .i64 re, .int .i64 ba] 30 (0, 0))) := ⟨blk_alloc (blk_new w _) _⟩
  have C1 : Aside0 (((w.alloc (.cells #[.int .i64 cal, .slice (some ad) ls.length k, .int .i64 re, .int .i64 ba] 30)).alloc (.cells #[.int .i64 0, .int .i64 0, .int .i64 0, .int .i64 0] 26)).heap[w.heap.size + 1]? = some (.cells #[.int .i64 0, .int .i64 0, .int .i64 0, .int .i64 0] 26 (0, 0))) := ⟨by simpa using blk_new (w.alloc (.cells #[.int .i64 cal, .slice (some ad) ls.length k, .int .i64 re, .int .i64 ba] 30)) (.cells #[.int .i64 0, .int .i64 0, .int .i64 0, .int .i64 0] 26)⟩
  have HB := below_alloc (below_alloc (Below.refl w.heap.size w) (.cells #[.int .i64 cal, .slice (some ad) ls.length k, .int .i64 re, .int .i64 ba] 30)) (.cells #[.int .i64 0, .int .i64 0, .int .i64 0, .int .i64 0] 26)
  have HC := Aside0.mk (h.below HB)
  have HU := Aside0.mk (Upd.of_below (b := cb) HB)
  have HN := Aside0.mk (Nat.le_trans hn HB.size)
  have HL : Aside0 (Kd.C k75 _ (some ad) ls.length ls ∧ ls.length ≤ k) := ⟨⟨Kd.C_below h1.1 HB, h1.2⟩⟩
  have X0 := Aside0.mk ((HB.cell (World.block_lt_of_cell? w _ HX.out)).trans HX.out)
  clear h HB h1 HX
  go_enter Try.func16, Try.ntmps16
  go_wp2_with fail
  generalize ((w.alloc (.cells #[.int .i64 cal, .slice (some ad) ls.length k, .int .i64 re, .int .i64 ba] 30)).alloc (.cells #[.int .i64 0, .int .i64 0, .int .i64 0, .int .i64 0] 26)) = w2 at C0 C1 HC HU HN HL X0 ⊢
  have c0 : w2.cell? ⟨w.heap.size, 0, none⟩ = some (.int .i64 cal) := (blk_cell C0.out 0).trans rfl
  have c1 : w2.cell? ⟨w.heap.size, 1, none⟩ = some (.slice (some ad) ls.length k) := (blk_cell C0.out 1).trans rfl
  have c2 : w2.cell? ⟨w.heap.size, 2, none⟩ = some (.int .i64 re) := (blk_cell C0.out 2).trans rfl
  have c3 : w2.cell? ⟨w.heap.size, 3, none⟩ = some (.int .i64 ba) := (blk_cell C0.out 3).trans rfl
  have r0 : w2.cell? ⟨w.heap.size + 1, 0, none⟩ = some (.int .i64 0) := (blk_cell C1.out 0).trans rfl
  have r1 : w2.cell? ⟨w.heap.size + 1, 1, none⟩ = some (.int .i64 0) := (blk_cell C1.out 1).trans rfl
  have r2 : w2.cell? ⟨w.heap.size + 1, 2, none⟩ = some (.int .i64 0) := (blk_cell C1.out 2).trans rfl
  have r3 : w2.cell? ⟨w.heap.size + 1, 3, none⟩ = some (.int .i64 0) := (blk_cell C1.out 3).trans rfl
  have g0 : w2.frozen? ⟨w.heap.size + 1, 0, none⟩ = false := blk_frozen C1.out 0
  have g1 : w2.frozen? ⟨w.heap.size + 1, 1, none⟩ = false := blk_frozen C1.out 1
  have g2 : w2.frozen? ⟨w.heap.size + 1, 2, none⟩ = false := blk_frozen C1.out 2
  have g3 : w2.frozen? ⟨w.heap.size + 1, 3, none⟩ = false := blk_frozen C1.out 3
  go_wp2_with (first | (go_at_call 33; refine (check14_any w2 HL.out).mono ?_; rintro e w3 ⟨rfl, hb⟩; rw [HG.out]; have HC3 := Aside0.mk (HC.out.below hb); have HU3 := Aside0.mk (HU.out.then hb); have HN3 := Aside0.mk (Nat.le_trans HN.out hb.size); have HL3 : Aside0 (Kd.C k75 w3 (some ad) ls.length ls ∧ ls.length ≤ k) := ⟨⟨Kd.C_below HL.out.1 hb, HL.out.2⟩⟩; have n0 := Aside0.mk (blk_below C0.out hb); have n1 := Aside0.mk (blk_below C1.out hb); have y0 : w3.cell? ad = some (.int .i64 B) := (hb.cell (World.block_lt_of_cell? w2 _ X0.out)).trans X0.out; clear hb X0; clear C0 C1 c0 c1 c2 c3 r0 r1 r2 r3 g0 g1 g2 g3; have C0 := n0; have C1 := n1; clear n0 n1; have c0 : w3.cell? ⟨w.heap.size, 0, none⟩ = some (.int .i64 cal) := (blk_cell C0.out 0).trans rfl; have c1 : w3.cell? ⟨w.heap.size, 1, none⟩ = some (.slice (some ad) ls.length k) := (blk_cell C0.out 1).trans rfl; have c2 : w3.cell? ⟨w.heap.size, 2, none⟩ = some (.int .i64 re) := (blk_cell C0.out 2).trans rfl; have c3 : w3.cell? ⟨w.heap.size, 3, none⟩ = some (.int .i64 ba) := (blk_cell C0.out 3).trans rfl; have r0 : w3.cell? ⟨w.heap.size + 1, 0, none⟩ = some (.int .i64 0) := (blk_cell C1.out 0).trans rfl; have r1 : w3.cell? ⟨w.heap.size + 1, 1, none⟩ = some (.int .i64 0) := (blk_cell C1.out 1).trans rfl; have r2 : w3.cell? ⟨w.heap.size + 1, 2, none⟩ = some (.int .i64 0) := (blk_cell C1.out 2).trans rfl; have r3 : w3.cell? ⟨w.heap.size + 1, 3, none⟩ = some (.int .i64 0) := (blk_cell C1.out 3).trans rfl; have g0 : w3.frozen? ⟨w.heap.size + 1, 0, none⟩ = false := blk_frozen C1.out 0; have g1 : w3.frozen? ⟨w.heap.size + 1, 1, none⟩ = false := blk_frozen C1.out 1; have g2 : w3.frozen? ⟨w.heap.size + 1, 2, none⟩ = false := blk_frozen C1.out 2; have g3 : w3.frozen? ⟨w.heap.size + 1, 3, none⟩ = false := blk_frozen C1.out 3) | (go_at_call 31; refine (stepat_any 0 0 B 0 now a b c d e w3 HC3.out HN3.out (by omega) HA.out).mono ?_; rintro r w4 ⟨rfl, CK, UK⟩; have n0 := Aside0.mk (UK.blk C0.out (by omega)); have n1 := Aside0.mk (UK.blk C1.out (by omega)); have HC4 := Aside0.mk CK; have HU4 := Aside0.mk (HU3.out.trans UK); clear CK UK; clear C0 y0 C1 c0 c1 c2 c3 r0 r1 r2 r3 g0 g1 g2 g3; have C0 := n0; have C1 := n1; clear n0 n1; have c0 : w4.cell? ⟨w.heap.size, 0, none⟩ = some (.int .i64 cal) := (blk_cell C0.out 0).trans rfl; have c1 : w4.cell? ⟨w.heap.size, 1, none⟩ = some (.slice (some ad) ls.length k) := (blk_cell C0.out 1).trans rfl; have c2 : w4.cell? ⟨w.heap.size, 2, none⟩ = some (.int .i64 re) := (blk_cell C0.out 2).trans rfl; have c3 : w4.cell? ⟨w.heap.size, 3, none⟩ = some (.int .i64 ba) := (blk_cell C0.out 3).trans rfl; have r0 : w4.cell? ⟨w.heap.size + 1, 0, none⟩ = some (.int .i64 0) := (blk_cell C1.out 0).trans rfl; have r1 : w4.cell? ⟨w.heap.size + 1, 1, none⟩ = some (.int .i64 0) := (blk_cell C1.out 1).trans rfl; have r2 : w4.cell? ⟨w.heap.size + 1, 2, none⟩ = some (.int .i64 0) := (blk_cell C1.out 2).trans rfl; have r3 : w4.cell? ⟨w.heap.size + 1, 3, none⟩ = some (.int .i64 0) := (blk_cell C1.out 3).trans rfl; have g0 : w4.frozen? ⟨w.heap.size + 1, 0, none⟩ = false := blk_frozen C1.out 0; have g1 : w4.frozen? ⟨w.heap.size + 1, 1, none⟩ = false := blk_frozen C1.out 1; have g2 : w4.frozen? ⟨w.heap.size + 1, 2, none⟩ = false := blk_frozen C1.out 2; have g3 : w4.frozen? ⟨w.heap.size + 1, 3, none⟩ = false := blk_frozen C1.out 3))
  obtain ⟨C9, U9, E9⟩ := put4 C1.out HC4.out HU4.out (by omega) (.int .i64 a) (.int .i64 b) (.int .i64 c) (.int .i64 d)
  have k0 := (blk_cell E9 0).trans (rfl : _ = some (Value.int .i64 a))
  have k1 := (blk_cell E9 1).trans (rfl : _ = some (Value.int .i64 b))
  have k2 := (blk_cell E9 2).trans (rfl : _ = some (Value.int .i64 c))
  have k3 := (blk_cell E9 3).trans (rfl : _ = some (Value.int .i64 d))
  refine bodyPost_ret (v := .tuple #[.agg #[.int .i64 a, .int .i64 b, .int .i64 c, .int .i64 d], .int .i64 e]) (by simp [results, Try.results16, go_sem, k0, k1, k2, k3]) rfl ⟨rfl, C9, U9⟩
theorem first_any (cal re ba now a b c d e : Int) (w : World) (h : ClkAt w n kb ab pb cb off week closed) (hn : n ≤ w.heap.size) (h1 : Kd.C k75 w A ls.length ls ∧ ls.length ≤ k) (hd : firstP off week closed cal ls re ba now = (a, b, c, d, e)) :
    Calls Try.prog 16 #[.pointer (some ⟨kb, 0, none⟩), .agg #[.int .i64 cal, .slice A ls.length k, .int .i64 re, .int .i64 ba], .int .i64 now] w fun r w' => r = .returned (.tuple #[.agg #[.int .i64 a, .int .i64 b, .int .i64 c, .int .i64 d], .int .i64 e]) ∧ ClkAt w' n kb ab pb cb off week closed ∧ Upd cb w w' := by
  unfold firstP at hd
  by_cases h0 : goodP cal ls re ba = true
  · rw [if_pos h0] at hd; exact first_ok cal re ba now w h hn h1 h0 a b c d e hd
  · rw [if_neg h0] at hd; cases hd; exact first_no cal re ba now w h hn h1 (by simpa using h0)
end Go.Proofs.Ytepkbadgpoploaa.Own
namespace Go.Proofs.Ytepkbadgpoploaa.Base
open Go.RowKit Go.Proofs.YtepkbadgpoploaaW.PrintWords Go.Proofs.YtepkbadgpoploaaW.PrintLast Go.Proofs.YtepkbadgpoploaaW.PrintMore
attribute [local go_sem] max2_int min2_int max_two min_two max_three min_three max_four min_four   -- for this text's walks alone
def curfewlaw14_Plain.f  : Option (Int × (List (S75)) × Int × Int) := some (0, (([(⟨10, 0⟩ : S75), (⟨20, 1⟩ : S75)] : List (S75))), 2, 5)
set_option maxHeartbeats 8000000 in
set_option maxRecDepth 100000 in
theorem curfewlaw14_Plain.calls  (r1 : Int) (r2 : List (S75)) (r3 : Int) (r4 : Int) (w : World) (h : curfewlaw14_Plain.f  = some (r1, r2, r3, r4)) :
    Calls Try.prog 25 #[] w fun e w' => ∃ v1_ : Value, e = .returned (.agg #[.int .i64 r1, v1_, .int .i64 r3, .int .i64 r4]) ∧ Kd.R k75 75 w' w.heap.size (fun _ => True) v1_ r2 ∧ Below w.heap.size w w' := by
  have hu30 := Try.underlying30
  have hu75 := Try.underlying75
  have HB := Aside0.mk (Below.refl w.heap.size w)
  have H : (some (0, (([(⟨10, 0⟩ : S75), (⟨20, 1⟩ : S75)] : List (S75))), 2, 5)) = some (r1, r2, r3, r4) := h
  clear h
  obtain ⟨y240, hy240⟩ : ∃ y_ : List (S75), y_ = (([(⟨10, 0⟩ : S75), (⟨20, 1⟩ : S75)] : List (S75))) := ⟨_, rfl⟩
  replace H : (some (0, y240, 2, 5)) = some (r1, r2, r3, r4) := by first | (rw [hy240]; with_reducible exact H) | (have H2_ := (Option.bind_some _ _).symm.trans H; rw [hy240]; with_reducible exact H2_) | (have H2_ := (Option.bind_some _ _).symm.trans H; with_reducible exact H2_) | with_reducible exact H | (rw [hy240]; exact H) | exact H
  have Ny240 := Aside0.mk hy240
  clear hy240
  simp only [Option.some.injEq, Prod.mk.injEq] at H
  obtain ⟨rfl, rfl, rfl, rfl⟩ := H
  go_enter Try.func25, Try.ntmps25
  go_wp2_with (first | ((with_reducible refine gate_dst (N := 0) rfl ?_); refine box_event ?hg (N := 0) ?hd (cs := #[.int .i64 0, .slice none 0 0, .int .i64 0, .int .i64 0]) (t := 30) ?hr ?_; (case hd => rfl); (case hg => rfl); (case hr => first | (go_simp; done) | (go_simp; rfl)); intro gb239 hg w1 hbox hb; have n0_ := Aside0.mk (below_step (by repeat (first | (with_reducible first | exact HB.out | apply below_alloc | apply pw_below_drewN | apply below_drew1) | exact HB.out)) hb); have n1_ := Aside0.mk (hbox); have n2_ := Aside0.mk ((by rw [hg]; exact (below_size (by repeat (first | (with_reducible first | exact HB.out | apply below_alloc | apply pw_below_drewN | apply below_drew1) | exact HB.out))) : w.heap.size ≤ gb239)); have n3_ := Aside0.mk ((by rw [hg]; exact (below_size (by repeat (first | (with_reducible first | exact HB.out | apply below_alloc | apply pw_below_drewN | apply below_drew1) | exact HB.out))) : w.heap.size ≤ gb239)); clear HB; have HB := n0_; have BK239 := n1_; have GW239 := n2_; have GE239 := n3_; clear n0_ n1_ n2_ n3_; clear hb hbox hg) | ((with_reducible refine gate_dst (N := 3) rfl ?_); refine Kd.R_lit k75 _ 75 ?hg (N := 3) ?hd (xs := ([(⟨10, 0⟩ : S75), (⟨20, 1⟩ : S75)] : List (S75))) (inner := [.int .i64 10, .int .i64 0, .int .i64 20, .int .i64 1]) (ok := fun _ => True) (okp := fun _ => True) ?hr ?hp (fun _ hk => hk) trivial (Below.refl _ _) (Nat.le_refl _) (by simp) ?_; (case hd => rfl); (case hg => rfl); (case hr => first | (go_simp; done) | (go_simp; rfl)); (case hp => exact (Reps.c2 (show Kd.M k75 _ _ _ (⟨10, 0⟩ : S75) [.int .i64 10, .int .i64 0] from (k75_mkM _ _ _ (⟨10, 0⟩ : S75) )) (Reps.c2 (show Kd.M k75 _ _ _ (⟨20, 1⟩ : S75) [.int .i64 20, .int .i64 1] from (k75_mkM _ _ _ (⟨20, 1⟩ : S75) )) (Reps.none _ _)))); intro v241 w2 ho3 hb hg_ hnew_; clear hg_ hnew_; (first | rw [← Ny240.out] at ho3 | (simp only [Int.reduceToNat] at ho3; rw [← Ny240.out] at ho3)); have n0_ := Aside0.mk (Kd.R_lower ho3 (below_size (by repeat (first | (with_reducible first | exact HB.out | apply below_alloc | apply pw_below_drewN | apply below_drew1 | refine below_set ?_ GE239.out) | exact HB.out)))); have n1_ := Aside0.mk (blk_below (g := gb239) (o := .cells #[.int .i64 0, .slice none 0 0, .int .i64 0, .int .i64 0] 30 (0, 0)) (by (with_reducible repeat (first | refine blk_drewN ?_ _ | refine blk_drew ?_ | refine blk_alloc ?_ _)); exact BK239.out) hb); have n2_ := Aside0.mk (below_step (by repeat (first | (with_reducible first | exact HB.out | apply below_alloc | apply pw_below_drewN | apply below_drew1 | refine below_set ?_ GE239.out) | exact HB.out)) hb); clear BK239; clear HB; have HO242 := n0_; have BK239 := n1_; have HB := n2_; clear n0_ n1_ n2_; clear hb ho3; obtain ⟨Ao4, co4, eo4⟩ := Kd.R_slice HO242.out; subst eo4; have hcz5_0 : w2.cell? ⟨gb239, 0, none⟩ = some (.int .i64 0) := (blk_cell BK239.out 0).trans rfl; have hcz5_1 : w2.cell? ⟨gb239, 1, none⟩ = some (.slice none 0 0) := (blk_cell BK239.out 1).trans rfl; have hcz5_2 : w2.cell? ⟨gb239, 2, none⟩ = some (.int .i64 0) := (blk_cell BK239.out 2).trans rfl; have hcz5_3 : w2.cell? ⟨gb239, 3, none⟩ = some (.int .i64 0) := (blk_cell BK239.out 3).trans rfl; have hfz5_0 := blk_frozen BK239.out 0; have hfz5_1 := blk_frozen BK239.out 1; have hfz5_2 := blk_frozen BK239.out 2; have hfz5_3 := blk_frozen BK239.out 3))
  refine bodyPost_ret (results_cell_row rfl _ _ gb239 30 #[.int .i64 0, .slice Ao4 y240.length co4, .int .i64 2, .int .i64 5] (0, 0) _ rfl (by (with_reducible repeat (first | refine blk_drewN ?_ _ | refine blk_drew ?_ | refine blk_alloc ?_ _)); refine blk_put (cs := #[.int .i64 0, .slice Ao4 y240.length co4, .int .i64 2, .int .i64 0]) ?_ 3 _ rfl; (with_reducible repeat (first | refine blk_drewN ?_ _ | refine blk_drew ?_ | refine blk_alloc ?_ _)); refine blk_put (cs := #[.int .i64 0, .slice Ao4 y240.length co4, .int .i64 0, .int .i64 0]) ?_ 2 _ rfl; (with_reducible repeat (first | refine blk_drewN ?_ _ | refine blk_drew ?_ | refine blk_alloc ?_ _)); refine blk_put (cs := #[.int .i64 0, .slice none 0 0, .int .i64 0, .int .i64 0]) ?_ 1 _ rfl; (with_reducible repeat (first | refine blk_drewN ?_ _ | refine blk_drew ?_ | refine blk_alloc ?_ _)); refine blk_put (cs := #[.int .i64 0, .slice none 0 0, .int .i64 0, .int .i64 0]) ?_ 0 _ rfl; (with_reducible repeat (first | refine blk_drewN ?_ _ | refine blk_drew ?_ | refine blk_alloc ?_ _)); exact BK239.out) Try.underlying30 rfl (by kernel_rfl)) rfl ?_
  exact ⟨_, by first | rfl | (simp [errW_none, errW_some] <;> rfl) | (simp [*, errW_none, errW_some] <;> rfl), by (with_reducible repeat (first | apply Kd.R_alloc | apply Kd.R_drewN | apply Kd.R_drew)); exact Kd.R_mono (Kd.R_far (p := ⟨gb239, 3, none⟩) (Kd.R_far (p := ⟨gb239, 2, none⟩) (Kd.R_far (p := ⟨gb239, 1, none⟩) (Kd.R_far (p := ⟨gb239, 0, none⟩) (Kd.R_types HO242.out BK239.out (by decide)) (fun _ hk => hk.2) (.int .i64 0)) (fun _ hk => hk.2) (.slice Ao4 y240.length co4)) (fun _ hk => hk.2) (.int .i64 2)) (fun _ hk => hk.2) (.int .i64 5)) (fun _ hk => trivial), by repeat (first | (with_reducible first | exact HB.out | apply below_alloc | apply pw_below_drewN | apply below_drew1 | refine below_set ?_ GE239.out) | exact HB.out)⟩
end Go.Proofs.Ytepkbadgpoploaa.Base
namespace Go.Proofs.Ytepkbadgpoploaa.Own
open Go.RowKit Go.Proofs Go.Proofs.YtepkbadgpoploaaW.PrintWords Go.Proofs.YtepkbadgpoploaaW.PrintLast Go.Proofs.YtepkbadgpoploaaW.PrintMore Go.Proofs.Ytepkbadgpoploaa.Base
variable {w w' : World} {n kb ab pb cb : Nat} {off : Int} {week closed : List S78}
theorem box4 {W : World} (C : ClkAt W n kb ab pb cb off week closed) (v0 v1 v2 v3 : Value) :
    ClkAt (W.alloc (.cells #[v0, v1, v2, v3] 26)) n kb ab pb cb off week closed ∧ Below W.heap.size W (W.alloc (.cells #[v0, v1, v2, v3] 26)) ∧ (W.alloc (.cells #[v0, v1, v2, v3] 26)).heap[W.heap.size]? = some (.cells #[v0, v1, v2, v3] 26 (0, 0)) :=
  ⟨C.below (below_alloc (Below.refl _ _) _), below_alloc (Below.refl _ _) _, blk_new W _⟩
theorem upd_below' {cb n0 : Nat} {w u v : World} (h : Below n0 w u) (hu : Upd cb u v) (hn : n0 ≤ cb) (hs : n0 ≤ u.heap.size) : Below n0 w v := h.trans (Upd.below hu hs hn)
theorem ch_0 : calErr 0 [⟨0, 604800⟩] [] = 0 := by kernel_rfl
theorem ch_1 : firstP 0 [⟨0, 604800⟩] [] 0 [⟨10, 0⟩, ⟨20, 1⟩] 2 5 5 = (0, 5, 10, 15, 0) := by kernel_rfl
theorem ch_2 : standP 0 [⟨0, 604800⟩] [] 0 5 10 15 8 = (0, 8, 7, 0, 0) := by kernel_rfl
theorem ch_3 : goP 0 [⟨0, 604800⟩] [] 0 7 0 100 = (0, 100, 7, 107, 0) := by kernel_rfl
theorem always_any (w : World) : Calls Try.prog 24 #[] w fun e w' => ∃ A1 c1 A2 c2, e = .returned (.agg #[.int .i64 0, .slice A1 [(⟨0, 604800⟩ : S78)].length c1, .slice A2 ([] : List S78).length c2]) ∧ (Kd.C k78 w' A1 [(⟨0, 604800⟩ : S78)].length [⟨0, 604800⟩] ∧ [(⟨0, 604800⟩ : S78)].length ≤ c1) ∧ (Kd.C k78 w' A2 ([] : List S78).length [] ∧ ([] : List S78).length ≤ c2) ∧ Below w.heap.size w w' :=
  (curfewlaw15_Always.calls 0 [⟨0, 604800⟩] [] w rfl).mono fun e w' ⟨v1, v2, he, h1, h2, hb⟩ => by
    obtain ⟨A1, c1, rfl, hc1, hr1⟩ := Kd.R_reads h1
    obtain ⟨A2, c2, rfl, hc2, hr2⟩ := Kd.R_reads h2
    exact ⟨A1, c1, A2, c2, he, ⟨hr1, hc1⟩, ⟨hr2, hc2⟩, hb⟩
theorem plainc_any (w : World) : Calls Try.prog 25 #[] w fun e w' => ∃ A1 c1, e = .returned (.agg #[.int .i64 0, .slice A1 [(⟨10, 0⟩ : S75), ⟨20, 1⟩].length c1, .int .i64 2, .int .i64 5]) ∧ (Kd.C k75 w' A1 [(⟨10, 0⟩ : S75), ⟨20, 1⟩].length [⟨10, 0⟩, ⟨20, 1⟩] ∧ [(⟨10, 0⟩ : S75), ⟨20, 1⟩].length ≤ c1) ∧ Below w.heap.size w w' :=
  (curfewlaw14_Plain.calls 0 [⟨10, 0⟩, ⟨20, 1⟩] 2 5 w rfl).mono fun e w' ⟨v1, he, h1, hb⟩ => by
    obtain ⟨A1, c1, rfl, hc1, hr1⟩ := Kd.R_reads h1
    exact ⟨A1, c1, he, ⟨hr1, hc1⟩, hb⟩
set_option maxHeartbeats 4000000 in
set_option maxRecDepth 100000 in
theorem lives15_any (w : World) : Calls Try.prog 9 #[] w fun e w' => e = .returned (.bool true) ∧ Below w.heap.size w w' := by
  go_enter Try.func9, Try.ntmps9
  go_wp2_with (first | (go_at_call 24; refine (always_any w).mono ?_; rintro e w1 ⟨A1, c1, A2, c2, rfl, q1, q2, hb⟩; have HQ1 := Aside0.mk q1; have HQ2 := Aside0.mk q2; have HB1 := Aside0.mk hb; clear q1 q2 hb) | (go_at_call 10; refine (calnew_yes 0 A1 A2 c1 c2 [⟨0, 604800⟩] [] w1 HQ1.out.1 HQ1.out.2 HQ2.out.1 HQ2.out.2 ch_0).mono ?_; rintro e w2 ⟨kb, ab, pb, cb, rfl, CK, hb⟩; have HC2 := Aside0.mk CK; have HB2 := Aside0.mk hb; have HCB2 := Aside0.mk CK.lt; clear CK hb) | (go_at_call 25; refine (plainc_any w2).mono ?_; rintro e w3 ⟨A3, c3, rfl, q3, hb⟩; have HQ3 := Aside0.mk q3; have HC3 := Aside0.mk (HC2.out.below hb); have HB3 := Aside0.mk hb; clear q3 hb))
  have hcb := HCB2.out
  have hs3 := HB3.out.size
  have hs2 := HB2.out.size
  have hs1 := HB1.out.size
  have hncb := HC2.out.plan.ncb
  go_wp2_with (go_at_call 16; refine (first_any 0 2 5 5 _ _ _ _ _ w3 HC3.out (by omega) HQ3.out ch_1).mono ?_; rintro e w4 ⟨rfl, CK, UK⟩; have HC4 := Aside0.mk CK; have HU4 := Aside0.mk UK; have hs4 := UK.size; clear CK UK)
  obtain ⟨C5, B5, E5⟩ := box4 HC4.out (.int .i64 0) (.int .i64 5) (.int .i64 10) (.int .i64 15)
  have HC5 := Aside0.mk C5
  have HB5 := Aside0.mk B5
  have HE5 := Aside0.mk E5
  have hz5 := blk_lt E5
  have hy5 := B5.size
  clear C5 B5 E5
  generalize (w4.alloc (.cells #[.int .i64 0, .int .i64 5, .int .i64 10, .int .i64 15] 26)) = w5 at HC5 HB5 HE5 hz5 hy5 ⊢
  have s0 : w5.cell? ⟨w4.heap.size, 0, none⟩ = some (.int .i64 0) := (blk_cell HE5.out 0).trans rfl
  have s1 : w5.cell? ⟨w4.heap.size, 1, none⟩ = some (.int .i64 5) := (blk_cell HE5.out 1).trans rfl
  have s2 : w5.cell? ⟨w4.heap.size, 2, none⟩ = some (.int .i64 10) := (blk_cell HE5.out 2).trans rfl
  have s3 : w5.cell? ⟨w4.heap.size, 3, none⟩ = some (.int .i64 15) := (blk_cell HE5.out 3).trans rfl
  have HK := Aside0.mk (calErr_ok ch_0)
  go_wp2_with (go_at_call 11; refine (stand_any HK.out 0 5 10 15 8 _ _ _ _ _ w5 HC5.out (by omega) (by omega) ch_2).mono ?_; rintro e w6 ⟨rfl, CK, UK⟩; have HC6 := Aside0.mk CK; have HU6 := Aside0.mk UK; have hs6 := UK.size; have HE6 := Aside0.mk (UK.blk HE5.out (by omega)); clear CK UK)
  clear s0 s1 s2 s3
  obtain ⟨C7, B7, E7⟩ := box4 HC6.out (.int .i64 0) (.int .i64 8) (.int .i64 7) (.int .i64 0)
  have HC7 := Aside0.mk C7
  have HB7 := Aside0.mk B7
  have HE7 := Aside0.mk E7
  have hz7 := blk_lt E7
  have hy7 := B7.size
  clear C7 B7 E7
  generalize (w6.alloc (.cells #[.int .i64 0, .int .i64 8, .int .i64 7, .int .i64 0] 26)) = w7 at HC7 HB7 HE7 hz7 hy7 ⊢
  have HE7' := Aside0.mk (blk_below HE6.out HB7.out)
  have s0 : w7.cell? ⟨w6.heap.size, 0, none⟩ = some (.int .i64 0) := (blk_cell HE7.out 0).trans rfl
  have s1 : w7.cell? ⟨w6.heap.size, 1, none⟩ = some (.int .i64 8) := (blk_cell HE7.out 1).trans rfl
  have s2 : w7.cell? ⟨w6.heap.size, 2, none⟩ = some (.int .i64 7) := (blk_cell HE7.out 2).trans rfl
  have s3 : w7.cell? ⟨w6.heap.size, 3, none⟩ = some (.int .i64 0) := (blk_cell HE7.out 3).trans rfl
  go_upto_region 5 with (go_at_call 13; refine (go_any 0 8 7 0 100 _ _ _ _ _ w7 HC7.out (by omega) (by omega) ch_3).mono ?_; rintro e w8 ⟨rfl, CK, UK⟩; have HC8 := Aside0.mk CK; have HU8 := Aside0.mk UK; have hs8 := UK.size; have HE8 := Aside0.mk (UK.blk HE7.out (by omega)); have HE8' := Aside0.mk (UK.blk HE7'.out (by omega)); clear CK UK)
  clear s0 s1 s2 s3
  obtain ⟨C9, B9, E9⟩ := box4 HC8.out (.int .i64 0) (.int .i64 100) (.int .i64 7) (.int .i64 107)
  have HC9 := Aside0.mk C9
  have HB9 := Aside0.mk B9
  have HE9 := Aside0.mk E9
  have hz9 := blk_lt E9
  have hy9 := B9.size
  clear C9 B9 E9
  generalize (w8.alloc (.cells #[.int .i64 0, .int .i64 100, .int .i64 7, .int .i64 107] 26)) = w9 at HC9 HB9 HE9 hz9 hy9 ⊢
  have HE9' := Aside0.mk (blk_below HE8.out HB9.out)
  have HE9'' := Aside0.mk (blk_below HE8'.out HB9.out)
  have s0 : w9.cell? ⟨w8.heap.size, 0, none⟩ = some (.int .i64 0) := (blk_cell HE9.out 0).trans rfl
  have s1 : w9.cell? ⟨w8.heap.size, 1, none⟩ = some (.int .i64 100) := (blk_cell HE9.out 1).trans rfl
  have s2 : w9.cell? ⟨w8.heap.size, 2, none⟩ = some (.int .i64 7) := (blk_cell HE9.out 2).trans rfl
  have s3 : w9.cell? ⟨w8.heap.size, 3, none⟩ = some (.int .i64 107) := (blk_cell HE9.out 3).trans rfl
  have t0 : w9.cell? ⟨w6.heap.size, 0, none⟩ = some (.int .i64 0) := (blk_cell HE9'.out 0).trans rfl
  have t1 : w9.cell? ⟨w6.heap.size, 1, none⟩ = some (.int .i64 8) := (blk_cell HE9'.out 1).trans rfl
  have t2 : w9.cell? ⟨w6.heap.size, 2, none⟩ = some (.int .i64 7) := (blk_cell HE9'.out 2).trans rfl
  have t3 : w9.cell? ⟨w6.heap.size, 3, none⟩ = some (.int .i64 0) := (blk_cell HE9'.out 3).trans rfl
  have u0 : w9.cell? ⟨w4.heap.size, 0, none⟩ = some (.int .i64 0) := (blk_cell HE9''.out 0).trans rfl
  have u1 : w9.cell? ⟨w4.heap.size, 1, none⟩ = some (.int .i64 5) := (blk_cell HE9''.out 1).trans rfl
  have u2 : w9.cell? ⟨w4.heap.size, 2, none⟩ = some (.int .i64 10) := (blk_cell HE9''.out 2).trans rfl
  have u3 : w9.cell? ⟨w4.heap.size, 3, none⟩ = some (.int .i64 15) := (blk_cell HE9''.out 3).trans rfl
  go_wp2
  go_ret
  have b1 := below_step (below_step HB1.out HB2.out) HB3.out
  have b4 := upd_below' b1 HU4.out (by omega) (by omega)
  have b6 := upd_below' (below_weaken b4 (by omega) HB5.out) HU6.out (by omega) (by omega)
  have b8 := upd_below' (below_weaken b6 (by omega) HB7.out) HU8.out (by omega) (by omega)
  exact ⟨rfl, below_weaken b8 (by omega) HB9.out⟩
end Go.Proofs.Ytepkbadgpoploaa.Own
namespace Go.Proofs.Ytepkbadgpoploaa.Own
open Go.RowKit Go.Proofs Go.Proofs.YtepkbadgpoploaaW.PrintWords Go.Proofs.YtepkbadgpoploaaW.PrintLast Go.Proofs.YtepkbadgpoploaaW.PrintMore Go.Proofs.Ytepkbadgpoploaa.Base
variable {off : Int} {week closed : List S78} {A1 A2 A3 : Option Addr} {c1 c2 c3 : Nat} {cal re ba : Int} {ls : List S75}
def lightP (week closed : List S78) : Bool := decide (week.length ≤ 60) && decide (closed.length ≤ 60)
theorem light10_eq (off : Int) (week closed : List S78) : curfewlaw10_Light.f off week closed = some (lightP week closed) := by
  unfold curfewlaw10_Light.f lightP
  by_cases h : week.length ≤ 60
  · rw [if_pos (by omega), decide_eq_true h, Bool.true_and]
    congr 1
    by_cases h' : closed.length ≤ 60
    · rw [decide_eq_true h', decide_eq_true (by omega)]
    · rw [decide_eq_false h', decide_eq_false (by omega)]
  · rw [if_neg (by omega), decide_eq_false h]; rfl
def light15P (week closed : List S78) (ls : List S75) : Bool := lightP week closed && decide (ls.length ≤ 60)
theorem light15_any (w : World) (h1 : Kd.C k78 w A1 week.length week ∧ week.length ≤ c1) (h2 : Kd.C k78 w A2 closed.length closed ∧ closed.length ≤ c2) (h3 : Kd.C k75 w A3 ls.length ls ∧ ls.length ≤ c3) :
    Calls Try.prog 7 #[.agg #[.int .i64 off, .slice A1 week.length c1, .slice A2 closed.length c2], .agg #[.int .i64 cal, .slice A3 ls.length c3, .int .i64 re, .int .i64 ba]] w fun e w' => e = .returned (.bool (light15P week closed ls)) ∧ Below w.heap.size w w' :=
  curfewlaw15_light.calls off A1 c1 week A2 c2 closed cal A3 c3 ls re ba _ w h1.1 h1.2 h2.1 h2.2 h3.1 h3.2 (by
    unfold curfewlaw15_light.f light15P
    rw [light10_eq]
    simp only [Option.bind_some]
    cases lightP week closed with
    | false => rfl
    | true =>
      rw [if_pos rfl, Bool.true_and]
      congr 1
      by_cases h' : ls.length ≤ 60
      · rw [decide_eq_true h', decide_eq_true (by omega)]
      · rw [decide_eq_false h', decide_eq_false (by omega)])
theorem nolevels (w : World) : Kd.C k75 w none ([] : List S75).length [] ∧ ([] : List S75).length ≤ 0 := ⟨⟨rfl, by decide, fun h => absurd h (by simp)⟩, Nat.le_refl _⟩
theorem light15_none (w : World) (h1 : Kd.C k78 w A1 week.length week ∧ week.length ≤ c1) (h2 : Kd.C k78 w A2 closed.length closed ∧ closed.length ≤ c2) :
    Calls Try.prog 7 #[.agg #[.int .i64 off, .slice A1 week.length c1, .slice A2 closed.length c2], .agg #[.int .i64 0, .slice none 0 0, .int .i64 0, .int .i64 0]] w fun e w' => e = .returned (.bool (lightP week closed)) ∧ Below w.heap.size w w' :=
  (light15_any (off := off) (cal := 0) (re := 0) (ba := 0) w h1 h2 (nolevels w)).mono fun e w' ⟨he, hb⟩ => ⟨by rw [he]; simp [light15P], hb⟩
theorem refcheck_any (w : World) (h1 : Kd.C k78 w A1 week.length week ∧ week.length ≤ c1) (h2 : Kd.C k78 w A2 closed.length closed ∧ closed.length ≤ c2) :
    Calls Try.prog 8 #[.agg #[.int .i64 off, .slice A1 week.length c1, .slice A2 closed.length c2]] w fun e w' => e = .returned (.int .i64 (calErr off week closed)) ∧ Below w.heap.size w w' :=
  curfewref10_Check.calls 40 off A1 c1 week A2 c2 closed _ w h1.1 h1.2 h2.1 h2.2 (check_eq off week closed 40 (by omega))
theorem calnew_ok (w : World) (h1 : Kd.C k78 w A1 week.length week ∧ week.length ≤ c1) (h2 : Kd.C k78 w A2 closed.length closed ∧ closed.length ≤ c2) (he : calErr off week closed = 0) :
    Calls Try.prog 10 #[.agg #[.int .i64 off, .slice A1 week.length c1, .slice A2 closed.length c2]] w fun e w' => ∃ kb ab pb cb, e = .returned (.tuple #[.pointer (some ⟨kb, 0, none⟩), .int .i64 0]) ∧ ClkAt w' w.heap.size kb ab pb cb off week closed ∧ Below w.heap.size w w' :=
  calnew_yes off A1 A2 c1 c2 week closed w h1.1 h1.2 h2.1 h2.2 he
variable (hk : CalOk off week closed)
include hk
theorem refstand_any (lv fr l du now a b c d e : Int) (w : World) (h1 : Kd.C k78 w A1 week.length week ∧ week.length ≤ c1) (h2 : Kd.C k78 w A2 closed.length closed ∧ closed.length ≤ c2) (hl : l ≤ 9223372036854775807) (hd : standP off week closed lv fr l du now = (a, b, c, d, e)) :
    Calls Try.prog 12 #[.agg #[.int .i64 off, .slice A1 week.length c1, .slice A2 closed.length c2], .agg #[.int .i64 lv, .int .i64 fr, .int .i64 l, .int .i64 du], .int .i64 now] w fun r w' => r = .returned (.tuple #[.agg #[.int .i64 a, .int .i64 b, .int .i64 c, .int .i64 d], .int .i64 e]) ∧ Below w.heap.size w w' :=
  curfewref15_Stand.calls 200 off A1 c1 week A2 c2 closed lv fr l du now a b c d e w h1.1 h1.2 h2.1 h2.2 (by rw [rstand_eq hk _ _ _ _ _ hl, hd])
theorem refgo_any (lv fr l du now a b c d e : Int) (w : World) (h1 : Kd.C k78 w A1 week.length week ∧ week.length ≤ c1) (h2 : Kd.C k78 w A2 closed.length closed ∧ closed.length ≤ c2) (hd : goP off week closed lv l du now = (a, b, c, d, e)) :
    Calls Try.prog 14 #[.agg #[.int .i64 off, .slice A1 week.length c1, .slice A2 closed.length c2], .agg #[.int .i64 lv, .int .i64 fr, .int .i64 l, .int .i64 du], .int .i64 now] w fun r w' => r = .returned (.tuple #[.agg #[.int .i64 a, .int .i64 b, .int .i64 c, .int .i64 d], .int .i64 e]) ∧ Below w.heap.size w w' :=
  curfewref15_Go.calls 200 off A1 c1 week A2 c2 closed lv fr l du now a b c d e w h1.1 h1.2 h2.1 h2.2 (by rw [rgo_eq hk, hd])
end Go.Proofs.Ytepkbadgpoploaa.Own
namespace Go.Proofs.Ytepkbadgpoploaa.Own
open Go.RowKit Go.Proofs Go.Proofs.YtepkbadgpoploaaW.PrintWords Go.Proofs.YtepkbadgpoploaaW.PrintLast Go.Proofs.YtepkbadgpoploaaW.PrintMore Go.Proofs.Ytepkbadgpoploaa.Base
open Go.ChangeShapes Go.WideShapes Go.ChangeAt Go.Joins Go.Deep
theorem calCells : Try.prog.cellsOf 24 = 3 := by kernel_rfl
theorem ownKnob_none : ownKnob Try.prog.godebug = none := by kernel_rfl
theorem laidOut : laidOutB Try.prog = true := by kernel_rfl
def intOf : Value → Int
  | .int _ x => x
  | _ => 0
set_option maxRecDepth 100000 in
theorem spans_open {H : Type} {enc : TypeId × Value → H} {W : World} {spare : Nat → Bool} {held : Bool} {fuel : Nat} {v : Value} {x : DataW H × List MemPlace} (h : DataW.trod enc Try.prog W 0 spare held fuel 22 [v] = some x) :
    ∃ (A : Option Addr) (c : Nat) (l : List S78), v = .slice A l.length c ∧ l.length ≤ c ∧ Kd.C k78 W A l.length l := by
  rcases open_slice_pairs Try.underlying22 Try.underlying78 (by kernel_rfl) (by rfl) (by rfl) (by kernel_rfl) (by kernel_rfl) h with ⟨hcs, _⟩ | ⟨a, len, cap, m, n, V0, V1, D0, D1, P0, P1, hcs, _, hl, hm, hmm, _, hx⟩
  · injection hcs with hv
    exact ⟨none, 0, [], hv, Nat.le_refl _, ⟨rfl, by decide, fun h => absurd h (by simp)⟩⟩
  · injection hcs with hv
    have hlm : len ≤ m := by rw [hmm]; split <;> omega
    have hint : ∀ i, i < len → V0 i = .int .i64 (intOf (V0 i)) ∧ V1 i = .int .i64 (intOf (V1 i)) := fun i hi => by
      obtain ⟨_, _, t0, t1⟩ := hx i (by omega)
      obtain ⟨a0, e0, _, _⟩ := DataW.trod_int Try.underlying2 t0
      obtain ⟨a1, e1, _, _⟩ := DataW.trod_int Try.underlying2 t1
      simp at e0 e1
      rw [e0, e1]
      exact ⟨rfl, rfl⟩
    refine ⟨some a, cap, (List.range len).map fun i => ⟨intOf (V0 i), intOf (V1 i)⟩, by simpa using hv, by simpa using hl, ?_⟩
    refine ⟨rfl, by simp; unfold maxLen at hm; omega, fun _ => ⟨a, rfl, fun j p hp => ?_⟩⟩
    have hj : j < len := by
      rcases Nat.lt_or_ge j len with h | h
      · exact h
      · rw [List.getElem?_eq_none (by simpa using h)] at hp; cases hp
    rw [List.getElem?_map, List.getElem?_range hj] at hp
    injection hp with hp
    subst hp
    obtain ⟨c0, c1, _, _⟩ := hx j (by omega)
    refine ⟨[V0 j, V1 j], rfl, ?_, fun i u hu => ?_⟩
    · rw [(hint j hj).1, (hint j hj).2]
      exact k78_mk W ⟨intOf (V0 j), intOf (V1 j)⟩
    · match i, hu with
      | 0, hu => injection hu with hu; subst hu; exact c0
      | 1, hu => injection hu with hu; subst hu; exact c1
      | (n + 2), hu => cases hu
set_option maxRecDepth 100000 in
theorem cal_open {H : Type} {enc : TypeId × Value → H} {W : World} {spare : Nat → Bool} {held : Bool} {r : Reach} {b0 : Nat} {v : Value} {d : DataW H} {p : List MemPlace} (hv : Value.okWide Try.prog W r b0 24 v) (h : DataW.Trod enc Try.prog W 0 spare held 24 v d p) :
    ∃ (off : Int) (A1 A2 : Option Addr) (c1 c2 : Nat) (week closed : List S78), v = .agg #[.int .i64 off, .slice A1 week.length c1, .slice A2 closed.length c2] ∧ (Kd.C k78 W A1 week.length week ∧ week.length ≤ c1) ∧ (Kd.C k78 W A2 closed.length closed ∧ closed.length ≤ c2) := by
  obtain ⟨v0, v1, v2, y0, y1, y2, m, rfl, _, _, t0, t1, t2⟩ := open_agg3 Try.underlying24 (by kernel_rfl) calCells hv h
  obtain ⟨a0, e0, _, _⟩ := DataW.trod_int Try.underlying2 t0
  obtain ⟨A1, c1, week, rfl, hl1, hc1⟩ := spans_open t1
  obtain ⟨A2, c2, closed, rfl, hl2, hc2⟩ := spans_open t2
  simp at e0
  subst e0
  exact ⟨a0, A1, A2, c1, c2, week, closed, rfl, ⟨hc1, hl1⟩, ⟨hc2, hl2⟩⟩
end Go.Proofs.Ytepkbadgpoploaa.Own
namespace Go.Proofs.Ytepkbadgpoploaa.Own
open Go.RowKit Go.Proofs Go.Proofs.YtepkbadgpoploaaW.PrintWords Go.Proofs.YtepkbadgpoploaaW.PrintLast Go.Proofs.YtepkbadgpoploaaW.PrintMore Go.Proofs.Ytepkbadgpoploaa.Base
open Go.ChangeShapes Go.WideShapes Go.ChangeAt Go.Joins Go.Deep
theorem stepCells : Try.prog.cellsOf 26 = 4 := by kernel_rfl
set_option maxRecDepth 100000 in
theorem step_open {H : Type} {enc : TypeId × Value → H} {W : World} {spare : Nat → Bool} {held : Bool} {r : Reach} {b0 : Nat} {v : Value} {d : DataW H} {p : List MemPlace} (hv : Value.okWide Try.prog W r b0 26 v) (h : DataW.Trod enc Try.prog W 0 spare held 26 v d p) :
    ∃ (lv fr l du : Int), v = .agg #[.int .i64 lv, .int .i64 fr, .int .i64 l, .int .i64 du] ∧ (Lit.int .i64 lv).wf = true ∧ (Lit.int .i64 fr).wf = true ∧ (Lit.int .i64 l).wf = true ∧ (Lit.int .i64 du).wf = true := by
  obtain ⟨v0, v1, v2, v3, y0, y1, y2, y3, m, rfl, _, _, t0, t1, t2, t3⟩ := open_agg4 Try.underlying26 (by kernel_rfl) stepCells hv h
  obtain ⟨a0, e0, _, w0⟩ := DataW.trod_int Try.underlying3 t0
  obtain ⟨a1, e1, _, w1⟩ := DataW.trod_int Try.underlying2 t1
  obtain ⟨a2, e2, _, w2⟩ := DataW.trod_int Try.underlying2 t2
  obtain ⟨a3, e3, _, w3⟩ := DataW.trod_int Try.underlying2 t3
  simp at e0 e1 e2 e3
  subst e0 e1 e2 e3
  exact ⟨a0, a1, a2, a3, rfl, w0, w1, w2, w3⟩
end Go.Proofs.Ytepkbadgpoploaa.Own
namespace Go.Proofs.Ytepkbadgpoploaa.Own
open Go.RowKit Go.Proofs Go.Proofs.YtepkbadgpoploaaW.PrintWords Go.Proofs.YtepkbadgpoploaaW.PrintLast Go.Proofs.YtepkbadgpoploaaW.PrintMore Go.Proofs.Ytepkbadgpoploaa.Base
set_option maxHeartbeats 4000000 in
set_option maxRecDepth 100000 in
theorem stands_light {off : Int} {week closed : List S78} {A1 A2 : Option Addr} {c1 c2 : Nat} {lvs frs ls dus : Int} {now : Int} (w : World) (h1 : Kd.C k78 w A1 week.length week ∧ week.length ≤ c1) (h2 : Kd.C k78 w A2 closed.length closed ∧ closed.length ≤ c2) (hL : lightP week closed = false) :
    Calls Try.prog 3 #[.agg #[.int .i64 off, .slice A1 week.length c1, .slice A2 closed.length c2], .agg #[.int .i64 lvs, .int .i64 frs, .int .i64 ls, .int .i64 dus], .int .i64 now] w fun e w' => e = .returned (.bool true) ∧ Below w.heap.size w w' := by
  have hnot : ∀ (x : Bool) (w : World), (Op.unary .not (.bool x)).run Try.prog w = .ok (.bool (!x)) w := fun _ _ => rfl
  have HB_1 : Aside0 (Below w.heap.size w ((w.alloc (.cells #[.int .i64 off, .slice A1 week.length c1, .slice A2 closed.length c2] 24)).alloc (.cells #[.int .i64 lvs, .int .i64 frs, .int .i64 ls, .int .i64 dus] 26))) := ⟨(below_alloc (below_alloc (Below.refl w.heap.size w) (.cells #[.int .i64 off, .slice A1 week.length c1, .slice A2 closed.length c2] 24)) (.cells #[.int .i64 lvs, .int .i64 frs, .int .i64 ls, .int .i64 dus] 26))⟩
  have B_1 : Aside0 (((w.alloc (.cells #[.int .i64 off, .slice A1 week.length c1, .slice A2 closed.length c2] 24)).alloc (.cells #[.int .i64 lvs, .int .i64 frs, .int .i64 ls, .int .i64 dus] 26)).heap[w.heap.size]? = some (.cells #[.int .i64 off, .slice A1 week.length c1, .slice A2 closed.length c2] 24 (0, 0))) := ⟨(blk_alloc (blk_new w _) _)⟩
  have Bs_1 : Aside0 (((w.alloc (.cells #[.int .i64 off, .slice A1 week.length c1, .slice A2 closed.length c2] 24)).alloc (.cells #[.int .i64 lvs, .int .i64 frs, .int .i64 ls, .int .i64 dus] 26)).heap[w.heap.size + 1]? = some (.cells #[.int .i64 lvs, .int .i64 frs, .int .i64 ls, .int .i64 dus] 26 (0, 0))) := ⟨(by simpa using blk_new (w.alloc (.cells #[.int .i64 off, .slice A1 week.length c1, .slice A2 closed.length c2] 24)) (.cells #[.int .i64 lvs, .int .i64 frs, .int .i64 ls, .int .i64 dus] 26))⟩
  have R1_1 : Aside0 (Kd.C k78 ((w.alloc (.cells #[.int .i64 off, .slice A1 week.length c1, .slice A2 closed.length c2] 24)).alloc (.cells #[.int .i64 lvs, .int .i64 frs, .int .i64 ls, .int .i64 dus] 26)) A1 week.length week ∧ week.length ≤ c1) := ⟨⟨Kd.C_below h1.1 HB_1.out, h1.2⟩⟩
  have R2_1 : Aside0 (Kd.C k78 ((w.alloc (.cells #[.int .i64 off, .slice A1 week.length c1, .slice A2 closed.length c2] 24)).alloc (.cells #[.int .i64 lvs, .int .i64 frs, .int .i64 ls, .int .i64 dus] 26)) A2 closed.length closed ∧ closed.length ≤ c2) := ⟨⟨Kd.C_below h2.1 HB_1.out, h2.2⟩⟩
  clear h1 h2
  have HL := Aside0.mk hL
  clear hL
  go_enter Try.func3, Try.ntmps3
  go_wp2_with fail
  generalize ((w.alloc (.cells #[.int .i64 off, .slice A1 week.length c1, .slice A2 closed.length c2] 24)).alloc (.cells #[.int .i64 lvs, .int .i64 frs, .int .i64 ls, .int .i64 dus] 26)) = w1 at HB_1 B_1 Bs_1 R1_1 R2_1 ⊢
  have d0 : w1.cell? ⟨w.heap.size, 0, none⟩ = some (.int .i64 off) := (blk_cell B_1.out 0).trans rfl
  have d1 : w1.cell? ⟨w.heap.size, 1, none⟩ = some (.slice A1 week.length c1) := (blk_cell B_1.out 1).trans rfl
  have d2 : w1.cell? ⟨w.heap.size, 2, none⟩ = some (.slice A2 closed.length c2) := (blk_cell B_1.out 2).trans rfl
  have ds0 : w1.cell? ⟨w.heap.size + 1, 0, none⟩ = some (.int .i64 lvs) := (blk_cell Bs_1.out 0).trans rfl
  have ds1 : w1.cell? ⟨w.heap.size + 1, 1, none⟩ = some (.int .i64 frs) := (blk_cell Bs_1.out 1).trans rfl
  have ds2 : w1.cell? ⟨w.heap.size + 1, 2, none⟩ = some (.int .i64 ls) := (blk_cell Bs_1.out 2).trans rfl
  have ds3 : w1.cell? ⟨w.heap.size + 1, 3, none⟩ = some (.int .i64 dus) := (blk_cell Bs_1.out 3).trans rfl
  go_wp2_with (first | (go_at_call 7; with_reducible refine (light15_none w1 R1_1.out R2_1.out).mono ?_; rintro e w2 ⟨rfl, hb⟩; rw [HL.out]; clear d0 d1 d2 ds0 ds1 ds2 ds3; have B_2 := Aside0.mk (blk_below B_1.out hb); have Bs_2 := Aside0.mk (blk_below Bs_1.out hb); have R1_2 : Aside0 (Kd.C k78 w2 A1 week.length week ∧ week.length ≤ c1) := ⟨⟨Kd.C_below R1_1.out.1 hb, R1_1.out.2⟩⟩; have R2_2 : Aside0 (Kd.C k78 w2 A2 closed.length closed ∧ closed.length ≤ c2) := ⟨⟨Kd.C_below R2_1.out.1 hb, R2_1.out.2⟩⟩; have HB_2 := Aside0.mk (below_step HB_1.out hb); have hs_2 : w1.heap.size ≤ w2.heap.size := hb.size; clear hb; have d0 : w2.cell? ⟨w.heap.size, 0, none⟩ = some (.int .i64 off) := (blk_cell B_2.out 0).trans rfl; have d1 : w2.cell? ⟨w.heap.size, 1, none⟩ = some (.slice A1 week.length c1) := (blk_cell B_2.out 1).trans rfl; have d2 : w2.cell? ⟨w.heap.size, 2, none⟩ = some (.slice A2 closed.length c2) := (blk_cell B_2.out 2).trans rfl; have ds0 : w2.cell? ⟨w.heap.size + 1, 0, none⟩ = some (.int .i64 lvs) := (blk_cell Bs_2.out 0).trans rfl; have ds1 : w2.cell? ⟨w.heap.size + 1, 1, none⟩ = some (.int .i64 frs) := (blk_cell Bs_2.out 1).trans rfl; have ds2 : w2.cell? ⟨w.heap.size + 1, 2, none⟩ = some (.int .i64 ls) := (blk_cell Bs_2.out 2).trans rfl; have ds3 : w2.cell? ⟨w.heap.size + 1, 3, none⟩ = some (.int .i64 dus) := (blk_cell Bs_2.out 3).trans rfl) | (go_at_call 9; with_reducible refine (lives15_any w2).mono ?_; rintro e w3 ⟨rfl, hb⟩; clear d0 d1 d2 ds0 ds1 ds2 ds3; have B_3 := Aside0.mk (blk_below B_2.out hb); have Bs_3 := Aside0.mk (blk_below Bs_2.out hb); have R1_3 : Aside0 (Kd.C k78 w3 A1 week.length week ∧ week.length ≤ c1) := ⟨⟨Kd.C_below R1_2.out.1 hb, R1_2.out.2⟩⟩; have R2_3 : Aside0 (Kd.C k78 w3 A2 closed.length closed ∧ closed.length ≤ c2) := ⟨⟨Kd.C_below R2_2.out.1 hb, R2_2.out.2⟩⟩; have HB_3 := Aside0.mk (below_step HB_2.out hb); have hs_3 : w2.heap.size ≤ w3.heap.size := hb.size; clear hb; have d0 : w3.cell? ⟨w.heap.size, 0, none⟩ = some (.int .i64 off) := (blk_cell B_3.out 0).trans rfl; have d1 : w3.cell? ⟨w.heap.size, 1, none⟩ = some (.slice A1 week.length c1) := (blk_cell B_3.out 1).trans rfl; have d2 : w3.cell? ⟨w.heap.size, 2, none⟩ = some (.slice A2 closed.length c2) := (blk_cell B_3.out 2).trans rfl; have ds0 : w3.cell? ⟨w.heap.size + 1, 0, none⟩ = some (.int .i64 lvs) := (blk_cell Bs_3.out 0).trans rfl; have ds1 : w3.cell? ⟨w.heap.size + 1, 1, none⟩ = some (.int .i64 frs) := (blk_cell Bs_3.out 1).trans rfl; have ds2 : w3.cell? ⟨w.heap.size + 1, 2, none⟩ = some (.int .i64 ls) := (blk_cell Bs_3.out 2).trans rfl; have ds3 : w3.cell? ⟨w.heap.size + 1, 3, none⟩ = some (.int .i64 dus) := (blk_cell Bs_3.out 3).trans rfl))
  go_ret
  exact ⟨rfl, HB_3.out⟩
set_option maxHeartbeats 4000000 in
set_option maxRecDepth 100000 in
theorem stands_check {off : Int} {week closed : List S78} {A1 A2 : Option Addr} {c1 c2 : Nat} {lvs frs ls dus : Int} {now : Int} (w : World) (h1 : Kd.C k78 w A1 week.length week ∧ week.length ≤ c1) (h2 : Kd.C k78 w A2 closed.length closed ∧ closed.length ≤ c2) (hL : lightP week closed = true) (hE : calErr off week closed ≠ 0) :
    Calls Try.prog 3 #[.agg #[.int .i64 off, .slice A1 week.length c1, .slice A2 closed.length c2], .agg #[.int .i64 lvs, .int .i64 frs, .int .i64 ls, .int .i64 dus], .int .i64 now] w fun e w' => e = .returned (.bool true) ∧ Below w.heap.size w w' := by
  have hnot : ∀ (x : Bool) (w : World), (Op.unary .not (.bool x)).run Try.prog w = .ok (.bool (!x)) w := fun _ _ => rfl
  have HB_1 : Aside0 (Below w.heap.size w ((w.alloc (.cells #[.int .i64 off, .slice A1 week.length c1, .slice A2 closed.length c2] 24)).alloc (.cells #[.int .i64 lvs, .int .i64 frs, .int .i64 ls, .int .i64 dus] 26))) := ⟨(below_alloc (below_alloc (Below.refl w.heap.size w) (.cells #[.int .i64 off, .slice A1 week.length c1, .slice A2 closed.length c2] 24)) (.cells #[.int .i64 lvs, .int .i64 frs, .int .i64 ls, .int .i64 dus] 26))⟩
  have B_1 : Aside0 (((w.alloc (.cells #[.int .i64 off, .slice A1 week.length c1, .slice A2 closed.length c2] 24)).alloc (.cells #[.int .i64 lvs, .int .i64 frs, .int .i64 ls, .int .i64 dus] 26)).heap[w.heap.size]? = some (.cells #[.int .i64 off, .slice A1 week.length c1, .slice A2 closed.length c2] 24 (0, 0))) := ⟨(blk_alloc (blk_new w _) _)⟩
  have Bs_1 : Aside0 (((w.alloc (.cells #[.int .i64 off, .slice A1 week.length c1, .slice A2 closed.length c2] 24)).alloc (.cells #[.int .i64 lvs, .int .i64 frs, .int .i64 ls, .int .i64 dus] 26)).heap[w.heap.size + 1]? = some (.cells #[.int .i64 lvs, .int .i64 frs, .int .i64 ls, .int .i64 dus] 26 (0, 0))) := ⟨(by simpa using blk_new (w.alloc (.cells #[.int .i64 off, .slice A1 week.length c1, .slice A2 closed.length c2] 24)) (.cells #[.int .i64 lvs, .int .i64 frs, .int .i64 ls, .int .i64 dus] 26))⟩
  have R1_1 : Aside0 (Kd.C k78 ((w.alloc (.cells #[.int .i64 off, .slice A1 week.length c1, .slice A2 closed.length c2] 24)).alloc (.cells #[.int .i64 lvs, .int .i64 frs, .int .i64 ls, .int .i64 dus] 26)) A1 week.length week ∧ week.length ≤ c1) := ⟨⟨Kd.C_below h1.1 HB_1.out, h1.2⟩⟩
  have R2_1 : Aside0 (Kd.C k78 ((w.alloc (.cells #[.int .i64 off, .slice A1 week.length c1, .slice A2 closed.length c2] 24)).alloc (.cells #[.int .i64 lvs, .int .i64 frs, .int .i64 ls, .int .i64 dus] 26)) A2 closed.length closed ∧ closed.length ≤ c2) := ⟨⟨Kd.C_below h2.1 HB_1.out, h2.2⟩⟩
  clear h1 h2
  have HL := Aside0.mk hL
  have hE1 : (calErr off week closed != 0) = true := bne_iff_ne.mpr hE
  clear hL hE
  go_enter Try.func3, Try.ntmps3
  go_wp2_with fail
  generalize ((w.alloc (.cells #[.int .i64 off, .slice A1 week.length c1, .slice A2 closed.length c2] 24)).alloc (.cells #[.int .i64 lvs, .int .i64 frs, .int .i64 ls, .int .i64 dus] 26)) = w1 at HB_1 B_1 Bs_1 R1_1 R2_1 ⊢
  have d0 : w1.cell? ⟨w.heap.size, 0, none⟩ = some (.int .i64 off) := (blk_cell B_1.out 0).trans rfl
  have d1 : w1.cell? ⟨w.heap.size, 1, none⟩ = some (.slice A1 week.length c1) := (blk_cell B_1.out 1).trans rfl
  have d2 : w1.cell? ⟨w.heap.size, 2, none⟩ = some (.slice A2 closed.length c2) := (blk_cell B_1.out 2).trans rfl
  have ds0 : w1.cell? ⟨w.heap.size + 1, 0, none⟩ = some (.int .i64 lvs) := (blk_cell Bs_1.out 0).trans rfl
  have ds1 : w1.cell? ⟨w.heap.size + 1, 1, none⟩ = some (.int .i64 frs) := (blk_cell Bs_1.out 1).trans rfl
  have ds2 : w1.cell? ⟨w.heap.size + 1, 2, none⟩ = some (.int .i64 ls) := (blk_cell Bs_1.out 2).trans rfl
  have ds3 : w1.cell? ⟨w.heap.size + 1, 3, none⟩ = some (.int .i64 dus) := (blk_cell Bs_1.out 3).trans rfl
  go_wp2_with (first | (go_at_call 7; with_reducible refine (light15_none w1 R1_1.out R2_1.out).mono ?_; rintro e w2 ⟨rfl, hb⟩; rw [HL.out]; clear d0 d1 d2 ds0 ds1 ds2 ds3; have B_2 := Aside0.mk (blk_below B_1.out hb); have Bs_2 := Aside0.mk (blk_below Bs_1.out hb); have R1_2 : Aside0 (Kd.C k78 w2 A1 week.length week ∧ week.length ≤ c1) := ⟨⟨Kd.C_below R1_1.out.1 hb, R1_1.out.2⟩⟩; have R2_2 : Aside0 (Kd.C k78 w2 A2 closed.length closed ∧ closed.length ≤ c2) := ⟨⟨Kd.C_below R2_1.out.1 hb, R2_1.out.2⟩⟩; have HB_2 := Aside0.mk (below_step HB_1.out hb); have hs_2 : w1.heap.size ≤ w2.heap.size := hb.size; clear hb; have d0 : w2.cell? ⟨w.heap.size, 0, none⟩ = some (.int .i64 off) := (blk_cell B_2.out 0).trans rfl; have d1 : w2.cell? ⟨w.heap.size, 1, none⟩ = some (.slice A1 week.length c1) := (blk_cell B_2.out 1).trans rfl; have d2 : w2.cell? ⟨w.heap.size, 2, none⟩ = some (.slice A2 closed.length c2) := (blk_cell B_2.out 2).trans rfl; have ds0 : w2.cell? ⟨w.heap.size + 1, 0, none⟩ = some (.int .i64 lvs) := (blk_cell Bs_2.out 0).trans rfl; have ds1 : w2.cell? ⟨w.heap.size + 1, 1, none⟩ = some (.int .i64 frs) := (blk_cell Bs_2.out 1).trans rfl; have ds2 : w2.cell? ⟨w.heap.size + 1, 2, none⟩ = some (.int .i64 ls) := (blk_cell Bs_2.out 2).trans rfl; have ds3 : w2.cell? ⟨w.heap.size + 1, 3, none⟩ = some (.int .i64 dus) := (blk_cell Bs_2.out 3).trans rfl) | (go_at_call 8; with_reducible refine (refcheck_any w2 R1_2.out R2_2.out).mono ?_; rintro e w3 ⟨rfl, hb⟩; clear d0 d1 d2 ds0 ds1 ds2 ds3; have B_3 := Aside0.mk (blk_below B_2.out hb); have Bs_3 := Aside0.mk (blk_below Bs_2.out hb); have R1_3 : Aside0 (Kd.C k78 w3 A1 week.length week ∧ week.length ≤ c1) := ⟨⟨Kd.C_below R1_2.out.1 hb, R1_2.out.2⟩⟩; have R2_3 : Aside0 (Kd.C k78 w3 A2 closed.length closed ∧ closed.length ≤ c2) := ⟨⟨Kd.C_below R2_2.out.1 hb, R2_2.out.2⟩⟩; have HB_3 := Aside0.mk (below_step HB_2.out hb); have hs_3 : w2.heap.size ≤ w3.heap.size := hb.size; clear hb; have d0 : w3.cell? ⟨w.heap.size, 0, none⟩ = some (.int .i64 off) := (blk_cell B_3.out 0).trans rfl; have d1 : w3.cell? ⟨w.heap.size, 1, none⟩ = some (.slice A1 week.length c1) := (blk_cell B_3.out 1).trans rfl; have d2 : w3.cell? ⟨w.heap.size, 2, none⟩ = some (.slice A2 closed.length c2) := (blk_cell B_3.out 2).trans rfl; have ds0 : w3.cell? ⟨w.heap.size + 1, 0, none⟩ = some (.int .i64 lvs) := (blk_cell Bs_3.out 0).trans rfl; have ds1 : w3.cell? ⟨w.heap.size + 1, 1, none⟩ = some (.int .i64 frs) := (blk_cell Bs_3.out 1).trans rfl; have ds2 : w3.cell? ⟨w.heap.size + 1, 2, none⟩ = some (.int .i64 ls) := (blk_cell Bs_3.out 2).trans rfl; have ds3 : w3.cell? ⟨w.heap.size + 1, 3, none⟩ = some (.int .i64 dus) := (blk_cell Bs_3.out 3).trans rfl) | (go_at_call 9; with_reducible refine (lives15_any w3).mono ?_; rintro e w4 ⟨rfl, hb⟩; clear d0 d1 d2 ds0 ds1 ds2 ds3; have B_4 := Aside0.mk (blk_below B_3.out hb); have Bs_4 := Aside0.mk (blk_below Bs_3.out hb); have R1_4 : Aside0 (Kd.C k78 w4 A1 week.length week ∧ week.length ≤ c1) := ⟨⟨Kd.C_below R1_3.out.1 hb, R1_3.out.2⟩⟩; have R2_4 : Aside0 (Kd.C k78 w4 A2 closed.length closed ∧ closed.length ≤ c2) := ⟨⟨Kd.C_below R2_3.out.1 hb, R2_3.out.2⟩⟩; have HB_4 := Aside0.mk (below_step HB_3.out hb); have hs_4 : w3.heap.size ≤ w4.heap.size := hb.size; clear hb; have d0 : w4.cell? ⟨w.heap.size, 0, none⟩ = some (.int .i64 off) := (blk_cell B_4.out 0).trans rfl; have d1 : w4.cell? ⟨w.heap.size, 1, none⟩ = some (.slice A1 week.length c1) := (blk_cell B_4.out 1).trans rfl; have d2 : w4.cell? ⟨w.heap.size, 2, none⟩ = some (.slice A2 closed.length c2) := (blk_cell B_4.out 2).trans rfl; have ds0 : w4.cell? ⟨w.heap.size + 1, 0, none⟩ = some (.int .i64 lvs) := (blk_cell Bs_4.out 0).trans rfl; have ds1 : w4.cell? ⟨w.heap.size + 1, 1, none⟩ = some (.int .i64 frs) := (blk_cell Bs_4.out 1).trans rfl; have ds2 : w4.cell? ⟨w.heap.size + 1, 2, none⟩ = some (.int .i64 ls) := (blk_cell Bs_4.out 2).trans rfl; have ds3 : w4.cell? ⟨w.heap.size + 1, 3, none⟩ = some (.int .i64 dus) := (blk_cell Bs_4.out 3).trans rfl))
  go_ret
  exact ⟨rfl, HB_4.out⟩
set_option maxHeartbeats 4000000 in
set_option maxRecDepth 100000 in
theorem stands_main {off : Int} {week closed : List S78} {A1 A2 : Option Addr} {c1 c2 : Nat} {lvs frs ls dus : Int} {now : Int} (w : World) (h1 : Kd.C k78 w A1 week.length week ∧ week.length ≤ c1) (h2 : Kd.C k78 w A2 closed.length closed ∧ closed.length ≤ c2) (hl : ls ≤ 9223372036854775807) (hL : lightP week closed = true) (hE : calErr off week closed = 0) :
    Calls Try.prog 3 #[.agg #[.int .i64 off, .slice A1 week.length c1, .slice A2 closed.length c2], .agg #[.int .i64 lvs, .int .i64 frs, .int .i64 ls, .int .i64 dus], .int .i64 now] w fun e w' => e = .returned (.bool true) ∧ Below w.heap.size w w' := by
  have hnot : ∀ (x : Bool) (w : World), (Op.unary .not (.bool x)).run Try.prog w = .ok (.bool (!x)) w := fun _ _ => rfl
  have HB_1 : Aside0 (Below w.heap.size w ((w.alloc (.cells #[.int .i64 off, .slice A1 week.length c1, .slice A2 closed.length c2] 24)).alloc (.cells #[.int .i64 lvs, .int .i64 frs, .int .i64 ls, .int .i64 dus] 26))) := ⟨(below_alloc (below_alloc (Below.refl w.heap.size w) (.cells #[.int .i64 off, .slice A1 week.length c1, .slice A2 closed.length c2] 24)) (.cells #[.int .i64 lvs, .int .i64 frs, .int .i64 ls, .int .i64 dus] 26))⟩
  have B_1 : Aside0 (((w.alloc (.cells #[.int .i64 off, .slice A1 week.length c1, .slice A2 closed.length c2] 24)).alloc (.cells #[.int .i64 lvs, .int .i64 frs, .int .i64 ls, .int .i64 dus] 26)).heap[w.heap.size]? = some (.cells #[.int .i64 off, .slice A1 week.length c1, .slice A2 closed.length c2] 24 (0, 0))) := ⟨(blk_alloc (blk_new w _) _)⟩
  have Bs_1 : Aside0 (((w.alloc (.cells #[.int .i64 off, .slice A1 week.length c1, .slice A2 closed.length c2] 24)).alloc (.cells #[.int .i64 lvs, .int .i64 frs, .int .i64 ls, .int .i64 dus] 26)).heap[w.heap.size + 1]? = some (.cells #[.int .i64 lvs, .int .i64 frs, .int .i64 ls, .int .i64 dus] 26 (0, 0))) := ⟨(by simpa using blk_new (w.alloc (.cells #[.int .i64 off, .slice A1 week.length c1, .slice A2 closed.length c2] 24)) (.cells #[.int .i64 lvs, .int .i64 frs, .int .i64 ls, .int .i64 dus] 26))⟩
  have R1_1 : Aside0 (Kd.C k78 ((w.alloc (.cells #[.int .i64 off, .slice A1 week.length c1, .slice A2 closed.length c2] 24)).alloc (.cells #[.int .i64 lvs, .int .i64 frs, .int .i64 ls, .int .i64 dus] 26)) A1 week.length week ∧ week.length ≤ c1) := ⟨⟨Kd.C_below h1.1 HB_1.out, h1.2⟩⟩
  have R2_1 : Aside0 (Kd.C k78 ((w.alloc (.cells #[.int .i64 off, .slice A1 week.length c1, .slice A2 closed.length c2] 24)).alloc (.cells #[.int .i64 lvs, .int .i64 frs, .int .i64 ls, .int .i64 dus] 26)) A2 closed.length closed ∧ closed.length ≤ c2) := ⟨⟨Kd.C_below h2.1 HB_1.out, h2.2⟩⟩
  clear h1 h2
  have HL := Aside0.mk hL
  have HE := Aside0.mk hE
  have HK := Aside0.mk (calErr_ok hE)
  obtain ⟨⟨a, b, c, d, e⟩, hx⟩ : ∃ p, standP off week closed lvs frs ls dus now = p := ⟨_, rfl⟩
  obtain ⟨⟨a', b', c', d', e'⟩, hy⟩ : ∃ p, goP off week closed lvs ls dus now = p := ⟨_, rfl⟩
  have HX := Aside0.mk hx
  have HY := Aside0.mk hy
  clear hL hE hx hy
  go_enter Try.func3, Try.ntmps3
  go_wp2_with fail
  generalize ((w.alloc (.cells #[.int .i64 off, .slice A1 week.length c1, .slice A2 closed.length c2] 24)).alloc (.cells #[.int .i64 lvs, .int .i64 frs, .int .i64 ls, .int .i64 dus] 26)) = w1 at HB_1 B_1 Bs_1 R1_1 R2_1 ⊢
  have d0 : w1.cell? ⟨w.heap.size, 0, none⟩ = some (.int .i64 off) := (blk_cell B_1.out 0).trans rfl
  have d1 : w1.cell? ⟨w.heap.size, 1, none⟩ = some (.slice A1 week.length c1) := (blk_cell B_1.out 1).trans rfl
  have d2 : w1.cell? ⟨w.heap.size, 2, none⟩ = some (.slice A2 closed.length c2) := (blk_cell B_1.out 2).trans rfl
  have ds0 : w1.cell? ⟨w.heap.size + 1, 0, none⟩ = some (.int .i64 lvs) := (blk_cell Bs_1.out 0).trans rfl
  have ds1 : w1.cell? ⟨w.heap.size + 1, 1, none⟩ = some (.int .i64 frs) := (blk_cell Bs_1.out 1).trans rfl
  have ds2 : w1.cell? ⟨w.heap.size + 1, 2, none⟩ = some (.int .i64 ls) := (blk_cell Bs_1.out 2).trans rfl
  have ds3 : w1.cell? ⟨w.heap.size + 1, 3, none⟩ = some (.int .i64 dus) := (blk_cell Bs_1.out 3).trans rfl
  go_upto_region 5 with (first | (go_at_call 7; with_reducible refine (light15_none w1 R1_1.out R2_1.out).mono ?_; rintro e w2 ⟨rfl, hb⟩; rw [HL.out]; clear d0 d1 d2 ds0 ds1 ds2 ds3; have B_2 := Aside0.mk (blk_below B_1.out hb); have Bs_2 := Aside0.mk (blk_below Bs_1.out hb); have R1_2 : Aside0 (Kd.C k78 w2 A1 week.length week ∧ week.length ≤ c1) := ⟨⟨Kd.C_below R1_1.out.1 hb, R1_1.out.2⟩⟩; have R2_2 : Aside0 (Kd.C k78 w2 A2 closed.length closed ∧ closed.length ≤ c2) := ⟨⟨Kd.C_below R2_1.out.1 hb, R2_1.out.2⟩⟩; have HB_2 := Aside0.mk (below_step HB_1.out hb); have hs_2 : w1.heap.size ≤ w2.heap.size := hb.size; clear hb; have d0 : w2.cell? ⟨w.heap.size, 0, none⟩ = some (.int .i64 off) := (blk_cell B_2.out 0).trans rfl; have d1 : w2.cell? ⟨w.heap.size, 1, none⟩ = some (.slice A1 week.length c1) := (blk_cell B_2.out 1).trans rfl; have d2 : w2.cell? ⟨w.heap.size, 2, none⟩ = some (.slice A2 closed.length c2) := (blk_cell B_2.out 2).trans rfl; have ds0 : w2.cell? ⟨w.heap.size + 1, 0, none⟩ = some (.int .i64 lvs) := (blk_cell Bs_2.out 0).trans rfl; have ds1 : w2.cell? ⟨w.heap.size + 1, 1, none⟩ = some (.int .i64 frs) := (blk_cell Bs_2.out 1).trans rfl; have ds2 : w2.cell? ⟨w.heap.size + 1, 2, none⟩ = some (.int .i64 ls) := (blk_cell Bs_2.out 2).trans rfl; have ds3 : w2.cell? ⟨w.heap.size + 1, 3, none⟩ = some (.int .i64 dus) := (blk_cell Bs_2.out 3).trans rfl) | (go_at_call 8; with_reducible refine (refcheck_any w2 R1_2.out R2_2.out).mono ?_; rintro e w3 ⟨rfl, hb⟩; rw [HE.out]; clear d0 d1 d2 ds0 ds1 ds2 ds3; have B_3 := Aside0.mk (blk_below B_2.out hb); have Bs_3 := Aside0.mk (blk_below Bs_2.out hb); have R1_3 : Aside0 (Kd.C k78 w3 A1 week.length week ∧ week.length ≤ c1) := ⟨⟨Kd.C_below R1_2.out.1 hb, R1_2.out.2⟩⟩; have R2_3 : Aside0 (Kd.C k78 w3 A2 closed.length closed ∧ closed.length ≤ c2) := ⟨⟨Kd.C_below R2_2.out.1 hb, R2_2.out.2⟩⟩; have HB_3 := Aside0.mk (below_step HB_2.out hb); have hs_3 : w2.heap.size ≤ w3.heap.size := hb.size; clear hb; have d0 : w3.cell? ⟨w.heap.size, 0, none⟩ = some (.int .i64 off) := (blk_cell B_3.out 0).trans rfl; have d1 : w3.cell? ⟨w.heap.size, 1, none⟩ = some (.slice A1 week.length c1) := (blk_cell B_3.out 1).trans rfl; have d2 : w3.cell? ⟨w.heap.size, 2, none⟩ = some (.slice A2 closed.length c2) := (blk_cell B_3.out 2).trans rfl; have ds0 : w3.cell? ⟨w.heap.size + 1, 0, none⟩ = some (.int .i64 lvs) := (blk_cell Bs_3.out 0).trans rfl; have ds1 : w3.cell? ⟨w.heap.size + 1, 1, none⟩ = some (.int .i64 frs) := (blk_cell Bs_3.out 1).trans rfl; have ds2 : w3.cell? ⟨w.heap.size + 1, 2, none⟩ = some (.int .i64 ls) := (blk_cell Bs_3.out 2).trans rfl; have ds3 : w3.cell? ⟨w.heap.size + 1, 3, none⟩ = some (.int .i64 dus) := (blk_cell Bs_3.out 3).trans rfl) | (go_at_call 10; with_reducible refine (calnew_ok w3 R1_3.out R2_3.out HE.out).mono ?_; rintro e w4 ⟨kb, ab, pb, cb, rfl, CK, hb⟩; clear d0 d1 d2 ds0 ds1 ds2 ds3; have B_4 := Aside0.mk (blk_below B_3.out hb); have Bs_4 := Aside0.mk (blk_below Bs_3.out hb); have R1_4 : Aside0 (Kd.C k78 w4 A1 week.length week ∧ week.length ≤ c1) := ⟨⟨Kd.C_below R1_3.out.1 hb, R1_3.out.2⟩⟩; have R2_4 : Aside0 (Kd.C k78 w4 A2 closed.length closed ∧ closed.length ≤ c2) := ⟨⟨Kd.C_below R2_3.out.1 hb, R2_3.out.2⟩⟩; have HB_4 := Aside0.mk (below_step HB_3.out hb); have HQ_4 := Aside0.mk hb; have hs_4 : w3.heap.size ≤ w4.heap.size := hb.size; have hcb := CK.lt; have hncb : w3.heap.size ≤ cb := CK.plan.ncb; have HC_4 := Aside0.mk CK; clear hb CK; have d0 : w4.cell? ⟨w.heap.size, 0, none⟩ = some (.int .i64 off) := (blk_cell B_4.out 0).trans rfl; have d1 : w4.cell? ⟨w.heap.size, 1, none⟩ = some (.slice A1 week.length c1) := (blk_cell B_4.out 1).trans rfl; have d2 : w4.cell? ⟨w.heap.size, 2, none⟩ = some (.slice A2 closed.length c2) := (blk_cell B_4.out 2).trans rfl; have ds0 : w4.cell? ⟨w.heap.size + 1, 0, none⟩ = some (.int .i64 lvs) := (blk_cell Bs_4.out 0).trans rfl; have ds1 : w4.cell? ⟨w.heap.size + 1, 1, none⟩ = some (.int .i64 frs) := (blk_cell Bs_4.out 1).trans rfl; have ds2 : w4.cell? ⟨w.heap.size + 1, 2, none⟩ = some (.int .i64 ls) := (blk_cell Bs_4.out 2).trans rfl; have ds3 : w4.cell? ⟨w.heap.size + 1, 3, none⟩ = some (.int .i64 dus) := (blk_cell Bs_4.out 3).trans rfl) | (go_at_call 11; with_reducible refine (stand_any HK.out lvs frs ls dus now a b c d e w4 HC_4.out HQ_4.out.size hl HX.out).mono ?_; rintro e w5 ⟨rfl, CK, UK⟩; clear d0 d1 d2 ds0 ds1 ds2 ds3; have HQ_5 := Aside0.mk (upd_below' HQ_4.out UK hncb HQ_4.out.size); have hs_5 : w4.heap.size ≤ w5.heap.size := UK.size; have B_5 := Aside0.mk (blk_below B_3.out HQ_5.out); have Bs_5 := Aside0.mk (blk_below Bs_3.out HQ_5.out); have R1_5 : Aside0 (Kd.C k78 w5 A1 week.length week ∧ week.length ≤ c1) := ⟨⟨Kd.C_below R1_3.out.1 HQ_5.out, R1_3.out.2⟩⟩; have R2_5 : Aside0 (Kd.C k78 w5 A2 closed.length closed ∧ closed.length ≤ c2) := ⟨⟨Kd.C_below R2_3.out.1 HQ_5.out, R2_3.out.2⟩⟩; have HB_5 := Aside0.mk (below_step HB_3.out HQ_5.out); have HC_5 := Aside0.mk CK; clear CK UK; have d0 : w5.cell? ⟨w.heap.size, 0, none⟩ = some (.int .i64 off) := (blk_cell B_5.out 0).trans rfl; have d1 : w5.cell? ⟨w.heap.size, 1, none⟩ = some (.slice A1 week.length c1) := (blk_cell B_5.out 1).trans rfl; have d2 : w5.cell? ⟨w.heap.size, 2, none⟩ = some (.slice A2 closed.length c2) := (blk_cell B_5.out 2).trans rfl; have ds0 : w5.cell? ⟨w.heap.size + 1, 0, none⟩ = some (.int .i64 lvs) := (blk_cell Bs_5.out 0).trans rfl; have ds1 : w5.cell? ⟨w.heap.size + 1, 1, none⟩ = some (.int .i64 frs) := (blk_cell Bs_5.out 1).trans rfl; have ds2 : w5.cell? ⟨w.heap.size + 1, 2, none⟩ = some (.int .i64 ls) := (blk_cell Bs_5.out 2).trans rfl; have ds3 : w5.cell? ⟨w.heap.size + 1, 3, none⟩ = some (.int .i64 dus) := (blk_cell Bs_5.out 3).trans rfl))
  clear d0 d1 d2 ds0 ds1 ds2 ds3
  have hb : Below w5.heap.size w5 (w5.alloc (.cells #[.int .i64 a, .int .i64 b, .int .i64 c, .int .i64 d] 26)) := below_alloc (Below.refl _ _) _
  have Bx_6 := Aside0.mk (blk_new w5 (.cells #[.int .i64 a, .int .i64 b, .int .i64 c, .int .i64 d] 26))
  have B_6 := Aside0.mk (blk_below B_5.out hb)
  have Bs_6 := Aside0.mk (blk_below Bs_5.out hb)
  have R1_6 : Aside0 (Kd.C k78 (w5.alloc (.cells #[.int .i64 a, .int .i64 b, .int .i64 c, .int .i64 d] 26)) A1 week.length week ∧ week.length ≤ c1) := ⟨⟨Kd.C_below R1_5.out.1 hb, R1_5.out.2⟩⟩
  have R2_6 : Aside0 (Kd.C k78 (w5.alloc (.cells #[.int .i64 a, .int .i64 b, .int .i64 c, .int .i64 d] 26)) A2 closed.length closed ∧ closed.length ≤ c2) := ⟨⟨Kd.C_below R2_5.out.1 hb, R2_5.out.2⟩⟩
  have HB_6 := Aside0.mk (below_step HB_5.out hb)
  have hs_6 : w5.heap.size ≤ (w5.alloc (.cells #[.int .i64 a, .int .i64 b, .int .i64 c, .int .i64 d] 26)).heap.size := hb.size
  have hz_6 : w5.heap.size < (w5.alloc (.cells #[.int .i64 a, .int .i64 b, .int .i64 c, .int .i64 d] 26)).heap.size := blk_lt Bx_6.out
  have HC_6 := Aside0.mk (HC_5.out.below hb)
  have HQ_6 := Aside0.mk (below_step HQ_5.out hb)
  clear hb
  generalize (w5.alloc (.cells #[.int .i64 a, .int .i64 b, .int .i64 c, .int .i64 d] 26)) = w6 at Bx_6 B_6 Bs_6 R1_6 R2_6 HB_6 hs_6 hz_6 HC_6 HQ_6 ⊢
  have d0 : w6.cell? ⟨w.heap.size, 0, none⟩ = some (.int .i64 off) := (blk_cell B_6.out 0).trans rfl
  have d1 : w6.cell? ⟨w.heap.size, 1, none⟩ = some (.slice A1 week.length c1) := (blk_cell B_6.out 1).trans rfl
  have d2 : w6.cell? ⟨w.heap.size, 2, none⟩ = some (.slice A2 closed.length c2) := (blk_cell B_6.out 2).trans rfl
  have ds0 : w6.cell? ⟨w.heap.size + 1, 0, none⟩ = some (.int .i64 lvs) := (blk_cell Bs_6.out 0).trans rfl
  have ds1 : w6.cell? ⟨w.heap.size + 1, 1, none⟩ = some (.int .i64 frs) := (blk_cell Bs_6.out 1).trans rfl
  have ds2 : w6.cell? ⟨w.heap.size + 1, 2, none⟩ = some (.int .i64 ls) := (blk_cell Bs_6.out 2).trans rfl
  have ds3 : w6.cell? ⟨w.heap.size + 1, 3, none⟩ = some (.int .i64 dus) := (blk_cell Bs_6.out 3).trans rfl
  have dx0 : w6.cell? ⟨w5.heap.size, 0, none⟩ = some (.int .i64 a) := (blk_cell Bx_6.out 0).trans rfl
  have dx1 : w6.cell? ⟨w5.heap.size, 1, none⟩ = some (.int .i64 b) := (blk_cell Bx_6.out 1).trans rfl
  have dx2 : w6.cell? ⟨w5.heap.size, 2, none⟩ = some (.int .i64 c) := (blk_cell Bx_6.out 2).trans rfl
  have dx3 : w6.cell? ⟨w5.heap.size, 3, none⟩ = some (.int .i64 d) := (blk_cell Bx_6.out 3).trans rfl
  go_upto_region 6 with (first | (go_at_call 12; with_reducible refine (refstand_any HK.out lvs frs ls dus now a b c d e w6 R1_6.out R2_6.out hl HX.out).mono ?_; rintro e w7 ⟨rfl, hb⟩; clear d0 d1 d2 ds0 ds1 ds2 ds3 dx0 dx1 dx2 dx3; have B_7 := Aside0.mk (blk_below B_6.out hb); have Bs_7 := Aside0.mk (blk_below Bs_6.out hb); have Bx_7 := Aside0.mk (blk_below Bx_6.out hb); have R1_7 : Aside0 (Kd.C k78 w7 A1 week.length week ∧ week.length ≤ c1) := ⟨⟨Kd.C_below R1_6.out.1 hb, R1_6.out.2⟩⟩; have R2_7 : Aside0 (Kd.C k78 w7 A2 closed.length closed ∧ closed.length ≤ c2) := ⟨⟨Kd.C_below R2_6.out.1 hb, R2_6.out.2⟩⟩; have HB_7 := Aside0.mk (below_step HB_6.out hb); have hs_7 : w6.heap.size ≤ w7.heap.size := hb.size; have HC_7 := Aside0.mk (HC_6.out.below hb); have HQ_7 := Aside0.mk (below_step HQ_6.out hb); clear hb; have d0 : w7.cell? ⟨w.heap.size, 0, none⟩ = some (.int .i64 off) := (blk_cell B_7.out 0).trans rfl; have d1 : w7.cell? ⟨w.heap.size, 1, none⟩ = some (.slice A1 week.length c1) := (blk_cell B_7.out 1).trans rfl; have d2 : w7.cell? ⟨w.heap.size, 2, none⟩ = some (.slice A2 closed.length c2) := (blk_cell B_7.out 2).trans rfl; have ds0 : w7.cell? ⟨w.heap.size + 1, 0, none⟩ = some (.int .i64 lvs) := (blk_cell Bs_7.out 0).trans rfl; have ds1 : w7.cell? ⟨w.heap.size + 1, 1, none⟩ = some (.int .i64 frs) := (blk_cell Bs_7.out 1).trans rfl; have ds2 : w7.cell? ⟨w.heap.size + 1, 2, none⟩ = some (.int .i64 ls) := (blk_cell Bs_7.out 2).trans rfl; have ds3 : w7.cell? ⟨w.heap.size + 1, 3, none⟩ = some (.int .i64 dus) := (blk_cell Bs_7.out 3).trans rfl; have dx0 : w7.cell? ⟨w5.heap.size, 0, none⟩ = some (.int .i64 a) := (blk_cell Bx_7.out 0).trans rfl; have dx1 : w7.cell? ⟨w5.heap.size, 1, none⟩ = some (.int .i64 b) := (blk_cell Bx_7.out 1).trans rfl; have dx2 : w7.cell? ⟨w5.heap.size, 2, none⟩ = some (.int .i64 c) := (blk_cell Bx_7.out 2).trans rfl; have dx3 : w7.cell? ⟨w5.heap.size, 3, none⟩ = some (.int .i64 d) := (blk_cell Bx_7.out 3).trans rfl))
  clear d0 d1 d2 ds0 ds1 ds2 ds3 dx0 dx1 dx2 dx3
  have hb : Below w7.heap.size w7 (w7.alloc (.cells #[.int .i64 a, .int .i64 b, .int .i64 c, .int .i64 d] 39)) := below_alloc (Below.refl _ _) _
  have By_8 := Aside0.mk (blk_new w7 (.cells #[.int .i64 a, .int .i64 b, .int .i64 c, .int .i64 d] 39))
  have B_8 := Aside0.mk (blk_below B_7.out hb)
  have Bs_8 := Aside0.mk (blk_below Bs_7.out hb)
  have Bx_8 := Aside0.mk (blk_below Bx_7.out hb)
  have R1_8 : Aside0 (Kd.C k78 (w7.alloc (.cells #[.int .i64 a, .int .i64 b, .int .i64 c, .int .i64 d] 39)) A1 week.length week ∧ week.length ≤ c1) := ⟨⟨Kd.C_below R1_7.out.1 hb, R1_7.out.2⟩⟩
  have R2_8 : Aside0 (Kd.C k78 (w7.alloc (.cells #[.int .i64 a, .int .i64 b, .int .i64 c, .int .i64 d] 39)) A2 closed.length closed ∧ closed.length ≤ c2) := ⟨⟨Kd.C_below R2_7.out.1 hb, R2_7.out.2⟩⟩
  have HB_8 := Aside0.mk (below_step HB_7.out hb)
  have hs_8 : w7.heap.size ≤ (w7.alloc (.cells #[.int .i64 a, .int .i64 b, .int .i64 c, .int .i64 d] 39)).heap.size := hb.size
  have hz_8 : w7.heap.size < (w7.alloc (.cells #[.int .i64 a, .int .i64 b, .int .i64 c, .int .i64 d] 39)).heap.size := blk_lt By_8.out
  have HC_8 := Aside0.mk (HC_7.out.below hb)
  have HQ_8 := Aside0.mk (below_step HQ_7.out hb)
  clear hb
  generalize (w7.alloc (.cells #[.int .i64 a, .int .i64 b, .int .i64 c, .int .i64 d] 39)) = w8 at By_8 B_8 Bs_8 Bx_8 R1_8 R2_8 HB_8 hs_8 hz_8 HC_8 HQ_8 ⊢
  have d0 : w8.cell? ⟨w.heap.size, 0, none⟩ = some (.int .i64 off) := (blk_cell B_8.out 0).trans rfl
  have d1 : w8.cell? ⟨w.heap.size, 1, none⟩ = some (.slice A1 week.length c1) := (blk_cell B_8.out 1).trans rfl
  have d2 : w8.cell? ⟨w.heap.size, 2, none⟩ = some (.slice A2 closed.length c2) := (blk_cell B_8.out 2).trans rfl
  have ds0 : w8.cell? ⟨w.heap.size + 1, 0, none⟩ = some (.int .i64 lvs) := (blk_cell Bs_8.out 0).trans rfl
  have ds1 : w8.cell? ⟨w.heap.size + 1, 1, none⟩ = some (.int .i64 frs) := (blk_cell Bs_8.out 1).trans rfl
  have ds2 : w8.cell? ⟨w.heap.size + 1, 2, none⟩ = some (.int .i64 ls) := (blk_cell Bs_8.out 2).trans rfl
  have ds3 : w8.cell? ⟨w.heap.size + 1, 3, none⟩ = some (.int .i64 dus) := (blk_cell Bs_8.out 3).trans rfl
  have dx0 : w8.cell? ⟨w5.heap.size, 0, none⟩ = some (.int .i64 a) := (blk_cell Bx_8.out 0).trans rfl
  have dx1 : w8.cell? ⟨w5.heap.size, 1, none⟩ = some (.int .i64 b) := (blk_cell Bx_8.out 1).trans rfl
  have dx2 : w8.cell? ⟨w5.heap.size, 2, none⟩ = some (.int .i64 c) := (blk_cell Bx_8.out 2).trans rfl
  have dx3 : w8.cell? ⟨w5.heap.size, 3, none⟩ = some (.int .i64 d) := (blk_cell Bx_8.out 3).trans rfl
  have dy0 : w8.cell? ⟨w7.heap.size, 0, none⟩ = some (.int .i64 a) := (blk_cell By_8.out 0).trans rfl
  have dy1 : w8.cell? ⟨w7.heap.size, 1, none⟩ = some (.int .i64 b) := (blk_cell By_8.out 1).trans rfl
  have dy2 : w8.cell? ⟨w7.heap.size, 2, none⟩ = some (.int .i64 c) := (blk_cell By_8.out 2).trans rfl
  have dy3 : w8.cell? ⟨w7.heap.size, 3, none⟩ = some (.int .i64 d) := (blk_cell By_8.out 3).trans rfl
  go_upto_region 7 with (first | (go_at_call 13; with_reducible refine (go_any lvs frs ls dus now a' b' c' d' e' w8 HC_8.out HQ_8.out.size hl HY.out).mono ?_; rintro e w9 ⟨rfl, CK, UK⟩; clear d0 d1 d2 ds0 ds1 ds2 ds3 dx0 dx1 dx2 dx3 dy0 dy1 dy2 dy3; have HQ_9 := Aside0.mk (upd_below' HQ_8.out UK hncb HQ_8.out.size); have hs_9 : w8.heap.size ≤ w9.heap.size := UK.size; have B_9 := Aside0.mk (blk_below B_3.out HQ_9.out); have Bs_9 := Aside0.mk (blk_below Bs_3.out HQ_9.out); have Bx_9 := Aside0.mk (UK.blk Bx_8.out (by omega)); have By_9 := Aside0.mk (UK.blk By_8.out (by omega)); have R1_9 : Aside0 (Kd.C k78 w9 A1 week.length week ∧ week.length ≤ c1) := ⟨⟨Kd.C_below R1_3.out.1 HQ_9.out, R1_3.out.2⟩⟩; have R2_9 : Aside0 (Kd.C k78 w9 A2 closed.length closed ∧ closed.length ≤ c2) := ⟨⟨Kd.C_below R2_3.out.1 HQ_9.out, R2_3.out.2⟩⟩; have HB_9 := Aside0.mk (below_step HB_3.out HQ_9.out); have HC_9 := Aside0.mk CK; clear CK UK; have d0 : w9.cell? ⟨w.heap.size, 0, none⟩ = some (.int .i64 off) := (blk_cell B_9.out 0).trans rfl; have d1 : w9.cell? ⟨w.heap.size, 1, none⟩ = some (.slice A1 week.length c1) := (blk_cell B_9.out 1).trans rfl; have d2 : w9.cell? ⟨w.heap.size, 2, none⟩ = some (.slice A2 closed.length c2) := (blk_cell B_9.out 2).trans rfl; have ds0 : w9.cell? ⟨w.heap.size + 1, 0, none⟩ = some (.int .i64 lvs) := (blk_cell Bs_9.out 0).trans rfl; have ds1 : w9.cell? ⟨w.heap.size + 1, 1, none⟩ = some (.int .i64 frs) := (blk_cell Bs_9.out 1).trans rfl; have ds2 : w9.cell? ⟨w.heap.size + 1, 2, none⟩ = some (.int .i64 ls) := (blk_cell Bs_9.out 2).trans rfl; have ds3 : w9.cell? ⟨w.heap.size + 1, 3, none⟩ = some (.int .i64 dus) := (blk_cell Bs_9.out 3).trans rfl; have dx0 : w9.cell? ⟨w5.heap.size, 0, none⟩ = some (.int .i64 a) := (blk_cell Bx_9.out 0).trans rfl; have dx1 : w9.cell? ⟨w5.heap.size, 1, none⟩ = some (.int .i64 b) := (blk_cell Bx_9.out 1).trans rfl; have dx2 : w9.cell? ⟨w5.heap.size, 2, none⟩ = some (.int .i64 c) := (blk_cell Bx_9.out 2).trans rfl; have dx3 : w9.cell? ⟨w5.heap.size, 3, none⟩ = some (.int .i64 d) := (blk_cell Bx_9.out 3).trans rfl; have dy0 : w9.cell? ⟨w7.heap.size, 0, none⟩ = some (.int .i64 a) := (blk_cell By_9.out 0).trans rfl; have dy1 : w9.cell? ⟨w7.heap.size, 1, none⟩ = some (.int .i64 b) := (blk_cell By_9.out 1).trans rfl; have dy2 : w9.cell? ⟨w7.heap.size, 2, none⟩ = some (.int .i64 c) := (blk_cell By_9.out 2).trans rfl; have dy3 : w9.cell? ⟨w7.heap.size, 3, none⟩ = some (.int .i64 d) := (blk_cell By_9.out 3).trans rfl))
  clear d0 d1 d2 ds0 ds1 ds2 ds3 dx0 dx1 dx2 dx3 dy0 dy1 dy2 dy3
  have hb : Below w9.heap.size w9 (w9.alloc (.cells #[.int .i64 a', .int .i64 b', .int .i64 c', .int .i64 d'] 26)) := below_alloc (Below.refl _ _) _
  have Bz_10 := Aside0.mk (blk_new w9 (.cells #[.int .i64 a', .int .i64 b', .int .i64 c', .int .i64 d'] 26))
  have B_10 := Aside0.mk (blk_below B_9.out hb)
  have Bs_10 := Aside0.mk (blk_below Bs_9.out hb)
  have Bx_10 := Aside0.mk (blk_below Bx_9.out hb)
  have By_10 := Aside0.mk (blk_below By_9.out hb)
  have R1_10 : Aside0 (Kd.C k78 (w9.alloc (.cells #[.int .i64 a', .int .i64 b', .int .i64 c', .int .i64 d'] 26)) A1 week.length week ∧ week.length ≤ c1) := ⟨⟨Kd.C_below R1_9.out.1 hb, R1_9.out.2⟩⟩
  have R2_10 : Aside0 (Kd.C k78 (w9.alloc (.cells #[.int .i64 a', .int .i64 b', .int .i64 c', .int .i64 d'] 26)) A2 closed.length closed ∧ closed.length ≤ c2) := ⟨⟨Kd.C_below R2_9.out.1 hb, R2_9.out.2⟩⟩
  have HB_10 := Aside0.mk (below_step HB_9.out hb)
  have hs_10 : w9.heap.size ≤ (w9.alloc (.cells #[.int .i64 a', .int .i64 b', .int .i64 c', .int .i64 d'] 26)).heap.size := hb.size
  have hz_10 : w9.heap.size < (w9.alloc (.cells #[.int .i64 a', .int .i64 b', .int .i64 c', .int .i64 d'] 26)).heap.size := blk_lt Bz_10.out
  have HC_10 := Aside0.mk (HC_9.out.below hb)
  have HQ_10 := Aside0.mk (below_step HQ_9.out hb)
  clear hb
  generalize (w9.alloc (.cells #[.int .i64 a', .int .i64 b', .int .i64 c', .int .i64 d'] 26)) = w10 at Bz_10 B_10 Bs_10 Bx_10 By_10 R1_10 R2_10 HB_10 hs_10 hz_10 HC_10 HQ_10 ⊢
  have d0 : w10.cell? ⟨w.heap.size, 0, none⟩ = some (.int .i64 off) := (blk_cell B_10.out 0).trans rfl
  have d1 : w10.cell? ⟨w.heap.size, 1, none⟩ = some (.slice A1 week.length c1) := (blk_cell B_10.out 1).trans rfl
  have d2 : w10.cell? ⟨w.heap.size, 2, none⟩ = some (.slice A2 closed.length c2) := (blk_cell B_10.out 2).trans rfl
  have ds0 : w10.cell? ⟨w.heap.size + 1, 0, none⟩ = some (.int .i64 lvs) := (blk_cell Bs_10.out 0).trans rfl
  have ds1 : w10.cell? ⟨w.heap.size + 1, 1, none⟩ = some (.int .i64 frs) := (blk_cell Bs_10.out 1).trans rfl
  have ds2 : w10.cell? ⟨w.heap.size + 1, 2, none⟩ = some (.int .i64 ls) := (blk_cell Bs_10.out 2).trans rfl
  have ds3 : w10.cell? ⟨w.heap.size + 1, 3, none⟩ = some (.int .i64 dus) := (blk_cell Bs_10.out 3).trans rfl
  have dx0 : w10.cell? ⟨w5.heap.size, 0, none⟩ = some (.int .i64 a) := (blk_cell Bx_10.out 0).trans rfl
  have dx1 : w10.cell? ⟨w5.heap.size, 1, none⟩ = some (.int .i64 b) := (blk_cell Bx_10.out 1).trans rfl
  have dx2 : w10.cell? ⟨w5.heap.size, 2, none⟩ = some (.int .i64 c) := (blk_cell Bx_10.out 2).trans rfl
  have dx3 : w10.cell? ⟨w5.heap.size, 3, none⟩ = some (.int .i64 d) := (blk_cell Bx_10.out 3).trans rfl
  have dy0 : w10.cell? ⟨w7.heap.size, 0, none⟩ = some (.int .i64 a) := (blk_cell By_10.out 0).trans rfl
  have dy1 : w10.cell? ⟨w7.heap.size, 1, none⟩ = some (.int .i64 b) := (blk_cell By_10.out 1).trans rfl
  have dy2 : w10.cell? ⟨w7.heap.size, 2, none⟩ = some (.int .i64 c) := (blk_cell By_10.out 2).trans rfl
  have dy3 : w10.cell? ⟨w7.heap.size, 3, none⟩ = some (.int .i64 d) := (blk_cell By_10.out 3).trans rfl
  have dz0 : w10.cell? ⟨w9.heap.size, 0, none⟩ = some (.int .i64 a') := (blk_cell Bz_10.out 0).trans rfl
  have dz1 : w10.cell? ⟨w9.heap.size, 1, none⟩ = some (.int .i64 b') := (blk_cell Bz_10.out 1).trans rfl
  have dz2 : w10.cell? ⟨w9.heap.size, 2, none⟩ = some (.int .i64 c') := (blk_cell Bz_10.out 2).trans rfl
  have dz3 : w10.cell? ⟨w9.heap.size, 3, none⟩ = some (.int .i64 d') := (blk_cell Bz_10.out 3).trans rfl
  go_upto_region 8 with (first | (go_at_call 14; with_reducible refine (refgo_any HK.out lvs frs ls dus now a' b' c' d' e' w10 R1_10.out R2_10.out HY.out).mono ?_; rintro e w11 ⟨rfl, hb⟩; clear d0 d1 d2 ds0 ds1 ds2 ds3 dx0 dx1 dx2 dx3 dy0 dy1 dy2 dy3 dz0 dz1 dz2 dz3; have B_11 := Aside0.mk (blk_below B_10.out hb); have Bs_11 := Aside0.mk (blk_below Bs_10.out hb); have Bx_11 := Aside0.mk (blk_below Bx_10.out hb); have By_11 := Aside0.mk (blk_below By_10.out hb); have Bz_11 := Aside0.mk (blk_below Bz_10.out hb); have R1_11 : Aside0 (Kd.C k78 w11 A1 week.length week ∧ week.length ≤ c1) := ⟨⟨Kd.C_below R1_10.out.1 hb, R1_10.out.2⟩⟩; have R2_11 : Aside0 (Kd.C k78 w11 A2 closed.length closed ∧ closed.length ≤ c2) := ⟨⟨Kd.C_below R2_10.out.1 hb, R2_10.out.2⟩⟩; have HB_11 := Aside0.mk (below_step HB_10.out hb); have hs_11 : w10.heap.size ≤ w11.heap.size := hb.size; have HC_11 := Aside0.mk (HC_10.out.below hb); have HQ_11 := Aside0.mk (below_step HQ_10.out hb); clear hb; have d0 : w11.cell? ⟨w.heap.size, 0, none⟩ = some (.int .i64 off) := (blk_cell B_11.out 0).trans rfl; have d1 : w11.cell? ⟨w.heap.size, 1, none⟩ = some (.slice A1 week.length c1) := (blk_cell B_11.out 1).trans rfl; have d2 : w11.cell? ⟨w.heap.size, 2, none⟩ = some (.slice A2 closed.length c2) := (blk_cell B_11.out 2).trans rfl; have ds0 : w11.cell? ⟨w.heap.size + 1, 0, none⟩ = some (.int .i64 lvs) := (blk_cell Bs_11.out 0).trans rfl; have ds1 : w11.cell? ⟨w.heap.size + 1, 1, none⟩ = some (.int .i64 frs) := (blk_cell Bs_11.out 1).trans rfl; have ds2 : w11.cell? ⟨w.heap.size + 1, 2, none⟩ = some (.int .i64 ls) := (blk_cell Bs_11.out 2).trans rfl; have ds3 : w11.cell? ⟨w.heap.size + 1, 3, none⟩ = some (.int .i64 dus) := (blk_cell Bs_11.out 3).trans rfl; have dx0 : w11.cell? ⟨w5.heap.size, 0, none⟩ = some (.int .i64 a) := (blk_cell Bx_11.out 0).trans rfl; have dx1 : w11.cell? ⟨w5.heap.size, 1, none⟩ = some (.int .i64 b) := (blk_cell Bx_11.out 1).trans rfl; have dx2 : w11.cell? ⟨w5.heap.size, 2, none⟩ = some (.int .i64 c) := (blk_cell Bx_11.out 2).trans rfl; have dx3 : w11.cell? ⟨w5.heap.size, 3, none⟩ = some (.int .i64 d) := (blk_cell Bx_11.out 3).trans rfl; have dy0 : w11.cell? ⟨w7.heap.size, 0, none⟩ = some (.int .i64 a) := (blk_cell By_11.out 0).trans rfl; have dy1 : w11.cell? ⟨w7.heap.size, 1, none⟩ = some (.int .i64 b) := (blk_cell By_11.out 1).trans rfl; have dy2 : w11.cell? ⟨w7.heap.size, 2, none⟩ = some (.int .i64 c) := (blk_cell By_11.out 2).trans rfl; have dy3 : w11.cell? ⟨w7.heap.size, 3, none⟩ = some (.int .i64 d) := (blk_cell By_11.out 3).trans rfl; have dz0 : w11.cell? ⟨w9.heap.size, 0, none⟩ = some (.int .i64 a') := (blk_cell Bz_11.out 0).trans rfl; have dz1 : w11.cell? ⟨w9.heap.size, 1, none⟩ = some (.int .i64 b') := (blk_cell Bz_11.out 1).trans rfl; have dz2 : w11.cell? ⟨w9.heap.size, 2, none⟩ = some (.int .i64 c') := (blk_cell Bz_11.out 2).trans rfl; have dz3 : w11.cell? ⟨w9.heap.size, 3, none⟩ = some (.int .i64 d') := (blk_cell Bz_11.out 3).trans rfl))
  clear d0 d1 d2 ds0 ds1 ds2 ds3 dx0 dx1 dx2 dx3 dy0 dy1 dy2 dy3 dz0 dz1 dz2 dz3
  have hb : Below w11.heap.size w11 (w11.alloc (.cells #[.int .i64 a', .int .i64 b', .int .i64 c', .int .i64 d'] 39)) := below_alloc (Below.refl _ _) _
  have Bu_12 := Aside0.mk (blk_new w11 (.cells #[.int .i64 a', .int .i64 b', .int .i64 c', .int .i64 d'] 39))
  have B_12 := Aside0.mk (blk_below B_11.out hb)
  have Bs_12 := Aside0.mk (blk_below Bs_11.out hb)
  have Bx_12 := Aside0.mk (blk_below Bx_11.out hb)
  have By_12 := Aside0.mk (blk_below By_11.out hb)
  have Bz_12 := Aside0.mk (blk_below Bz_11.out hb)
  have R1_12 : Aside0 (Kd.C k78 (w11.alloc (.cells #[.int .i64 a', .int .i64 b', .int .i64 c', .int .i64 d'] 39)) A1 week.length week ∧ week.length ≤ c1) := ⟨⟨Kd.C_below R1_11.out.1 hb, R1_11.out.2⟩⟩
  have R2_12 : Aside0 (Kd.C k78 (w11.alloc (.cells #[.int .i64 a', .int .i64 b', .int .i64 c', .int .i64 d'] 39)) A2 closed.length closed ∧ closed.length ≤ c2) := ⟨⟨Kd.C_below R2_11.out.1 hb, R2_11.out.2⟩⟩
  have HB_12 := Aside0.mk (below_step HB_11.out hb)
  have hs_12 : w11.heap.size ≤ (w11.alloc (.cells #[.int .i64 a', .int .i64 b', .int .i64 c', .int .i64 d'] 39)).heap.size := hb.size
  have hz_12 : w11.heap.size < (w11.alloc (.cells #[.int .i64 a', .int .i64 b', .int .i64 c', .int .i64 d'] 39)).heap.size := blk_lt Bu_12.out
  have HC_12 := Aside0.mk (HC_11.out.below hb)
  have HQ_12 := Aside0.mk (below_step HQ_11.out hb)
  clear hb
  generalize (w11.alloc (.cells #[.int .i64 a', .int .i64 b', .int .i64 c', .int .i64 d'] 39)) = w12 at Bu_12 B_12 Bs_12 Bx_12 By_12 Bz_12 R1_12 R2_12 HB_12 hs_12 hz_12 HC_12 HQ_12 ⊢
  have d0 : w12.cell? ⟨w.heap.size, 0, none⟩ = some (.int .i64 off) := (blk_cell B_12.out 0).trans rfl
  have d1 : w12.cell? ⟨w.heap.size, 1, none⟩ = some (.slice A1 week.length c1) := (blk_cell B_12.out 1).trans rfl
  have d2 : w12.cell? ⟨w.heap.size, 2, none⟩ = some (.slice A2 closed.length c2) := (blk_cell B_12.out 2).trans rfl
  have ds0 : w12.cell? ⟨w.heap.size + 1, 0, none⟩ = some (.int .i64 lvs) := (blk_cell Bs_12.out 0).trans rfl
  have ds1 : w12.cell? ⟨w.heap.size + 1, 1, none⟩ = some (.int .i64 frs) := (blk_cell Bs_12.out 1).trans rfl
  have ds2 : w12.cell? ⟨w.heap.size + 1, 2, none⟩ = some (.int .i64 ls) := (blk_cell Bs_12.out 2).trans rfl
  have ds3 : w12.cell? ⟨w.heap.size + 1, 3, none⟩ = some (.int .i64 dus) := (blk_cell Bs_12.out 3).trans rfl
  have dx0 : w12.cell? ⟨w5.heap.size, 0, none⟩ = some (.int .i64 a) := (blk_cell Bx_12.out 0).trans rfl
  have dx1 : w12.cell? ⟨w5.heap.size, 1, none⟩ = some (.int .i64 b) := (blk_cell Bx_12.out 1).trans rfl
  have dx2 : w12.cell? ⟨w5.heap.size, 2, none⟩ = some (.int .i64 c) := (blk_cell Bx_12.out 2).trans rfl
  have dx3 : w12.cell? ⟨w5.heap.size, 3, none⟩ = some (.int .i64 d) := (blk_cell Bx_12.out 3).trans rfl
  have dy0 : w12.cell? ⟨w7.heap.size, 0, none⟩ = some (.int .i64 a) := (blk_cell By_12.out 0).trans rfl
  have dy1 : w12.cell? ⟨w7.heap.size, 1, none⟩ = some (.int .i64 b) := (blk_cell By_12.out 1).trans rfl
  have dy2 : w12.cell? ⟨w7.heap.size, 2, none⟩ = some (.int .i64 c) := (blk_cell By_12.out 2).trans rfl
  have dy3 : w12.cell? ⟨w7.heap.size, 3, none⟩ = some (.int .i64 d) := (blk_cell By_12.out 3).trans rfl
  have dz0 : w12.cell? ⟨w9.heap.size, 0, none⟩ = some (.int .i64 a') := (blk_cell Bz_12.out 0).trans rfl
  have dz1 : w12.cell? ⟨w9.heap.size, 1, none⟩ = some (.int .i64 b') := (blk_cell Bz_12.out 1).trans rfl
  have dz2 : w12.cell? ⟨w9.heap.size, 2, none⟩ = some (.int .i64 c') := (blk_cell Bz_12.out 2).trans rfl
  have dz3 : w12.cell? ⟨w9.heap.size, 3, none⟩ = some (.int .i64 d') := (blk_cell Bz_12.out 3).trans rfl
  have du0 : w12.cell? ⟨w11.heap.size, 0, none⟩ = some (.int .i64 a') := (blk_cell Bu_12.out 0).trans rfl
  have du1 : w12.cell? ⟨w11.heap.size, 1, none⟩ = some (.int .i64 b') := (blk_cell Bu_12.out 1).trans rfl
  have du2 : w12.cell? ⟨w11.heap.size, 2, none⟩ = some (.int .i64 c') := (blk_cell Bu_12.out 2).trans rfl
  have du3 : w12.cell? ⟨w11.heap.size, 3, none⟩ = some (.int .i64 d') := (blk_cell Bu_12.out 3).trans rfl
  go_wp2_with (first | (go_at_call 9; with_reducible refine (lives15_any w12).mono ?_; rintro e w13 ⟨rfl, hb⟩; clear d0 d1 d2 ds0 ds1 ds2 ds3 dx0 dx1 dx2 dx3 dy0 dy1 dy2 dy3 dz0 dz1 dz2 dz3 du0 du1 du2 du3; have B_13 := Aside0.mk (blk_below B_12.out hb); have Bs_13 := Aside0.mk (blk_below Bs_12.out hb); have Bx_13 := Aside0.mk (blk_below Bx_12.out hb); have By_13 := Aside0.mk (blk_below By_12.out hb); have Bz_13 := Aside0.mk (blk_below Bz_12.out hb); have Bu_13 := Aside0.mk (blk_below Bu_12.out hb); have R1_13 : Aside0 (Kd.C k78 w13 A1 week.length week ∧ week.length ≤ c1) := ⟨⟨Kd.C_below R1_12.out.1 hb, R1_12.out.2⟩⟩; have R2_13 : Aside0 (Kd.C k78 w13 A2 closed.length closed ∧ closed.length ≤ c2) := ⟨⟨Kd.C_below R2_12.out.1 hb, R2_12.out.2⟩⟩; have HB_13 := Aside0.mk (below_step HB_12.out hb); have hs_13 : w12.heap.size ≤ w13.heap.size := hb.size; have HC_13 := Aside0.mk (HC_12.out.below hb); have HQ_13 := Aside0.mk (below_step HQ_12.out hb); clear hb; have d0 : w13.cell? ⟨w.heap.size, 0, none⟩ = some (.int .i64 off) := (blk_cell B_13.out 0).trans rfl; have d1 : w13.cell? ⟨w.heap.size, 1, none⟩ = some (.slice A1 week.length c1) := (blk_cell B_13.out 1).trans rfl; have d2 : w13.cell? ⟨w.heap.size, 2, none⟩ = some (.slice A2 closed.length c2) := (blk_cell B_13.out 2).trans rfl; have ds0 : w13.cell? ⟨w.heap.size + 1, 0, none⟩ = some (.int .i64 lvs) := (blk_cell Bs_13.out 0).trans rfl; have ds1 : w13.cell? ⟨w.heap.size + 1, 1, none⟩ = some (.int .i64 frs) := (blk_cell Bs_13.out 1).trans rfl; have ds2 : w13.cell? ⟨w.heap.size + 1, 2, none⟩ = some (.int .i64 ls) := (blk_cell Bs_13.out 2).trans rfl; have ds3 : w13.cell? ⟨w.heap.size + 1, 3, none⟩ = some (.int .i64 dus) := (blk_cell Bs_13.out 3).trans rfl; have dx0 : w13.cell? ⟨w5.heap.size, 0, none⟩ = some (.int .i64 a) := (blk_cell Bx_13.out 0).trans rfl; have dx1 : w13.cell? ⟨w5.heap.size, 1, none⟩ = some (.int .i64 b) := (blk_cell Bx_13.out 1).trans rfl; have dx2 : w13.cell? ⟨w5.heap.size, 2, none⟩ = some (.int .i64 c) := (blk_cell Bx_13.out 2).trans rfl; have dx3 : w13.cell? ⟨w5.heap.size, 3, none⟩ = some (.int .i64 d) := (blk_cell Bx_13.out 3).trans rfl; have dy0 : w13.cell? ⟨w7.heap.size, 0, none⟩ = some (.int .i64 a) := (blk_cell By_13.out 0).trans rfl; have dy1 : w13.cell? ⟨w7.heap.size, 1, none⟩ = some (.int .i64 b) := (blk_cell By_13.out 1).trans rfl; have dy2 : w13.cell? ⟨w7.heap.size, 2, none⟩ = some (.int .i64 c) := (blk_cell By_13.out 2).trans rfl; have dy3 : w13.cell? ⟨w7.heap.size, 3, none⟩ = some (.int .i64 d) := (blk_cell By_13.out 3).trans rfl; have dz0 : w13.cell? ⟨w9.heap.size, 0, none⟩ = some (.int .i64 a') := (blk_cell Bz_13.out 0).trans rfl; have dz1 : w13.cell? ⟨w9.heap.size, 1, none⟩ = some (.int .i64 b') := (blk_cell Bz_13.out 1).trans rfl; have dz2 : w13.cell? ⟨w9.heap.size, 2, none⟩ = some (.int .i64 c') := (blk_cell Bz_13.out 2).trans rfl; have dz3 : w13.cell? ⟨w9.heap.size, 3, none⟩ = some (.int .i64 d') := (blk_cell Bz_13.out 3).trans rfl; have du0 : w13.cell? ⟨w11.heap.size, 0, none⟩ = some (.int .i64 a') := (blk_cell Bu_13.out 0).trans rfl; have du1 : w13.cell? ⟨w11.heap.size, 1, none⟩ = some (.int .i64 b') := (blk_cell Bu_13.out 1).trans rfl; have du2 : w13.cell? ⟨w11.heap.size, 2, none⟩ = some (.int .i64 c') := (blk_cell Bu_13.out 2).trans rfl; have du3 : w13.cell? ⟨w11.heap.size, 3, none⟩ = some (.int .i64 d') := (blk_cell Bu_13.out 3).trans rfl))
  go_ret
  exact ⟨rfl, HB_13.out⟩
theorem stands_any {off : Int} {week closed : List S78} {A1 A2 : Option Addr} {c1 c2 : Nat} {lvs frs ls dus : Int} {now : Int} (w : World) (h1 : Kd.C k78 w A1 week.length week ∧ week.length ≤ c1) (h2 : Kd.C k78 w A2 closed.length closed ∧ closed.length ≤ c2) (hl : ls ≤ 9223372036854775807) :
    Calls Try.prog 3 #[.agg #[.int .i64 off, .slice A1 week.length c1, .slice A2 closed.length c2], .agg #[.int .i64 lvs, .int .i64 frs, .int .i64 ls, .int .i64 dus], .int .i64 now] w fun e w' => e = .returned (.bool true) ∧ Below w.heap.size w w' := by
  cases hL : lightP week closed with
  | false => exact stands_light w h1 h2 hL
  | true =>
    by_cases hE : calErr off week closed = 0
    · exact stands_main w h1 h2 hl hL hE
    · exact stands_check w h1 h2 hL hE
end Go.Proofs.Ytepkbadgpoploaa.Own
