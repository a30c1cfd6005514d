/- ChainPlans, part 7: what the claim needs of ChainN, Wr, Rd, Rd5, Wr4, CalR, Box9, PlanW, ChainL, PlanL, OpenCal, OpenCon. -/
import Derived.Test.YtepldlnmeenlbaaGreatChainPlans6
import Derived.Test.YtepldlnmeenlbaaGreatProg
import Derived.Below
import Derived.Deep.Draws
import Derived.Deep.AppendLies
import Derived.Maps.AppendAt
import Derived.OwnWalk
import Derived.Laws.BytesArg
import Derived.Laws.MakeOwn
import Derived.Laws.OwnMore
import Derived.Deep.OwnRows
import Derived.Tactics
import Derived.Lib.ConvBytes
import Derived.Laws.Slices
import Derived.WalkKit
import Derived.KernelRfl
import Derived.RowKit3
import Derived.Deep.LoopGhost
import Derived.Deep.QuietTactic
import Derived.BigQuiet
import Derived.WideLaws
import Derived.Deep.DeepCutAuto
import Derived.Deep.CutBlock
import Derived.Deep.RegionHeld3
import Derived.Laws.Rows
import Derived.Lib.AppendStr
import Derived.ArgAppend
import Derived.Laws.IdiomCopy
import Derived.OrdersHeld
import Derived.Laws.BitsLemmas
import Derived.RowKit
import Derived.Laws.StructEq
import Derived.Tactics2
import Derived.Defers
import Derived.Laws.Pointers
import Derived.Laws.LoneSync
import Derived.Laws.NewBlocks
import Derived.RegionTactic
import Derived.RegionCalls
import Derived.ChangeAlike
import Derived.StillTailTactics
import Derived.Outline
import Derived.Handy
import Derived.SizedLaws
import Derived.ChangeSlices
import Derived.Laws.EntriesVeiled
import Derived.WalkSpells
import Derived.RangeFuncNested
import Derived.RangeFuncBound
import Derived.RangeFuncCalls
import Derived.RangeFuncLeaves
import Derived.Shelf.Abstract
import Derived.Shelf.RegionOpen
import Derived.OwnWalkIn
import Derived.TacticsInMore
import Derived.LoopNIn
import Derived.LoopIn
import Derived.OrdersIn
import Derived.Test.YtepldlnmeenlbaaGreatRows
import Derived.ProofKit
import Derived.OpenShut
import Derived.ShutString
import Derived.ChangeOld
import Derived.Lib.SmallJoins
import Derived.Deep.SlicePairs
set_option linter.unusedVariables false
set_option linter.unusedSimpArgs false
namespace Go.Proofs.YtepldlnmeenlbaaGreat.Own
open Go.RowKit Go.Proofs Go.Proofs.YtepldlnmeenlbaaGreatW.PrintWords Go.Proofs.YtepldlnmeenlbaaGreatW.PrintLast Go.Proofs.YtepldlnmeenlbaaGreatW.PrintMore Go.Proofs.YtepldlnmeenlbaaGreat.Base
variable {w w' : World} {n kb ab pb cb : Nat} {off : Int} {week closed : List S114} {A : Option Addr} {k : Nat} {ls : List S71}
theorem far4 {W : World} {b k : Nat} {o : Option Obj} (h : W.heap[k]? = o) (hk : k ≠ b) (v0 v1 v2 v3 : Value) : ((((W.setCell ⟨b, 0, none⟩ v0).setCell ⟨b, 1, none⟩ v1).setCell ⟨b, 2, none⟩ v2).setCell ⟨b, 3, none⟩ v3).heap[k]? = o :=
  (Below.heap_setCell _ _ _ _ hk).trans ((Below.heap_setCell _ _ _ _ hk).trans ((Below.heap_setCell _ _ _ _ hk).trans ((Below.heap_setCell _ _ _ _ hk).trans h)))
def next_T9 : Bool × List (List Nat × List Nat) := (true, [([], []), ([0], [0]), ([1], [1]), ([], []), ([3], [3]), ([], []), ([5], [5]), ([6], [6]), ([4, 7], [4, 7]), ([8], [8]), ([9], [9]), ([2, 10], [2, 10]), ([], []), ([], []), ([11, 12, 13], [11, 12, 13]), ([14], [14]), ([15], [15]), ([15], [15]), ([16, 14, 0, 1, 2, 3, 4, 5, 6, 7, 8, 9, 10, 11, 12, 13, 14, 15, 16], [16]), ([17, 18, 0, 1, 2, 3, 4, 5, 6, 7, 8, 9, 10, 11, 12, 13, 14, 15, 16, 17, 18], [17])])
def next_B9 : List Nat := [0, 1, 3, 0, 8, 0, 32, 96, 248, 504, 1016, 2047, 0, 0, 16383, 32767, 65535, 65535, 131071, 524287]
theorem next_tab9 : rtab .any (opsOf Tryz.f83 9) = next_T9 := by kernel_rfl
theorem next_bits9 : waitsOk next_T9.2 next_B9 = true := by kernel_rfl
set_option maxHeartbeats 4000000 in
set_option maxRecDepth 100000 in
theorem next_no (cal re ba lv fr l du now : Int) (w : World) (h : ClkAt w n kb ab pb cb off week closed) (hn : n ≤ w.heap.size) (h1 : Kd.C k71 w A ls.length ls ∧ ls.length ≤ k) (hg : goodP cal ls re ba = false) :
    Calls Tryz.prog 83 #[.pointer (some ⟨kb, 0, none⟩), .agg #[.int .i64 cal, .slice A ls.length k, .int .i64 re, .int .i64 ba], .agg #[.int .i64 lv, .int .i64 fr, .int .i64 l, .int .i64 du], .int .i64 now] w fun r w' => r = .returned (.tuple #[.agg #[.int .i64 0, .int .i64 0, .int .i64 0, .int .i64 0], .bool false, .int .i64 2]) ∧ ClkAt w' n kb ab pb cb off week closed ∧ Upd cb w w' := by
  have HG := Aside0.mk (show (if goodP cal ls re ba = true then (0 : Int) else 2) = 2 by rw [hg]; rfl)
  clear hg
  have hcb := h.lt
  have C0 : Aside0 ((((w.alloc (.cells #[.int .i64 cal, .slice A ls.length k, .int .i64 re, .int .i64 ba] 48)).alloc (.cells #[.int .i64 lv, .int .i64 fr, .int .i64 l, .int .i64 du] 75)).alloc (.cells #[.int .i64 0, .int .i64 0, .int .i64 0, .int .i64 0] 75)).heap[w.heap.size]? = some (.cells #[.int .i64 cal, .slice A ls.length k, .int .i64 re, .int .i64 ba] 48 (0, 0))) := ⟨blk_alloc (blk_alloc (blk_new w _) _) _⟩
  have C1 : Aside0 ((((w.alloc (.cells #[.int .i64 cal, .slice A ls.length k, .int .i64 re, .int .i64 ba] 48)).alloc (.cells #[.int .i64 lv, .int .i64 fr, .int .i64 l, .int .i64 du] 75)).alloc (.cells #[.int .i64 0, .int .i64 0, .int .i64 0, .int .i64 0] 75)).heap[w.heap.size + 1]? = some (.cells #[.int .i64 lv, .int .i64 fr, .int .i64 l, .int .i64 du] 75 (0, 0))) := ⟨blk_alloc (by simpa using blk_new (w.alloc (.cells #[.int .i64 cal, .slice A ls.length k, .int .i64 re, .int .i64 ba] 48)) (.cells #[.int .i64 lv, .int .i64 fr, .int .i64 l, .int .i64 du] 75)) _⟩
  have C2 : Aside0 ((((w.alloc (.cells #[.int .i64 cal, .slice A ls.length k, .int .i64 re, .int .i64 ba] 48)).alloc (.cells #[.int .i64 lv, .int .i64 fr, .int .i64 l, .int .i64 du] 75)).alloc (.cells #[.int .i64 0, .int .i64 0, .int .i64 0, .int .i64 0] 75)).heap[w.heap.size + 1 + 1]? = some (.cells #[.int .i64 0, .int .i64 0, .int .i64 0, .int .i64 0] 75 (0, 0))) := ⟨by simpa using blk_new ((w.alloc (.cells #[.int .i64 cal, .slice A ls.length k, .int .i64 re, .int .i64 ba] 48)).alloc (.cells #[.int .i64 lv, .int .i64 fr, .int .i64 l, .int .i64 du] 75)) (.cells #[.int .i64 0, .int .i64 0, .int .i64 0, .int .i64 0] 75)⟩
  have HB := below_alloc (below_alloc (below_alloc (Below.refl w.heap.size w) (.cells #[.int .i64 cal, .slice A ls.length k, .int .i64 re, .int .i64 ba] 48)) (.cells #[.int .i64 lv, .int .i64 fr, .int .i64 l, .int .i64 du] 75)) (.cells #[.int .i64 0, .int .i64 0, .int .i64 0, .int .i64 0] 75)
  have HC := Aside0.mk (h.below HB)
  have HU := Aside0.mk (Upd.of_below (b := cb) HB)
  have HN := Aside0.mk (Nat.le_trans hn HB.size)
  have HL : Aside0 (Kd.C k71 _ A ls.length ls ∧ ls.length ≤ k) := ⟨⟨Kd.C_below h1.1 HB, h1.2⟩⟩
  clear h HB h1
  go_enter Tryz.func83, Tryz.ntmps83
  go_wp2_with fail
  generalize (((w.alloc (.cells #[.int .i64 cal, .slice A ls.length k, .int .i64 re, .int .i64 ba] 48)).alloc (.cells #[.int .i64 lv, .int .i64 fr, .int .i64 l, .int .i64 du] 75)).alloc (.cells #[.int .i64 0, .int .i64 0, .int .i64 0, .int .i64 0] 75)) = w2 at C0 C1 C2 HC HU HN HL ⊢
  have c0 : w2.cell? ⟨w.heap.size, 0, none⟩ = some (.int .i64 cal) := (blk_cell C0.out 0).trans rfl
  have c1 : w2.cell? ⟨w.heap.size, 1, none⟩ = some (.slice A ls.length k) := (blk_cell C0.out 1).trans rfl
  have c2 : w2.cell? ⟨w.heap.size, 2, none⟩ = some (.int .i64 re) := (blk_cell C0.out 2).trans rfl
  have c3 : w2.cell? ⟨w.heap.size, 3, none⟩ = some (.int .i64 ba) := (blk_cell C0.out 3).trans rfl
  have s0 : w2.cell? ⟨w.heap.size + 1, 0, none⟩ = some (.int .i64 lv) := (blk_cell C1.out 0).trans rfl
  have s1 : w2.cell? ⟨w.heap.size + 1, 1, none⟩ = some (.int .i64 fr) := (blk_cell C1.out 1).trans rfl
  have s2 : w2.cell? ⟨w.heap.size + 1, 2, none⟩ = some (.int .i64 l) := (blk_cell C1.out 2).trans rfl
  have s3 : w2.cell? ⟨w.heap.size + 1, 3, none⟩ = some (.int .i64 du) := (blk_cell C1.out 3).trans rfl
  have r0 : w2.cell? ⟨w.heap.size + 1 + 1, 0, none⟩ = some (.int .i64 0) := (blk_cell C2.out 0).trans rfl
  have r1 : w2.cell? ⟨w.heap.size + 1 + 1, 1, none⟩ = some (.int .i64 0) := (blk_cell C2.out 1).trans rfl
  have r2 : w2.cell? ⟨w.heap.size + 1 + 1, 2, none⟩ = some (.int .i64 0) := (blk_cell C2.out 2).trans rfl
  have r3 : w2.cell? ⟨w.heap.size + 1 + 1, 3, none⟩ = some (.int .i64 0) := (blk_cell C2.out 3).trans rfl
  have g0 : w2.frozen? ⟨w.heap.size + 1 + 1, 0, none⟩ = false := blk_frozen C2.out 0
  have g1 : w2.frozen? ⟨w.heap.size + 1 + 1, 1, none⟩ = false := blk_frozen C2.out 1
  have g2 : w2.frozen? ⟨w.heap.size + 1 + 1, 2, none⟩ = false := blk_frozen C2.out 2
  have g3 : w2.frozen? ⟨w.heap.size + 1 + 1, 3, none⟩ = false := blk_frozen C2.out 3
  go_wp2_with (go_at_call 24; refine (check14_any w2 HL.out).mono ?_; rintro e w3 ⟨rfl, hb⟩; rw [HG.out]; have HC3 := Aside0.mk (HC.out.below hb); have HU3 := Aside0.mk (HU.out.then hb); have HN3 := Aside0.mk (Nat.le_trans HN.out hb.size); have HL3 : Aside0 (Kd.C k71 w3 A ls.length ls ∧ ls.length ≤ k) := ⟨⟨Kd.C_below HL.out.1 hb, HL.out.2⟩⟩; have n0 := Aside0.mk (blk_below C0.out hb); have n1 := Aside0.mk (blk_below C1.out hb); have n2 := Aside0.mk (blk_below C2.out hb); clear hb; clear C0 C1 C2 c0 c1 c2 c3 s0 s1 s2 s3 r0 r1 r2 r3 g0 g1 g2 g3; have C0 := n0; have C1 := n1; have C2 := n2; clear n0 n1 n2; have c0 : w3.cell? ⟨w.heap.size, 0, none⟩ = some (.int .i64 cal) := (blk_cell C0.out 0).trans rfl; have c1 : w3.cell? ⟨w.heap.size, 1, none⟩ = some (.slice A ls.length k) := (blk_cell C0.out 1).trans rfl; have c2 : w3.cell? ⟨w.heap.size, 2, none⟩ = some (.int .i64 re) := (blk_cell C0.out 2).trans rfl; have c3 : w3.cell? ⟨w.heap.size, 3, none⟩ = some (.int .i64 ba) := (blk_cell C0.out 3).trans rfl; have s0 : w3.cell? ⟨w.heap.size + 1, 0, none⟩ = some (.int .i64 lv) := (blk_cell C1.out 0).trans rfl; have s1 : w3.cell? ⟨w.heap.size + 1, 1, none⟩ = some (.int .i64 fr) := (blk_cell C1.out 1).trans rfl; have s2 : w3.cell? ⟨w.heap.size + 1, 2, none⟩ = some (.int .i64 l) := (blk_cell C1.out 2).trans rfl; have s3 : w3.cell? ⟨w.heap.size + 1, 3, none⟩ = some (.int .i64 du) := (blk_cell C1.out 3).trans rfl; have r0 : w3.cell? ⟨w.heap.size + 1 + 1, 0, none⟩ = some (.int .i64 0) := (blk_cell C2.out 0).trans rfl; have r1 : w3.cell? ⟨w.heap.size + 1 + 1, 1, none⟩ = some (.int .i64 0) := (blk_cell C2.out 1).trans rfl; have r2 : w3.cell? ⟨w.heap.size + 1 + 1, 2, none⟩ = some (.int .i64 0) := (blk_cell C2.out 2).trans rfl; have r3 : w3.cell? ⟨w.heap.size + 1 + 1, 3, none⟩ = some (.int .i64 0) := (blk_cell C2.out 3).trans rfl; have g0 : w3.frozen? ⟨w.heap.size + 1 + 1, 0, none⟩ = false := blk_frozen C2.out 0; have g1 : w3.frozen? ⟨w.heap.size + 1 + 1, 1, none⟩ = false := blk_frozen C2.out 1; have g2 : w3.frozen? ⟨w.heap.size + 1 + 1, 2, none⟩ = false := blk_frozen C2.out 2; have g3 : w3.frozen? ⟨w.heap.size + 1 + 1, 3, none⟩ = false := blk_frozen C2.out 3)
  obtain ⟨C9, U9, E9⟩ := put4 C2.out HC3.out HU3.out (by omega) (.int .i64 0) (.int .i64 0) (.int .i64 0) (.int .i64 0)
  have k0 := (blk_cell E9 0).trans (rfl : _ = some (Value.int .i64 0))
  have k1 := (blk_cell E9 1).trans (rfl : _ = some (Value.int .i64 0))
  have k2 := (blk_cell E9 2).trans (rfl : _ = some (Value.int .i64 0))
  have k3 := (blk_cell E9 3).trans (rfl : _ = some (Value.int .i64 0))
  refine bodyPost_ret (v := .tuple #[.agg #[.int .i64 0, .int .i64 0, .int .i64 0, .int .i64 0], .bool false, .int .i64 2]) (by simp [results, Tryz.results83, go_sem, k0, k1, k2, k3]) rfl ⟨rfl, C9, U9⟩
set_option maxHeartbeats 4000000 in
set_option maxRecDepth 100000 in
theorem next_lo (cal re ba lv fr l du now : Int) (w : World) (h : ClkAt w n kb ab pb cb off week closed) (hn : n ≤ w.heap.size) (h1 : Kd.C k71 w A ls.length ls ∧ ls.length ≤ k) (hg : goodP cal ls re ba = true) (hx : lv < 0) :
    Calls Tryz.prog 83 #[.pointer (some ⟨kb, 0, none⟩), .agg #[.int .i64 cal, .slice A ls.length k, .int .i64 re, .int .i64 ba], .agg #[.int .i64 lv, .int .i64 fr, .int .i64 l, .int .i64 du], .int .i64 now] w fun r w' => r = .returned (.tuple #[.agg #[.int .i64 0, .int .i64 0, .int .i64 0, .int .i64 0], .bool false, .int .i64 2]) ∧ ClkAt w' n kb ab pb cb off week closed ∧ Upd cb w w' := by
  have HG := Aside0.mk (show (if goodP cal ls re ba = true then (0 : Int) else 2) = 0 by rw [hg]; rfl)
  have hd : decide (lv < 0) = true := decide_eq_true hx
  clear hg
  have hcb := h.lt
  have C0 : Aside0 ((((w.alloc (.cells #[.int .i64 cal, .slice A ls.length k, .int .i64 re, .int .i64 ba] 48)).alloc (.cells #[.int .i64 lv, .int .i64 fr, .int .i64 l, .int .i64 du] 75)).alloc (.cells #[.int .i64 0, .int .i64 0, .int .i64 0, .int .i64 0] 75)).heap[w.heap.size]? = some (.cells #[.int .i64 cal, .slice A ls.length k, .int .i64 re, .int .i64 ba] 48 (0, 0))) := ⟨blk_alloc (blk_alloc (blk_new w _) _) _⟩
  have C1 : Aside0 ((((w.alloc (.cells #[.int .i64 cal, .slice A ls.length k, .int .i64 re, .int .i64 ba] 48)).alloc (.cells #[.int .i64 lv, .int .i64 fr, .int .i64 l, .int .i64 du] 75)).alloc (.cells #[.int .i64 0, .int .i64 0, .int .i64 0, .int .i64 0] 75)).heap[w.heap.size + 1]? = some (.cells #[.int .i64 lv, .int .i64 fr, .int .i64 l, .int .i64 du] 75 (0, 0))) := ⟨blk_alloc (by simpa using blk_new (w.alloc (.cells #[.int .i64 cal, .slice A ls.length k, .int .i64 re, .int .i64 ba] 48)) (.cells #[.int .i64 lv, .int .i64 fr, .int .i64 l, .int .i64 du] 75)) _⟩
  have C2 : Aside0 ((((w.alloc (.cells #[.int .i64 cal, .slice A ls.length k, .int .i64 re, .int .i64 ba] 48)).alloc (.cells #[.int .i64 lv, .int .i64 fr, .int .i64 l, .int .i64 du] 75)).alloc (.cells #[.int .i64 0, .int .i64 0, .int .i64 0, .int .i64 0] 75)).heap[w.heap.size + 1 + 1]? = some (.cells #[.int .i64 0, .int .i64 0, .int .i64 0, .int .i64 0] 75 (0, 0))) := ⟨by simpa using blk_new ((w.alloc (.cells #[.int .i64 cal, .slice A ls.length k, .int .i64 re, .int .i64 ba] 48)).alloc (.cells #[.int .i64 lv, .int .i64 fr, .int .i64 l, .int .i64 du] 75)) (.cells #[.int .i64 0, .int .i64 0, .int .i64 0, .int .i64 0] 75)⟩
  have HB := below_alloc (below_alloc (below_alloc (Below.refl w.heap.size w) (.cells #[.int .i64 cal, .slice A ls.length k, .int .i64 re, .int .i64 ba] 48)) (.cells #[.int .i64 lv, .int .i64 fr, .int .i64 l, .int .i64 du] 75)) (.cells #[.int .i64 0, .int .i64 0, .int .i64 0, .int .i64 0] 75)
  have HC := Aside0.mk (h.below HB)
  have HU := Aside0.mk (Upd.of_below (b := cb) HB)
  have HN := Aside0.mk (Nat.le_trans hn HB.size)
  have HL : Aside0 (Kd.C k71 _ A ls.length ls ∧ ls.length ≤ k) := ⟨⟨Kd.C_below h1.1 HB, h1.2⟩⟩
  clear h HB h1
  go_enter Tryz.func83, Tryz.ntmps83
  go_wp2_with fail
  generalize (((w.alloc (.cells #[.int .i64 cal, .slice A ls.length k, .int .i64 re, .int .i64 ba] 48)).alloc (.cells #[.int .i64 lv, .int .i64 fr, .int .i64 l, .int .i64 du] 75)).alloc (.cells #[.int .i64 0, .int .i64 0, .int .i64 0, .int .i64 0] 75)) = w2 at C0 C1 C2 HC HU HN HL ⊢
  have c0 : w2.cell? ⟨w.heap.size, 0, none⟩ = some (.int .i64 cal) := (blk_cell C0.out 0).trans rfl
  have c1 : w2.cell? ⟨w.heap.size, 1, none⟩ = some (.slice A ls.length k) := (blk_cell C0.out 1).trans rfl
  have c2 : w2.cell? ⟨w.heap.size, 2, none⟩ = some (.int .i64 re) := (blk_cell C0.out 2).trans rfl
  have c3 : w2.cell? ⟨w.heap.size, 3, none⟩ = some (.int .i64 ba) := (blk_cell C0.out 3).trans rfl
  have s0 : w2.cell? ⟨w.heap.size + 1, 0, none⟩ = some (.int .i64 lv) := (blk_cell C1.out 0).trans rfl
  have s1 : w2.cell? ⟨w.heap.size + 1, 1, none⟩ = some (.int .i64 fr) := (blk_cell C1.out 1).trans rfl
  have s2 : w2.cell? ⟨w.heap.size + 1, 2, none⟩ = some (.int .i64 l) := (blk_cell C1.out 2).trans rfl
  have s3 : w2.cell? ⟨w.heap.size + 1, 3, none⟩ = some (.int .i64 du) := (blk_cell C1.out 3).trans rfl
  have r0 : w2.cell? ⟨w.heap.size + 1 + 1, 0, none⟩ = some (.int .i64 0) := (blk_cell C2.out 0).trans rfl
  have r1 : w2.cell? ⟨w.heap.size + 1 + 1, 1, none⟩ = some (.int .i64 0) := (blk_cell C2.out 1).trans rfl
  have r2 : w2.cell? ⟨w.heap.size + 1 + 1, 2, none⟩ = some (.int .i64 0) := (blk_cell C2.out 2).trans rfl
  have r3 : w2.cell? ⟨w.heap.size + 1 + 1, 3, none⟩ = some (.int .i64 0) := (blk_cell C2.out 3).trans rfl
  have g0 : w2.frozen? ⟨w.heap.size + 1 + 1, 0, none⟩ = false := blk_frozen C2.out 0
  have g1 : w2.frozen? ⟨w.heap.size + 1 + 1, 1, none⟩ = false := blk_frozen C2.out 1
  have g2 : w2.frozen? ⟨w.heap.size + 1 + 1, 2, none⟩ = false := blk_frozen C2.out 2
  have g3 : w2.frozen? ⟨w.heap.size + 1 + 1, 3, none⟩ = false := blk_frozen C2.out 3
  go_wp2_with (go_at_call 24; refine (check14_any w2 HL.out).mono ?_; rintro e w3 ⟨rfl, hb⟩; rw [HG.out]; have HC3 := Aside0.mk (HC.out.below hb); have HU3 := Aside0.mk (HU.out.then hb); have HN3 := Aside0.mk (Nat.le_trans HN.out hb.size); have HL3 : Aside0 (Kd.C k71 w3 A ls.length ls ∧ ls.length ≤ k) := ⟨⟨Kd.C_below HL.out.1 hb, HL.out.2⟩⟩; have n0 := Aside0.mk (blk_below C0.out hb); have n1 := Aside0.mk (blk_below C1.out hb); have n2 := Aside0.mk (blk_below C2.out hb); clear hb; clear C0 C1 C2 c0 c1 c2 c3 s0 s1 s2 s3 r0 r1 r2 r3 g0 g1 g2 g3; have C0 := n0; have C1 := n1; have C2 := n2; clear n0 n1 n2; have c0 : w3.cell? ⟨w.heap.size, 0, none⟩ = some (.int .i64 cal) := (blk_cell C0.out 0).trans rfl; have c1 : w3.cell? ⟨w.heap.size, 1, none⟩ = some (.slice A ls.length k) := (blk_cell C0.out 1).trans rfl; have c2 : w3.cell? ⟨w.heap.size, 2, none⟩ = some (.int .i64 re) := (blk_cell C0.out 2).trans rfl; have c3 : w3.cell? ⟨w.heap.size, 3, none⟩ = some (.int .i64 ba) := (blk_cell C0.out 3).trans rfl; have s0 : w3.cell? ⟨w.heap.size + 1, 0, none⟩ = some (.int .i64 lv) := (blk_cell C1.out 0).trans rfl; have s1 : w3.cell? ⟨w.heap.size + 1, 1, none⟩ = some (.int .i64 fr) := (blk_cell C1.out 1).trans rfl; have s2 : w3.cell? ⟨w.heap.size + 1, 2, none⟩ = some (.int .i64 l) := (blk_cell C1.out 2).trans rfl; have s3 : w3.cell? ⟨w.heap.size + 1, 3, none⟩ = some (.int .i64 du) := (blk_cell C1.out 3).trans rfl; have r0 : w3.cell? ⟨w.heap.size + 1 + 1, 0, none⟩ = some (.int .i64 0) := (blk_cell C2.out 0).trans rfl; have r1 : w3.cell? ⟨w.heap.size + 1 + 1, 1, none⟩ = some (.int .i64 0) := (blk_cell C2.out 1).trans rfl; have r2 : w3.cell? ⟨w.heap.size + 1 + 1, 2, none⟩ = some (.int .i64 0) := (blk_cell C2.out 2).trans rfl; have r3 : w3.cell? ⟨w.heap.size + 1 + 1, 3, none⟩ = some (.int .i64 0) := (blk_cell C2.out 3).trans rfl; have g0 : w3.frozen? ⟨w.heap.size + 1 + 1, 0, none⟩ = false := blk_frozen C2.out 0; have g1 : w3.frozen? ⟨w.heap.size + 1 + 1, 1, none⟩ = false := blk_frozen C2.out 1; have g2 : w3.frozen? ⟨w.heap.size + 1 + 1, 2, none⟩ = false := blk_frozen C2.out 2; have g3 : w3.frozen? ⟨w.heap.size + 1 + 1, 3, none⟩ = false := blk_frozen C2.out 3)
  obtain ⟨C9, U9, E9⟩ := put4 C2.out HC3.out HU3.out (by omega) (.int .i64 0) (.int .i64 0) (.int .i64 0) (.int .i64 0)
  have k0 := (blk_cell E9 0).trans (rfl : _ = some (Value.int .i64 0))
  have k1 := (blk_cell E9 1).trans (rfl : _ = some (Value.int .i64 0))
  have k2 := (blk_cell E9 2).trans (rfl : _ = some (Value.int .i64 0))
  have k3 := (blk_cell E9 3).trans (rfl : _ = some (Value.int .i64 0))
  refine bodyPost_ret (v := .tuple #[.agg #[.int .i64 0, .int .i64 0, .int .i64 0, .int .i64 0], .bool false, .int .i64 2]) (by simp [results, Tryz.results83, go_sem, k0, k1, k2, k3]) rfl ⟨rfl, C9, U9⟩
set_option maxHeartbeats 4000000 in
set_option maxRecDepth 100000 in
theorem next_hi (cal re ba lv fr l du now : Int) (w : World) (h : ClkAt w n kb ab pb cb off week closed) (hn : n ≤ w.heap.size) (h1 : Kd.C k71 w A ls.length ls ∧ ls.length ≤ k) (hg : goodP cal ls re ba = true) (hx : 0 ≤ lv) (hy : (ls.length : Int) ≤ lv) :
    Calls Tryz.prog 83 #[.pointer (some ⟨kb, 0, none⟩), .agg #[.int .i64 cal, .slice A ls.length k, .int .i64 re, .int .i64 ba], .agg #[.int .i64 lv, .int .i64 fr, .int .i64 l, .int .i64 du], .int .i64 now] w fun r w' => r = .returned (.tuple #[.agg #[.int .i64 0, .int .i64 0, .int .i64 0, .int .i64 0], .bool false, .int .i64 2]) ∧ ClkAt w' n kb ab pb cb off week closed ∧ Upd cb w w' := by
  have HG := Aside0.mk (show (if goodP cal ls re ba = true then (0 : Int) else 2) = 0 by rw [hg]; rfl)
  have hd : decide (lv < 0) = false := decide_eq_false (by omega)
  have hd2 : decide ((ls.length : Int) ≤ lv) = true := decide_eq_true hy
  clear hg
  have hcb := h.lt
  have C0 : Aside0 ((((w.alloc (.cells #[.int .i64 cal, .slice A ls.length k, .int .i64 re, .int .i64 ba] 48)).alloc (.cells #[.int .i64 lv, .int .i64 fr, .int .i64 l, .int .i64 du] 75)).alloc (.cells #[.int .i64 0, .int .i64 0, .int .i64 0, .int .i64 0] 75)).heap[w.heap.size]? = some (.cells #[.int .i64 cal, .slice A ls.length k, .int .i64 re, .int .i64 ba] 48 (0, 0))) := ⟨blk_alloc (blk_alloc (blk_new w _) _) _⟩
  have C1 : Aside0 ((((w.alloc (.cells #[.int .i64 cal, .slice A ls.length k, .int .i64 re, .int .i64 ba] 48)).alloc (.cells #[.int .i64 lv, .int .i64 fr, .int .i64 l, .int .i64 du] 75)).alloc (.cells #[.int .i64 0, .int .i64 0, .int .i64 0, .int .i64 0] 75)).heap[w.heap.size + 1]? = some (.cells #[.int .i64 lv, .int .i64 fr, .int .i64 l, .int .i64 du] 75 (0, 0))) := ⟨blk_alloc (by simpa using blk_new (w.alloc (.cells #[.int .i64 cal, .slice A ls.length k, .int .i64 re, .int .i64 ba] 48)) (.cells #[.int .i64 lv, .int .i64 fr, .int .i64 l, .int .i64 du] 75)) _⟩
  have C2 : Aside0 ((((w.alloc (.cells #[.int .i64 cal, .slice A ls.length k, .int .i64 re, .int .i64 ba] 48)).alloc (.cells #[.int .i64 lv, .int .i64 fr, .int .i64 l, .int .i64 du] 75)).alloc (.cells #[.int .i64 0, .int .i64 0, .int .i64 0, .int .i64 0] 75)).heap[w.heap.size + 1 + 1]? = some (.cells #[.int .i64 0, .int .i64 0, .int .i64 0, .int .i64 0] 75 (0, 0))) := ⟨by simpa using blk_new ((w.alloc (.cells #[.int .i64 cal, .slice A ls.length k, .int .i64 re, .int .i64 ba] 48)).alloc (.cells #[.int .i64 lv, .int .i64 fr, .int .i64 l, .int .i64 du] 75)) (.cells #[.int .i64 0, .int .i64 0, .int .i64 0, .int .i64 0] 75)⟩
  have HB := below_alloc (below_alloc (below_alloc (Below.refl w.heap.size w) (.cells #[.int .i64 cal, .slice A ls.length k, .int .i64 re, .int .i64 ba] 48)) (.cells #[.int .i64 lv, .int .i64 fr, .int .i64 l, .int .i64 du] 75)) (.cells #[.int .i64 0, .int .i64 0, .int .i64 0, .int .i64 0] 75)
  have HC := Aside0.mk (h.below HB)
  have HU := Aside0.mk (Upd.of_below (b := cb) HB)
  have HN := Aside0.mk (Nat.le_trans hn HB.size)
  have HL : Aside0 (Kd.C k71 _ A ls.length ls ∧ ls.length ≤ k) := ⟨⟨Kd.C_below h1.1 HB, h1.2⟩⟩
  clear h HB h1
  go_enter Tryz.func83, Tryz.ntmps83
  go_wp2_with fail
  generalize (((w.alloc (.cells #[.int .i64 cal, .slice A ls.length k, .int .i64 re, .int .i64 ba] 48)).alloc (.cells #[.int .i64 lv, .int .i64 fr, .int .i64 l, .int .i64 du] 75)).alloc (.cells #[.int .i64 0, .int .i64 0, .int .i64 0, .int .i64 0] 75)) = w2 at C0 C1 C2 HC HU HN HL ⊢
  have c0 : w2.cell? ⟨w.heap.size, 0, none⟩ = some (.int .i64 cal) := (blk_cell C0.out 0).trans rfl
  have c1 : w2.cell? ⟨w.heap.size, 1, none⟩ = some (.slice A ls.length k) := (blk_cell C0.out 1).trans rfl
  have c2 : w2.cell? ⟨w.heap.size, 2, none⟩ = some (.int .i64 re) := (blk_cell C0.out 2).trans rfl
  have c3 : w2.cell? ⟨w.heap.size, 3, none⟩ = some (.int .i64 ba) := (blk_cell C0.out 3).trans rfl
  have s0 : w2.cell? ⟨w.heap.size + 1, 0, none⟩ = some (.int .i64 lv) := (blk_cell C1.out 0).trans rfl
  have s1 : w2.cell? ⟨w.heap.size + 1, 1, none⟩ = some (.int .i64 fr) := (blk_cell C1.out 1).trans rfl
  have s2 : w2.cell? ⟨w.heap.size + 1, 2, none⟩ = some (.int .i64 l) := (blk_cell C1.out 2).trans rfl
  have s3 : w2.cell? ⟨w.heap.size + 1, 3, none⟩ = some (.int .i64 du) := (blk_cell C1.out 3).trans rfl
  have r0 : w2.cell? ⟨w.heap.size + 1 + 1, 0, none⟩ = some (.int .i64 0) := (blk_cell C2.out 0).trans rfl
  have r1 : w2.cell? ⟨w.heap.size + 1 + 1, 1, none⟩ = some (.int .i64 0) := (blk_cell C2.out 1).trans rfl
  have r2 : w2.cell? ⟨w.heap.size + 1 + 1, 2, none⟩ = some (.int .i64 0) := (blk_cell C2.out 2).trans rfl
  have r3 : w2.cell? ⟨w.heap.size + 1 + 1, 3, none⟩ = some (.int .i64 0) := (blk_cell C2.out 3).trans rfl
  have g0 : w2.frozen? ⟨w.heap.size + 1 + 1, 0, none⟩ = false := blk_frozen C2.out 0
  have g1 : w2.frozen? ⟨w.heap.size + 1 + 1, 1, none⟩ = false := blk_frozen C2.out 1
  have g2 : w2.frozen? ⟨w.heap.size + 1 + 1, 2, none⟩ = false := blk_frozen C2.out 2
  have g3 : w2.frozen? ⟨w.heap.size + 1 + 1, 3, none⟩ = false := blk_frozen C2.out 3
  go_wp2_with (go_at_call 24; refine (check14_any w2 HL.out).mono ?_; rintro e w3 ⟨rfl, hb⟩; rw [HG.out]; have HC3 := Aside0.mk (HC.out.below hb); have HU3 := Aside0.mk (HU.out.then hb); have HN3 := Aside0.mk (Nat.le_trans HN.out hb.size); have HL3 : Aside0 (Kd.C k71 w3 A ls.length ls ∧ ls.length ≤ k) := ⟨⟨Kd.C_below HL.out.1 hb, HL.out.2⟩⟩; have n0 := Aside0.mk (blk_below C0.out hb); have n1 := Aside0.mk (blk_below C1.out hb); have n2 := Aside0.mk (blk_below C2.out hb); clear hb; clear C0 C1 C2 c0 c1 c2 c3 s0 s1 s2 s3 r0 r1 r2 r3 g0 g1 g2 g3; have C0 := n0; have C1 := n1; have C2 := n2; clear n0 n1 n2; have c0 : w3.cell? ⟨w.heap.size, 0, none⟩ = some (.int .i64 cal) := (blk_cell C0.out 0).trans rfl; have c1 : w3.cell? ⟨w.heap.size, 1, none⟩ = some (.slice A ls.length k) := (blk_cell C0.out 1).trans rfl; have c2 : w3.cell? ⟨w.heap.size, 2, none⟩ = some (.int .i64 re) := (blk_cell C0.out 2).trans rfl; have c3 : w3.cell? ⟨w.heap.size, 3, none⟩ = some (.int .i64 ba) := (blk_cell C0.out 3).trans rfl; have s0 : w3.cell? ⟨w.heap.size + 1, 0, none⟩ = some (.int .i64 lv) := (blk_cell C1.out 0).trans rfl; have s1 : w3.cell? ⟨w.heap.size + 1, 1, none⟩ = some (.int .i64 fr) := (blk_cell C1.out 1).trans rfl; have s2 : w3.cell? ⟨w.heap.size + 1, 2, none⟩ = some (.int .i64 l) := (blk_cell C1.out 2).trans rfl; have s3 : w3.cell? ⟨w.heap.size + 1, 3, none⟩ = some (.int .i64 du) := (blk_cell C1.out 3).trans rfl; have r0 : w3.cell? ⟨w.heap.size + 1 + 1, 0, none⟩ = some (.int .i64 0) := (blk_cell C2.out 0).trans rfl; have r1 : w3.cell? ⟨w.heap.size + 1 + 1, 1, none⟩ = some (.int .i64 0) := (blk_cell C2.out 1).trans rfl; have r2 : w3.cell? ⟨w.heap.size + 1 + 1, 2, none⟩ = some (.int .i64 0) := (blk_cell C2.out 2).trans rfl; have r3 : w3.cell? ⟨w.heap.size + 1 + 1, 3, none⟩ = some (.int .i64 0) := (blk_cell C2.out 3).trans rfl; have g0 : w3.frozen? ⟨w.heap.size + 1 + 1, 0, none⟩ = false := blk_frozen C2.out 0; have g1 : w3.frozen? ⟨w.heap.size + 1 + 1, 1, none⟩ = false := blk_frozen C2.out 1; have g2 : w3.frozen? ⟨w.heap.size + 1 + 1, 2, none⟩ = false := blk_frozen C2.out 2; have g3 : w3.frozen? ⟨w.heap.size + 1 + 1, 3, none⟩ = false := blk_frozen C2.out 3)
  obtain ⟨C9, U9, E9⟩ := put4 C2.out HC3.out HU3.out (by omega) (.int .i64 0) (.int .i64 0) (.int .i64 0) (.int .i64 0)
  have k0 := (blk_cell E9 0).trans (rfl : _ = some (Value.int .i64 0))
  have k1 := (blk_cell E9 1).trans (rfl : _ = some (Value.int .i64 0))
  have k2 := (blk_cell E9 2).trans (rfl : _ = some (Value.int .i64 0))
  have k3 := (blk_cell E9 3).trans (rfl : _ = some (Value.int .i64 0))
  refine bodyPost_ret (v := .tuple #[.agg #[.int .i64 0, .int .i64 0, .int .i64 0, .int .i64 0], .bool false, .int .i64 2]) (by simp [results, Tryz.results83, go_sem, k0, k1, k2, k3]) rfl ⟨rfl, C9, U9⟩
set_option maxHeartbeats 4000000 in
set_option maxRecDepth 100000 in
theorem next_last (cal re ba lv fr l du now : Int) (w : World) (h : ClkAt w n kb ab pb cb off week closed) (hn : n ≤ w.heap.size) (h1 : Kd.C k71 w A ls.length ls ∧ ls.length ≤ k) (hg : goodP cal ls re ba = true) (hx : 0 ≤ lv) (hy : lv < (ls.length : Int)) (hz : lv = (ls.length : Int) - 1) :
    Calls Tryz.prog 83 #[.pointer (some ⟨kb, 0, none⟩), .agg #[.int .i64 cal, .slice A ls.length k, .int .i64 re, .int .i64 ba], .agg #[.int .i64 lv, .int .i64 fr, .int .i64 l, .int .i64 du], .int .i64 now] w fun r w' => r = .returned (.tuple #[.agg #[.int .i64 0, .int .i64 0, .int .i64 0, .int .i64 0], .bool false, .int .i64 0]) ∧ ClkAt w' n kb ab pb cb off week closed ∧ Upd cb w w' := by
  have HG := Aside0.mk (show (if goodP cal ls re ba = true then (0 : Int) else 2) = 0 by rw [hg]; rfl)
  obtain ⟨gg, gl⟩ := goodP_iff.1 hg
  have p0 : 1 ≤ (ls.length : Int) := gg.2.2.1
  have p1 : (ls.length : Int) ≤ 6 := gg.2.2.2.1
  have hd : decide (lv < 0) = false := decide_eq_false (by omega)
  have hd2 : decide ((ls.length : Int) ≤ lv) = false := decide_eq_false (by omega)
  clear gg
  have he : (lv == (ls.length : Int) - 1) = true := by simpa using hz
  clear hg gl hz
  have hcb := h.lt
  have C0 : Aside0 ((((w.alloc (.cells #[.int .i64 cal, .slice A ls.length k, .int .i64 re, .int .i64 ba] 48)).alloc (.cells #[.int .i64 lv, .int .i64 fr, .int .i64 l, .int .i64 du] 75)).alloc (.cells #[.int .i64 0, .int .i64 0, .int .i64 0, .int .i64 0] 75)).heap[w.heap.size]? = some (.cells #[.int .i64 cal, .slice A ls.length k, .int .i64 re, .int .i64 ba] 48 (0, 0))) := ⟨blk_alloc (blk_alloc (blk_new w _) _) _⟩
  have C1 : Aside0 ((((w.alloc (.cells #[.int .i64 cal, .slice A ls.length k, .int .i64 re, .int .i64 ba] 48)).alloc (.cells #[.int .i64 lv, .int .i64 fr, .int .i64 l, .int .i64 du] 75)).alloc (.cells #[.int .i64 0, .int .i64 0, .int .i64 0, .int .i64 0] 75)).heap[w.heap.size + 1]? = some (.cells #[.int .i64 lv, .int .i64 fr, .int .i64 l, .int .i64 du] 75 (0, 0))) := ⟨blk_alloc (by simpa using blk_new (w.alloc (.cells #[.int .i64 cal, .slice A ls.length k, .int .i64 re, .int .i64 ba] 48)) (.cells #[.int .i64 lv, .int .i64 fr, .int .i64 l, .int .i64 du] 75)) _⟩
  have C2 : Aside0 ((((w.alloc (.cells #[.int .i64 cal, .slice A ls.length k, .int .i64 re, .int .i64 ba] 48)).alloc (.cells #[.int .i64 lv, .int .i64 fr, .int .i64 l, .int .i64 du] 75)).alloc (.cells #[.int .i64 0, .int .i64 0, .int .i64 0, .int .i64 0] 75)).heap[w.heap.size + 1 + 1]? = some (.cells #[.int .i64 0, .int .i64 0, .int .i64 0, .int .i64 0] 75 (0, 0))) := ⟨by simpa using blk_new ((w.alloc (.cells #[.int .i64 cal, .slice A ls.length k, .int .i64 re, .int .i64 ba] 48)).alloc (.cells #[.int .i64 lv, .int .i64 fr, .int .i64 l, .int .i64 du] 75)) (.cells #[.int .i64 0, .int .i64 0, .int .i64 0, .int .i64 0] 75)⟩
  have HB := below_alloc (below_alloc (below_alloc (Below.refl w.heap.size w) (.cells #[.int .i64 cal, .slice A ls.length k, .int .i64 re, .int .i64 ba] 48)) (.cells #[.int .i64 lv, .int .i64 fr, .int .i64 l, .int .i64 du] 75)) (.cells #[.int .i64 0, .int .i64 0, .int .i64 0, .int .i64 0] 75)
  have HC := Aside0.mk (h.below HB)
  have HU := Aside0.mk (Upd.of_below (b := cb) HB)
  have HN := Aside0.mk (Nat.le_trans hn HB.size)
  have HL : Aside0 (Kd.C k71 _ A ls.length ls ∧ ls.length ≤ k) := ⟨⟨Kd.C_below h1.1 HB, h1.2⟩⟩
  clear h HB h1
  go_enter Tryz.func83, Tryz.ntmps83
  go_wp2_with fail
  generalize (((w.alloc (.cells #[.int .i64 cal, .slice A ls.length k, .int .i64 re, .int .i64 ba] 48)).alloc (.cells #[.int .i64 lv, .int .i64 fr, .int .i64 l, .int .i64 du] 75)).alloc (.cells #[.int .i64 0, .int .i64 0, .int .i64 0, .int .i64 0] 75)) = w2 at C0 C1 C2 HC HU HN HL ⊢
  have c0 : w2.cell? ⟨w.heap.size, 0, none⟩ = some (.int .i64 cal) := (blk_cell C0.out 0).trans rfl
  have c1 : w2.cell? ⟨w.heap.size, 1, none⟩ = some (.slice A ls.length k) := (blk_cell C0.out 1).trans rfl
  have c2 : w2.cell? ⟨w.heap.size, 2, none⟩ = some (.int .i64 re) := (blk_cell C0.out 2).trans rfl
  have c3 : w2.cell? ⟨w.heap.size, 3, none⟩ = some (.int .i64 ba) := (blk_cell C0.out 3).trans rfl
  have s0 : w2.cell? ⟨w.heap.size + 1, 0, none⟩ = some (.int .i64 lv) := (blk_cell C1.out 0).trans rfl
  have s1 : w2.cell? ⟨w.heap.size + 1, 1, none⟩ = some (.int .i64 fr) := (blk_cell C1.out 1).trans rfl
  have s2 : w2.cell? ⟨w.heap.size + 1, 2, none⟩ = some (.int .i64 l) := (blk_cell C1.out 2).trans rfl
  have s3 : w2.cell? ⟨w.heap.size + 1, 3, none⟩ = some (.int .i64 du) := (blk_cell C1.out 3).trans rfl
  have r0 : w2.cell? ⟨w.heap.size + 1 + 1, 0, none⟩ = some (.int .i64 0) := (blk_cell C2.out 0).trans rfl
  have r1 : w2.cell? ⟨w.heap.size + 1 + 1, 1, none⟩ = some (.int .i64 0) := (blk_cell C2.out 1).trans rfl
  have r2 : w2.cell? ⟨w.heap.size + 1 + 1, 2, none⟩ = some (.int .i64 0) := (blk_cell C2.out 2).trans rfl
  have r3 : w2.cell? ⟨w.heap.size + 1 + 1, 3, none⟩ = some (.int .i64 0) := (blk_cell C2.out 3).trans rfl
  have g0 : w2.frozen? ⟨w.heap.size + 1 + 1, 0, none⟩ = false := blk_frozen C2.out 0
  have g1 : w2.frozen? ⟨w.heap.size + 1 + 1, 1, none⟩ = false := blk_frozen C2.out 1
  have g2 : w2.frozen? ⟨w.heap.size + 1 + 1, 2, none⟩ = false := blk_frozen C2.out 2
  have g3 : w2.frozen? ⟨w.heap.size + 1 + 1, 3, none⟩ = false := blk_frozen C2.out 3
  go_wp2_with (go_at_call 24; refine (check14_any w2 HL.out).mono ?_; rintro e w3 ⟨rfl, hb⟩; rw [HG.out]; have HC3 := Aside0.mk (HC.out.below hb); have HU3 := Aside0.mk (HU.out.then hb); have HN3 := Aside0.mk (Nat.le_trans HN.out hb.size); have HL3 : Aside0 (Kd.C k71 w3 A ls.length ls ∧ ls.length ≤ k) := ⟨⟨Kd.C_below HL.out.1 hb, HL.out.2⟩⟩; have n0 := Aside0.mk (blk_below C0.out hb); have n1 := Aside0.mk (blk_below C1.out hb); have n2 := Aside0.mk (blk_below C2.out hb); clear hb; clear C0 C1 C2 c0 c1 c2 c3 s0 s1 s2 s3 r0 r1 r2 r3 g0 g1 g2 g3; have C0 := n0; have C1 := n1; have C2 := n2; clear n0 n1 n2; have c0 : w3.cell? ⟨w.heap.size, 0, none⟩ = some (.int .i64 cal) := (blk_cell C0.out 0).trans rfl; have c1 : w3.cell? ⟨w.heap.size, 1, none⟩ = some (.slice A ls.length k) := (blk_cell C0.out 1).trans rfl; have c2 : w3.cell? ⟨w.heap.size, 2, none⟩ = some (.int .i64 re) := (blk_cell C0.out 2).trans rfl; have c3 : w3.cell? ⟨w.heap.size, 3, none⟩ = some (.int .i64 ba) := (blk_cell C0.out 3).trans rfl; have s0 : w3.cell? ⟨w.heap.size + 1, 0, none⟩ = some (.int .i64 lv) := (blk_cell C1.out 0).trans rfl; have s1 : w3.cell? ⟨w.heap.size + 1, 1, none⟩ = some (.int .i64 fr) := (blk_cell C1.out 1).trans rfl; have s2 : w3.cell? ⟨w.heap.size + 1, 2, none⟩ = some (.int .i64 l) := (blk_cell C1.out 2).trans rfl; have s3 : w3.cell? ⟨w.heap.size + 1, 3, none⟩ = some (.int .i64 du) := (blk_cell C1.out 3).trans rfl; have r0 : w3.cell? ⟨w.heap.size + 1 + 1, 0, none⟩ = some (.int .i64 0) := (blk_cell C2.out 0).trans rfl; have r1 : w3.cell? ⟨w.heap.size + 1 + 1, 1, none⟩ = some (.int .i64 0) := (blk_cell C2.out 1).trans rfl; have r2 : w3.cell? ⟨w.heap.size + 1 + 1, 2, none⟩ = some (.int .i64 0) := (blk_cell C2.out 2).trans rfl; have r3 : w3.cell? ⟨w.heap.size + 1 + 1, 3, none⟩ = some (.int .i64 0) := (blk_cell C2.out 3).trans rfl; have g0 : w3.frozen? ⟨w.heap.size + 1 + 1, 0, none⟩ = false := blk_frozen C2.out 0; have g1 : w3.frozen? ⟨w.heap.size + 1 + 1, 1, none⟩ = false := blk_frozen C2.out 1; have g2 : w3.frozen? ⟨w.heap.size + 1 + 1, 2, none⟩ = false := blk_frozen C2.out 2; have g3 : w3.frozen? ⟨w.heap.size + 1 + 1, 3, none⟩ = false := blk_frozen C2.out 3)
  obtain ⟨C9, U9, E9⟩ := put4 C2.out HC3.out HU3.out (by omega) (.int .i64 0) (.int .i64 0) (.int .i64 0) (.int .i64 0)
  have k0 := (blk_cell E9 0).trans (rfl : _ = some (Value.int .i64 0))
  have k1 := (blk_cell E9 1).trans (rfl : _ = some (Value.int .i64 0))
  have k2 := (blk_cell E9 2).trans (rfl : _ = some (Value.int .i64 0))
  have k3 := (blk_cell E9 3).trans (rfl : _ = some (Value.int .i64 0))
  refine bodyPost_ret (v := .tuple #[.agg #[.int .i64 0, .int .i64 0, .int .i64 0, .int .i64 0], .bool false, .int .i64 0]) (by simp [results, Tryz.results83, go_sem, k0, k1, k2, k3]) rfl ⟨rfl, C9, U9⟩
set_option maxHeartbeats 4000000 in
set_option maxRecDepth 100000 in
theorem next_main (cal re ba lv fr l du now : Int) (w : World) (h : ClkAt w n kb ab pb cb off week closed) (hn : n ≤ w.heap.size) (h1 : Kd.C k71 w A ls.length ls ∧ ls.length ≤ k) (hg : goodP cal ls re ba = true) (hx : 0 ≤ lv) (hy : lv < (ls.length : Int)) (hz : lv ≠ (ls.length : Int) - 1) (a b c d e : Int) (ha : atS off week closed (lv + 1) (rd_T71 ls (lv + 1)).f0 now = (a, b, c, d, e)) :
    Calls Tryz.prog 83 #[.pointer (some ⟨kb, 0, none⟩), .agg #[.int .i64 cal, .slice A ls.length k, .int .i64 re, .int .i64 ba], .agg #[.int .i64 lv, .int .i64 fr, .int .i64 l, .int .i64 du], .int .i64 now] w fun r w' => r = .returned (.tuple #[.agg #[.int .i64 a, .int .i64 b, .int .i64 c, .int .i64 d], .bool (e == 0), .int .i64 e]) ∧ ClkAt w' n kb ab pb cb off week closed ∧ Upd cb w w' := by
  have HG := Aside0.mk (show (if goodP cal ls re ba = true then (0 : Int) else 2) = 0 by rw [hg]; rfl)
  obtain ⟨gg, gl⟩ := goodP_iff.1 hg
  have p0 : 1 ≤ (ls.length : Int) := gg.2.2.1
  have p1 : (ls.length : Int) ≤ 6 := gg.2.2.2.1
  have hd : decide (lv < 0) = false := decide_eq_false (by omega)
  have hd2 : decide ((ls.length : Int) ≤ lv) = false := decide_eq_false (by omega)
  clear gg
  have he : (lv == (ls.length : Int) - 1) = false := by simpa using hz
  have q0 : 0 ≤ lv + 1 := by omega
  have q1 : lv + 1 < (ls.length : Int) := by omega
  have hm := gl (rd_T71 ls ((lv.toNat + 1 : Nat) : Int)) (by rw [rdL_at ls (lv.toNat + 1) (by omega)]; exact List.getElem_mem _)
  rw [show ((lv.toNat + 1 : Nat) : Int) = lv + 1 by omega] at hm
  obtain ⟨b0, b1, _, _⟩ := hm
  obtain ⟨ad, e1, hx0, hx1⟩ := at_T71 h1.1 (lv + 1) q0 q1
  subst e1
  generalize (rd_T71 ls (lv + 1)).f0 = B at ha b0 b1 hx0
  have HA := Aside0.mk ha
  have HX : Aside0 (w.cell? (ad.add ((lv + 1).toNat * 2)) = some (.int .i64 B)) := ⟨hx0⟩
  have hw : wrap64 (lv + 1) = lv + 1 := wrap_id (by omega) (by omega)
  clear hg gl hx0 hx1 ha hz
  have hcb := h.lt
  have C0 : Aside0 ((((w.alloc (.cells #[.int .i64 cal, .slice (some ad) ls.length k, .int .i64 re, .int .i64 ba] 48)).alloc (.cells #[.int .i64 lv, .int .i64 fr, .int .i64 l, .int .i64 du] 75)).alloc (.cells #[.int .i64 0, .int .i64 0, .int .i64 0, .int .i64 0] 75)).heap[w.heap.size]? = some (.cells #[.int .i64 cal, .slice (some ad) ls.length k, .int .i64 re, .int .i64 ba] 48 (0, 0))) := ⟨blk_alloc (blk_alloc (blk_new w _) _) _⟩
  have C1 : Aside0 ((((w.alloc (.cells #[.int .i64 cal, .slice (some ad) ls.length k, .int .i64 re, .int .i64 ba] 48)).alloc (.cells #[.int .i64 lv, .int .i64 fr, .int .i64 l, .int .i64 du] 75)).alloc (.cells #[.int .i64 0, .int .i64 0, .int .i64 0, .int .i64 0] 75)).heap[w.heap.size + 1]? = some (.cells #[.int .i64 lv, .int .i64 fr, .int .i64 l, .int .i64 du] 75 (0, 0))) := ⟨blk_alloc (by simpa using blk_new (w.alloc (.cells #[.int .i64 cal, .slice (some ad) ls.length k, .int .i64 re, .int .i64 ba] 48)) (.cells #[.int .i64 lv, .int .i64 fr, .int .i64 l, .int .i64 du] 75)) _⟩
  have C2 : Aside0 ((((w.alloc (.cells #[.int .i64 cal, .slice (some ad) ls.length k, .int .i64 re, .int .i64 ba] 48)).alloc (.cells #[.int .i64 lv, .int .i64 fr, .int .i64 l, .int .i64 du] 75)).alloc (.cells #[.int .i64 0, .int .i64 0, .int .i64 0, .int .i64 0] 75)).heap[w.heap.size + 1 + 1]? = some (.cells #[.int .i64 0, .int .i64 0, .int .i64 0, .int .i64 0] 75 (0, 0))) := ⟨by simpa using blk_new ((w.alloc (.cells #[.int .i64 cal, .slice (some ad) ls.length k, .int .i64 re, .int .i64 ba] 48)).alloc (.cells #[.int .i64 lv, .int .i64 fr, .int .i64 l, .int .i64 du] 75)) (.cells #[.int .i64 0, .int .i64 0, .int .i64 0, .int .i64 0] 75)⟩
  have HB := below_alloc (below_alloc (below_alloc (Below.refl w.heap.size w) (.cells #[.int .i64 cal, .slice (some ad) ls.length k, .int .i64 re, .int .i64 ba] 48)) (.cells #[.int .i64 lv, .int .i64 fr, .int .i64 l, .int .i64 du] 75)) (.cells #[.int .i64 0, .int .i64 0, .int .i64 0, .int .i64 0] 75)
  have HC := Aside0.mk (h.below HB)
  have HU := Aside0.mk (Upd.of_below (b := cb) HB)
  have HN := Aside0.mk (Nat.le_trans hn HB.size)
  have HL : Aside0 (Kd.C k71 _ (some ad) ls.length ls ∧ ls.length ≤ k) := ⟨⟨Kd.C_below h1.1 HB, h1.2⟩⟩
  have X0 := Aside0.mk ((HB.cell (World.block_lt_of_cell? w _ HX.out)).trans HX.out)
  clear h HB h1 HX
  go_enter Tryz.func83, Tryz.ntmps83
  go_wp2_with fail
  generalize (((w.alloc (.cells #[.int .i64 cal, .slice (some ad) ls.length k, .int .i64 re, .int .i64 ba] 48)).alloc (.cells #[.int .i64 lv, .int .i64 fr, .int .i64 l, .int .i64 du] 75)).alloc (.cells #[.int .i64 0, .int .i64 0, .int .i64 0, .int .i64 0] 75)) = w2 at C0 C1 C2 HC HU HN HL X0 ⊢
  have c0 : w2.cell? ⟨w.heap.size, 0, none⟩ = some (.int .i64 cal) := (blk_cell C0.out 0).trans rfl
  have c1 : w2.cell? ⟨w.heap.size, 1, none⟩ = some (.slice (some ad) ls.length k) := (blk_cell C0.out 1).trans rfl
  have c2 : w2.cell? ⟨w.heap.size, 2, none⟩ = some (.int .i64 re) := (blk_cell C0.out 2).trans rfl
  have c3 : w2.cell? ⟨w.heap.size, 3, none⟩ = some (.int .i64 ba) := (blk_cell C0.out 3).trans rfl
  have s0 : w2.cell? ⟨w.heap.size + 1, 0, none⟩ = some (.int .i64 lv) := (blk_cell C1.out 0).trans rfl
  have s1 : w2.cell? ⟨w.heap.size + 1, 1, none⟩ = some (.int .i64 fr) := (blk_cell C1.out 1).trans rfl
  have s2 : w2.cell? ⟨w.heap.size + 1, 2, none⟩ = some (.int .i64 l) := (blk_cell C1.out 2).trans rfl
  have s3 : w2.cell? ⟨w.heap.size + 1, 3, none⟩ = some (.int .i64 du) := (blk_cell C1.out 3).trans rfl
  have r0 : w2.cell? ⟨w.heap.size + 1 + 1, 0, none⟩ = some (.int .i64 0) := (blk_cell C2.out 0).trans rfl
  have r1 : w2.cell? ⟨w.heap.size + 1 + 1, 1, none⟩ = some (.int .i64 0) := (blk_cell C2.out 1).trans rfl
  have r2 : w2.cell? ⟨w.heap.size + 1 + 1, 2, none⟩ = some (.int .i64 0) := (blk_cell C2.out 2).trans rfl
  have r3 : w2.cell? ⟨w.heap.size + 1 + 1, 3, none⟩ = some (.int .i64 0) := (blk_cell C2.out 3).trans rfl
  have g0 : w2.frozen? ⟨w.heap.size + 1 + 1, 0, none⟩ = false := blk_frozen C2.out 0
  have g1 : w2.frozen? ⟨w.heap.size + 1 + 1, 1, none⟩ = false := blk_frozen C2.out 1
  have g2 : w2.frozen? ⟨w.heap.size + 1 + 1, 2, none⟩ = false := blk_frozen C2.out 2
  have g3 : w2.frozen? ⟨w.heap.size + 1 + 1, 3, none⟩ = false := blk_frozen C2.out 3
  go_wp2_with (go_at_call 24; refine (check14_any w2 HL.out).mono ?_; rintro e w3 ⟨rfl, hb⟩; rw [HG.out]; have HC3 := Aside0.mk (HC.out.below hb); have HU3 := Aside0.mk (HU.out.then hb); have HN3 := Aside0.mk (Nat.le_trans HN.out hb.size); have HL3 : Aside0 (Kd.C k71 w3 (some ad) ls.length ls ∧ ls.length ≤ k) := ⟨⟨Kd.C_below HL.out.1 hb, HL.out.2⟩⟩; have n0 := Aside0.mk (blk_below C0.out hb); have n1 := Aside0.mk (blk_below C1.out hb); have n2 := Aside0.mk (blk_below C2.out hb); have X3 := Aside0.mk ((hb.cell (World.block_lt_of_cell? w2 _ X0.out)).trans X0.out); clear hb X0; clear C0 C1 C2 c0 c1 c2 c3 s0 s1 s2 s3 r0 r1 r2 r3 g0 g1 g2 g3; have C0 := n0; have C1 := n1; have C2 := n2; clear n0 n1 n2; have c0 : w3.cell? ⟨w.heap.size, 0, none⟩ = some (.int .i64 cal) := (blk_cell C0.out 0).trans rfl; have c1 : w3.cell? ⟨w.heap.size, 1, none⟩ = some (.slice (some ad) ls.length k) := (blk_cell C0.out 1).trans rfl; have c2 : w3.cell? ⟨w.heap.size, 2, none⟩ = some (.int .i64 re) := (blk_cell C0.out 2).trans rfl; have c3 : w3.cell? ⟨w.heap.size, 3, none⟩ = some (.int .i64 ba) := (blk_cell C0.out 3).trans rfl; have s0 : w3.cell? ⟨w.heap.size + 1, 0, none⟩ = some (.int .i64 lv) := (blk_cell C1.out 0).trans rfl; have s1 : w3.cell? ⟨w.heap.size + 1, 1, none⟩ = some (.int .i64 fr) := (blk_cell C1.out 1).trans rfl; have s2 : w3.cell? ⟨w.heap.size + 1, 2, none⟩ = some (.int .i64 l) := (blk_cell C1.out 2).trans rfl; have s3 : w3.cell? ⟨w.heap.size + 1, 3, none⟩ = some (.int .i64 du) := (blk_cell C1.out 3).trans rfl; have r0 : w3.cell? ⟨w.heap.size + 1 + 1, 0, none⟩ = some (.int .i64 0) := (blk_cell C2.out 0).trans rfl; have r1 : w3.cell? ⟨w.heap.size + 1 + 1, 1, none⟩ = some (.int .i64 0) := (blk_cell C2.out 1).trans rfl; have r2 : w3.cell? ⟨w.heap.size + 1 + 1, 2, none⟩ = some (.int .i64 0) := (blk_cell C2.out 2).trans rfl; have r3 : w3.cell? ⟨w.heap.size + 1 + 1, 3, none⟩ = some (.int .i64 0) := (blk_cell C2.out 3).trans rfl; have g0 : w3.frozen? ⟨w.heap.size + 1 + 1, 0, none⟩ = false := blk_frozen C2.out 0; have g1 : w3.frozen? ⟨w.heap.size + 1 + 1, 1, none⟩ = false := blk_frozen C2.out 1; have g2 : w3.frozen? ⟨w.heap.size + 1 + 1, 2, none⟩ = false := blk_frozen C2.out 2; have g3 : w3.frozen? ⟨w.heap.size + 1 + 1, 3, none⟩ = false := blk_frozen C2.out 3)
  have hb4 : Below w3.heap.size w3 w3.drew := below_drew1 (Below.refl _ _)
  have HC4 := Aside0.mk (HC3.out.below hb4)
  have HU4 := Aside0.mk (HU3.out.then hb4)
  have HN4 : Aside0 (n ≤ w3.drew.heap.size) := ⟨HN3.out⟩
  have D0 := Aside0.mk (blk_below C0.out hb4)
  have D1 := Aside0.mk (blk_below C1.out hb4)
  have D2 := Aside0.mk (blk_below C2.out hb4)
  have z0 : w3.drew.cell? ⟨w.heap.size + 1, 0, none⟩ = some (.int .i64 lv) := (blk_cell D1.out 0).trans rfl
  have z1 : w3.drew.cell? ⟨w.heap.size, 1, none⟩ = some (.slice (some ad) ls.length k) := (blk_cell D0.out 1).trans rfl
  have z2 : w3.drew.cell? (ad.add ((lv + 1).toNat * 2)) = some (.int .i64 B) := X3.out
  clear hb4 C0 C1 C2 HC3 HU3 HN3 X3 c0 c1 c2 c3 s0 s1 s2 s3 r0 r1 r2 r3 g0 g1 g2 g3
  refine start_ (n := 20) (S := fun w' => w'.cell? ⟨w.heap.size + 1, 0, none⟩ = some (.int .i64 lv) ∧ w'.cell? ⟨w.heap.size, 1, none⟩ = some (.slice (some ad) ls.length k) ∧ w'.cell? (ad.add ((lv + 1).toNat * 2)) = some (.int .i64 B)) (ds := [14, 18]) #[false, false, false, false, false, false, false, false, false, false, false, false, false, false, false, false, false, false, false, false] (by kernel_rfl) rfl rfl ⟨z0, z1, z2⟩ (fun hHeld => ?_); refine with_tabW next_tab9 next_bits9 (fun HT_ HW_ => ?_)
  clear z0 z1 z2
  generalize w3.drew = w4 at HC4 HU4 HN4 D0 D1 D2 hHeld ⊢
  refine pure_ (i := 0) (N := some 45) (v := ?_) (a' := ?_) #[true, false, false, false, false, false, false, false, false, false, false, false, false, false, false, false, false, false, false, false] rfl rfl (any_of HT_.out (by kernel_rfl)) (fun _ _ _ h => h) (Or.inl ⟨by rfl, ?_⟩) ?_ ?_
  rotate_left
  · intro w'
    go_simp
    with_reducible rfl
  rotate_left
  · simp only [Act.put, List.setIfInBounds_toArray, List.set_cons_zero, List.set_cons_succ, i64_w, i32_w]
    rfl
  refine pure_ (i := 3) (N := some 48) (v := ?_) (a' := ?_) #[true, false, false, true, false, false, false, false, false, false, false, false, false, false, false, false, false, false, false, false] rfl rfl (any_of HT_.out (by kernel_rfl)) (fun _ _ _ h => h) (Or.inl ⟨by rfl, ?_⟩) ?_ ?_
  rotate_left
  · intro w'
    go_simp
    with_reducible rfl
  rotate_left
  · simp only [Act.put, List.setIfInBounds_toArray, List.set_cons_zero, List.set_cons_succ, i64_w, i32_w]
    rfl
  refine pure_ (i := 5) (N := some 50) (v := ?_) (a' := ?_) #[true, false, false, true, false, true, false, false, false, false, false, false, false, false, false, false, false, false, false, false] rfl rfl (any_of HT_.out (by kernel_rfl)) (fun _ _ _ h => h) (Or.inl ⟨by rfl, ?_⟩) ?_ ?_
  rotate_left
  · intro w'
    go_simp
    with_reducible rfl
  rotate_left
  · simp only [Act.put, List.setIfInBounds_toArray, List.set_cons_zero, List.set_cons_succ, i64_w, i32_w]
    rfl
  refine pure_ (i := 12) (N := some 57) (v := ?_) (a' := ?_) #[true, false, false, true, false, true, false, false, false, false, false, false, true, false, false, false, false, false, false, false] rfl rfl (any_of HT_.out (by kernel_rfl)) (fun _ _ _ h => h) (Or.inl ⟨by rfl, ?_⟩) ?_ ?_
  rotate_left
  · intro w'
    go_simp
    with_reducible rfl
  rotate_left
  · simp only [Act.put, List.setIfInBounds_toArray, List.set_cons_zero, List.set_cons_succ, i64_w, i32_w]
    rfl
  refine pure_ (i := 13) (N := some 58) (v := ?_) (a' := ?_) #[true, false, false, true, false, true, false, false, false, false, false, false, true, true, false, false, false, false, false, false] rfl rfl (any_of HT_.out (by kernel_rfl)) (fun _ _ _ h => h) (Or.inl ⟨by rfl, ?_⟩) ?_ ?_
  rotate_left
  · intro w'
    go_simp
    with_reducible rfl
  rotate_left
  · simp only [Act.put, List.setIfInBounds_toArray, List.set_cons_zero, List.set_cons_succ, i64_w, i32_w]
    rfl
  refine take_ (i := 1) (N := some 46) (v := ?_) (a' := ?_) #[true, true, false, true, false, true, false, false, false, false, false, false, true, true, false, false, false, false, false, false] rfl rfl (take_ofW HT_.out HW_.out (by kernel_rfl)) (fun _ _ _ h => h) (Or.inl ⟨by rfl, ?_⟩) hHeld ?_ ?_
  rotate_left
  · rintro w' ⟨s0, s1, s2⟩
    go_simp
    with_reducible rfl
  rotate_left
  · simp only [Act.put, List.setIfInBounds_toArray, List.set_cons_zero, List.set_cons_succ, i64_w, i32_w]
    rfl
  refine pure_ (i := 2) (N := some 47) (v := ?_) (a' := ?_) #[true, true, true, true, false, true, false, false, false, false, false, false, true, true, false, false, false, false, false, false] rfl rfl (any_of HT_.out (by kernel_rfl)) (fun _ _ _ h => h) (Or.inl ⟨by rfl, ?_⟩) ?_ ?_
  rotate_left
  · intro w'
    go_simp
    with_reducible rfl
  rotate_left
  · simp only [Act.put, List.setIfInBounds_toArray, List.set_cons_zero, List.set_cons_succ, i64_w, i32_w]
    rfl
  refine take_ (i := 4) (N := some 49) (v := ?_) (a' := ?_) #[true, true, true, true, true, true, false, false, false, false, false, false, true, true, false, false, false, false, false, false] rfl rfl (take_ofW HT_.out HW_.out (by kernel_rfl)) (fun _ _ _ h => h) (Or.inl ⟨by rfl, ?_⟩) hHeld ?_ ?_
  rotate_left
  · rintro w' ⟨s0, s1, s2⟩
    go_simp
    with_reducible rfl
  rotate_left
  · simp only [Act.put, List.setIfInBounds_toArray, List.set_cons_zero, List.set_cons_succ, i64_w, i32_w]
    rfl
  refine take_ (i := 6) (N := some 51) (v := ?_) (a' := ?_) #[true, true, true, true, true, true, true, false, false, false, false, false, true, true, false, false, false, false, false, false] rfl rfl (take_ofW HT_.out HW_.out (by kernel_rfl)) (fun _ _ _ h => h) (Or.inl ⟨by rfl, ?_⟩) hHeld ?_ ?_
  rotate_left
  · rintro w' ⟨s0, s1, s2⟩
    go_simp
    with_reducible rfl
  rotate_left
  · simp only [Act.put, List.setIfInBounds_toArray, List.set_cons_zero, List.set_cons_succ, i64_w, i32_w]
    rfl
  refine pure_ (i := 7) (N := some 52) (v := ?_) (a' := ?_) #[true, true, true, true, true, true, true, true, false, false, false, false, true, true, false, false, false, false, false, false] rfl rfl (any_of HT_.out (by kernel_rfl)) (fun _ _ _ h => h) (Or.inl ⟨by rfl, ?_⟩) ?_ ?_
  rotate_left
  · intro w'
    go_simp
    with_reducible rfl
  rotate_left
  · simp only [Act.put, List.setIfInBounds_toArray, List.set_cons_zero, List.set_cons_succ, i64_w, i32_w]
    rfl
  refine pure_ (i := 8) (N := some 53) (v := ?_) (a' := ?_) #[true, true, true, true, true, true, true, true, true, false, false, false, true, true, false, false, false, false, false, false] rfl rfl (any_of HT_.out (by kernel_rfl)) (fun _ _ _ h => h) (Or.inl ⟨by rfl, ?_⟩) ?_ ?_
  rotate_left
  · intro w'
    go_simp
    with_reducible rfl
  rotate_left
  · simp only [Act.put, List.setIfInBounds_toArray, List.set_cons_zero, List.set_cons_succ, i64_w, i32_w]
    rfl
  refine pure_ (i := 9) (N := some 54) (v := ?_) (a' := ?_) #[true, true, true, true, true, true, true, true, true, true, false, false, true, true, false, false, false, false, false, false] rfl rfl (any_of HT_.out (by kernel_rfl)) (fun _ _ _ h => h) (Or.inl ⟨by rfl, ?_⟩) ?_ ?_
  rotate_left
  · intro w'
    go_simp
    with_reducible rfl
  rotate_left
  · simp only [Act.put, List.setIfInBounds_toArray, List.set_cons_zero, List.set_cons_succ, i64_w, i32_w]
    rfl
  refine take_ (i := 10) (N := some 55) (v := ?_) (a' := ?_) #[true, true, true, true, true, true, true, true, true, true, true, false, true, true, false, false, false, false, false, false] rfl rfl (take_ofW HT_.out HW_.out (by kernel_rfl)) (fun _ _ _ h => h) (Or.inl ⟨by rfl, ?_⟩) hHeld ?_ ?_
  rotate_left
  · rintro w' ⟨s0, s1, s2⟩
    go_simp
    with_reducible rfl
  rotate_left
  · simp only [Act.put, List.setIfInBounds_toArray, List.set_cons_zero, List.set_cons_succ, i64_w, i32_w]
    rfl
  refine pure_ (i := 11) (N := some 56) (v := ?_) (a' := ?_) #[true, true, true, true, true, true, true, true, true, true, true, true, true, true, false, false, false, false, false, false] rfl rfl (any_of HT_.out (by kernel_rfl)) (fun _ _ _ h => h) (Or.inl ⟨by rfl, ?_⟩) ?_ ?_
  rotate_left
  · intro w'
    go_simp
    with_reducible rfl
  rotate_left
  · simp only [Act.put, List.setIfInBounds_toArray, List.set_cons_zero, List.set_cons_succ, i64_w, i32_w]
    rfl
  refine last_ (i := 14) (N := some 59) #[true, true, true, true, true, true, true, true, true, true, true, true, true, true, true, false, false, false, false, false] rfl rfl (one_of HT_.out (by kernel_rfl)) (by decide) (fun K hK => ?_)
  refine goes_ Tryz.func116 (by kernel_rfl) rfl #[.agg #[.int .i64 (lv + 1), .int .i64 0, .int .i64 B, .int .i64 0], .pointer (some ⟨kb, 0, none⟩), .int .i64 now] (by rfl) rfl rfl (by (try simp only [List.map_toArray, List.map_cons, List.map_nil]); first | done | rfl) ?_
  refine (stepat_any (lv + 1) 0 B 0 now a b c d e _ HC4.out HN4.out (by omega) HA.out).mono ?_
  rintro e w5 ⟨rfl, CK, UK⟩
  refine ⟨_, rfl, ?_⟩
  have HC5 := Aside0.mk CK
  have HU5 := Aside0.mk (HU4.out.trans UK)
  have E1 := Aside0.mk (UK.blk D1.out (by omega))
  have E2 := Aside0.mk (UK.blk D2.out (by omega))
  clear CK UK
  have u0 : w5.cell? ⟨w.heap.size + 1, 0, none⟩ = some (.int .i64 lv) := (blk_cell E1.out 0).trans rfl
  have u1 : w5.cell? ⟨w.heap.size + 1, 1, none⟩ = some (.int .i64 fr) := (blk_cell E1.out 1).trans rfl
  have u2 : w5.cell? ⟨w.heap.size + 1, 2, none⟩ = some (.int .i64 l) := (blk_cell E1.out 2).trans rfl
  have u3 : w5.cell? ⟨w.heap.size + 1, 3, none⟩ = some (.int .i64 du) := (blk_cell E1.out 3).trans rfl
  have f0 : w5.frozen? ⟨w.heap.size + 1, 0, none⟩ = false := blk_frozen E1.out 0
  have f1 : w5.frozen? ⟨w.heap.size + 1, 1, none⟩ = false := blk_frozen E1.out 1
  have f2 : w5.frozen? ⟨w.heap.size + 1, 2, none⟩ = false := blk_frozen E1.out 2
  have f3 : w5.frozen? ⟨w.heap.size + 1, 3, none⟩ = false := blk_frozen E1.out 3
  refine hK.out _ _ ?_
  clear hK K
  refine norm_ (a' := ?_) ?_ ?_
  rotate_left
  · show Act.put _ (some 59) _ = _
    simp only [Act.put, List.setIfInBounds_toArray, List.set_cons_zero, List.set_cons_succ, i64_w, i32_w]
    rfl
  refine pure_ (i := 15) (N := some 44) (v := ?_) (a' := ?_) #[true, true, true, true, true, true, true, true, true, true, true, true, true, true, true, true, false, false, false, false] rfl rfl (any_of HT_.out (by kernel_rfl)) (fun _ _ _ h => h) (Or.inl ⟨by rfl, ?_⟩) ?_ ?_
  rotate_left
  · intro w'
    go_simp
    with_reducible rfl
  rotate_left
  · simp only [Act.put, List.setIfInBounds_toArray, List.set_cons_zero, List.set_cons_succ, i64_w, i32_w]
    rfl
  refine pure_ (i := 16) (N := some 60) (v := ?_) (a' := ?_) #[true, true, true, true, true, true, true, true, true, true, true, true, true, true, true, true, true, false, false, false] rfl rfl (any_of HT_.out (by kernel_rfl)) (fun _ _ _ h => h) (Or.inl ⟨by rfl, ?_⟩) ?_ ?_
  rotate_left
  · intro w'
    go_simp
    with_reducible rfl
  rotate_left
  · simp only [Act.put, List.setIfInBounds_toArray, List.set_cons_zero, List.set_cons_succ, i64_w, i32_w]
    rfl
  refine pure_ (i := 17) (N := some 61) (v := ?_) (a' := ?_) #[true, true, true, true, true, true, true, true, true, true, true, true, true, true, true, true, true, true, false, false] rfl rfl (any_of HT_.out (by kernel_rfl)) (fun _ _ _ h => h) (Or.inl ⟨by rfl, ?_⟩) ?_ ?_
  rotate_left
  · intro w'
    go_simp
    with_reducible rfl
  rotate_left
  · simp only [Act.put, List.setIfInBounds_toArray, List.set_cons_zero, List.set_cons_succ, i64_w, i32_w]
    rfl
  refine last_ (i := 18) (N := none) #[true, true, true, true, true, true, true, true, true, true, true, true, true, true, true, true, true, true, true, false] rfl rfl (one_of HT_.out (by kernel_rfl)) (by decide) (fun K hK => ?_)
  refine skip_ (w1 := ?_) (by rfl) rfl ?_ ?_
  rotate_left 1
  · go_simp
    rfl
  refine hK.out _ _ ?_
  clear hK K
  refine pure_ (i := 19) (N := some 11) (v := ?_) (a' := ?_) #[true, true, true, true, true, true, true, true, true, true, true, true, true, true, true, true, true, true, true, true] rfl rfl (any_of HT_.out (by kernel_rfl)) (fun _ _ _ h => h) (Or.inl ⟨by rfl, ?_⟩) ?_ ?_
  rotate_left
  · intro w'
    go_simp
    with_reducible rfl
  rotate_left
  · simp only [Act.put, List.setIfInBounds_toArray, List.set_cons_zero, List.set_cons_succ, i64_w, i32_w]
    rfl
  refine done_ (done_of HT_.out (by kernel_rfl)) ?_
  clear HT_ HW_ hHeld u0 u1 u2 u3 f0 f1 f2 f3
  obtain ⟨C6, U6, E6⟩ := put4 E1.out HC5.out HU5.out (by omega) (.int .i64 a) (.int .i64 b) (.int .i64 c) (.int .i64 d)
  have HC6 := Aside0.mk C6
  have HU6 := Aside0.mk U6
  have C1 := Aside0.mk E6
  have C2 := Aside0.mk (far4 (b := w.heap.size + 1) E2.out (by omega) (.int .i64 a) (.int .i64 b) (.int .i64 c) (.int .i64 d))
  clear C6 U6 E6
  generalize ((((w5.setCell ⟨w.heap.size + 1, 0, none⟩ (.int .i64 a)).setCell ⟨w.heap.size + 1, 1, none⟩ (.int .i64 b)).setCell ⟨w.heap.size + 1, 2, none⟩ (.int .i64 c)).setCell ⟨w.heap.size + 1, 3, none⟩ (.int .i64 d)) = w6 at HC6 HU6 C1 C2 ⊢
  have s0 : w6.cell? ⟨w.heap.size + 1, 0, none⟩ = some (.int .i64 a) := (blk_cell C1.out 0).trans rfl
  have s1 : w6.cell? ⟨w.heap.size + 1, 1, none⟩ = some (.int .i64 b) := (blk_cell C1.out 1).trans rfl
  have s2 : w6.cell? ⟨w.heap.size + 1, 2, none⟩ = some (.int .i64 c) := (blk_cell C1.out 2).trans rfl
  have s3 : w6.cell? ⟨w.heap.size + 1, 3, none⟩ = some (.int .i64 d) := (blk_cell C1.out 3).trans rfl
  have r0 : w6.cell? ⟨w.heap.size + 1 + 1, 0, none⟩ = some (.int .i64 0) := (blk_cell C2.out 0).trans rfl
  have r1 : w6.cell? ⟨w.heap.size + 1 + 1, 1, none⟩ = some (.int .i64 0) := (blk_cell C2.out 1).trans rfl
  have r2 : w6.cell? ⟨w.heap.size + 1 + 1, 2, none⟩ = some (.int .i64 0) := (blk_cell C2.out 2).trans rfl
  have r3 : w6.cell? ⟨w.heap.size + 1 + 1, 3, none⟩ = some (.int .i64 0) := (blk_cell C2.out 3).trans rfl
  have g0 : w6.frozen? ⟨w.heap.size + 1 + 1, 0, none⟩ = false := blk_frozen C2.out 0
  have g1 : w6.frozen? ⟨w.heap.size + 1 + 1, 1, none⟩ = false := blk_frozen C2.out 1
  have g2 : w6.frozen? ⟨w.heap.size + 1 + 1, 2, none⟩ = false := blk_frozen C2.out 2
  have g3 : w6.frozen? ⟨w.heap.size + 1 + 1, 3, none⟩ = false := blk_frozen C2.out 3
  go_wp2
  obtain ⟨C9, U9, E9⟩ := put4 C2.out HC6.out HU6.out (by omega) (.int .i64 a) (.int .i64 b) (.int .i64 c) (.int .i64 d)
  have k0 := (blk_cell E9 0).trans (rfl : _ = some (Value.int .i64 a))
  have k1 := (blk_cell E9 1).trans (rfl : _ = some (Value.int .i64 b))
  have k2 := (blk_cell E9 2).trans (rfl : _ = some (Value.int .i64 c))
  have k3 := (blk_cell E9 3).trans (rfl : _ = some (Value.int .i64 d))
  refine bodyPost_ret (v := .tuple #[.agg #[.int .i64 a, .int .i64 b, .int .i64 c, .int .i64 d], .bool (e == 0), .int .i64 e]) (by simp [results, Tryz.results83, go_sem, k0, k1, k2, k3]) rfl ⟨rfl, C9, U9⟩
theorem stepnext_any (cal re ba lv fr l du now a b c d e : Int) (m : Bool) (w : World) (h : ClkAt w n kb ab pb cb off week closed) (hn : n ≤ w.heap.size) (h1 : Kd.C k71 w A ls.length ls ∧ ls.length ≤ k) (hd : nextP off week closed cal ls re ba lv now = (a, b, c, d, e)) (hm : moreP off week closed cal ls re ba lv now = m) :
    Calls Tryz.prog 83 #[.pointer (some ⟨kb, 0, none⟩), .agg #[.int .i64 cal, .slice A ls.length k, .int .i64 re, .int .i64 ba], .agg #[.int .i64 lv, .int .i64 fr, .int .i64 l, .int .i64 du], .int .i64 now] w fun r w' => r = .returned (.tuple #[.agg #[.int .i64 a, .int .i64 b, .int .i64 c, .int .i64 d], .bool m, .int .i64 e]) ∧ ClkAt w' n kb ab pb cb off week closed ∧ Upd cb w w' := by
  subst hm
  have hm : moreP off week closed cal ls re ba lv now = (decide (e = 0) && decide (lv ≠ (ls.length : Int) - 1)) := by unfold moreP; rw [hd]
  rw [hm]
  clear hm
  unfold nextP at hd
  by_cases h0 : goodP cal ls re ba = true
  · by_cases h2 : lv < 0
    · rw [if_neg (by omega)] at hd; cases hd
      exact next_lo cal re ba lv fr l du now w h hn h1 h0 h2
    · by_cases h3 : (ls.length : Int) ≤ lv
      · rw [if_neg (by omega)] at hd; cases hd
        exact next_hi cal re ba lv fr l du now w h hn h1 h0 (by omega) h3
      · rw [if_pos ⟨h0, by omega, by omega⟩] at hd
        by_cases h4 : lv = (ls.length : Int) - 1
        · rw [if_pos h4] at hd; cases hd
          rw [decide_eq_false (p := lv ≠ _) (by simpa using h4), Bool.and_false]
          exact next_last cal re ba lv fr l du now w h hn h1 h0 (by omega) (by omega) h4
        · rw [if_neg h4] at hd
          rw [decide_eq_true (p := lv ≠ _) h4, Bool.and_true]
          exact next_main cal re ba lv fr l du now w h hn h1 h0 (by omega) (by omega) h4 a b c d e hd
  · rw [if_neg (fun x => h0 x.1)] at hd; cases hd
    exact next_no cal re ba lv fr l du now w h hn h1 (by simpa using h0)
end Go.Proofs.YtepldlnmeenlbaaGreat.Own
namespace Go.Proofs.YtepldlnmeenlbaaGreat.Own
open Go.RowKit Go.Proofs Go.Proofs.YtepldlnmeenlbaaGreatW.PrintWords Go.Proofs.YtepldlnmeenlbaaGreatW.PrintLast Go.Proofs.YtepldlnmeenlbaaGreatW.PrintMore Go.Proofs.YtepldlnmeenlbaaGreat.Base
def NoU8 (o : Obj) : Prop := ∀ cs, o ≠ .cells cs 5 (0, 0)
theorem noU8 {cs : Array Value} {t : TypeId} (h : t ≠ 5) : NoU8 (.cells cs t (0, 0)) := fun cs' e => by injection e with _ e; exact h e
structure WUpd (n wb : Nat) (w w' : World) : Prop where
  os : w'.os = w.os
  tape : w'.tape = w.tape
  output : w'.output = w.output
  size : w.heap.size ≤ w'.heap.size
  block : ∀ (k : Nat) (o : Obj), w.heap[k]? = some o → k ≠ wb → (k < n ∨ NoU8 o) → w'.heap[k]? = some o
theorem WUpd.refl (n wb : Nat) (w : World) : WUpd n wb w w := ⟨rfl, rfl, rfl, Nat.le_refl _, fun _ _ h _ _ => h⟩
theorem WUpd.trans {n wb : Nat} {u v w : World} (h : WUpd n wb u v) (k : WUpd n wb v w) : WUpd n wb u w :=
  ⟨k.os.trans h.os, k.tape.trans h.tape, k.output.trans h.output, Nat.le_trans h.size k.size, fun i o hi hne hc => k.block i o (h.block i o hi hne hc) hne hc⟩
theorem WUpd.of_below {n wb : Nat} {u v : World} (h : Below u.heap.size u v) : WUpd n wb u v := ⟨h.os, h.tape, h.output, h.size, fun k o hk _ _ => (h.block k (blk_lt hk)).trans hk⟩
theorem WUpd.drew {n wb : Nat} {u v : World} (h : WUpd n wb u v) : WUpd n wb u v.drew := ⟨h.os, h.tape, h.output, h.size, h.block⟩
theorem WUpd.below {n wb : Nat} {u v : World} (h : WUpd n wb u v) (hn : n ≤ wb) (hs : n ≤ u.heap.size) : Below n u v :=
  ⟨h.os, h.tape, h.output, h.size, fun k hk => by
    have hlt : k < u.heap.size := by omega
    rw [Array.getElem?_eq_getElem hlt]
    exact h.block k _ (Array.getElem?_eq_getElem hlt) (by omega) (.inl hk)⟩
theorem WUpd.blk {n wb g t : Nat} {u v : World} {cs : Array Value} (h : WUpd n wb u v) (hb : u.heap[g]? = some (.cells cs t (0, 0))) (hne : g ≠ wb) (ht : t ≠ 5) : v.heap[g]? = some (.cells cs t (0, 0)) := h.block g _ hb hne (.inr (noU8 ht))
structure WrV (w : World) (n wb : Nat) (v : Value) (bs : List Int) : Prop where
  blk : w.heap[wb]? = some (.cells #[v] 31 (0, 0))
  row : Kd.R (Kd.int .u8) 5 w n (fun k => k ≠ wb) v bs
  size : n ≤ w.heap.size
def WrAt (w : World) (n wb : Nat) (bs : List Int) : Prop := ∃ v, WrV w n wb v bs
theorem WrV.ne {w : World} {n wb : Nat} {v : Value} {bs : List Int} (h : WrV w n wb v bs) : some wb ≠ v.ownBlock := fun e => h.row.1 wb e.symm rfl
theorem WrV.below {w w' : World} {n wb : Nat} {v : Value} {bs : List Int} (h : WrV w n wb v bs) (hb : Below w.heap.size w w') : WrV w' n wb v bs :=
  ⟨blk_below h.blk hb, Kd.R_below h.row hb, Nat.le_trans h.size hb.size⟩
theorem WrAt.below {w w' : World} {n wb : Nat} {bs : List Int} (h : WrAt w n wb bs) (hb : Below w.heap.size w w') : WrAt w' n wb bs := ⟨h.choose, h.choose_spec.below hb⟩
theorem WrAt.new (w : World) : WrAt (w.alloc (.cells #[.slice none 0 0] 31)) w.heap.size w.heap.size [] :=
  ⟨_, blk_new w _, Kd.R_nil _ _ _ _ _, by simp⟩
theorem WrV.free {w : World} {n wb : Nat} {v : Value} {bs : List Int} (h : WrV w n wb v bs) : w.frozen? ⟨wb, 0, none⟩ = false := blk_frozen h.blk 0
end Go.Proofs.YtepldlnmeenlbaaGreat.Own
namespace Go.Proofs.YtepldlnmeenlbaaGreat.Own
open Go.RowKit Go.Proofs Go.Proofs.YtepldlnmeenlbaaGreatW.PrintWords Go.Proofs.YtepldlnmeenlbaaGreatW.PrintLast Go.Proofs.YtepldlnmeenlbaaGreatW.PrintMore Go.Proofs.YtepldlnmeenlbaaGreat.Base
structure RdV (t : TypeId) (m : Nat) (w : World) (rb : Nat) (A : Option Addr) (c : Nat) (s : List Int × Bool) : Prop where
  blk : w.heap[rb]? = some (.cells #[.slice A s.1.length c, .bool s.2] t (0, 0))
  cap : s.1.length ≤ c
  row : Kd.C (Kd.int .u8) w A s.1.length s.1
  far : ∀ ad, A = some ad → ad.block < m
  mrb : m ≤ rb
  byte : ∀ x, x ∈ s.1 → 0 ≤ x ∧ x ≤ 255
def RdAt (t : TypeId) (m : Nat) (w : World) (rb : Nat) (s : List Int × Bool) : Prop := ∃ A c, RdV t m w rb A c s
variable {t : TypeId} {m rb c : Nat} {w w' : World} {A : Option Addr} {s : List Int × Bool}
theorem RdV.below (h : RdV t m w rb A c s) (hb : Below w.heap.size w w') : RdV t m w' rb A c s := ⟨blk_below h.blk hb, h.cap, Kd.C_below h.row hb, h.far, h.mrb, h.byte⟩
theorem RdAt.below (h : RdAt t m w rb s) (hb : Below w.heap.size w w') : RdAt t m w' rb s := by obtain ⟨A, c, h⟩ := h; exact ⟨A, c, h.below hb⟩
theorem C_blocks {k : IntKind} {l : List Int} (h : Kd.C (Kd.int k) w A l.length l) (hm : ∀ ad, A = some ad → w'.heap[ad.block]? = w.heap[ad.block]?) : Kd.C (Kd.int k) w' A l.length l := by
  refine ⟨h.1, h.2.1, fun h0 => ?_⟩
  obtain ⟨ad, e, hx⟩ := h.2.2 h0
  refine ⟨ad, e, fun j p hp => ?_⟩
  obtain ⟨cs, h1, h2, h3⟩ := hx j p hp
  exact ⟨cs, h1, h2, fun i u hu => by rw [← h3 i u hu]; exact World.cell?_of_block (by rw [add_block]; exact hm ad e)⟩
theorem RdV.upd {b : Nat} (h : RdV t m w rb A c s) (hu : Upd b w w') (hb : m ≤ b) (hne : rb ≠ b) : RdV t m w' rb A c s :=
  ⟨hu.blk h.blk hne, h.cap, C_blocks h.row (fun ad e => by
    have h1 := h.far ad e
    have h2 := blk_lt h.blk
    have h3 := h.mrb
    exact hu.block ad.block (by omega) (fun e => by injection e with e; omega)), h.far, h.mrb, h.byte⟩
theorem RdAt.upd {b : Nat} (h : RdAt t m w rb s) (hu : Upd b w w') (hb : m ≤ b) (hne : rb ≠ b) : RdAt t m w' rb s := by obtain ⟨A, c, h⟩ := h; exact ⟨A, c, h.upd hu hb hne⟩
theorem RdV.g0 (h : RdV t m w rb A c s) : w.cell? ⟨rb, 0, none⟩ = some (.slice A s.1.length c) := (blk_cell h.blk 0).trans rfl
theorem RdV.g1 (h : RdV t m w rb A c s) : w.cell? ⟨rb, 1, none⟩ = some (.bool s.2) := (blk_cell h.blk 1).trans rfl
theorem RdV.f0 (h : RdV t m w rb A c s) : w.frozen? ⟨rb, 0, none⟩ = false := blk_frozen h.blk 0
theorem RdV.f1 (h : RdV t m w rb A c s) : w.frozen? ⟨rb, 1, none⟩ = false := blk_frozen h.blk 1
theorem RdV.cut (h : RdV t m w rb A c s) {A' : Option Addr} {c' : Nat} {l : List Int} (hr : Kd.C (Kd.int .u8) w A' l.length l) (hc : l.length ≤ c') (hf : ∀ ad, A' = some ad → ad.block < m) (hl : ∀ x, x ∈ l → x ∈ s.1) :
    RdV t m (w.setCell ⟨rb, 0, none⟩ (.slice A' l.length c')) rb A' c' (l, s.2) ∧ Upd rb w (w.setCell ⟨rb, 0, none⟩ (.slice A' l.length c')) :=
  ⟨⟨blk_put h.blk 0 _ rfl, hc, C_blocks hr (fun ad e => Below.heap_setCell _ _ _ _ (by have := hf ad e; have := h.mrb; show ad.block ≠ rb; omega)), hf, h.mrb, fun x hx => h.byte x (hl x hx)⟩, (Upd.refl rb w).set 0 _⟩
end Go.Proofs.YtepldlnmeenlbaaGreat.Own
namespace Go.Proofs.YtepldlnmeenlbaaGreat.Own
open Go.RowKit Go.Proofs Go.Proofs.YtepldlnmeenlbaaGreatW.PrintWords Go.Proofs.YtepldlnmeenlbaaGreatW.PrintLast Go.Proofs.YtepldlnmeenlbaaGreatW.PrintMore Go.Proofs.YtepldlnmeenlbaaGreat.Base
variable {t : TypeId} {m rb c : Nat} {w w' : World} {A : Option Addr} {s : List Int × Bool}
theorem RdAt.lt (h : RdAt t m w rb s) : rb < w.heap.size := by obtain ⟨A, c, h⟩ := h; exact blk_lt h.blk
theorem RdAt.byte (h : RdAt t m w rb s) : ∀ x, x ∈ s.1 → 0 ≤ x ∧ x ≤ 255 := by obtain ⟨A, c, h⟩ := h; exact h.byte
end Go.Proofs.YtepldlnmeenlbaaGreat.Own
namespace Go.Proofs.YtepldlnmeenlbaaGreat.Own
open Go.RowKit Go.Proofs Go.Proofs.YtepldlnmeenlbaaGreatW.PrintWords Go.Proofs.YtepldlnmeenlbaaGreatW.PrintLast Go.Proofs.YtepldlnmeenlbaaGreatW.PrintMore Go.Proofs.YtepldlnmeenlbaaGreat.Base
theorem WrAt.lt {w : World} {n wb : Nat} {bs : List Int} (h : WrAt w n wb bs) : wb < w.heap.size := blk_lt h.choose_spec.blk
end Go.Proofs.YtepldlnmeenlbaaGreat.Own
namespace Go.Proofs.YtepldlnmeenlbaaGreat.Own
open Go.RowKit Go.Proofs Go.Proofs.YtepldlnmeenlbaaGreatW.PrintWords Go.Proofs.YtepldlnmeenlbaaGreatW.PrintLast Go.Proofs.YtepldlnmeenlbaaGreatW.PrintMore Go.Proofs.YtepldlnmeenlbaaGreat.Base
section
variable {α : Type} {d : Kd α} {e : Nat} {w w' : World} {base : Nat} {ok : Nat → Prop} {v : Value} {xs : List α} {t m rb c : Nat} {s : List Int × Bool}
theorem R_upd (h : d.R e w base ok v xs) {b : Nat} (hu : Upd b w w') (hb : b < base) : d.R e w' base ok v xs :=
  Kd.R_mono (Kd.R_step (Kd.R_mono (Kd.R_bound h) (fun k hk => (⟨hk.1, hk.2.1⟩ : ok k ∧ base ≤ k))) (fun k hk hlt => hu.block k hlt (fun e => by have := Option.some.inj e; omega))) (fun _ hk => hk.1)
theorem RdAt.grown (h : RdAt t m w rb s) {row : Option Nat} (hg : w.grownBy w' row) (hne : some rb ≠ row) (hlo : ∀ k, row = some k → m ≤ k) : RdAt t m w' rb s := by
  obtain ⟨A, c, h⟩ := h
  exact ⟨A, c, blk_grown h.blk hg hne, h.cap, C_blocks h.row (fun ad e => by
    have h1 := h.far ad e
    have h2 := blk_lt h.blk
    have h3 := h.mrb
    exact hg.block ad.block (by omega) (fun e' => by have := hlo _ e'.symm; omega)), h.far, h.mrb, h.byte⟩
theorem Upd.grownR {b : Nat} {u : World} (hu : Upd b w u) {row : Option Nat} (hg : u.grownBy w' row) (hlo : ∀ k, row = some k → w.heap.size ≤ k) : Upd b w w' :=
  ⟨hg.os.trans hu.os, hg.tape.trans hu.tape, hg.output.trans hu.output, Nat.le_trans hu.size hg.size, fun k hk hne => (hg.block k (by have := hu.size; omega) (fun e => by have := hlo k e.symm; omega)).trans (hu.block k hk hne)⟩
theorem R_row_ge (h : d.R e w base ok v xs) : ∀ k, v.ownBlock = some k → base ≤ k := fun k hk => (Kd.R_bound h).1 k hk |>.2.1
theorem R_C {A : Option Addr} {c : Nat} (h : d.R e w base ok (.slice A xs.length c) xs) : d.C w A xs.length xs ∧ xs.length ≤ c := by
  obtain ⟨A', c', e, hl, hc⟩ := Kd.R_reads h
  cases e
  exact ⟨hc, hl⟩
end
theorem refcheck_q {off : Int} {A1 A2 : Option Addr} {c1 c2 : Nat} {week closed : List S114} (w : World) (h1 : Kd.C k114 w A1 week.length week ∧ week.length ≤ c1) (h2 : Kd.C k114 w A2 closed.length closed ∧ closed.length ≤ c2) :
    Calls Tryz.prog 14 #[.agg #[.int .i64 off, .slice A1 week.length c1, .slice A2 closed.length c2]] w fun e w' => e = .returned (.int .i64 (calErr off week closed)) ∧ Below w.heap.size w w' :=
  curfewref10_Check.calls 40 off A1 c1 week A2 c2 closed _ w h1.1 h1.2 h2.1 h2.2 (check_eq off week closed 40 (by omega))
variable {t m rb c : Nat} {w w' : World} {A : Option Addr} {s : List Int × Bool}
end Go.Proofs.YtepldlnmeenlbaaGreat.Own
namespace Go.Proofs.YtepldlnmeenlbaaGreat.Own
open Go.RowKit Go.Proofs Go.Proofs.YtepldlnmeenlbaaGreatW.PrintWords Go.Proofs.YtepldlnmeenlbaaGreatW.PrintLast Go.Proofs.YtepldlnmeenlbaaGreatW.PrintMore Go.Proofs.YtepldlnmeenlbaaGreat.Base
variable {w w' : World} {n kb ab pb cb : Nat} {off : Int} {week closed : List S114}
theorem cells3 {W : World} {b t : Nat} {v0 v1 v2 : Value} (h : W.heap[b]? = some (.cells #[v0, v1, v2] t (0, 0))) : W.cell? ⟨b, 0, none⟩ = some v0 ∧ W.cell? ⟨b, 1, none⟩ = some v1 ∧ W.cell? ⟨b, 2, none⟩ = some v2 :=
  ⟨(blk_cell h 0).trans rfl, (blk_cell h 1).trans rfl, (blk_cell h 2).trans rfl⟩
theorem cells4 {W : World} {b t : Nat} {v0 v1 v2 v3 : Value} (h : W.heap[b]? = some (.cells #[v0, v1, v2, v3] t (0, 0))) : W.cell? ⟨b, 0, none⟩ = some v0 ∧ W.cell? ⟨b, 1, none⟩ = some v1 ∧ W.cell? ⟨b, 2, none⟩ = some v2 ∧ W.cell? ⟨b, 3, none⟩ = some v3 :=
  ⟨(blk_cell h 0).trans rfl, (blk_cell h 1).trans rfl, (blk_cell h 2).trans rfl, (blk_cell h 3).trans rfl⟩
theorem step_set4 {W : World} {b t : Nat} {o0 o1 o2 o3 : Value} (v0 v1 v2 v3 : Value) (C : ClkAt W n kb ab pb cb off week closed) (U : Upd cb w W) (hb : W.heap[b]? = some (.cells #[o0, o1, o2, o3] t (0, 0))) (ht : FarT t) (hge : w.heap.size ≤ b) :
    ClkAt ((((W.setCell ⟨b, 0, none⟩ v0).setCell ⟨b, 1, none⟩ v1).setCell ⟨b, 2, none⟩ v2).setCell ⟨b, 3, none⟩ v3) n kb ab pb cb off week closed ∧ Upd cb w ((((W.setCell ⟨b, 0, none⟩ v0).setCell ⟨b, 1, none⟩ v1).setCell ⟨b, 2, none⟩ v2).setCell ⟨b, 3, none⟩ v3) ∧ ((((W.setCell ⟨b, 0, none⟩ v0).setCell ⟨b, 1, none⟩ v1).setCell ⟨b, 2, none⟩ v2).setCell ⟨b, 3, none⟩ v3).heap[b]? = some (.cells #[v0, v1, v2, v3] t (0, 0)) ∧ (∀ {g : Nat} {o : Obj}, g ≠ b → W.heap[g]? = some o → ((((W.setCell ⟨b, 0, none⟩ v0).setCell ⟨b, 1, none⟩ v1).setCell ⟨b, 2, none⟩ v2).setCell ⟨b, 3, none⟩ v3).heap[g]? = some o) ∧ W.heap.size ≤ ((((W.setCell ⟨b, 0, none⟩ v0).setCell ⟨b, 1, none⟩ v1).setCell ⟨b, 2, none⟩ v2).setCell ⟨b, 3, none⟩ v3).heap.size := by
  have S_0 := And.intro C U
  have S_1 := step_set S_0.1 S_0.2 hb ht hge 0 v0
  have G_1 := blk_put (cs' := #[v0, o1, o2, o3]) hb 0 v0 rfl
  have S_2 := step_set S_1.1 S_1.2 G_1 ht hge 1 v1
  have G_2 := blk_put (cs' := #[v0, v1, o2, o3]) G_1 1 v1 rfl
  have S_3 := step_set S_2.1 S_2.2 G_2 ht hge 2 v2
  have G_3 := blk_put (cs' := #[v0, v1, v2, o3]) G_2 2 v2 rfl
  have S_4 := step_set S_3.1 S_3.2 G_3 ht hge 3 v3
  have G_4 := blk_put (cs' := #[v0, v1, v2, v3]) G_3 3 v3 rfl
  exact ⟨S_4.1, S_4.2, G_4, fun {g} {o} hne hg => ((Below.heap_setCell _ _ _ _ hne).trans ((Below.heap_setCell _ _ _ _ hne).trans ((Below.heap_setCell _ _ _ _ hne).trans ((Below.heap_setCell _ _ _ _ hne).trans hg)))), by simp⟩
end Go.Proofs.YtepldlnmeenlbaaGreat.Own
namespace Go.Proofs.YtepldlnmeenlbaaGreat.Own
open Go.RowKit Go.Proofs Go.Proofs.YtepldlnmeenlbaaGreatW.PrintWords Go.Proofs.YtepldlnmeenlbaaGreatW.PrintLast Go.Proofs.YtepldlnmeenlbaaGreatW.PrintMore Go.Proofs.YtepldlnmeenlbaaGreat.Base
theorem infoStep : (Tryz.prog.info? 75).map (fun i => (i.zero, i.size, i.bytes)) = some (some (.agg #[.int .i64 0, .int .i64 0, .int .i64 0, .int .i64 0]), 4, 32) := by kernel_rfl
section
variable {α : Type} {d : Kd α} {e : Nat} {w w' : World} {base : Nat} {ok : Nat → Prop} {v : Value} {xs : List α} {n kb ab pb cb : Nat} {off : Int} {week closed : List S114}
theorem R_box2 (h : d.R e w base ok v xs) {b : Nat} (hb : b < base) (hs : ∀ {g : Nat} {o : Obj}, g ≠ b → w.heap[g]? = some o → w'.heap[g]? = some o) : d.R e w' base ok v xs :=
  Kd.R_mono (Kd.R_step (Kd.R_mono (Kd.R_bound h) (fun k hk => (⟨hk.1, hk.2.1⟩ : ok k ∧ base ≤ k))) (fun k hk hlt => by rw [Array.getElem?_eq_getElem hlt]; exact hs (by omega) (Array.getElem?_eq_getElem hlt))) (fun _ hk => hk.1)
theorem ClkAt.grown (h : ClkAt w n kb ab pb cb off week closed) (hv : d.R e w base ok v xs) (ht : FarT e) (hg : w.grownBy w' v.ownBlock) : ClkAt w' n kb ab pb cb off week closed := by
  cases ho : v.ownBlock with
  | none =>
    rw [ho] at hg
    exact h.below ⟨hg.os, hg.tape, hg.output, hg.size, fun k hk => hg.block k hk (by simp)⟩
  | some b =>
    rw [ho] at hg
    obtain ⟨cs, hc⟩ := Kd.R_typed hv b ho
    exact h.farT hc ht (fun k hk hne => hg.block k hk (fun e => hne (Option.some.inj e)))
theorem farStep : FarT 75 := ⟨by decide, by decide, by decide, by decide, by decide, by decide⟩
theorem keep_upd {u v : World} (h : Upd cb u v) : KeepBut u v cb none := ⟨h.size, fun i hi hne _ => h.block i hi (fun e => hne (Option.some.inj e))⟩
end
variable {w w' : World} {n kb ab pb cb : Nat} {off : Int} {week closed : List S114} {A : Option Addr} {k : Nat} {ls : List S71}
theorem plan_start {R : List S76 × Int} {cal re ba now a b c d e : Int} (hR : planP off week closed cal ls re ba now = R) (hd : firstP off week closed cal ls re ba now = (a, b, c, d, e)) : (e ≠ 0 ∧ 1 ≤ ls.length + 1 ∧ R = (([] : List S76), e)) ∨ (e = 0 ∧ goodP cal ls re ba = true ∧ ∃ n : Nat, n + 2 ≤ ls.length + 1 ∧ 0 ≤ a ∧ a + n = (ls.length : Int) - 1 ∧ ([] : List S76).length + n ≤ 100 ∧ R = comb [] (planF off week closed ls n ⟨a, b, c, d⟩)) := by
  subst hR
  unfold planP
  rw [hd]
  by_cases he : e = 0
  · right
    subst he
    have hg : goodP cal ls re ba = true := by
      unfold firstP at hd
      by_cases hg : goodP cal ls re ba = true
      · exact hg
      · rw [if_neg hg] at hd
        injection hd with _ hd
        injection hd with _ hd
        injection hd with _ hd
        injection hd with _ hd
        exact absurd hd (by decide)
    have hgg := (goodP_iff.1 hg).1
    have ha : a = 0 := by unfold firstP at hd; rw [if_pos hg] at hd; exact (atS_lv hd).1
    exact ⟨rfl, hg, ls.length - 1, by omega, by omega, by omega, by simp; omega, by simp only [if_true]⟩
  · left
    exact ⟨he, by omega, by simp only; rw [if_neg he]⟩
theorem plan_more {R : List S76 × Int} {cal re ba a b c d s0 s1 s2 s3 : Int} {m gk : Nat} {acc : List S76} (hat : atS off week closed (s0 + 1) (rd_T71 ls (s0 + 1)).f0 s3 = (a, b, c, d, 0)) (hg : goodP cal ls re ba = true) (hR : R = comb acc (planF off week closed ls (m + 1) ⟨s0, s1, s2, s3⟩)) (h1 : m + 1 + 2 ≤ gk) (h2 : 0 ≤ s0) (h3 : s0 + ((m + 1 : Nat) : Int) = (ls.length : Int) - 1) (h4 : acc.length + (m + 1) ≤ 100) :
    ((0 : Int) ≠ 0 ∧ 1 ≤ gk - 1 ∧ R = (([] : List S76), 0)) ∨ ((0 : Int) = 0 ∧ goodP cal ls re ba = true ∧ ∃ n : Nat, n + 2 ≤ gk - 1 ∧ 0 ≤ (⟨a, b, c, d⟩ : S76).f0 ∧ (⟨a, b, c, d⟩ : S76).f0 + n = (ls.length : Int) - 1 ∧ (acc ++ [(⟨s0, s1, s2, s3⟩ : S76)]).length + n ≤ 100 ∧ R = comb (acc ++ [⟨s0, s1, s2, s3⟩]) (planF off week closed ls n ⟨a, b, c, d⟩)) := by
  right
  obtain ⟨ha, _⟩ := atS_lv hat
  refine ⟨rfl, hg, m, by omega, by simp only; omega, by simp only; omega, by simp; omega, ?_⟩
  rw [hR]
  exact comb_step (s := ⟨s0, s1, s2, s3⟩) hat
set_option maxHeartbeats 8000000 in
set_option maxRecDepth 100000 in
theorem plan_any (cal re ba now : Int) (R : List S76 × Int) (w : World) (h : ClkAt w n kb ab pb cb off week closed) (hn : n ≤ w.heap.size) (h1 : ∀ W', KeepBut w W' cb none → Kd.C k71 W' A ls.length ls ∧ ls.length ≤ k) (hR : planP off week closed cal ls re ba now = R) :
    Calls Tryz.prog 36 #[.pointer (some ⟨kb, 0, none⟩), .agg #[.int .i64 cal, .slice A ls.length k, .int .i64 re, .int .i64 ba], .int .i64 now] w fun r w' => ∃ v, r = .returned (.tuple #[v, .int .i64 R.2]) ∧ Kd.R k76 75 w' w.heap.size (fun _ => True) v R.1 ∧ ClkAt w' n kb ab pb cb off week closed ∧ Upd cb w w' := by
  have HF := Aside0.mk h1
  have HNN := Aside0.mk hn
  have HRR := Aside0.mk hR
  have hnot : ∀ (x : Bool) (w : World), (Op.unary .not (.bool x)).run Tryz.prog w = .ok (.bool (!x)) w := fun _ _ => rfl
  obtain ⟨⟨a, b, c, d, e⟩, hd⟩ : ∃ p, firstP off week closed cal ls re ba now = p := ⟨_, rfl⟩
  have HD := Aside0.mk hd
  clear h1 hR hd
  have HB0 : Below w.heap.size w (w.alloc (.cells #[.int .i64 cal, .slice A ls.length k, .int .i64 re, .int .i64 ba] 48)) := (below_alloc (Below.refl w.heap.size w) (.cells #[.int .i64 cal, .slice A ls.length k, .int .i64 re, .int .i64 ba] 48))
  have HC_1 := Aside0.mk (h.below HB0)
  have HU_1 := Aside0.mk (Upd.of_below (b := cb) HB0)
  have hs_1 : w.heap.size ≤ (w.alloc (.cells #[.int .i64 cal, .slice A ls.length k, .int .i64 re, .int .i64 ba] 48)).heap.size := HB0.size
  have Bq_1 : Aside0 ((w.alloc (.cells #[.int .i64 cal, .slice A ls.length k, .int .i64 re, .int .i64 ba] 48)).heap[w.heap.size]? = some (.cells #[.int .i64 cal, .slice A ls.length k, .int .i64 re, .int .i64 ba] 48 (0, 0))) := ⟨(blk_new w _)⟩
  have hz_1 : w.heap.size < (w.alloc (.cells #[.int .i64 cal, .slice A ls.length k, .int .i64 re, .int .i64 ba] 48)).heap.size := blk_lt Bq_1.out
  have hcb := h.lt
  clear h HB0 
  go_enter Tryz.func36, Tryz.ntmps36
  go_wp2_with fail
  generalize (w.alloc (.cells #[.int .i64 cal, .slice A ls.length k, .int .i64 re, .int .i64 ba] 48)) = w1 at HC_1 HU_1 hs_1 Bq_1 hz_1 ⊢
  obtain ⟨dq0, dq1, dq2, dq3⟩ := cells4 Bq_1.out
  go_step3
  go_wp2_with (go_at_call 78; with_reducible refine (first_any cal re ba now a b c d e w1 HC_1.out (by omega) (HF.out _ (keep_upd HU_1.out)) HD.out).mono ?_; rintro e w2 ⟨rfl, q1, q2⟩; clear dq0 dq1 dq2 dq3; have HC_2 := Aside0.mk q1; have HU_2 := Aside0.mk (HU_1.out.trans q2); have hs_2 : w1.heap.size ≤ w2.heap.size := q2.size; have Bq_2 := Aside0.mk (q2.blk Bq_1.out (by omega)); clear q1 q2; obtain ⟨dq0, dq1, dq2, dq3⟩ := cells4 Bq_2.out)
  go_step3
  clear dq0 dq1 dq2 dq3
  have hb : Below w2.heap.size w2 (w2.alloc (.cells #[.int .i64 a, .int .i64 b, .int .i64 c, .int .i64 d] 75)) := below_alloc (Below.refl _ _) _
  have HC_3 := Aside0.mk (HC_2.out.below hb)
  have HU_3 := Aside0.mk (HU_2.out.then hb)
  have hs_3 : w2.heap.size ≤ (w2.alloc (.cells #[.int .i64 a, .int .i64 b, .int .i64 c, .int .i64 d] 75)).heap.size := hb.size
  have Bq_3 := Aside0.mk (blk_below Bq_2.out hb)
  clear hb
  have Bs_3 := Aside0.mk (blk_new w2 (.cells #[.int .i64 a, .int .i64 b, .int .i64 c, .int .i64 d] 75))
  have hz_3 : w2.heap.size < (w2.alloc (.cells #[.int .i64 a, .int .i64 b, .int .i64 c, .int .i64 d] 75)).heap.size := blk_lt Bs_3.out
  generalize (w2.alloc (.cells #[.int .i64 a, .int .i64 b, .int .i64 c, .int .i64 d] 75)) = w3 at HC_3 HU_3 hs_3 Bq_3 Bs_3 hz_3 ⊢
  have HST : Aside0 ((e ≠ 0 ∧ 1 ≤ ls.length + 1 ∧ R = (([] : List S76), e)) ∨ (e = 0 ∧ goodP cal ls re ba = true ∧ ∃ n : Nat, n + 2 ≤ ls.length + 1 ∧ 0 ≤ a ∧ a + n = (ls.length : Int) - 1 ∧ ([] : List S76).length + n ≤ 100 ∧ R = comb [] (planF off week closed ls n ⟨a, b, c, d⟩))) := ⟨plan_start HRR.out HD.out⟩
  go_wp2
  go_loopg [9, 10] (ls.length + 1) (fun gg y z wr => ∃ (e : Int) (v : Value) (acc : List S76) (s : S76), y = .int .i64 e ∧ z = v ∧ Aside0 (w3.heap.size ≤ wr.heap.size) ∧ Aside0 (ClkAt wr n kb ab pb cb off week closed) ∧ Aside0 (Upd cb w wr) ∧ Aside0 (w2.heap.size < wr.heap.size) ∧ Aside0 (wr.heap[w.heap.size]? = some (.cells #[.int .i64 cal, .slice A ls.length k, .int .i64 re, .int .i64 ba] 48 (0, 0))) ∧ Aside0 (wr.heap[w2.heap.size]? = some (.cells #[.int .i64 s.f0, .int .i64 s.f1, .int .i64 s.f2, .int .i64 s.f3] 75 (0, 0))) ∧ Aside0 (Kd.R k76 75 wr w3.heap.size (fun _ => True) v acc) ∧ ((e ≠ 0 ∧ 1 ≤ gg ∧ R = ([], e)) ∨ (e = 0 ∧ goodP cal ls re ba = true ∧ ∃ n : Nat, n + 2 ≤ gg ∧ 0 ≤ s.f0 ∧ s.f0 + n = (ls.length : Int) - 1 ∧ acc.length + n ≤ 100 ∧ R = comb acc (planF off week closed ls n s))))
  case atStart => exact ⟨e, .slice none 0 0, [], ⟨a, b, c, d⟩, rfl, rfl, ⟨Nat.le_refl _⟩, HC_3, HU_3, ⟨blk_lt Bs_3.out⟩, Bq_3, Bs_3, ⟨Kd.R_nil _ _ _ _ _⟩, HST.out⟩
  case round =>
    clear HST HC_3 HU_3 Bq_3 Bs_3 hs_3
    obtain ⟨e', v, acc, s, rfl, rfl, HBS, HC_50, HU_50, HZ, Bq_50, Bs_50, HV, hcase⟩ := hrel
    obtain ⟨w50, rfl⟩ : ∃ x : World, x = wr := ⟨_, rfl⟩
    have hz := HZ.out
    have hbs_50 := HBS.out
    have hsb : w2.heap.size < w3.heap.size := hz_3
    have hs_50 : w.heap.size ≤ w50.heap.size := HU_50.out.size
    rcases hcase with ⟨he, hg1, hRe⟩ | ⟨rfl, hgd, m, hm1, hm2, hm3, hm4, hRe⟩
    · have fe : (e' != 0) = true := bne_iff_ne.mpr he
      have HRE := Aside0.mk hRe
      clear hRe
      go_wp2
      rw [Exit.noGoto_ret]
      go_ret2
      exact ⟨.slice none 0 0, by rw [HRE.out]; rfl, by rw [HRE.out]; exact Kd.R_nil _ _ _ _ _, HC_50.out, HU_50.out⟩
    · obtain ⟨s0, s1, s2, s3⟩ := s
      dsimp only at Bs_50 hm2 hm3
      obtain ⟨A5, c5, rfl⟩ := Kd.R_slice HV.out
      have hl63 : (acc.length + 1) * 32 ≤ 140737488355328 := by omega
      have HLO := Aside0.mk (R_row_ge HV.out)
      have HGD := Aside0.mk hgd
      have HRE := Aside0.mk hRe
      clear hgd hRe
      obtain ⟨ds0, ds1, ds2, ds3⟩ := cells4 Bs_50.out
      go_upto_region 6 with (at_builtin; refine Kd.R_append k76 (w0 := w50) w3.heap.size rfl (.tmp 22) (.tmp 24) 64 75 (.agg #[.int .i64 0, .int .i64 0, .int .i64 0, .int .i64 0]) 32 rfl Tryz.underlying64 infoStep rfl (by decide) (by omega) (.slice A5 acc.length c5) acc (⟨s0, s1, s2, s3⟩ : S76) [.int .i64 s0, .int .i64 s1, .int .i64 s2, .int .i64 s3] (fun _ => True) (fun _ => False) rfl (by first | (go_simp; done) | (go_simp; rfl)) ?aP (fun _ hk => hk.elim) (fun _ _ => trivial) HV.out (Below.refl _ _) hbs_50 hl63 ?_; (case aP => exact k76_mkM _ _ _ (⟨s0, s1, s2, s3⟩ : S76)); intro v8 w51 ho hb8 hg hat8; obtain ⟨A8, c8, e8⟩ := Kd.R_slice ho; rw [List.length_append, List.length_singleton] at e8; subst e8; have HG := Aside0.mk hg; have HV_51 := Aside0.mk ho; clear ho hb8 hg hat8; have HC_51 := Aside0.mk (HC_50.out.grown HV.out farStep HG.out); have HU_51 := Aside0.mk (HU_50.out.grownR HG.out (fun k hk => by have := HLO.out k hk; omega)); have hs_51 : w50.heap.size ≤ w51.heap.size := HG.out.size; have hbs_51 : w3.heap.size ≤ w51.heap.size := Nat.le_trans hbs_50 HG.out.size; have Bq_51 := Aside0.mk (blk_grown Bq_50.out HG.out (fun e => by have := HLO.out _ e.symm; omega)); have Bs_51 := Aside0.mk (blk_grown Bs_50.out HG.out (fun e => by have := HLO.out _ e.symm; omega)); clear ds0 ds1 ds2 ds3; obtain ⟨dq0, dq1, dq2, dq3⟩ := cells4 Bq_51.out; obtain ⟨ds0, ds1, ds2, ds3⟩ := cells4 Bs_51.out)
      have hz5 : w2.heap.size < w51.heap.size := by omega
      rcases m with _ | m
      · obtain ⟨hn1, hn2⟩ := pnext_last (off := off) (week := week) (closed := closed) (cal := cal) (re := re) (ba := ba) (ls := ls) (now := s3) HGD.out hm2 (by omega)
        have HN1 := Aside0.mk hn1
        have HN2 := Aside0.mk hn2
        clear hn1 hn2
        clear dq0 dq1 dq2 dq3 ds0 ds1 ds2 ds3
        obtain ⟨dq0, dq1, dq2, dq3⟩ := cells4 Bq_51.out
        obtain ⟨ds0, ds1, ds2, ds3⟩ := cells4 Bs_51.out
        have fs := blk_frozen Bs_51.out
        go_upto_region 8 with (go_at_call 83; with_reducible refine (stepnext_any cal re ba s0 s1 s2 s3 s3 0 0 0 0 0 false w51 HC_51.out (by omega) (HF.out _ (keep_upd HU_51.out)) HN1.out HN2.out).mono ?_; rintro e w52 ⟨rfl, q1, q2⟩; have HV_52 := Aside0.mk (R_upd HV_51.out q2 (by omega)); clear dq0 dq1 dq2 dq3 ds0 ds1 ds2 ds3 fs; have HC_52 := Aside0.mk q1; have HU_52 := Aside0.mk (HU_51.out.trans q2); have hs_52 : w51.heap.size ≤ w52.heap.size := q2.size; have Bq_52 := Aside0.mk (q2.blk Bq_51.out (by omega)); have Bs_52 := Aside0.mk (q2.blk Bs_51.out (by omega)); clear q1 q2; obtain ⟨dq0, dq1, dq2, dq3⟩ := cells4 Bq_52.out; obtain ⟨ds0, ds1, ds2, ds3⟩ := cells4 Bs_52.out; have fs := blk_frozen Bs_52.out)
        clear dq0 dq1 dq2 dq3 ds0 ds1 ds2 ds3 fs
        obtain ⟨S1, S2, S3, S4, hs_53⟩ := step_set4 (.int .i64 0) (.int .i64 0) (.int .i64 0) (.int .i64 0) HC_52.out HU_52.out Bs_52.out farStep (by omega)
        have HC_53 := Aside0.mk S1
        have HU_53 := Aside0.mk S2
        have Bs_53 := Aside0.mk S3
        have Bq_53 := Aside0.mk (S4 (g := w.heap.size) (by omega) Bq_52.out)
        have HV_53 := Aside0.mk (R_box2 HV_52.out hsb S4)
        clear S1 S2 S3 S4
        generalize ((((w52.setCell ⟨w2.heap.size, 0, none⟩ (.int .i64 0)).setCell ⟨w2.heap.size, 1, none⟩ (.int .i64 0)).setCell ⟨w2.heap.size, 2, none⟩ (.int .i64 0)).setCell ⟨w2.heap.size, 3, none⟩ (.int .i64 0)) = w53 at HC_53 HU_53 hs_53 Bs_53 Bq_53 HV_53 ⊢
        go_wp2
        rw [Exit.noGoto_ret]
        go_ret2
        exact ⟨_, by rw [HRE.out]; rfl, by rw [HRE.out]; exact Kd.R_lower HV_53.out (by omega), HC_53.out, HU_53.out⟩
      · obtain ⟨hn1, hn2⟩ := pnext_more (off := off) (week := week) (closed := closed) (cal := cal) (re := re) (ba := ba) (ls := ls) (now := s3) HGD.out hm2 (by omega)
        obtain ⟨⟨a', b', c', d', x'⟩, hat⟩ : ∃ p, atS off week closed (s0 + 1) (rd_T71 ls (s0 + 1)).f0 s3 = p := ⟨_, rfl⟩
        rw [hat] at hn1 hn2
        simp only at hn2
        have HAT := Aside0.mk hat
        clear hat
        by_cases hx : x' = 0
        · subst hx
          rw [decide_eq_true rfl] at hn2
          have HN1 := Aside0.mk hn1
          have HN2 := Aside0.mk hn2
          clear hn1 hn2
          clear dq0 dq1 dq2 dq3 ds0 ds1 ds2 ds3
          obtain ⟨dq0, dq1, dq2, dq3⟩ := cells4 Bq_51.out
          obtain ⟨ds0, ds1, ds2, ds3⟩ := cells4 Bs_51.out
          have fs := blk_frozen Bs_51.out
          go_upto_region 8 with (go_at_call 83; with_reducible refine (stepnext_any cal re ba s0 s1 s2 s3 s3 a' b' c' d' 0 true w51 HC_51.out (by omega) (HF.out _ (keep_upd HU_51.out)) HN1.out HN2.out).mono ?_; rintro e w52 ⟨rfl, q1, q2⟩; have HV_52 := Aside0.mk (R_upd HV_51.out q2 (by omega)); clear dq0 dq1 dq2 dq3 ds0 ds1 ds2 ds3 fs; have HC_52 := Aside0.mk q1; have HU_52 := Aside0.mk (HU_51.out.trans q2); have hs_52 : w51.heap.size ≤ w52.heap.size := q2.size; have Bq_52 := Aside0.mk (q2.blk Bq_51.out (by omega)); have Bs_52 := Aside0.mk (q2.blk Bs_51.out (by omega)); clear q1 q2; obtain ⟨dq0, dq1, dq2, dq3⟩ := cells4 Bq_52.out; obtain ⟨ds0, ds1, ds2, ds3⟩ := cells4 Bs_52.out; have fs := blk_frozen Bs_52.out)
          clear dq0 dq1 dq2 dq3 ds0 ds1 ds2 ds3 fs
          obtain ⟨S1, S2, S3, S4, hs_53⟩ := step_set4 (.int .i64 a') (.int .i64 b') (.int .i64 c') (.int .i64 d') HC_52.out HU_52.out Bs_52.out farStep (by omega)
          have HC_53 := Aside0.mk S1
          have HU_53 := Aside0.mk S2
          have Bs_53 := Aside0.mk S3
          have Bq_53 := Aside0.mk (S4 (g := w.heap.size) (by omega) Bq_52.out)
          have HV_53 := Aside0.mk (R_box2 HV_52.out hsb S4)
          clear S1 S2 S3 S4
          generalize ((((w52.setCell ⟨w2.heap.size, 0, none⟩ (.int .i64 a')).setCell ⟨w2.heap.size, 1, none⟩ (.int .i64 b')).setCell ⟨w2.heap.size, 2, none⟩ (.int .i64 c')).setCell ⟨w2.heap.size, 3, none⟩ (.int .i64 d')) = w53 at HC_53 HU_53 hs_53 Bs_53 Bq_53 HV_53 ⊢
          go_wp2
          go_roundg (gk - 1)
          case measure => omega
          case rel => exact ⟨0, _, acc ++ [⟨s0, s1, s2, s3⟩], ⟨a', b', c', d'⟩, rfl, rfl, ⟨by omega⟩, HC_53, HU_53, ⟨by omega⟩, Bq_53, Bs_53, HV_53, plan_more HAT.out HGD.out HRE.out hm1 hm2 hm3 hm4⟩
        · rw [decide_eq_false hx] at hn2
          have fx : (x' == 0) = false := beq_eq_false_iff_ne.mpr hx
          have HX := Aside0.mk hx
          have HN1 := Aside0.mk hn1
          have HN2 := Aside0.mk hn2
          clear hn1 hn2 hx
          clear dq0 dq1 dq2 dq3 ds0 ds1 ds2 ds3
          obtain ⟨dq0, dq1, dq2, dq3⟩ := cells4 Bq_51.out
          obtain ⟨ds0, ds1, ds2, ds3⟩ := cells4 Bs_51.out
          have fs := blk_frozen Bs_51.out
          go_upto_region 8 with (go_at_call 83; with_reducible refine (stepnext_any cal re ba s0 s1 s2 s3 s3 a' b' c' d' x' false w51 HC_51.out (by omega) (HF.out _ (keep_upd HU_51.out)) HN1.out HN2.out).mono ?_; rintro e w52 ⟨rfl, q1, q2⟩; have HV_52 := Aside0.mk (R_upd HV_51.out q2 (by omega)); clear dq0 dq1 dq2 dq3 ds0 ds1 ds2 ds3 fs; have HC_52 := Aside0.mk q1; have HU_52 := Aside0.mk (HU_51.out.trans q2); have hs_52 : w51.heap.size ≤ w52.heap.size := q2.size; have Bq_52 := Aside0.mk (q2.blk Bq_51.out (by omega)); have Bs_52 := Aside0.mk (q2.blk Bs_51.out (by omega)); clear q1 q2; obtain ⟨dq0, dq1, dq2, dq3⟩ := cells4 Bq_52.out; obtain ⟨ds0, ds1, ds2, ds3⟩ := cells4 Bs_52.out; have fs := blk_frozen Bs_52.out)
          clear dq0 dq1 dq2 dq3 ds0 ds1 ds2 ds3 fs
          obtain ⟨S1, S2, S3, S4, hs_53⟩ := step_set4 (.int .i64 a') (.int .i64 b') (.int .i64 c') (.int .i64 d') HC_52.out HU_52.out Bs_52.out farStep (by omega)
          have HC_53 := Aside0.mk S1
          have HU_53 := Aside0.mk S2
          have Bs_53 := Aside0.mk S3
          have Bq_53 := Aside0.mk (S4 (g := w.heap.size) (by omega) Bq_52.out)
          have HV_53 := Aside0.mk (R_box2 HV_52.out hsb S4)
          clear S1 S2 S3 S4
          generalize ((((w52.setCell ⟨w2.heap.size, 0, none⟩ (.int .i64 a')).setCell ⟨w2.heap.size, 1, none⟩ (.int .i64 b')).setCell ⟨w2.heap.size, 2, none⟩ (.int .i64 c')).setCell ⟨w2.heap.size, 3, none⟩ (.int .i64 d')) = w53 at HC_53 HU_53 hs_53 Bs_53 Bq_53 HV_53 ⊢
          go_wp2
          go_roundg (gk - 1)
          case measure => omega
          case rel => exact ⟨x', _, acc ++ [⟨s0, s1, s2, s3⟩], ⟨a', b', c', d'⟩, rfl, rfl, ⟨by omega⟩, HC_53, HU_53, ⟨by omega⟩, Bq_53, Bs_53, HV_53, .inl ⟨HX.out, by omega, by rw [HRE.out]; exact comb_no HAT.out HX.out⟩⟩
end Go.Proofs.YtepldlnmeenlbaaGreat.Own
namespace Go.Proofs.YtepldlnmeenlbaaGreat.Own
open Go.RowKit Go.Proofs Go.Proofs.YtepldlnmeenlbaaGreatW.PrintWords Go.Proofs.YtepldlnmeenlbaaGreatW.PrintLast Go.Proofs.YtepldlnmeenlbaaGreatW.PrintMore Go.Proofs.YtepldlnmeenlbaaGreat.Base
variable {w w' : World} {n kb ab pb cb : Nat} {off : Int} {week closed : List S114}
theorem box4 {W : World} (C : ClkAt W n kb ab pb cb off week closed) (v0 v1 v2 v3 : Value) :
    ClkAt (W.alloc (.cells #[v0, v1, v2, v3] 75)) n kb ab pb cb off week closed ∧ Below W.heap.size W (W.alloc (.cells #[v0, v1, v2, v3] 75)) ∧ (W.alloc (.cells #[v0, v1, v2, v3] 75)).heap[W.heap.size]? = some (.cells #[v0, v1, v2, v3] 75 (0, 0)) :=
  ⟨C.below (below_alloc (Below.refl _ _) _), below_alloc (Below.refl _ _) _, blk_new W _⟩
theorem upd_below' {cb n0 : Nat} {w u v : World} (h : Below n0 w u) (hu : Upd cb u v) (hn : n0 ≤ cb) (hs : n0 ≤ u.heap.size) : Below n0 w v := h.trans (Upd.below hu hs hn)
theorem ch_0 : calErr 0 [⟨0, 604800⟩] [] = 0 := by kernel_rfl
theorem ch_1 : firstP 0 [⟨0, 604800⟩] [] 0 [⟨10, 0⟩, ⟨20, 1⟩] 2 5 5 = (0, 5, 10, 15, 0) := by kernel_rfl
theorem ch_2 : standP 0 [⟨0, 604800⟩] [] 0 5 10 15 8 = (0, 8, 7, 0, 0) := by kernel_rfl
theorem ch_3 : goP 0 [⟨0, 604800⟩] [] 0 7 0 100 = (0, 100, 7, 107, 0) := by kernel_rfl
theorem always_any (w : World) : Calls Tryz.prog 77 #[] w fun e w' => ∃ A1 c1 A2 c2, e = .returned (.agg #[.int .i64 0, .slice A1 [(⟨0, 604800⟩ : S114)].length c1, .slice A2 ([] : List S114).length c2]) ∧ (Kd.C k114 w' A1 [(⟨0, 604800⟩ : S114)].length [⟨0, 604800⟩] ∧ [(⟨0, 604800⟩ : S114)].length ≤ c1) ∧ (Kd.C k114 w' A2 ([] : List S114).length [] ∧ ([] : List S114).length ≤ c2) ∧ Below w.heap.size w w' :=
  (curfewlaw15_Always.calls 0 [⟨0, 604800⟩] [] w rfl).mono fun e w' ⟨v1, v2, he, h1, h2, hb⟩ => by
    obtain ⟨A1, c1, rfl, hc1, hr1⟩ := Kd.R_reads h1
    obtain ⟨A2, c2, rfl, hc2, hr2⟩ := Kd.R_reads h2
    exact ⟨A1, c1, A2, c2, he, ⟨hr1, hc1⟩, ⟨hr2, hc2⟩, hb⟩
theorem plainc_any (w : World) : Calls Tryz.prog 70 #[] w fun e w' => ∃ A1 c1, e = .returned (.agg #[.int .i64 0, .slice A1 [(⟨10, 0⟩ : S71), ⟨20, 1⟩].length c1, .int .i64 2, .int .i64 5]) ∧ (Kd.C k71 w' A1 [(⟨10, 0⟩ : S71), ⟨20, 1⟩].length [⟨10, 0⟩, ⟨20, 1⟩] ∧ [(⟨10, 0⟩ : S71), ⟨20, 1⟩].length ≤ c1) ∧ Below w.heap.size w w' :=
  (curfewlaw14_Plain.calls 0 [⟨10, 0⟩, ⟨20, 1⟩] 2 5 w rfl).mono fun e w' ⟨v1, he, h1, hb⟩ => by
    obtain ⟨A1, c1, rfl, hc1, hr1⟩ := Kd.R_reads h1
    exact ⟨A1, c1, he, ⟨hr1, hc1⟩, hb⟩
set_option maxHeartbeats 4000000 in
set_option maxRecDepth 100000 in
theorem lives15_any (w : World) : Calls Tryz.prog 34 #[] w fun e w' => e = .returned (.bool true) ∧ Below w.heap.size w w' := by
  go_enter Tryz.func34, Tryz.ntmps34
  go_wp2_with (first | (go_at_call 77; refine (always_any w).mono ?_; rintro e w1 ⟨A1, c1, A2, c2, rfl, q1, q2, hb⟩; have HQ1 := Aside0.mk q1; have HQ2 := Aside0.mk q2; have HB1 := Aside0.mk hb; clear q1 q2 hb) | (go_at_call 35; refine (calnew_yes 0 A1 A2 c1 c2 [⟨0, 604800⟩] [] w1 HQ1.out.1 HQ1.out.2 HQ2.out.1 HQ2.out.2 ch_0).mono ?_; rintro e w2 ⟨kb, ab, pb, cb, rfl, CK, hb⟩; have HC2 := Aside0.mk CK; have HB2 := Aside0.mk hb; have HCB2 := Aside0.mk CK.lt; clear CK hb) | (go_at_call 70; refine (plainc_any w2).mono ?_; rintro e w3 ⟨A3, c3, rfl, q3, hb⟩; have HQ3 := Aside0.mk q3; have HC3 := Aside0.mk (HC2.out.below hb); have HB3 := Aside0.mk hb; clear q3 hb))
  have hcb := HCB2.out
  have hs3 := HB3.out.size
  have hs2 := HB2.out.size
  have hs1 := HB1.out.size
  have hncb := HC2.out.plan.ncb
  go_wp2_with (go_at_call 78; refine (first_any 0 2 5 5 _ _ _ _ _ w3 HC3.out (by omega) HQ3.out ch_1).mono ?_; rintro e w4 ⟨rfl, CK, UK⟩; have HC4 := Aside0.mk CK; have HU4 := Aside0.mk UK; have hs4 := UK.size; clear CK UK)
  obtain ⟨C5, B5, E5⟩ := box4 HC4.out (.int .i64 0) (.int .i64 5) (.int .i64 10) (.int .i64 15)
  have HC5 := Aside0.mk C5
  have HB5 := Aside0.mk B5
  have HE5 := Aside0.mk E5
  have hz5 := blk_lt E5
  have hy5 := B5.size
  clear C5 B5 E5
  generalize (w4.alloc (.cells #[.int .i64 0, .int .i64 5, .int .i64 10, .int .i64 15] 75)) = w5 at HC5 HB5 HE5 hz5 hy5 ⊢
  have s0 : w5.cell? ⟨w4.heap.size, 0, none⟩ = some (.int .i64 0) := (blk_cell HE5.out 0).trans rfl
  have s1 : w5.cell? ⟨w4.heap.size, 1, none⟩ = some (.int .i64 5) := (blk_cell HE5.out 1).trans rfl
  have s2 : w5.cell? ⟨w4.heap.size, 2, none⟩ = some (.int .i64 10) := (blk_cell HE5.out 2).trans rfl
  have s3 : w5.cell? ⟨w4.heap.size, 3, none⟩ = some (.int .i64 15) := (blk_cell HE5.out 3).trans rfl
  have HK := Aside0.mk (calErr_ok ch_0)
  go_wp2_with (go_at_call 79; refine (stand_any HK.out 0 5 10 15 8 _ _ _ _ _ w5 HC5.out (by omega) (by omega) ch_2).mono ?_; rintro e w6 ⟨rfl, CK, UK⟩; have HC6 := Aside0.mk CK; have HU6 := Aside0.mk UK; have hs6 := UK.size; have HE6 := Aside0.mk (UK.blk HE5.out (by omega)); clear CK UK)
  clear s0 s1 s2 s3
  obtain ⟨C7, B7, E7⟩ := box4 HC6.out (.int .i64 0) (.int .i64 8) (.int .i64 7) (.int .i64 0)
  have HC7 := Aside0.mk C7
  have HB7 := Aside0.mk B7
  have HE7 := Aside0.mk E7
  have hz7 := blk_lt E7
  have hy7 := B7.size
  clear C7 B7 E7
  generalize (w6.alloc (.cells #[.int .i64 0, .int .i64 8, .int .i64 7, .int .i64 0] 75)) = w7 at HC7 HB7 HE7 hz7 hy7 ⊢
  have HE7' := Aside0.mk (blk_below HE6.out HB7.out)
  have s0 : w7.cell? ⟨w6.heap.size, 0, none⟩ = some (.int .i64 0) := (blk_cell HE7.out 0).trans rfl
  have s1 : w7.cell? ⟨w6.heap.size, 1, none⟩ = some (.int .i64 8) := (blk_cell HE7.out 1).trans rfl
  have s2 : w7.cell? ⟨w6.heap.size, 2, none⟩ = some (.int .i64 7) := (blk_cell HE7.out 2).trans rfl
  have s3 : w7.cell? ⟨w6.heap.size, 3, none⟩ = some (.int .i64 0) := (blk_cell HE7.out 3).trans rfl
  go_upto_region 5 with (go_at_call 80; refine (go_any 0 8 7 0 100 _ _ _ _ _ w7 HC7.out (by omega) (by omega) ch_3).mono ?_; rintro e w8 ⟨rfl, CK, UK⟩; have HC8 := Aside0.mk CK; have HU8 := Aside0.mk UK; have hs8 := UK.size; have HE8 := Aside0.mk (UK.blk HE7.out (by omega)); have HE8' := Aside0.mk (UK.blk HE7'.out (by omega)); clear CK UK)
  clear s0 s1 s2 s3
  obtain ⟨C9, B9, E9⟩ := box4 HC8.out (.int .i64 0) (.int .i64 100) (.int .i64 7) (.int .i64 107)
  have HC9 := Aside0.mk C9
  have HB9 := Aside0.mk B9
  have HE9 := Aside0.mk E9
  have hz9 := blk_lt E9
  have hy9 := B9.size
  clear C9 B9 E9
  generalize (w8.alloc (.cells #[.int .i64 0, .int .i64 100, .int .i64 7, .int .i64 107] 75)) = w9 at HC9 HB9 HE9 hz9 hy9 ⊢
  have HE9' := Aside0.mk (blk_below HE8.out HB9.out)
  have HE9'' := Aside0.mk (blk_below HE8'.out HB9.out)
  have s0 : w9.cell? ⟨w8.heap.size, 0, none⟩ = some (.int .i64 0) := (blk_cell HE9.out 0).trans rfl
  have s1 : w9.cell? ⟨w8.heap.size, 1, none⟩ = some (.int .i64 100) := (blk_cell HE9.out 1).trans rfl
  have s2 : w9.cell? ⟨w8.heap.size, 2, none⟩ = some (.int .i64 7) := (blk_cell HE9.out 2).trans rfl
  have s3 : w9.cell? ⟨w8.heap.size, 3, none⟩ = some (.int .i64 107) := (blk_cell HE9.out 3).trans rfl
  have t0 : w9.cell? ⟨w6.heap.size, 0, none⟩ = some (.int .i64 0) := (blk_cell HE9'.out 0).trans rfl
  have t1 : w9.cell? ⟨w6.heap.size, 1, none⟩ = some (.int .i64 8) := (blk_cell HE9'.out 1).trans rfl
  have t2 : w9.cell? ⟨w6.heap.size, 2, none⟩ = some (.int .i64 7) := (blk_cell HE9'.out 2).trans rfl
  have t3 : w9.cell? ⟨w6.heap.size, 3, none⟩ = some (.int .i64 0) := (blk_cell HE9'.out 3).trans rfl
  have u0 : w9.cell? ⟨w4.heap.size, 0, none⟩ = some (.int .i64 0) := (blk_cell HE9''.out 0).trans rfl
  have u1 : w9.cell? ⟨w4.heap.size, 1, none⟩ = some (.int .i64 5) := (blk_cell HE9''.out 1).trans rfl
  have u2 : w9.cell? ⟨w4.heap.size, 2, none⟩ = some (.int .i64 10) := (blk_cell HE9''.out 2).trans rfl
  have u3 : w9.cell? ⟨w4.heap.size, 3, none⟩ = some (.int .i64 15) := (blk_cell HE9''.out 3).trans rfl
  go_wp2
  go_ret
  have b1 := below_step (below_step HB1.out HB2.out) HB3.out
  have b4 := upd_below' b1 HU4.out (by omega) (by omega)
  have b6 := upd_below' (below_weaken b4 (by omega) HB5.out) HU6.out (by omega) (by omega)
  have b8 := upd_below' (below_weaken b6 (by omega) HB7.out) HU8.out (by omega) (by omega)
  exact ⟨rfl, below_weaken b8 (by omega) HB9.out⟩
end Go.Proofs.YtepldlnmeenlbaaGreat.Own
namespace Go.Proofs.YtepldlnmeenlbaaGreat.Own
open Go.RowKit Go.Proofs Go.Proofs.YtepldlnmeenlbaaGreatW.PrintWords Go.Proofs.YtepldlnmeenlbaaGreatW.PrintLast Go.Proofs.YtepldlnmeenlbaaGreatW.PrintMore Go.Proofs.YtepldlnmeenlbaaGreat.Base
section
variable {off cal re ba : Int} {week closed : List S114} {ls : List S71} {A1 A2 A3 : Option Addr} {c1 c2 c3 : Nat}
def light15Q (week closed : List S114) (ls : List S71) : Bool := (decide (week.length ≤ 60) && decide (closed.length ≤ 60)) && decide (ls.length ≤ 60)
theorem light15_is (v : Bool) (w : World) (h1 : Kd.C k114 w A1 week.length week ∧ week.length ≤ c1) (h2 : Kd.C k114 w A2 closed.length closed ∧ closed.length ≤ c2) (h3 : Kd.C k71 w A3 ls.length ls ∧ ls.length ≤ c3) (hv : light15Q week closed ls = v) :
    Calls Tryz.prog 33 #[.agg #[.int .i64 off, .slice A1 week.length c1, .slice A2 closed.length c2], .agg #[.int .i64 cal, .slice A3 ls.length c3, .int .i64 re, .int .i64 ba]] w fun e w' => e = .returned (.bool v) ∧ Below w.heap.size w w' :=
  curfewlaw15_light.calls off A1 c1 week A2 c2 closed cal A3 c3 ls re ba _ w h1.1 h1.2 h2.1 h2.2 h3.1 h3.2 (by
    have e : curfewlaw10_Light.f off week closed = some (decide (week.length ≤ 60) && decide (closed.length ≤ 60)) := by
      unfold curfewlaw10_Light.f
      by_cases h : week.length ≤ 60
      · rw [if_pos (by omega), decide_eq_true h, Bool.true_and]
        congr 1
        by_cases h' : closed.length ≤ 60
        · rw [decide_eq_true h', decide_eq_true (by omega)]
        · rw [decide_eq_false h', decide_eq_false (by omega)]
      · rw [if_neg (by omega), decide_eq_false h]; rfl
    rw [← hv]
    unfold curfewlaw15_light.f light15Q
    rw [e]
    simp only [Option.bind_some]
    cases (decide (week.length ≤ 60) && decide (closed.length ≤ 60)) with
    | false => rfl
    | true =>
      rw [if_pos rfl, Bool.true_and]
      congr 1
      by_cases h' : ls.length ≤ 60
      · rw [decide_eq_true h', decide_eq_true (by omega)]
      · rw [decide_eq_false h', decide_eq_false (by omega)])
theorem refcheck_is (v : Int) (w : World) (h1 : Kd.C k114 w A1 week.length week ∧ week.length ≤ c1) (h2 : Kd.C k114 w A2 closed.length closed ∧ closed.length ≤ c2) (hv : calErr off week closed = v) :
    Calls Tryz.prog 14 #[.agg #[.int .i64 off, .slice A1 week.length c1, .slice A2 closed.length c2]] w fun e w' => e = .returned (.int .i64 v) ∧ Below w.heap.size w w' := by rw [← hv]; exact refcheck_q w h1 h2
end
theorem upd_below15 {cb n0 : Nat} {w u v : World} (h : Below n0 w u) (hu : Upd cb u v) (hn : n0 ≤ cb) (hs : n0 ≤ u.heap.size) : Below n0 w v := h.trans (Upd.below hu hs hn)
theorem plan_at {L : List S76} {i : Nat} (h : i < L.length) : L[i]? = some (rd_T76 L i) := by
  unfold rd_T76
  rw [List.getD_eq_getElem?_getD, Int.toNat_natCast, List.getElem?_eq_getElem h]
  rfl
def pln_T14 : Bool × List (List Nat × List Nat) := (true, [([], []), ([], []), ([0, 1], [0, 1]), ([2], [2]), ([], []), ([], []), ([4, 5], [4, 5]), ([6], [6]), ([3, 7], [3, 7]), ([8], [8]), ([9], [9]), ([9], [9]), ([10, 11, 9], [9, 10, 11]), ([12, 9], [9, 12]), ([13, 9], [9, 13]), ([9], [9]), ([14, 15, 9], [9, 14, 15]), ([9, 16], [9, 16]), ([17, 9], [17]), ([18], [18]), ([19, 18], [18, 19]), ([18, 20], [18, 20]), ([21, 18], [21]), ([22], [22]), ([22], [22]), ([23, 24, 22], [22, 23, 24]), ([22, 25], [22, 25])])
def pln_B14 : List Nat := [0, 0, 3, 7, 0, 0, 48, 112, 255, 511, 1023, 1023, 4095, 8191, 16383, 1023, 65535, 131071, 262143, 524287, 1048575, 2097151, 4194303, 8388607, 8388607, 33554431, 67108863]
theorem pln_tab14 : rtab .any (opsOf Tryz.f5 14) = pln_T14 := by kernel_rfl
theorem pln_bits14 : waitsOk pln_T14.2 pln_B14 = true := by kernel_rfl
set_option maxHeartbeats 8000000 in
set_option maxRecDepth 100000 in
theorem pln_e0 {off cal re ba now : Int} {week closed : List S114} {ls : List S71} {A1 A2 A3 : Option Addr} {c1 c2 c3 : Nat} (w : World) (hk1 : Kd.C k114 w A1 week.length week ∧ week.length ≤ c1) (hk2 : Kd.C k114 w A2 closed.length closed ∧ closed.length ≤ c2) (hq : Kd.C k71 w A3 ls.length ls ∧ ls.length ≤ c3) (t0 : light15Q week closed ls = false) :
    Calls Tryz.prog 5 #[.agg #[.int .i64 off, .slice A1 week.length c1, .slice A2 closed.length c2], .agg #[.int .i64 cal, .slice A3 ls.length c3, .int .i64 re, .int .i64 ba], .int .i64 now] w fun e w' => e = .returned (.bool true) ∧ Below w.heap.size w w' := by
  have R1 := Aside0.mk hk1
  have R2 := Aside0.mk hk2
  have RQ := Aside0.mk hq
  have hnot : ∀ (x : Bool) (w : World), (Op.unary .not (.bool x)).run Tryz.prog w = .ok (.bool (!x)) w := fun _ _ => rfl
  have T0 := Aside0.mk t0
  clear t0
  clear hk1 hk2 hq
  have HB_1 : Aside0 (Below w.heap.size w ((w.alloc (.cells #[.int .i64 off, .slice A1 week.length c1, .slice A2 closed.length c2] 24)).alloc (.cells #[.int .i64 cal, .slice A3 ls.length c3, .int .i64 re, .int .i64 ba] 48))) := ⟨(below_alloc (below_alloc (Below.refl w.heap.size w) (.cells #[.int .i64 off, .slice A1 week.length c1, .slice A2 closed.length c2] 24)) (.cells #[.int .i64 cal, .slice A3 ls.length c3, .int .i64 re, .int .i64 ba] 48))⟩
  have hs_1 : w.heap.size ≤ ((w.alloc (.cells #[.int .i64 off, .slice A1 week.length c1, .slice A2 closed.length c2] 24)).alloc (.cells #[.int .i64 cal, .slice A3 ls.length c3, .int .i64 re, .int .i64 ba] 48)).heap.size := HB_1.out.size
  have Bk_1 : Aside0 (((w.alloc (.cells #[.int .i64 off, .slice A1 week.length c1, .slice A2 closed.length c2] 24)).alloc (.cells #[.int .i64 cal, .slice A3 ls.length c3, .int .i64 re, .int .i64 ba] 48)).heap[w.heap.size]? = some (.cells #[.int .i64 off, .slice A1 week.length c1, .slice A2 closed.length c2] 24 (0, 0))) := ⟨(blk_alloc (blk_new w _) _)⟩
  have Bq_1 : Aside0 (((w.alloc (.cells #[.int .i64 off, .slice A1 week.length c1, .slice A2 closed.length c2] 24)).alloc (.cells #[.int .i64 cal, .slice A3 ls.length c3, .int .i64 re, .int .i64 ba] 48)).heap[w.heap.size + 1]? = some (.cells #[.int .i64 cal, .slice A3 ls.length c3, .int .i64 re, .int .i64 ba] 48 (0, 0))) := ⟨(by simpa using blk_new (w.alloc (.cells #[.int .i64 off, .slice A1 week.length c1, .slice A2 closed.length c2] 24)) (.cells #[.int .i64 cal, .slice A3 ls.length c3, .int .i64 re, .int .i64 ba] 48))⟩
  have hz_1 : w.heap.size + 1 < ((w.alloc (.cells #[.int .i64 off, .slice A1 week.length c1, .slice A2 closed.length c2] 24)).alloc (.cells #[.int .i64 cal, .slice A3 ls.length c3, .int .i64 re, .int .i64 ba] 48)).heap.size := blk_lt Bq_1.out
  go_enter Tryz.func5, Tryz.ntmps5
  go_upto_region 1 with fail
  generalize ((w.alloc (.cells #[.int .i64 off, .slice A1 week.length c1, .slice A2 closed.length c2] 24)).alloc (.cells #[.int .i64 cal, .slice A3 ls.length c3, .int .i64 re, .int .i64 ba] 48)) = w1 at HB_1 hs_1 Bk_1 Bq_1 hz_1 ⊢
  obtain ⟨dk0, dk1, dk2⟩ := cells3 Bk_1.out
  obtain ⟨dq0, dq1, dq2, dq3⟩ := cells4 Bq_1.out
  go_wp2_with (first | (go_at_call 33; with_reducible refine (light15_is false w1 ⟨Kd.C_below R1.out.1 HB_1.out, R1.out.2⟩ ⟨Kd.C_below R2.out.1 HB_1.out, R2.out.2⟩ ⟨Kd.C_below RQ.out.1 HB_1.out, RQ.out.2⟩ T0.out).mono ?_; rintro e w2 ⟨rfl, q1⟩; clear dk0 dk1 dk2 dq0 dq1 dq2 dq3; have HB_2 := Aside0.mk (below_step HB_1.out q1); have hs_2 : w1.heap.size ≤ w2.heap.size := q1.size; have Bk_2 := Aside0.mk (blk_below Bk_1.out q1); have Bq_2 := Aside0.mk (blk_below Bq_1.out q1); clear q1; obtain ⟨dk0, dk1, dk2⟩ := cells3 Bk_2.out; obtain ⟨dq0, dq1, dq2, dq3⟩ := cells4 Bq_2.out) | (go_at_call 34; with_reducible refine (lives15_any w2).mono ?_; rintro e w3 ⟨rfl, q1⟩; clear dk0 dk1 dk2 dq0 dq1 dq2 dq3; have HB_3 := Aside0.mk (below_step HB_2.out q1); have hs_3 : w2.heap.size ≤ w3.heap.size := q1.size; have Bk_3 := Aside0.mk (blk_below Bk_2.out q1); have Bq_3 := Aside0.mk (blk_below Bq_2.out q1); clear q1; obtain ⟨dk0, dk1, dk2⟩ := cells3 Bk_3.out; obtain ⟨dq0, dq1, dq2, dq3⟩ := cells4 Bq_3.out))
  go_ret
  exact ⟨rfl, HB_3.out⟩
set_option maxHeartbeats 8000000 in
set_option maxRecDepth 100000 in
theorem pln_e1 {off cal re ba now : Int} {week closed : List S114} {ls : List S71} {A1 A2 A3 : Option Addr} {c1 c2 c3 : Nat} (w : World) (hk1 : Kd.C k114 w A1 week.length week ∧ week.length ≤ c1) (hk2 : Kd.C k114 w A2 closed.length closed ∧ closed.length ≤ c2) (hq : Kd.C k71 w A3 ls.length ls ∧ ls.length ≤ c3) (t0 : light15Q week closed ls = true) (t1 : calErr off week closed ≠ 0) :
    Calls Tryz.prog 5 #[.agg #[.int .i64 off, .slice A1 week.length c1, .slice A2 closed.length c2], .agg #[.int .i64 cal, .slice A3 ls.length c3, .int .i64 re, .int .i64 ba], .int .i64 now] w fun e w' => e = .returned (.bool true) ∧ Below w.heap.size w w' := by
  have R1 := Aside0.mk hk1
  have R2 := Aside0.mk hk2
  have RQ := Aside0.mk hq
  have hnot : ∀ (x : Bool) (w : World), (Op.unary .not (.bool x)).run Tryz.prog w = .ok (.bool (!x)) w := fun _ _ => rfl
  have T0 := Aside0.mk t0
  clear t0
  obtain ⟨ce, hce⟩ : ∃ x, calErr off week closed = x := ⟨_, rfl⟩
  have hne : (ce != 0) = true := bne_iff_ne.mpr (by rw [← hce]; exact t1)
  have T1 := Aside0.mk hce
  clear t1 hce
  clear hk1 hk2 hq
  have HB_1 : Aside0 (Below w.heap.size w ((w.alloc (.cells #[.int .i64 off, .slice A1 week.length c1, .slice A2 closed.length c2] 24)).alloc (.cells #[.int .i64 cal, .slice A3 ls.length c3, .int .i64 re, .int .i64 ba] 48))) := ⟨(below_alloc (below_alloc (Below.refl w.heap.size w) (.cells #[.int .i64 off, .slice A1 week.length c1, .slice A2 closed.length c2] 24)) (.cells #[.int .i64 cal, .slice A3 ls.length c3, .int .i64 re, .int .i64 ba] 48))⟩
  have hs_1 : w.heap.size ≤ ((w.alloc (.cells #[.int .i64 off, .slice A1 week.length c1, .slice A2 closed.length c2] 24)).alloc (.cells #[.int .i64 cal, .slice A3 ls.length c3, .int .i64 re, .int .i64 ba] 48)).heap.size := HB_1.out.size
  have Bk_1 : Aside0 (((w.alloc (.cells #[.int .i64 off, .slice A1 week.length c1, .slice A2 closed.length c2] 24)).alloc (.cells #[.int .i64 cal, .slice A3 ls.length c3, .int .i64 re, .int .i64 ba] 48)).heap[w.heap.size]? = some (.cells #[.int .i64 off, .slice A1 week.length c1, .slice A2 closed.length c2] 24 (0, 0))) := ⟨(blk_alloc (blk_new w _) _)⟩
  have Bq_1 : Aside0 (((w.alloc (.cells #[.int .i64 off, .slice A1 week.length c1, .slice A2 closed.length c2] 24)).alloc (.cells #[.int .i64 cal, .slice A3 ls.length c3, .int .i64 re, .int .i64 ba] 48)).heap[w.heap.size + 1]? = some (.cells #[.int .i64 cal, .slice A3 ls.length c3, .int .i64 re, .int .i64 ba] 48 (0, 0))) := ⟨(by simpa using blk_new (w.alloc (.cells #[.int .i64 off, .slice A1 week.length c1, .slice A2 closed.length c2] 24)) (.cells #[.int .i64 cal, .slice A3 ls.length c3, .int .i64 re, .int .i64 ba] 48))⟩
  have hz_1 : w.heap.size + 1 < ((w.alloc (.cells #[.int .i64 off, .slice A1 week.length c1, .slice A2 closed.length c2] 24)).alloc (.cells #[.int .i64 cal, .slice A3 ls.length c3, .int .i64 re, .int .i64 ba] 48)).heap.size := blk_lt Bq_1.out
  go_enter Tryz.func5, Tryz.ntmps5
  go_upto_region 1 with fail
  generalize ((w.alloc (.cells #[.int .i64 off, .slice A1 week.length c1, .slice A2 closed.length c2] 24)).alloc (.cells #[.int .i64 cal, .slice A3 ls.length c3, .int .i64 re, .int .i64 ba] 48)) = w1 at HB_1 hs_1 Bk_1 Bq_1 hz_1 ⊢
  obtain ⟨dk0, dk1, dk2⟩ := cells3 Bk_1.out
  obtain ⟨dq0, dq1, dq2, dq3⟩ := cells4 Bq_1.out
  go_wp2_with (first | (go_at_call 33; with_reducible refine (light15_is true w1 ⟨Kd.C_below R1.out.1 HB_1.out, R1.out.2⟩ ⟨Kd.C_below R2.out.1 HB_1.out, R2.out.2⟩ ⟨Kd.C_below RQ.out.1 HB_1.out, RQ.out.2⟩ T0.out).mono ?_; rintro e w2 ⟨rfl, q1⟩; clear dk0 dk1 dk2 dq0 dq1 dq2 dq3; have HB_2 := Aside0.mk (below_step HB_1.out q1); have hs_2 : w1.heap.size ≤ w2.heap.size := q1.size; have Bk_2 := Aside0.mk (blk_below Bk_1.out q1); have Bq_2 := Aside0.mk (blk_below Bq_1.out q1); clear q1; obtain ⟨dk0, dk1, dk2⟩ := cells3 Bk_2.out; obtain ⟨dq0, dq1, dq2, dq3⟩ := cells4 Bq_2.out) | (go_at_call 14; with_reducible refine (refcheck_is ce w2 ⟨Kd.C_below R1.out.1 HB_2.out, R1.out.2⟩ ⟨Kd.C_below R2.out.1 HB_2.out, R2.out.2⟩ T1.out).mono ?_; rintro e w3 ⟨rfl, q1⟩; clear dk0 dk1 dk2 dq0 dq1 dq2 dq3; have HB_3 := Aside0.mk (below_step HB_2.out q1); have hs_3 : w2.heap.size ≤ w3.heap.size := q1.size; have Bk_3 := Aside0.mk (blk_below Bk_2.out q1); have Bq_3 := Aside0.mk (blk_below Bq_2.out q1); clear q1; obtain ⟨dk0, dk1, dk2⟩ := cells3 Bk_3.out; obtain ⟨dq0, dq1, dq2, dq3⟩ := cells4 Bq_3.out) | (go_at_call 34; with_reducible refine (lives15_any w3).mono ?_; rintro e w4 ⟨rfl, q1⟩; clear dk0 dk1 dk2 dq0 dq1 dq2 dq3; have HB_4 := Aside0.mk (below_step HB_3.out q1); have hs_4 : w3.heap.size ≤ w4.heap.size := q1.size; have Bk_4 := Aside0.mk (blk_below Bk_3.out q1); have Bq_4 := Aside0.mk (blk_below Bq_3.out q1); clear q1; obtain ⟨dk0, dk1, dk2⟩ := cells3 Bk_4.out; obtain ⟨dq0, dq1, dq2, dq3⟩ := cells4 Bq_4.out))
  go_ret
  exact ⟨rfl, HB_4.out⟩
set_option maxHeartbeats 8000000 in
set_option maxRecDepth 100000 in
theorem pln_err {off cal re ba now : Int} {week closed : List S114} {ls : List S71} {A1 A2 A3 : Option Addr} {c1 c2 c3 : Nat} (w : World) (hk1 : Kd.C k114 w A1 week.length week ∧ week.length ≤ c1) (hk2 : Kd.C k114 w A2 closed.length closed ∧ closed.length ≤ c2) (hq : Kd.C k71 w A3 ls.length ls ∧ ls.length ≤ c3) (t0 : light15Q week closed ls = true) (t1 : calErr off week closed = 0) {L : List S76} {e : Int} (hp : planP off week closed cal ls re ba now = (L, e)) (he : e ≠ 0) :
    Calls Tryz.prog 5 #[.agg #[.int .i64 off, .slice A1 week.length c1, .slice A2 closed.length c2], .agg #[.int .i64 cal, .slice A3 ls.length c3, .int .i64 re, .int .i64 ba], .int .i64 now] w fun e w' => e = .returned (.bool true) ∧ Below w.heap.size w w' := by
  have R1 := Aside0.mk hk1
  have R2 := Aside0.mk hk2
  have RQ := Aside0.mk hq
  have hnot : ∀ (x : Bool) (w : World), (Op.unary .not (.bool x)).run Tryz.prog w = .ok (.bool (!x)) w := fun _ _ => rfl
  have T0 := Aside0.mk t0
  clear t0
  have T1 := Aside0.mk t1
  have HCK := Aside0.mk (calErr_ok t1)
  have HPE := Aside0.mk hp
  have HPR := Aside0.mk (show curfewref15_Plan.f 500 off week closed cal ls re ba now = some (L, e) by rw [rplan_eq (calErr_ok t1), hp])
  have hnil := planP_no (now := now) (cal := cal) (re := re) (ba := ba) (ls := ls) (off := off) (week := week) (closed := closed) (by rw [hp]; exact he)
  rw [hp] at hnil
  simp only at hnil
  subst hnil
  have fe : (e != 0) = true := bne_iff_ne.mpr he
  clear hp he t1
  clear hk1 hk2 hq
  have HB_1 : Aside0 (Below w.heap.size w ((w.alloc (.cells #[.int .i64 off, .slice A1 week.length c1, .slice A2 closed.length c2] 24)).alloc (.cells #[.int .i64 cal, .slice A3 ls.length c3, .int .i64 re, .int .i64 ba] 48))) := ⟨(below_alloc (below_alloc (Below.refl w.heap.size w) (.cells #[.int .i64 off, .slice A1 week.length c1, .slice A2 closed.length c2] 24)) (.cells #[.int .i64 cal, .slice A3 ls.length c3, .int .i64 re, .int .i64 ba] 48))⟩
  have hs_1 : w.heap.size ≤ ((w.alloc (.cells #[.int .i64 off, .slice A1 week.length c1, .slice A2 closed.length c2] 24)).alloc (.cells #[.int .i64 cal, .slice A3 ls.length c3, .int .i64 re, .int .i64 ba] 48)).heap.size := HB_1.out.size
  have Bk_1 : Aside0 (((w.alloc (.cells #[.int .i64 off, .slice A1 week.length c1, .slice A2 closed.length c2] 24)).alloc (.cells #[.int .i64 cal, .slice A3 ls.length c3, .int .i64 re, .int .i64 ba] 48)).heap[w.heap.size]? = some (.cells #[.int .i64 off, .slice A1 week.length c1, .slice A2 closed.length c2] 24 (0, 0))) := ⟨(blk_alloc (blk_new w _) _)⟩
  have Bq_1 : Aside0 (((w.alloc (.cells #[.int .i64 off, .slice A1 week.length c1, .slice A2 closed.length c2] 24)).alloc (.cells #[.int .i64 cal, .slice A3 ls.length c3, .int .i64 re, .int .i64 ba] 48)).heap[w.heap.size + 1]? = some (.cells #[.int .i64 cal, .slice A3 ls.length c3, .int .i64 re, .int .i64 ba] 48 (0, 0))) := ⟨(by simpa using blk_new (w.alloc (.cells #[.int .i64 off, .slice A1 week.length c1, .slice A2 closed.length c2] 24)) (.cells #[.int .i64 cal, .slice A3 ls.length c3, .int .i64 re, .int .i64 ba] 48))⟩
  have hz_1 : w.heap.size + 1 < ((w.alloc (.cells #[.int .i64 off, .slice A1 week.length c1, .slice A2 closed.length c2] 24)).alloc (.cells #[.int .i64 cal, .slice A3 ls.length c3, .int .i64 re, .int .i64 ba] 48)).heap.size := blk_lt Bq_1.out
  go_enter Tryz.func5, Tryz.ntmps5
  go_upto_region 1 with fail
  generalize ((w.alloc (.cells #[.int .i64 off, .slice A1 week.length c1, .slice A2 closed.length c2] 24)).alloc (.cells #[.int .i64 cal, .slice A3 ls.length c3, .int .i64 re, .int .i64 ba] 48)) = w1 at HB_1 hs_1 Bk_1 Bq_1 hz_1 ⊢
  obtain ⟨dk0, dk1, dk2⟩ := cells3 Bk_1.out
  obtain ⟨dq0, dq1, dq2, dq3⟩ := cells4 Bq_1.out
  go_upto_region 3 with (first | (go_at_call 33; with_reducible refine (light15_is true w1 ⟨Kd.C_below R1.out.1 HB_1.out, R1.out.2⟩ ⟨Kd.C_below R2.out.1 HB_1.out, R2.out.2⟩ ⟨Kd.C_below RQ.out.1 HB_1.out, RQ.out.2⟩ T0.out).mono ?_; rintro e w2 ⟨rfl, q1⟩; clear dk0 dk1 dk2 dq0 dq1 dq2 dq3; have HB_2 := Aside0.mk (below_step HB_1.out q1); have hs_2 : w1.heap.size ≤ w2.heap.size := q1.size; have Bk_2 := Aside0.mk (blk_below Bk_1.out q1); have Bq_2 := Aside0.mk (blk_below Bq_1.out q1); clear q1; obtain ⟨dk0, dk1, dk2⟩ := cells3 Bk_2.out; obtain ⟨dq0, dq1, dq2, dq3⟩ := cells4 Bq_2.out) | (go_at_call 14; with_reducible refine (refcheck_is 0 w2 ⟨Kd.C_below R1.out.1 HB_2.out, R1.out.2⟩ ⟨Kd.C_below R2.out.1 HB_2.out, R2.out.2⟩ T1.out).mono ?_; rintro e w3 ⟨rfl, q1⟩; clear dk0 dk1 dk2 dq0 dq1 dq2 dq3; have HB_3 := Aside0.mk (below_step HB_2.out q1); have hs_3 : w2.heap.size ≤ w3.heap.size := q1.size; have Bk_3 := Aside0.mk (blk_below Bk_2.out q1); have Bq_3 := Aside0.mk (blk_below Bq_2.out q1); clear q1; obtain ⟨dk0, dk1, dk2⟩ := cells3 Bk_3.out; obtain ⟨dq0, dq1, dq2, dq3⟩ := cells4 Bq_3.out))
  go_upto_region 4 with (go_at_call 35; with_reducible refine (calnew_yes off A1 A2 c1 c2 week closed w3 (Kd.C_below R1.out.1 HB_3.out) R1.out.2 (Kd.C_below R2.out.1 HB_3.out) R2.out.2 T1.out).mono ?_; rintro x w4 ⟨kb, ab, pb, cb, rfl, CK, q1⟩; have hncb : w3.heap.size ≤ cb := CK.plan.ncb; have hcb := CK.lt; have hnn : w3.heap.size ≤ w4.heap.size := q1.size; have HC_4 := Aside0.mk CK; clear CK; clear dk0 dk1 dk2 dq0 dq1 dq2 dq3; have HB_4 := Aside0.mk (below_step HB_3.out q1); have hs_4 : w3.heap.size ≤ w4.heap.size := q1.size; have Bk_4 := Aside0.mk (blk_below Bk_3.out q1); have Bq_4 := Aside0.mk (blk_below Bq_3.out q1); clear q1; obtain ⟨dk0, dk1, dk2⟩ := cells3 Bk_4.out; obtain ⟨dq0, dq1, dq2, dq3⟩ := cells4 Bq_4.out)
  clear dk0 dk1 dk2 dq0 dq1 dq2 dq3
  have HBB := HB_4
  have HU_4 := Aside0.mk (Upd.refl cb w4)
  have HcbW : Aside0 (w.heap.size ≤ cb) := ⟨by omega⟩
  have HwB : Aside0 (w.heap.size ≤ w4.heap.size) := ⟨HBB.out.size⟩
  have HNB : Aside0 (w3.heap.size ≤ w4.heap.size) := ⟨hnn⟩
  clear HB_4 hs_4
  have hs_4 : w4.heap.size ≤ w4.heap.size := Nat.le_refl _
  skip
  obtain ⟨dq0, dq1, dq2, dq3⟩ := cells4 Bq_4.out
  obtain ⟨dk0, dk1, dk2⟩ := cells3 Bk_4.out
  have HFT : Aside0 (∀ W', KeepBut w4 W' cb none → Kd.C k71 W' A3 ls.length ls ∧ ls.length ≤ c3) := ⟨fun W' hk => ⟨Kd.C_foot_came (Kd.heap_iso _ (Kd.heap_pair (Kd.heap_int _) (Kd.heap_int _))) RQ.out.1 HBB.out HcbW.out W' hk, RQ.out.2⟩⟩
  have HPX : Aside0 (planP off week closed cal ls re ba now = (([] : List S76), e)) := HPE
  go_upto_region 5 with (go_at_call 36; with_reducible refine (plan_any cal re ba now (([] : List S76), e) w4 HC_4.out HNB.out HFT.out HPX.out).mono ?_; rintro x w5 ⟨v1, rfl, q3, q1, q2⟩; clear dq0 dq1 dq2 dq3 dk0 dk1 dk2; have HC_5 := Aside0.mk q1; have HU_5 := Aside0.mk (HU_4.out.trans q2); have hs_5 : w4.heap.size ≤ w5.heap.size := q2.size; have Bq_5 := Aside0.mk (q2.blk Bq_4.out (by omega)); have Bk_5 := Aside0.mk (q2.blk Bk_4.out (by omega)); clear q1 q2; obtain ⟨dq0, dq1, dq2, dq3⟩ := cells4 Bq_5.out; obtain ⟨dk0, dk1, dk2⟩ := cells3 Bk_5.out; have HV_5 := Aside0.mk q3; obtain ⟨V1, cv1, rfl⟩ := Kd.R_slice HV_5.out; clear q3)
  go_upto_region 6 with (go_at_call 37; with_reducible refine (curfewref15_Plan.calls 500 off A1 c1 week A2 c2 closed cal A3 c3 ls re ba now ([] : List S76) e w5 (Kd.C_below R1.out.1 (upd_below15 HBB.out HU_5.out HcbW.out HwB.out)) R1.out.2 (Kd.C_below R2.out.1 (upd_below15 HBB.out HU_5.out HcbW.out HwB.out)) R2.out.2 (Kd.C_below RQ.out.1 (upd_below15 HBB.out HU_5.out HcbW.out HwB.out)) RQ.out.2 HPR.out).mono ?_; rintro x w6 ⟨v2, rfl, q3, q1⟩; have HM_6 := Aside0.mk q3; obtain ⟨V2, cv2, rfl⟩ := Kd.R_slice HM_6.out; have HV_6 := Aside0.mk (Kd.R_below HV_5.out q1); clear q3; clear dq0 dq1 dq2 dq3 dk0 dk1 dk2; have HC_6 := Aside0.mk (HC_5.out.below q1); have HU_6 := Aside0.mk (HU_5.out.then q1); have hs_6 : w5.heap.size ≤ w6.heap.size := q1.size; have Bq_6 := Aside0.mk (blk_below Bq_5.out q1); have Bk_6 := Aside0.mk (blk_below Bk_5.out q1); clear q1; obtain ⟨dq0, dq1, dq2, dq3⟩ := cells4 Bq_6.out; obtain ⟨dk0, dk1, dk2⟩ := cells3 Bk_6.out)
  skip
  go_wp2
  go_loopw [13, 58] (fun y z wr => y = .int .i64 0 ∧ z = .int .i64 0 ∧ Aside0 (Upd cb w4 wr)) (fun _ _ _ => 0)
  case atStart => exact ⟨rfl, rfl, HU_6⟩
  case round =>
    obtain ⟨rfl, rfl, HUX⟩ := hrel
    obtain ⟨w70, rfl⟩ : ∃ x : World, x = wr := ⟨_, rfl⟩
    go_wp2_with (go_at_call 34; with_reducible refine (lives15_any w70).mono ?_; rintro x w71 ⟨rfl, q1⟩; have HU_71 := Aside0.mk (HUX.out.then q1); clear q1)
    go_ret
    exact ⟨rfl, upd_below15 HBB.out HU_71.out HcbW.out HwB.out⟩
set_option maxHeartbeats 8000000 in
set_option maxRecDepth 100000 in
theorem pln_main {off cal re ba now : Int} {week closed : List S114} {ls : List S71} {A1 A2 A3 : Option Addr} {c1 c2 c3 : Nat} (w : World) (hk1 : Kd.C k114 w A1 week.length week ∧ week.length ≤ c1) (hk2 : Kd.C k114 w A2 closed.length closed ∧ closed.length ≤ c2) (hq : Kd.C k71 w A3 ls.length ls ∧ ls.length ≤ c3) (t0 : light15Q week closed ls = true) (t1 : calErr off week closed = 0) {L : List S76} (hp : planP off week closed cal ls re ba now = (L, 0)) :
    Calls Tryz.prog 5 #[.agg #[.int .i64 off, .slice A1 week.length c1, .slice A2 closed.length c2], .agg #[.int .i64 cal, .slice A3 ls.length c3, .int .i64 re, .int .i64 ba], .int .i64 now] w fun e w' => e = .returned (.bool true) ∧ Below w.heap.size w w' := by
  have R1 := Aside0.mk hk1
  have R2 := Aside0.mk hk2
  have RQ := Aside0.mk hq
  have hnot : ∀ (x : Bool) (w : World), (Op.unary .not (.bool x)).run Tryz.prog w = .ok (.bool (!x)) w := fun _ _ => rfl
  have T0 := Aside0.mk t0
  clear t0
  have T1 := Aside0.mk t1
  have HCK := Aside0.mk (calErr_ok t1)
  have HPE := Aside0.mk hp
  have HPR := Aside0.mk (show curfewref15_Plan.f 500 off week closed cal ls re ba now = some (L, 0) by rw [rplan_eq (calErr_ok t1), hp])
  have hpok := planP_ok (now := now) (cal := cal) (re := re) (ba := ba) (ls := ls) (calErr_ok t1) (by rw [hp])
  rw [hp] at hpok
  simp only at hpok
  obtain ⟨hgood, ⟨now0, now1⟩, hpo, hlen⟩ := hpok
  have HPO := Aside0.mk hpo
  have HLEN := Aside0.mk hlen
  obtain ⟨gg, gl⟩ := goodP_iff.1 hgood
  have HGL := Aside0.mk gl
  have hl6 : ls.length ≤ 6 := by omega
  have HL6 := Aside0.mk hl6
  clear hgood hpo hlen gg gl hl6 hp t1
  clear hk1 hk2 hq
  have HB_1 : Aside0 (Below w.heap.size w ((w.alloc (.cells #[.int .i64 off, .slice A1 week.length c1, .slice A2 closed.length c2] 24)).alloc (.cells #[.int .i64 cal, .slice A3 ls.length c3, .int .i64 re, .int .i64 ba] 48))) := ⟨(below_alloc (below_alloc (Below.refl w.heap.size w) (.cells #[.int .i64 off, .slice A1 week.length c1, .slice A2 closed.length c2] 24)) (.cells #[.int .i64 cal, .slice A3 ls.length c3, .int .i64 re, .int .i64 ba] 48))⟩
  have hs_1 : w.heap.size ≤ ((w.alloc (.cells #[.int .i64 off, .slice A1 week.length c1, .slice A2 closed.length c2] 24)).alloc (.cells #[.int .i64 cal, .slice A3 ls.length c3, .int .i64 re, .int .i64 ba] 48)).heap.size := HB_1.out.size
  have Bk_1 : Aside0 (((w.alloc (.cells #[.int .i64 off, .slice A1 week.length c1, .slice A2 closed.length c2] 24)).alloc (.cells #[.int .i64 cal, .slice A3 ls.length c3, .int .i64 re, .int .i64 ba] 48)).heap[w.heap.size]? = some (.cells #[.int .i64 off, .slice A1 week.length c1, .slice A2 closed.length c2] 24 (0, 0))) := ⟨(blk_alloc (blk_new w _) _)⟩
  have Bq_1 : Aside0 (((w.alloc (.cells #[.int .i64 off, .slice A1 week.length c1, .slice A2 closed.length c2] 24)).alloc (.cells #[.int .i64 cal, .slice A3 ls.length c3, .int .i64 re, .int .i64 ba] 48)).heap[w.heap.size + 1]? = some (.cells #[.int .i64 cal, .slice A3 ls.length c3, .int .i64 re, .int .i64 ba] 48 (0, 0))) := ⟨(by simpa using blk_new (w.alloc (.cells #[.int .i64 off, .slice A1 week.length c1, .slice A2 closed.length c2] 24)) (.cells #[.int .i64 cal, .slice A3 ls.length c3, .int .i64 re, .int .i64 ba] 48))⟩
  have hz_1 : w.heap.size + 1 < ((w.alloc (.cells #[.int .i64 off, .slice A1 week.length c1, .slice A2 closed.length c2] 24)).alloc (.cells #[.int .i64 cal, .slice A3 ls.length c3, .int .i64 re, .int .i64 ba] 48)).heap.size := blk_lt Bq_1.out
  go_enter Tryz.func5, Tryz.ntmps5
  go_upto_region 1 with fail
  generalize ((w.alloc (.cells #[.int .i64 off, .slice A1 week.length c1, .slice A2 closed.length c2] 24)).alloc (.cells #[.int .i64 cal, .slice A3 ls.length c3, .int .i64 re, .int .i64 ba] 48)) = w1 at HB_1 hs_1 Bk_1 Bq_1 hz_1 ⊢
  obtain ⟨dk0, dk1, dk2⟩ := cells3 Bk_1.out
  obtain ⟨dq0, dq1, dq2, dq3⟩ := cells4 Bq_1.out
  go_upto_region 3 with (first | (go_at_call 33; with_reducible refine (light15_is true w1 ⟨Kd.C_below R1.out.1 HB_1.out, R1.out.2⟩ ⟨Kd.C_below R2.out.1 HB_1.out, R2.out.2⟩ ⟨Kd.C_below RQ.out.1 HB_1.out, RQ.out.2⟩ T0.out).mono ?_; rintro e w2 ⟨rfl, q1⟩; clear dk0 dk1 dk2 dq0 dq1 dq2 dq3; have HB_2 := Aside0.mk (below_step HB_1.out q1); have hs_2 : w1.heap.size ≤ w2.heap.size := q1.size; have Bk_2 := Aside0.mk (blk_below Bk_1.out q1); have Bq_2 := Aside0.mk (blk_below Bq_1.out q1); clear q1; obtain ⟨dk0, dk1, dk2⟩ := cells3 Bk_2.out; obtain ⟨dq0, dq1, dq2, dq3⟩ := cells4 Bq_2.out) | (go_at_call 14; with_reducible refine (refcheck_is 0 w2 ⟨Kd.C_below R1.out.1 HB_2.out, R1.out.2⟩ ⟨Kd.C_below R2.out.1 HB_2.out, R2.out.2⟩ T1.out).mono ?_; rintro e w3 ⟨rfl, q1⟩; clear dk0 dk1 dk2 dq0 dq1 dq2 dq3; have HB_3 := Aside0.mk (below_step HB_2.out q1); have hs_3 : w2.heap.size ≤ w3.heap.size := q1.size; have Bk_3 := Aside0.mk (blk_below Bk_2.out q1); have Bq_3 := Aside0.mk (blk_below Bq_2.out q1); clear q1; obtain ⟨dk0, dk1, dk2⟩ := cells3 Bk_3.out; obtain ⟨dq0, dq1, dq2, dq3⟩ := cells4 Bq_3.out))
  go_upto_region 4 with (go_at_call 35; with_reducible refine (calnew_yes off A1 A2 c1 c2 week closed w3 (Kd.C_below R1.out.1 HB_3.out) R1.out.2 (Kd.C_below R2.out.1 HB_3.out) R2.out.2 T1.out).mono ?_; rintro x w4 ⟨kb, ab, pb, cb, rfl, CK, q1⟩; have hncb : w3.heap.size ≤ cb := CK.plan.ncb; have hcb := CK.lt; have hnn : w3.heap.size ≤ w4.heap.size := q1.size; have HC_4 := Aside0.mk CK; clear CK; clear dk0 dk1 dk2 dq0 dq1 dq2 dq3; have HB_4 := Aside0.mk (below_step HB_3.out q1); have hs_4 : w3.heap.size ≤ w4.heap.size := q1.size; have Bk_4 := Aside0.mk (blk_below Bk_3.out q1); have Bq_4 := Aside0.mk (blk_below Bq_3.out q1); clear q1; obtain ⟨dk0, dk1, dk2⟩ := cells3 Bk_4.out; obtain ⟨dq0, dq1, dq2, dq3⟩ := cells4 Bq_4.out)
  clear dk0 dk1 dk2 dq0 dq1 dq2 dq3
  have HBB := HB_4
  have HU_4 := Aside0.mk (Upd.refl cb w4)
  have HcbW : Aside0 (w.heap.size ≤ cb) := ⟨by omega⟩
  have HwB : Aside0 (w.heap.size ≤ w4.heap.size) := ⟨HBB.out.size⟩
  have HNB : Aside0 (w3.heap.size ≤ w4.heap.size) := ⟨hnn⟩
  clear HB_4 hs_4
  have hs_4 : w4.heap.size ≤ w4.heap.size := Nat.le_refl _
  skip
  obtain ⟨dq0, dq1, dq2, dq3⟩ := cells4 Bq_4.out
  obtain ⟨dk0, dk1, dk2⟩ := cells3 Bk_4.out
  have HFT : Aside0 (∀ W', KeepBut w4 W' cb none → Kd.C k71 W' A3 ls.length ls ∧ ls.length ≤ c3) := ⟨fun W' hk => ⟨Kd.C_foot_came (Kd.heap_iso _ (Kd.heap_pair (Kd.heap_int _) (Kd.heap_int _))) RQ.out.1 HBB.out HcbW.out W' hk, RQ.out.2⟩⟩
  have HPX : Aside0 (planP off week closed cal ls re ba now = (L, 0)) := HPE
  go_upto_region 5 with (go_at_call 36; with_reducible refine (plan_any cal re ba now (L, 0) w4 HC_4.out HNB.out HFT.out HPX.out).mono ?_; rintro x w5 ⟨v1, rfl, q3, q1, q2⟩; clear dq0 dq1 dq2 dq3 dk0 dk1 dk2; have HC_5 := Aside0.mk q1; have HU_5 := Aside0.mk (HU_4.out.trans q2); have hs_5 : w4.heap.size ≤ w5.heap.size := q2.size; have Bq_5 := Aside0.mk (q2.blk Bq_4.out (by omega)); have Bk_5 := Aside0.mk (q2.blk Bk_4.out (by omega)); clear q1 q2; obtain ⟨dq0, dq1, dq2, dq3⟩ := cells4 Bq_5.out; obtain ⟨dk0, dk1, dk2⟩ := cells3 Bk_5.out; have HV_5 := Aside0.mk q3; obtain ⟨V1, cv1, rfl⟩ := Kd.R_slice HV_5.out; clear q3)
  go_upto_region 6 with (go_at_call 37; with_reducible refine (curfewref15_Plan.calls 500 off A1 c1 week A2 c2 closed cal A3 c3 ls re ba now L 0 w5 (Kd.C_below R1.out.1 (upd_below15 HBB.out HU_5.out HcbW.out HwB.out)) R1.out.2 (Kd.C_below R2.out.1 (upd_below15 HBB.out HU_5.out HcbW.out HwB.out)) R2.out.2 (Kd.C_below RQ.out.1 (upd_below15 HBB.out HU_5.out HcbW.out HwB.out)) RQ.out.2 HPR.out).mono ?_; rintro x w6 ⟨v2, rfl, q3, q1⟩; have HM_6 := Aside0.mk q3; obtain ⟨V2, cv2, rfl⟩ := Kd.R_slice HM_6.out; have HV_6 := Aside0.mk (Kd.R_below HV_5.out q1); clear q3; clear dq0 dq1 dq2 dq3 dk0 dk1 dk2; have HC_6 := Aside0.mk (HC_5.out.below q1); have HU_6 := Aside0.mk (HU_5.out.then q1); have hs_6 : w5.heap.size ≤ w6.heap.size := q1.size; have Bq_6 := Aside0.mk (blk_below Bq_5.out q1); have Bk_6 := Aside0.mk (blk_below Bk_5.out q1); clear q1; obtain ⟨dq0, dq1, dq2, dq3⟩ := cells4 Bq_6.out; obtain ⟨dk0, dk1, dk2⟩ := cells3 Bk_6.out)
  clear dq0 dq1 dq2 dq3 dk0 dk1 dk2
  go_wp2
  go_loopw [13, 58] (fun y z wr => ∃ i : Nat, y = .int .i64 (bsum ls i) ∧ z = .int .i64 i ∧ i ≤ L.length ∧ Aside0 (ClkAt wr w3.heap.size kb ab pb cb off week closed) ∧ Aside0 (Upd cb w4 wr) ∧ Aside0 (wr.heap[w.heap.size + 1]? = some (.cells #[.int .i64 cal, .slice A3 ls.length c3, .int .i64 re, .int .i64 ba] 48 (0, 0))) ∧ Aside0 (Kd.R k76 75 wr w4.heap.size (fun _ => True) (.slice V1 L.length cv1) L) ∧ Aside0 (Kd.R k76 76 wr w5.heap.size (fun _ => True) (.slice V2 L.length cv2) L)) (fun _ z _ => L.length - (intOf z).toNat)
  case atStart => exact ⟨0, rfl, rfl, by omega, HC_6, HU_6, Bq_6, HV_6, HM_6⟩
  case round =>
    clear HC_6 HU_6 Bq_6 HV_6 HM_6
    obtain ⟨i, rfl, rfl, hi, HC_50, HU_50, Bq_50, HV_50, HM_50⟩ := hrel
    obtain ⟨w50, rfl⟩ : ∃ x : World, x = wr := ⟨_, rfl⟩
    by_cases hlt : i < L.length
    · have hil : i < ls.length := by have := HLEN.out; omega
      have hi6 : i < 6 := by have := HLEN.out; have := HL6.out; omega
      obtain ⟨ad3, ea, hx0, hx1⟩ := at_T71 (Kd.C_below RQ.out.1 (upd_below15 HBB.out HU_50.out HcbW.out HwB.out)) i (by omega) (by omega)
      cases ea
      rw [Int.toNat_natCast] at hx0 hx1
      have hbs := bsum_succ ls i hil
      have hbb := bsum_bound (ls := ls) (fun x hx => ⟨(HGL.out x hx).1, (HGL.out x hx).2.1⟩) i (by omega)
      have hmb := HGL.out (rd_T71 ls (i : Int)) (by rw [rdL_at ls i hil]; exact List.getElem_mem _)
      have hst := HPO.out i (rd_T76 L (i : Int)) (plan_at hlt)
      rw [Nat.zero_add, hbs] at hst
      obtain ⟨s0, ⟨s1, s2⟩, s3⟩ := hst
      obtain ⟨adv, ev, y0, y1, y2, y3⟩ := at_T76 (R_C HV_50.out).1 i (by omega) (by omega)
      subst ev
      obtain ⟨adm, em, z0, z1, z2, z3⟩ := at_T76 (R_C HM_50.out).1 i (by omega) (by omega)
      subst em
      rw [Int.toNat_natCast] at y0 y1 y2 y3 z0 z1 z2 z3
      obtain ⟨st, hstd⟩ : ∃ x, rd_T76 L (i : Int) = x := ⟨_, rfl⟩
      have HBS := Aside0.mk hbs
      clear hbs
      rw [hstd] at s0 s1 s2 s3 y0 y1 y2 y3 z0 z1 z2 z3
      obtain ⟨a0, a1, a2, a3⟩ := st
      simp only at s0 s1 s2 s3 y0 y1 y2 y3 z0 z1 z2 z3
      subst s0
      have HRD : Aside0 (rd_T76 L (i : Int) = ⟨(i : Int), a1, a2, a3⟩) := ⟨hstd⟩
      clear hstd
      generalize (rd_T71 ls (i : Int)).f0 = bg at hx0 hmb s3 HBS
      skip
      obtain ⟨hm1, hm2, _⟩ := hmb
      obtain ⟨bb0, bb1⟩ := hbb
      generalize bsum ls i = bs at bb0 bb1 s3 HBS ⊢
      have bb2 : bs ≤ 6755399441055744 := by omega
      clear bb1
      have HS3 := Aside0.mk s3
      clear s3
      have p0 : (0 : Int) ≤ i := by omega
      have p1 : (i : Int) < L.length := by omega
      have p2 : (i : Int) < ls.length := by omega
      have dq1 : w50.cell? ⟨w.heap.size + 1, 1, none⟩ = some (.slice (some ad3) ls.length c3) := (blk_cell Bq_50.out 1).trans rfl
      go_upto_region 13 with fail
      go_upto_region 14 with (go_at_call 38; with_reducible refine (elapsed_any now a3 w50 HC_50.out (Nat.le_trans HNB.out HU_50.out.size) now0 s1 s2).mono ?_; rintro x w51 ⟨rfl, q1, q2⟩; rw [HS3.out]; have HC_51 := Aside0.mk q1; have HU_51 := Aside0.mk (HU_50.out.trans q2); have Bq_51 := Aside0.mk (q2.blk Bq_50.out (by omega)); have HV_51 := Aside0.mk (R_upd HV_50.out q2 (by omega)); have HM_51 := Aside0.mk (R_upd HM_50.out q2 (by have := hs_5; omega)); clear q1 q2 dq1 hx0 hx1 y0 y1 y2 y3 z0 z1 z2 z3)
      have hb4 : Below w51.heap.size w51 w51.drew := below_drew1 (Below.refl _ _)
      have HC_52 := Aside0.mk (HC_51.out.below hb4)
      have HU_52 := Aside0.mk (HU_51.out.then hb4)
      have Bq_52 := Aside0.mk (blk_below Bq_51.out hb4)
      have HV_52 := Aside0.mk (Kd.R_below HV_51.out hb4)
      have HM_52 := Aside0.mk (Kd.R_below HM_51.out hb4)
      clear hb4
      have hRD : rd_T76 L (i : Int) = ⟨(i : Int), a1, a2, a3⟩ := HRD.out
      obtain ⟨adv', ev, y0, y1, y2, y3⟩ := at_T76 (R_C HV_52.out).1 i (by omega) (by omega)
      injection ev with ev
      subst ev
      obtain ⟨adm', em, z0, z1, z2, z3⟩ := at_T76 (R_C HM_52.out).1 i (by omega) (by omega)
      injection em with em
      subst em
      rw [Int.toNat_natCast] at y0 y1 y2 y3 z0 z1 z2 z3
      rw [hRD] at y0 y1 y2 y3 z0 z1 z2 z3
      simp only at y0 y1 y2 y3 z0 z1 z2 z3
      clear hRD
      refine start_ (n := 27) (S := fun w' => w'.cell? (adv.add (i * 4)) = some (.int .i64 (i : Int)) ∧ w'.cell? ⟨(adv.add (i * 4)).block, (adv.add (i * 4)).off + 1, none⟩ = some (.int .i64 a1) ∧ w'.cell? ⟨(adv.add (i * 4)).block, (adv.add (i * 4)).off + 2, none⟩ = some (.int .i64 a2) ∧ w'.cell? ⟨(adv.add (i * 4)).block, (adv.add (i * 4)).off + 3, none⟩ = some (.int .i64 a3) ∧ w'.cell? (adm.add (i * 4)) = some (.int .i64 (i : Int)) ∧ w'.cell? ⟨(adm.add (i * 4)).block, (adm.add (i * 4)).off + 1, none⟩ = some (.int .i64 a1) ∧ w'.cell? ⟨(adm.add (i * 4)).block, (adm.add (i * 4)).off + 2, none⟩ = some (.int .i64 a2) ∧ w'.cell? ⟨(adm.add (i * 4)).block, (adm.add (i * 4)).off + 3, none⟩ = some (.int .i64 a3)) (ds := []) #[false, false, false, false, false, false, false, false, false, false, false, false, false, false, false, false, false, false, false, false, false, false, false, false, false, false, false] (by kernel_rfl) rfl rfl ⟨y0, y1, y2, y3, z0, z1, z2, z3⟩ (fun hHeld => ?_); refine with_tabW pln_tab14 pln_bits14 (fun HT_ HW_ => ?_)
      clear y0 y1 y2 y3 z0 z1 z2 z3
      generalize w51.drew = w52 at HC_52 HU_52 Bq_52 HV_52 HM_52 hHeld ⊢
      refine pure_ (i := 0) (N := some 80) (v := ?_) (a' := ?_) #[true, false, false, false, false, false, false, false, false, false, false, false, false, false, false, false, false, false, false, false, false, false, false, false, false, false, false] rfl rfl (any_of HT_.out (by kernel_rfl)) (fun _ _ _ h => h) (Or.inl ⟨by rfl, ?_⟩) ?_ ?_
      rotate_left
      · intro w'
        go_simp
        with_reducible rfl
      rotate_left
      · simp only [Act.put, List.setIfInBounds_toArray, List.set_cons_zero, List.set_cons_succ, i64_w, i32_w]
        rfl
      refine pure_ (i := 1) (N := some 81) (v := ?_) (a' := ?_) #[true, true, false, false, false, false, false, false, false, false, false, false, false, false, false, false, false, false, false, false, false, false, false, false, false, false, false] rfl rfl (any_of HT_.out (by kernel_rfl)) (fun _ _ _ h => h) (Or.inl ⟨by rfl, ?_⟩) ?_ ?_
      rotate_left
      · intro w'
        go_simp
        with_reducible rfl
      rotate_left
      · simp only [Act.put, List.setIfInBounds_toArray, List.set_cons_zero, List.set_cons_succ, i64_w, i32_w]
        rfl
      refine pure_ (i := 2) (N := some 82) (v := ?_) (a' := ?_) #[true, true, true, false, false, false, false, false, false, false, false, false, false, false, false, false, false, false, false, false, false, false, false, false, false, false, false] rfl rfl (any_of HT_.out (by kernel_rfl)) (fun _ _ _ h => h) (Or.inl ⟨by rfl, ?_⟩) ?_ ?_
      rotate_left
      · intro w'
        go_simp
        with_reducible rfl
      rotate_left
      · simp only [Act.put, List.setIfInBounds_toArray, List.set_cons_zero, List.set_cons_succ, i64_w, i32_w]
        rfl
      refine pure_ (i := 4) (N := some 84) (v := ?_) (a' := ?_) #[true, true, true, false, true, false, false, false, false, false, false, false, false, false, false, false, false, false, false, false, false, false, false, false, false, false, false] rfl rfl (any_of HT_.out (by kernel_rfl)) (fun _ _ _ h => h) (Or.inl ⟨by rfl, ?_⟩) ?_ ?_
      rotate_left
      · intro w'
        go_simp
        with_reducible rfl
      rotate_left
      · simp only [Act.put, List.setIfInBounds_toArray, List.set_cons_zero, List.set_cons_succ, i64_w, i32_w]
        rfl
      refine pure_ (i := 5) (N := some 85) (v := ?_) (a' := ?_) #[true, true, true, false, true, true, false, false, false, false, false, false, false, false, false, false, false, false, false, false, false, false, false, false, false, false, false] rfl rfl (any_of HT_.out (by kernel_rfl)) (fun _ _ _ h => h) (Or.inl ⟨by rfl, ?_⟩) ?_ ?_
      rotate_left
      · intro w'
        go_simp
        with_reducible rfl
      rotate_left
      · simp only [Act.put, List.setIfInBounds_toArray, List.set_cons_zero, List.set_cons_succ, i64_w, i32_w]
        rfl
      refine pure_ (i := 6) (N := some 86) (v := ?_) (a' := ?_) #[true, true, true, false, true, true, true, false, false, false, false, false, false, false, false, false, false, false, false, false, false, false, false, false, false, false, false] rfl rfl (any_of HT_.out (by kernel_rfl)) (fun _ _ _ h => h) (Or.inl ⟨by rfl, ?_⟩) ?_ ?_
      rotate_left
      · intro w'
        go_simp
        with_reducible rfl
      rotate_left
      · simp only [Act.put, List.setIfInBounds_toArray, List.set_cons_zero, List.set_cons_succ, i64_w, i32_w]
        rfl
      refine take_ (i := 3) (N := some 83) (v := ?_) (a' := ?_) #[true, true, true, true, true, true, true, false, false, false, false, false, false, false, false, false, false, false, false, false, false, false, false, false, false, false, false] rfl rfl (take_ofW HT_.out HW_.out (by kernel_rfl)) (fun _ _ _ h => h) (Or.inl ⟨by rfl, ?_⟩) hHeld ?_ ?_
      rotate_left
      · rintro w' ⟨s0, s1, s2, s3, s4, s5, s6, s7⟩
        go_simp
        with_reducible rfl
      rotate_left
      · simp only [Act.put, List.setIfInBounds_toArray, List.set_cons_zero, List.set_cons_succ, i64_w, i32_w]
        rfl
      refine take_ (i := 7) (N := some 87) (v := ?_) (a' := ?_) #[true, true, true, true, true, true, true, true, false, false, false, false, false, false, false, false, false, false, false, false, false, false, false, false, false, false, false] rfl rfl (take_ofW HT_.out HW_.out (by kernel_rfl)) (fun _ _ _ h => h) (Or.inl ⟨by rfl, ?_⟩) hHeld ?_ ?_
      rotate_left
      · rintro w' ⟨s0, s1, s2, s3, s4, s5, s6, s7⟩
        go_simp
        with_reducible rfl
      rotate_left
      · simp only [Act.put, List.setIfInBounds_toArray, List.set_cons_zero, List.set_cons_succ, i64_w, i32_w]
        rfl
      refine pure_ (i := 8) (N := some 88) (v := ?_) (a' := ?_) #[true, true, true, true, true, true, true, true, true, false, false, false, false, false, false, false, false, false, false, false, false, false, false, false, false, false, false] rfl rfl (any_of HT_.out (by kernel_rfl)) (fun _ _ _ h => h) (Or.inl ⟨by rfl, ?_⟩) ?_ ?_
      rotate_left
      · intro w'
        go_simp
        with_reducible rfl
      rotate_left
      · simp only [Act.put, List.setIfInBounds_toArray, List.set_cons_zero, List.set_cons_succ, i64_w, i32_w]
        rfl
      refine pure_ (i := 9) (N := some 89) (v := ?_) (a' := ?_) #[true, true, true, true, true, true, true, true, true, true, false, false, false, false, false, false, false, false, false, false, false, false, false, false, false, false, false] rfl rfl (any_of HT_.out (by kernel_rfl)) (fun _ _ _ h => h) (Or.inl ⟨by rfl, ?_⟩) ?_ ?_
      rotate_left
      · intro w'
        go_simp
        with_reducible rfl
      rotate_left
      · simp only [Act.put, List.setIfInBounds_toArray, List.set_cons_zero, List.set_cons_succ, i64_w, i32_w]
        rfl
      refine pure_ (i := 10) (N := some 90) (v := ?_) (a' := ?_) #[true, true, true, true, true, true, true, true, true, true, true, false, false, false, false, false, false, false, false, false, false, false, false, false, false, false, false] rfl rfl (any_of HT_.out (by kernel_rfl)) (fun _ _ _ h => h) (Or.inl ⟨by rfl, ?_⟩) ?_ ?_
      rotate_left
      · intro w'
        go_simp
        with_reducible rfl
      rotate_left
      · simp only [Act.put, List.setIfInBounds_toArray, List.set_cons_zero, List.set_cons_succ, i64_w, i32_w]
        rfl
      refine pure_ (i := 11) (N := some 91) (v := ?_) (a' := ?_) #[true, true, true, true, true, true, true, true, true, true, true, true, false, false, false, false, false, false, false, false, false, false, false, false, false, false, false] rfl rfl (any_of HT_.out (by kernel_rfl)) (fun _ _ _ h => h) (Or.inl ⟨by rfl, ?_⟩) ?_ ?_
      rotate_left
      · intro w'
        go_simp
        with_reducible rfl
      rotate_left
      · simp only [Act.put, List.setIfInBounds_toArray, List.set_cons_zero, List.set_cons_succ, i64_w, i32_w]
        rfl
      refine pure_ (i := 12) (N := some 92) (v := ?_) (a' := ?_) #[true, true, true, true, true, true, true, true, true, true, true, true, true, false, false, false, false, false, false, false, false, false, false, false, false, false, false] rfl rfl (any_of HT_.out (by kernel_rfl)) (fun _ _ _ h => h) (Or.inl ⟨by rfl, ?_⟩) ?_ ?_
      rotate_left
      · intro w'
        go_simp
        with_reducible rfl
      rotate_left
      · simp only [Act.put, List.setIfInBounds_toArray, List.set_cons_zero, List.set_cons_succ, i64_w, i32_w]
        rfl
      refine pure_ (i := 13) (N := some 93) (v := ?_) (a' := ?_) #[true, true, true, true, true, true, true, true, true, true, true, true, true, true, false, false, false, false, false, false, false, false, false, false, false, false, false] rfl rfl (any_of HT_.out (by kernel_rfl)) (fun _ _ _ h => h) (Or.inl ⟨by rfl, ?_⟩) ?_ ?_
      rotate_left
      · intro w'
        go_simp
        with_reducible rfl
      rotate_left
      · simp only [Act.put, List.setIfInBounds_toArray, List.set_cons_zero, List.set_cons_succ, i64_w, i32_w]
        rfl
      refine pure_ (i := 15) (N := some 95) (v := ?_) (a' := ?_) #[true, true, true, true, true, true, true, true, true, true, true, true, true, true, false, true, false, false, false, false, false, false, false, false, false, false, false] rfl rfl (any_of HT_.out (by kernel_rfl)) (fun _ _ _ h => h) (Or.inl ⟨by rfl, ?_⟩) ?_ ?_
      rotate_left
      · intro w'
        go_simp
        with_reducible rfl
      rotate_left
      · simp only [Act.put, List.setIfInBounds_toArray, List.set_cons_zero, List.set_cons_succ, i64_w, i32_w]
        rfl
      refine take_ (i := 14) (N := some 94) (v := ?_) (a' := ?_) #[true, true, true, true, true, true, true, true, true, true, true, true, true, true, true, true, false, false, false, false, false, false, false, false, false, false, false] rfl rfl (take_ofW HT_.out HW_.out (by kernel_rfl)) (fun _ _ _ h => h) (Or.inl ⟨by rfl, ?_⟩) hHeld ?_ ?_
      rotate_left
      · rintro w' ⟨s0, s1, s2, s3, s4, s5, s6, s7⟩
        go_simp
        with_reducible rfl
      rotate_left
      · simp only [Act.put, List.setIfInBounds_toArray, List.set_cons_zero, List.set_cons_succ, i64_w, i32_w]
        rfl
      refine pure_ (i := 16) (N := some 96) (v := ?_) (a' := ?_) #[true, true, true, true, true, true, true, true, true, true, true, true, true, true, true, true, true, false, false, false, false, false, false, false, false, false, false] rfl rfl (any_of HT_.out (by kernel_rfl)) (fun _ _ _ h => h) (Or.inl ⟨by rfl, ?_⟩) ?_ ?_
      rotate_left
      · intro w'
        go_simp
        with_reducible rfl
      rotate_left
      · simp only [Act.put, List.setIfInBounds_toArray, List.set_cons_zero, List.set_cons_succ, i64_w, i32_w]
        rfl
      refine pure_ (i := 17) (N := some 97) (v := ?_) (a' := ?_) #[true, true, true, true, true, true, true, true, true, true, true, true, true, true, true, true, true, true, false, false, false, false, false, false, false, false, false] rfl rfl (any_of HT_.out (by kernel_rfl)) (fun _ _ _ h => h) (Or.inl ⟨by rfl, ?_⟩) ?_ ?_
      rotate_left
      · intro w'
        go_simp
        with_reducible rfl
      rotate_left
      · simp only [Act.put, List.setIfInBounds_toArray, List.set_cons_zero, List.set_cons_succ, i64_w, i32_w]
        rfl
      refine pure_ (i := 18) (N := some 98) (v := ?_) (a' := ?_) #[true, true, true, true, true, true, true, true, true, true, true, true, true, true, true, true, true, true, true, false, false, false, false, false, false, false, false] rfl rfl (any_of HT_.out (by kernel_rfl)) (fun _ _ _ h => h) (Or.inl ⟨by rfl, ?_⟩) ?_ ?_
      rotate_left
      · intro w'
        go_simp
        with_reducible rfl
      rotate_left
      · simp only [Act.put, List.setIfInBounds_toArray, List.set_cons_zero, List.set_cons_succ, i64_w, i32_w]
        rfl
      refine pure_ (i := 19) (N := some 99) (v := ?_) (a' := ?_) #[true, true, true, true, true, true, true, true, true, true, true, true, true, true, true, true, true, true, true, true, false, false, false, false, false, false, false] rfl rfl (any_of HT_.out (by kernel_rfl)) (fun _ _ _ h => h) (Or.inl ⟨by rfl, ?_⟩) ?_ ?_
      rotate_left
      · intro w'
        go_simp
        with_reducible rfl
      rotate_left
      · simp only [Act.put, List.setIfInBounds_toArray, List.set_cons_zero, List.set_cons_succ, i64_w, i32_w]
        rfl
      refine pure_ (i := 20) (N := some 100) (v := ?_) (a' := ?_) #[true, true, true, true, true, true, true, true, true, true, true, true, true, true, true, true, true, true, true, true, true, false, false, false, false, false, false] rfl rfl (any_of HT_.out (by kernel_rfl)) (fun _ _ _ h => h) (Or.inl ⟨by rfl, ?_⟩) ?_ ?_
      rotate_left
      · intro w'
        go_simp
        with_reducible rfl
      rotate_left
      · simp only [Act.put, List.setIfInBounds_toArray, List.set_cons_zero, List.set_cons_succ, i64_w, i32_w]
        rfl
      refine pure_ (i := 21) (N := some 101) (v := ?_) (a' := ?_) #[true, true, true, true, true, true, true, true, true, true, true, true, true, true, true, true, true, true, true, true, true, true, false, false, false, false, false] rfl rfl (any_of HT_.out (by kernel_rfl)) (fun _ _ _ h => h) (Or.inl ⟨by rfl, ?_⟩) ?_ ?_
      rotate_left
      · intro w'
        go_simp
        with_reducible rfl
      rotate_left
      · simp only [Act.put, List.setIfInBounds_toArray, List.set_cons_zero, List.set_cons_succ, i64_w, i32_w]
        rfl
      refine pure_ (i := 22) (N := some 102) (v := ?_) (a' := ?_) #[true, true, true, true, true, true, true, true, true, true, true, true, true, true, true, true, true, true, true, true, true, true, true, false, false, false, false] rfl rfl (any_of HT_.out (by kernel_rfl)) (fun _ _ _ h => h) (Or.inl ⟨by rfl, ?_⟩) ?_ ?_
      rotate_left
      · intro w'
        go_simp
        with_reducible rfl
      rotate_left
      · simp only [Act.put, List.setIfInBounds_toArray, List.set_cons_zero, List.set_cons_succ, i64_w, i32_w]
        rfl
      refine pure_ (i := 23) (N := some 103) (v := ?_) (a' := ?_) #[true, true, true, true, true, true, true, true, true, true, true, true, true, true, true, true, true, true, true, true, true, true, true, true, false, false, false] rfl rfl (any_of HT_.out (by kernel_rfl)) (fun _ _ _ h => h) (Or.inl ⟨by rfl, ?_⟩) ?_ ?_
      rotate_left
      · intro w'
        go_simp
        with_reducible rfl
      rotate_left
      · simp only [Act.put, List.setIfInBounds_toArray, List.set_cons_zero, List.set_cons_succ, i64_w, i32_w]
        rfl
      refine pure_ (i := 24) (N := some 104) (v := ?_) (a' := ?_) #[true, true, true, true, true, true, true, true, true, true, true, true, true, true, true, true, true, true, true, true, true, true, true, true, true, false, false] rfl rfl (any_of HT_.out (by kernel_rfl)) (fun _ _ _ h => h) (Or.inl ⟨by rfl, ?_⟩) ?_ ?_
      rotate_left
      · intro w'
        go_simp
        with_reducible rfl
      rotate_left
      · simp only [Act.put, List.setIfInBounds_toArray, List.set_cons_zero, List.set_cons_succ, i64_w, i32_w]
        rfl
      refine pure_ (i := 25) (N := some 105) (v := ?_) (a' := ?_) #[true, true, true, true, true, true, true, true, true, true, true, true, true, true, true, true, true, true, true, true, true, true, true, true, true, true, false] rfl rfl (any_of HT_.out (by kernel_rfl)) (fun _ _ _ h => h) (Or.inl ⟨by rfl, ?_⟩) ?_ ?_
      rotate_left
      · intro w'
        go_simp
        with_reducible rfl
      rotate_left
      · simp only [Act.put, List.setIfInBounds_toArray, List.set_cons_zero, List.set_cons_succ, i64_w, i32_w]
        rfl
      refine pure_ (i := 26) (N := some 106) (v := ?_) (a' := ?_) #[true, true, true, true, true, true, true, true, true, true, true, true, true, true, true, true, true, true, true, true, true, true, true, true, true, true, true] rfl rfl (any_of HT_.out (by kernel_rfl)) (fun _ _ _ h => h) (Or.inl ⟨by rfl, ?_⟩) ?_ ?_
      rotate_left
      · intro w'
        go_simp
        with_reducible rfl
      rotate_left
      · simp only [Act.put, List.setIfInBounds_toArray, List.set_cons_zero, List.set_cons_succ, i64_w, i32_w]
        rfl
      refine done_ (done_of HT_.out (by kernel_rfl)) ?_
      clear HT_ HW_ hHeld
      go_wp2
      exact ⟨⟨i + 1, by rw [HBS.out], by go_num, by omega, HC_52, HU_52, Bq_52, HV_52, HM_52⟩, by simp [intOf]; omega⟩
    · have hi2 : i = L.length := by omega
      have fl1 : ((L.length : Int) == (ls.length : Int)) = true := by simp [HLEN.out]
      have fl2 : (L.length == ls.length) = true := by simp [HLEN.out]
      have d1 : w50.cell? ⟨w.heap.size + 1, 1, none⟩ = some (.slice A3 ls.length c3) := (blk_cell Bq_50.out 1).trans rfl
      clear hi2
      go_wp2_with (go_at_call 34; with_reducible refine (lives15_any w50).mono ?_; rintro x w51 ⟨rfl, q1⟩; have HU_51 := Aside0.mk (HU_50.out.then q1); clear q1)
      go_ret
      exact ⟨rfl, upd_below15 HBB.out HU_51.out HcbW.out HwB.out⟩
theorem plans_any {off cal re ba now : Int} {week closed : List S114} {ls : List S71} {A1 A2 A3 : Option Addr} {c1 c2 c3 : Nat} (w : World) (hk1 : Kd.C k114 w A1 week.length week ∧ week.length ≤ c1) (hk2 : Kd.C k114 w A2 closed.length closed ∧ closed.length ≤ c2) (hq : Kd.C k71 w A3 ls.length ls ∧ ls.length ≤ c3) : Calls Tryz.prog 5 #[.agg #[.int .i64 off, .slice A1 week.length c1, .slice A2 closed.length c2], .agg #[.int .i64 cal, .slice A3 ls.length c3, .int .i64 re, .int .i64 ba], .int .i64 now] w fun e w' => e = .returned (.bool true) ∧ Below w.heap.size w w' := by
  cases t0 : light15Q week closed ls with
  | false => exact pln_e0 w hk1 hk2 hq t0
  | true =>
    by_cases t1 : calErr off week closed = 0
    · obtain ⟨⟨L, e⟩, hp⟩ : ∃ p, planP off week closed cal ls re ba now = p := ⟨_, rfl⟩
      by_cases he : e = 0
      · subst he
        exact pln_main w hk1 hk2 hq t0 t1 hp
      · exact pln_err w hk1 hk2 hq t0 t1 hp he
    · exact pln_e1 w hk1 hk2 hq t0 t1
end Go.Proofs.YtepldlnmeenlbaaGreat.Own
namespace Go.Proofs.YtepldlnmeenlbaaGreat.Own
open Go.RowKit Go.Proofs Go.Proofs.YtepldlnmeenlbaaGreatW.PrintWords Go.Proofs.YtepldlnmeenlbaaGreatW.PrintLast Go.Proofs.YtepldlnmeenlbaaGreatW.PrintMore Go.Proofs.YtepldlnmeenlbaaGreat.Base
open Go.ChangeShapes Go.WideShapes Go.ChangeAt Go.Joins Go.Deep
theorem calCells : Tryz.prog.cellsOf 24 = 3 := by kernel_rfl
theorem ownKnob_none : ownKnob Tryz.prog.godebug = none := by kernel_rfl
theorem laidOut : laidOutB Tryz.prog = true := by kernel_rfl
def intOf : Value → Int
  | .int _ x => x
  | _ => 0
set_option maxRecDepth 100000 in
theorem spans_open {H : Type} {enc : TypeId × Value → H} {W : World} {spare : Nat → Bool} {held : Bool} {fuel : Nat} {v : Value} {x : DataW H × List MemPlace} (h : DataW.trod enc Tryz.prog W 0 spare held fuel 22 [v] = some x) :
    ∃ (A : Option Addr) (c : Nat) (l : List S114), v = .slice A l.length c ∧ l.length ≤ c ∧ Kd.C k114 W A l.length l := by
  rcases open_slice_pairs Tryz.underlying22 Tryz.underlying114 (by kernel_rfl) (by rfl) (by rfl) (by kernel_rfl) (by kernel_rfl) h with ⟨hcs, _⟩ | ⟨a, len, cap, m, n, V0, V1, D0, D1, P0, P1, hcs, _, hl, hm, hmm, _, hx⟩
  · injection hcs with hv
    exact ⟨none, 0, [], hv, Nat.le_refl _, ⟨rfl, by decide, fun h => absurd h (by simp)⟩⟩
  · injection hcs with hv
    have hlm : len ≤ m := by rw [hmm]; split <;> omega
    have hint : ∀ i, i < len → V0 i = .int .i64 (intOf (V0 i)) ∧ V1 i = .int .i64 (intOf (V1 i)) := fun i hi => by
      obtain ⟨_, _, t0, t1⟩ := hx i (by omega)
      obtain ⟨a0, e0, _, _⟩ := DataW.trod_int Tryz.underlying2 t0
      obtain ⟨a1, e1, _, _⟩ := DataW.trod_int Tryz.underlying2 t1
      simp at e0 e1
      rw [e0, e1]
      exact ⟨rfl, rfl⟩
    refine ⟨some a, cap, (List.range len).map fun i => ⟨intOf (V0 i), intOf (V1 i)⟩, by simpa using hv, by simpa using hl, ?_⟩
    refine ⟨rfl, by simp; unfold maxLen at hm; omega, fun _ => ⟨a, rfl, fun j p hp => ?_⟩⟩
    have hj : j < len := by
      rcases Nat.lt_or_ge j len with h | h
      · exact h
      · rw [List.getElem?_eq_none (by simpa using h)] at hp; cases hp
    rw [List.getElem?_map, List.getElem?_range hj] at hp
    injection hp with hp
    subst hp
    obtain ⟨c0, c1, _, _⟩ := hx j (by omega)
    refine ⟨[V0 j, V1 j], rfl, ?_, fun i u hu => ?_⟩
    · rw [(hint j hj).1, (hint j hj).2]
      exact k114_mk W ⟨intOf (V0 j), intOf (V1 j)⟩
    · match i, hu with
      | 0, hu => injection hu with hu; subst hu; exact c0
      | 1, hu => injection hu with hu; subst hu; exact c1
      | (n + 2), hu => cases hu
set_option maxRecDepth 100000 in
theorem cal_open {H : Type} {enc : TypeId × Value → H} {W : World} {spare : Nat → Bool} {held : Bool} {r : Reach} {b0 : Nat} {v : Value} {d : DataW H} {p : List MemPlace} (hv : Value.okWide Tryz.prog W r b0 24 v) (h : DataW.Trod enc Tryz.prog W 0 spare held 24 v d p) :
    ∃ (off : Int) (A1 A2 : Option Addr) (c1 c2 : Nat) (week closed : List S114), v = .agg #[.int .i64 off, .slice A1 week.length c1, .slice A2 closed.length c2] ∧ (Kd.C k114 W A1 week.length week ∧ week.length ≤ c1) ∧ (Kd.C k114 W A2 closed.length closed ∧ closed.length ≤ c2) := by
  obtain ⟨v0, v1, v2, y0, y1, y2, m, rfl, _, _, t0, t1, t2⟩ := open_agg3 Tryz.underlying24 (by kernel_rfl) calCells hv h
  obtain ⟨a0, e0, _, _⟩ := DataW.trod_int Tryz.underlying2 t0
  obtain ⟨A1, c1, week, rfl, hl1, hc1⟩ := spans_open t1
  obtain ⟨A2, c2, closed, rfl, hl2, hc2⟩ := spans_open t2
  simp at e0
  subst e0
  exact ⟨a0, A1, A2, c1, c2, week, closed, rfl, ⟨hc1, hl1⟩, ⟨hc2, hl2⟩⟩
end Go.Proofs.YtepldlnmeenlbaaGreat.Own
namespace Go.Proofs.YtepldlnmeenlbaaGreat.Own
open Go.RowKit Go.Proofs Go.Proofs.YtepldlnmeenlbaaGreatW.PrintWords Go.Proofs.YtepldlnmeenlbaaGreatW.PrintLast Go.Proofs.YtepldlnmeenlbaaGreatW.PrintMore Go.Proofs.YtepldlnmeenlbaaGreat.Base
open Go.ChangeShapes Go.WideShapes Go.ChangeAt Go.Joins Go.Deep
theorem conCells : Tryz.prog.cellsOf 48 = 4 := by kernel_rfl
set_option maxRecDepth 100000 in
theorem levels_open {H : Type} {enc : TypeId × Value → H} {W : World} {spare : Nat → Bool} {held : Bool} {fuel : Nat} {v : Value} {x : DataW H × List MemPlace} (h : DataW.trod enc Tryz.prog W 0 spare held fuel 46 [v] = some x) :
    ∃ (A : Option Addr) (c : Nat) (l : List S71), v = .slice A l.length c ∧ l.length ≤ c ∧ (Kd.C k71 W A l.length l) ∧ ∀ y, y ∈ l → (Lit.int .i64 y.f0).wf = true ∧ (Lit.int .i64 y.f1).wf = true := by
  rcases open_slice_pairs Tryz.underlying46 Tryz.underlying71 (by kernel_rfl) (by rfl) (by rfl) (by kernel_rfl) (by kernel_rfl) h with ⟨hcs, _⟩ | ⟨a, len, cap, m, n, V0, V1, D0, D1, P0, P1, hcs, _, hl, hm, hmm, _, hx⟩
  · injection hcs with hv
    exact ⟨none, 0, [], hv, Nat.le_refl _, ⟨rfl, by decide, fun h => absurd h (by simp)⟩, fun y hy => by cases hy⟩
  · injection hcs with hv
    have hlm : len ≤ m := by rw [hmm]; split <;> omega
    have hint : ∀ i, i < len → V0 i = .int .i64 (intOf (V0 i)) ∧ V1 i = .int .i64 (intOf (V1 i)) ∧ (Lit.int .i64 (intOf (V0 i))).wf = true ∧ (Lit.int .i64 (intOf (V1 i))).wf = true := fun i hi => by
      obtain ⟨_, _, t0, t1⟩ := hx i (by omega)
      obtain ⟨a0, e0, _, w0⟩ := DataW.trod_int Tryz.underlying2 t0
      obtain ⟨a1, e1, _, w1⟩ := DataW.trod_int Tryz.underlying3 t1
      simp at e0 e1
      rw [e0, e1]
      exact ⟨rfl, rfl, w0, w1⟩
    refine ⟨some a, cap, (List.range len).map fun i => ⟨intOf (V0 i), intOf (V1 i)⟩, by simpa using hv, by simpa using hl, ⟨rfl, by simp; unfold maxLen at hm; omega, fun _ => ⟨a, rfl, fun j p hp => ?_⟩⟩, fun y hy => ?_⟩
    · have hj : j < len := by
        rcases Nat.lt_or_ge j len with h | h
        · exact h
        · rw [List.getElem?_eq_none (by simpa using h)] at hp; cases hp
      rw [List.getElem?_map, List.getElem?_range hj] at hp
      injection hp with hp
      subst hp
      obtain ⟨c0, c1, _, _⟩ := hx j (by omega)
      refine ⟨[V0 j, V1 j], rfl, ?_, fun i u hu => ?_⟩
      · rw [(hint j hj).1, (hint j hj).2.1]
        exact k71_mk W ⟨intOf (V0 j), intOf (V1 j)⟩
      · match i, hu with
        | 0, hu => injection hu with hu; subst hu; exact c0
        | 1, hu => injection hu with hu; subst hu; exact c1
        | (n + 2), hu => cases hu
    · obtain ⟨i, hi, rfl⟩ := List.mem_map.1 hy
      have := hint i (List.mem_range.1 hi)
      exact ⟨this.2.2.1, this.2.2.2⟩
set_option maxRecDepth 100000 in
theorem con_open {H : Type} {enc : TypeId × Value → H} {W : World} {spare : Nat → Bool} {held : Bool} {r : Reach} {b0 : Nat} {v : Value} {d : DataW H} {p : List MemPlace} (hv : Value.okWide Tryz.prog W r b0 48 v) (h : DataW.Trod enc Tryz.prog W 0 spare held 48 v d p) :
    ∃ (cal re ba : Int) (A : Option Addr) (c : Nat) (ls : List S71), v = .agg #[.int .i64 cal, .slice A ls.length c, .int .i64 re, .int .i64 ba] ∧ (Kd.C k71 W A ls.length ls ∧ ls.length ≤ c) ∧ ((Lit.int .i64 cal).wf = true ∧ (Lit.int .i64 re).wf = true ∧ (Lit.int .i64 ba).wf = true ∧ ∀ y, y ∈ ls → (Lit.int .i64 y.f0).wf = true ∧ (Lit.int .i64 y.f1).wf = true) := by
  obtain ⟨v0, v1, v2, v3, y0, y1, y2, y3, m, rfl, _, _, t0, t1, t2, t3⟩ := open_agg4 Tryz.underlying48 (by kernel_rfl) conCells hv h
  obtain ⟨a0, e0, _, w0⟩ := DataW.trod_int Tryz.underlying3 t0
  obtain ⟨A1, c1, ls, rfl, hl1, hc1, hw⟩ := levels_open t1
  obtain ⟨a2, e2, _, w2⟩ := DataW.trod_int Tryz.underlying3 t2
  obtain ⟨a3, e3, _, w3⟩ := DataW.trod_int Tryz.underlying2 t3
  simp at e0 e2 e3
  subst e0 e2 e3
  exact ⟨a0, a2, a3, A1, c1, ls, rfl, ⟨hc1, hl1⟩, w0, w2, w3, hw⟩
end Go.Proofs.YtepldlnmeenlbaaGreat.Own
