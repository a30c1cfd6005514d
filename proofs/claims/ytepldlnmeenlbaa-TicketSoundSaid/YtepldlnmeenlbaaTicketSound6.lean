/- TicketSound, part 6: what the claim needs of Tk, SndP, AhR, SndO, Lives16, Rd5, Wr4, Ref0, CalR. -/
import Derived.Test.YtepldlnmeenlbaaTicketSound5
import Derived.Test.YtepldlnmeenlbaaProg
import Derived.Below
import Derived.Deep.Draws
import Derived.Deep.AppendLies
import Derived.Maps.AppendAt
import Derived.OwnWalk
import Derived.Laws.BytesArg
import Derived.Laws.MakeOwn
import Derived.Laws.OwnMore
import Derived.Deep.OwnRows
import Derived.Tactics
import Derived.Lib.ConvBytes
import Derived.Laws.Slices
import Derived.WalkKit
import Derived.KernelRfl
import Derived.RowKit3
import Derived.Deep.LoopGhost
import Derived.Deep.QuietTactic
import Derived.BigQuiet
import Derived.WideLaws
import Derived.Deep.DeepCutAuto
import Derived.Deep.CutBlock
import Derived.Deep.RegionHeld3
import Derived.Laws.Rows
import Derived.Lib.AppendStr
import Derived.ArgAppend
import Derived.Laws.IdiomCopy
import Derived.OrdersHeld
import Derived.Laws.BitsLemmas
import Derived.RowKit
import Derived.Laws.StructEq
import Derived.Tactics2
import Derived.Defers
import Derived.Laws.Pointers
import Derived.Laws.LoneSync
import Derived.Laws.NewBlocks
import Derived.RegionTactic
import Derived.RegionCalls
import Derived.ChangeAlike
import Derived.StillTailTactics
import Derived.Outline
import Derived.Handy
import Derived.SizedLaws
import Derived.ChangeSlices
import Derived.Laws.EntriesVeiled
import Derived.WalkSpells
import Derived.RangeFuncNested
import Derived.RangeFuncBound
import Derived.RangeFuncCalls
import Derived.RangeFuncLeaves
import Derived.Shelf.Abstract
import Derived.Shelf.RegionOpen
import Derived.OwnWalkIn
import Derived.TacticsInMore
import Derived.LoopNIn
import Derived.LoopIn
import Derived.OrdersIn
set_option linter.unusedVariables false
set_option linter.unusedSimpArgs false
namespace Go.Proofs.Ytepldlnmeenlbaa.Own
open Go.RowKit Go.Proofs Go.Proofs.YtepldlnmeenlbaaW.PrintWords Go.Proofs.YtepldlnmeenlbaaW.PrintLast Go.Proofs.YtepldlnmeenlbaaW.PrintMore Go.Proofs.Ytepldlnmeenlbaa.Base
structure Tk where
  id : Int
  co : Int
  st : Int
  lv : Int
  gn : Int
  fr : Int
  lf : Int
  du : Int
  tl : Int
structure TkOk (t : Tk) : Prop where
  id : 0 ≤ t.id ∧ t.id < 18446744073709551616
  co : -9223372036854775808 ≤ t.co ∧ t.co ≤ 9223372036854775807
  st : -9223372036854775808 ≤ t.st ∧ t.st ≤ 9223372036854775807
  lv : -9223372036854775808 ≤ t.lv ∧ t.lv ≤ 9223372036854775807
  gn : 0 ≤ t.gn ∧ t.gn < 18446744073709551616
  fr : -9223372036854775808 ≤ t.fr ∧ t.fr ≤ 9223372036854775807
  lf : -9223372036854775808 ≤ t.lf ∧ t.lf ≤ 9223372036854775807
  du : -9223372036854775808 ≤ t.du ∧ t.du ≤ 9223372036854775807
  tl : -9223372036854775808 ≤ t.tl ∧ t.tl ≤ 9223372036854775807
def tkS (t : Tk) : Prop :=
  (0 ≤ t.co ∧ t.co ≤ 15 ∧ 0 ≤ t.lv ∧ t.lv ≤ 5 ∧ 0 ≤ t.tl ∧ t.tl ≤ 2147483648 ∧ t.gn ≤ 1152921504606846976) ∧
  (t.st = 1 ∧ t.gn ≠ 0 ∧ 1 ≤ t.lf ∧ 0 ≤ t.fr ∧ t.du ≤ 1125899906842624 ∧ t.fr ≤ t.du ∧ t.lf ≤ t.du - t.fr ∨
   t.st = 2 ∧ t.gn = 0 ∧ t.du = 0 ∧ 1 ≤ t.lf ∧ t.lf ≤ 1125899906842624 ∧ 0 ≤ t.fr ∧ t.fr ≤ 1125899906842624 ∨
   (t.st = 3 ∨ t.st = 4) ∧ t.gn = 0 ∧ t.fr = 0 ∧ t.lf = 0 ∧ t.du = 0)
instance instTk (t : Tk) : Decidable (tkS t) := by unfold tkS; exact inferInstance
def tkB (t : Tk) : Bool := decide (tkS t)
theorem tk_yes {t : Tk} (h : tkS t) : tkB t = true := decide_eq_true h
theorem tk_no {t : Tk} (h : ¬ tkS t) : tkB t = false := decide_eq_false h
set_option maxHeartbeats 4000000 in
set_option maxRecDepth 100000 in
theorem tksound_1 {id co st lv gn fr lf du tl : Int} (w : World) (h : TkOk ⟨id, co, st, lv, gn, fr, lf, du, tl⟩) (x0 : co < 0) : Calls Try.prog 9 #[.agg #[.int .u64 id, .int .i64 co, .int .i64 st, .int .i64 lv, .int .u64 gn, .int .i64 fr, .int .i64 lf, .int .i64 du, .int .i64 tl]] w fun e w' => e = .returned (.bool (tkB ⟨id, co, st, lv, gn, fr, lf, du, tl⟩)) ∧ Below w.heap.size w w' := by
  obtain ⟨⟨i0, i1⟩, ⟨a0, a1⟩, ⟨b0, b1⟩, ⟨c0, c1⟩, ⟨d0, d1⟩, ⟨e0, e1⟩, ⟨f0, f1⟩, ⟨g0, g1⟩, ⟨h0, h1⟩⟩ := h
  simp only at i0 i1 a0 a1 b0 b1 c0 c1 d0 d1 e0 e1 f0 f1 g0 g1 h0 h1
  have HF := Aside0.mk (tk_no (t := ⟨id, co, st, lv, gn, fr, lf, du, tl⟩) (by unfold tkS; simp only; omega))
  generalize tkB _ = R at HF ⊢
  have y0 : decide (co < 0) = true := decide_eq_true x0
  have u0 : decide (0 ≤ co) = false := decide_eq_false (by omega)
  go_enter Try.func9, Try.ntmps9
  go_wp2
  go_ret
  exact ⟨by rw [HF.out]; rfl, by repeat (first | exact below_alloc (Below.refl _ _) _ | refine below_set ?_ (Nat.le_refl _))⟩
set_option maxHeartbeats 4000000 in
set_option maxRecDepth 100000 in
theorem tksound_2 {id co st lv gn fr lf du tl : Int} (w : World) (h : TkOk ⟨id, co, st, lv, gn, fr, lf, du, tl⟩) (x0 : ¬ (co < 0)) (x1 : 16 ≤ co) : Calls Try.prog 9 #[.agg #[.int .u64 id, .int .i64 co, .int .i64 st, .int .i64 lv, .int .u64 gn, .int .i64 fr, .int .i64 lf, .int .i64 du, .int .i64 tl]] w fun e w' => e = .returned (.bool (tkB ⟨id, co, st, lv, gn, fr, lf, du, tl⟩)) ∧ Below w.heap.size w w' := by
  obtain ⟨⟨i0, i1⟩, ⟨a0, a1⟩, ⟨b0, b1⟩, ⟨c0, c1⟩, ⟨d0, d1⟩, ⟨e0, e1⟩, ⟨f0, f1⟩, ⟨g0, g1⟩, ⟨h0, h1⟩⟩ := h
  simp only at i0 i1 a0 a1 b0 b1 c0 c1 d0 d1 e0 e1 f0 f1 g0 g1 h0 h1
  have HF := Aside0.mk (tk_no (t := ⟨id, co, st, lv, gn, fr, lf, du, tl⟩) (by unfold tkS; simp only; omega))
  generalize tkB _ = R at HF ⊢
  have y0 : decide (co < 0) = false := decide_eq_false x0
  have u0 : decide (0 ≤ co) = true := decide_eq_true (by omega)
  have y1 : decide (16 ≤ co) = true := decide_eq_true x1
  go_enter Try.func9, Try.ntmps9
  go_wp2
  go_ret
  exact ⟨by rw [HF.out]; rfl, by repeat (first | exact below_alloc (Below.refl _ _) _ | refine below_set ?_ (Nat.le_refl _))⟩
set_option maxHeartbeats 4000000 in
set_option maxRecDepth 100000 in
theorem tksound_3 {id co st lv gn fr lf du tl : Int} (w : World) (h : TkOk ⟨id, co, st, lv, gn, fr, lf, du, tl⟩) (x0 : ¬ (co < 0)) (x1 : ¬ (16 ≤ co)) (x2 : lv < 0) : Calls Try.prog 9 #[.agg #[.int .u64 id, .int .i64 co, .int .i64 st, .int .i64 lv, .int .u64 gn, .int .i64 fr, .int .i64 lf, .int .i64 du, .int .i64 tl]] w fun e w' => e = .returned (.bool (tkB ⟨id, co, st, lv, gn, fr, lf, du, tl⟩)) ∧ Below w.heap.size w w' := by
  obtain ⟨⟨i0, i1⟩, ⟨a0, a1⟩, ⟨b0, b1⟩, ⟨c0, c1⟩, ⟨d0, d1⟩, ⟨e0, e1⟩, ⟨f0, f1⟩, ⟨g0, g1⟩, ⟨h0, h1⟩⟩ := h
  simp only at i0 i1 a0 a1 b0 b1 c0 c1 d0 d1 e0 e1 f0 f1 g0 g1 h0 h1
  have HF := Aside0.mk (tk_no (t := ⟨id, co, st, lv, gn, fr, lf, du, tl⟩) (by unfold tkS; simp only; omega))
  generalize tkB _ = R at HF ⊢
  have y0 : decide (co < 0) = false := decide_eq_false x0
  have u0 : decide (0 ≤ co) = true := decide_eq_true (by omega)
  have y1 : decide (16 ≤ co) = false := decide_eq_false x1
  have y2 : decide (lv < 0) = true := decide_eq_true x2
  have u2 : decide (0 ≤ lv) = false := decide_eq_false (by omega)
  go_enter Try.func9, Try.ntmps9
  go_wp2
  go_ret
  exact ⟨by rw [HF.out]; rfl, by repeat (first | exact below_alloc (Below.refl _ _) _ | refine below_set ?_ (Nat.le_refl _))⟩
set_option maxHeartbeats 4000000 in
set_option maxRecDepth 100000 in
theorem tksound_4 {id co st lv gn fr lf du tl : Int} (w : World) (h : TkOk ⟨id, co, st, lv, gn, fr, lf, du, tl⟩) (x0 : ¬ (co < 0)) (x1 : ¬ (16 ≤ co)) (x2 : ¬ (lv < 0)) (x3 : 6 ≤ lv) : Calls Try.prog 9 #[.agg #[.int .u64 id, .int .i64 co, .int .i64 st, .int .i64 lv, .int .u64 gn, .int .i64 fr, .int .i64 lf, .int .i64 du, .int .i64 tl]] w fun e w' => e = .returned (.bool (tkB ⟨id, co, st, lv, gn, fr, lf, du, tl⟩)) ∧ Below w.heap.size w w' := by
  obtain ⟨⟨i0, i1⟩, ⟨a0, a1⟩, ⟨b0, b1⟩, ⟨c0, c1⟩, ⟨d0, d1⟩, ⟨e0, e1⟩, ⟨f0, f1⟩, ⟨g0, g1⟩, ⟨h0, h1⟩⟩ := h
  simp only at i0 i1 a0 a1 b0 b1 c0 c1 d0 d1 e0 e1 f0 f1 g0 g1 h0 h1
  have HF := Aside0.mk (tk_no (t := ⟨id, co, st, lv, gn, fr, lf, du, tl⟩) (by unfold tkS; simp only; omega))
  generalize tkB _ = R at HF ⊢
  have y0 : decide (co < 0) = false := decide_eq_false x0
  have u0 : decide (0 ≤ co) = true := decide_eq_true (by omega)
  have y1 : decide (16 ≤ co) = false := decide_eq_false x1
  have y2 : decide (lv < 0) = false := decide_eq_false x2
  have u2 : decide (0 ≤ lv) = true := decide_eq_true (by omega)
  have y3 : decide (6 ≤ lv) = true := decide_eq_true x3
  go_enter Try.func9, Try.ntmps9
  go_wp2
  go_ret
  exact ⟨by rw [HF.out]; rfl, by repeat (first | exact below_alloc (Below.refl _ _) _ | refine below_set ?_ (Nat.le_refl _))⟩
set_option maxHeartbeats 4000000 in
set_option maxRecDepth 100000 in
theorem tksound_5 {id co st lv gn fr lf du tl : Int} (w : World) (h : TkOk ⟨id, co, st, lv, gn, fr, lf, du, tl⟩) (x0 : ¬ (co < 0)) (x1 : ¬ (16 ≤ co)) (x2 : ¬ (lv < 0)) (x3 : ¬ (6 ≤ lv)) (x4 : tl < 0) : Calls Try.prog 9 #[.agg #[.int .u64 id, .int .i64 co, .int .i64 st, .int .i64 lv, .int .u64 gn, .int .i64 fr, .int .i64 lf, .int .i64 du, .int .i64 tl]] w fun e w' => e = .returned (.bool (tkB ⟨id, co, st, lv, gn, fr, lf, du, tl⟩)) ∧ Below w.heap.size w w' := by
  obtain ⟨⟨i0, i1⟩, ⟨a0, a1⟩, ⟨b0, b1⟩, ⟨c0, c1⟩, ⟨d0, d1⟩, ⟨e0, e1⟩, ⟨f0, f1⟩, ⟨g0, g1⟩, ⟨h0, h1⟩⟩ := h
  simp only at i0 i1 a0 a1 b0 b1 c0 c1 d0 d1 e0 e1 f0 f1 g0 g1 h0 h1
  have HF := Aside0.mk (tk_no (t := ⟨id, co, st, lv, gn, fr, lf, du, tl⟩) (by unfold tkS; simp only; omega))
  generalize tkB _ = R at HF ⊢
  have y0 : decide (co < 0) = false := decide_eq_false x0
  have u0 : decide (0 ≤ co) = true := decide_eq_true (by omega)
  have y1 : decide (16 ≤ co) = false := decide_eq_false x1
  have y2 : decide (lv < 0) = false := decide_eq_false x2
  have u2 : decide (0 ≤ lv) = true := decide_eq_true (by omega)
  have y3 : decide (6 ≤ lv) = false := decide_eq_false x3
  have y4 : decide (tl < 0) = true := decide_eq_true x4
  have u4 : decide (0 ≤ tl) = false := decide_eq_false (by omega)
  go_enter Try.func9, Try.ntmps9
  go_wp2
  go_ret
  exact ⟨by rw [HF.out]; rfl, by repeat (first | exact below_alloc (Below.refl _ _) _ | refine below_set ?_ (Nat.le_refl _))⟩
set_option maxHeartbeats 4000000 in
set_option maxRecDepth 100000 in
theorem tksound_6 {id co st lv gn fr lf du tl : Int} (w : World) (h : TkOk ⟨id, co, st, lv, gn, fr, lf, du, tl⟩) (x0 : ¬ (co < 0)) (x1 : ¬ (16 ≤ co)) (x2 : ¬ (lv < 0)) (x3 : ¬ (6 ≤ lv)) (x4 : ¬ (tl < 0)) (x5 : 2147483648 < tl) : Calls Try.prog 9 #[.agg #[.int .u64 id, .int .i64 co, .int .i64 st, .int .i64 lv, .int .u64 gn, .int .i64 fr, .int .i64 lf, .int .i64 du, .int .i64 tl]] w fun e w' => e = .returned (.bool (tkB ⟨id, co, st, lv, gn, fr, lf, du, tl⟩)) ∧ Below w.heap.size w w' := by
  obtain ⟨⟨i0, i1⟩, ⟨a0, a1⟩, ⟨b0, b1⟩, ⟨c0, c1⟩, ⟨d0, d1⟩, ⟨e0, e1⟩, ⟨f0, f1⟩, ⟨g0, g1⟩, ⟨h0, h1⟩⟩ := h
  simp only at i0 i1 a0 a1 b0 b1 c0 c1 d0 d1 e0 e1 f0 f1 g0 g1 h0 h1
  have HF := Aside0.mk (tk_no (t := ⟨id, co, st, lv, gn, fr, lf, du, tl⟩) (by unfold tkS; simp only; omega))
  generalize tkB _ = R at HF ⊢
  have y0 : decide (co < 0) = false := decide_eq_false x0
  have u0 : decide (0 ≤ co) = true := decide_eq_true (by omega)
  have y1 : decide (16 ≤ co) = false := decide_eq_false x1
  have y2 : decide (lv < 0) = false := decide_eq_false x2
  have u2 : decide (0 ≤ lv) = true := decide_eq_true (by omega)
  have y3 : decide (6 ≤ lv) = false := decide_eq_false x3
  have y4 : decide (tl < 0) = false := decide_eq_false x4
  have u4 : decide (0 ≤ tl) = true := decide_eq_true (by omega)
  have y5 : decide (2147483648 < tl) = true := decide_eq_true x5
  have u5 : decide (tl ≤ 2147483648) = false := decide_eq_false (by omega)
  go_enter Try.func9, Try.ntmps9
  go_wp2
  go_ret
  exact ⟨by rw [HF.out]; rfl, by repeat (first | exact below_alloc (Below.refl _ _) _ | refine below_set ?_ (Nat.le_refl _))⟩
set_option maxHeartbeats 4000000 in
set_option maxRecDepth 100000 in
theorem tksound_7 {id co st lv gn fr lf du tl : Int} (w : World) (h : TkOk ⟨id, co, st, lv, gn, fr, lf, du, tl⟩) (x0 : ¬ (co < 0)) (x1 : ¬ (16 ≤ co)) (x2 : ¬ (lv < 0)) (x3 : ¬ (6 ≤ lv)) (x4 : ¬ (tl < 0)) (x5 : ¬ (2147483648 < tl)) (x6 : 1152921504606846976 < gn) : Calls Try.prog 9 #[.agg #[.int .u64 id, .int .i64 co, .int .i64 st, .int .i64 lv, .int .u64 gn, .int .i64 fr, .int .i64 lf, .int .i64 du, .int .i64 tl]] w fun e w' => e = .returned (.bool (tkB ⟨id, co, st, lv, gn, fr, lf, du, tl⟩)) ∧ Below w.heap.size w w' := by
  obtain ⟨⟨i0, i1⟩, ⟨a0, a1⟩, ⟨b0, b1⟩, ⟨c0, c1⟩, ⟨d0, d1⟩, ⟨e0, e1⟩, ⟨f0, f1⟩, ⟨g0, g1⟩, ⟨h0, h1⟩⟩ := h
  simp only at i0 i1 a0 a1 b0 b1 c0 c1 d0 d1 e0 e1 f0 f1 g0 g1 h0 h1
  have HF := Aside0.mk (tk_no (t := ⟨id, co, st, lv, gn, fr, lf, du, tl⟩) (by unfold tkS; simp only; omega))
  generalize tkB _ = R at HF ⊢
  have y0 : decide (co < 0) = false := decide_eq_false x0
  have u0 : decide (0 ≤ co) = true := decide_eq_true (by omega)
  have y1 : decide (16 ≤ co) = false := decide_eq_false x1
  have y2 : decide (lv < 0) = false := decide_eq_false x2
  have u2 : decide (0 ≤ lv) = true := decide_eq_true (by omega)
  have y3 : decide (6 ≤ lv) = false := decide_eq_false x3
  have y4 : decide (tl < 0) = false := decide_eq_false x4
  have u4 : decide (0 ≤ tl) = true := decide_eq_true (by omega)
  have y5 : decide (2147483648 < tl) = false := decide_eq_false x5
  have u5 : decide (tl ≤ 2147483648) = true := decide_eq_true (by omega)
  have y6 : decide (1152921504606846976 < gn) = true := decide_eq_true x6
  have u6 : decide (gn ≤ 1152921504606846976) = false := decide_eq_false (by omega)
  go_enter Try.func9, Try.ntmps9
  go_wp2
  go_ret
  exact ⟨by rw [HF.out]; rfl, by repeat (first | exact below_alloc (Below.refl _ _) _ | refine below_set ?_ (Nat.le_refl _))⟩
set_option maxHeartbeats 4000000 in
set_option maxRecDepth 100000 in
theorem tksound_8 {id co st lv gn fr lf du tl : Int} (w : World) (h : TkOk ⟨id, co, st, lv, gn, fr, lf, du, tl⟩) (x0 : ¬ (co < 0)) (x1 : ¬ (16 ≤ co)) (x2 : ¬ (lv < 0)) (x3 : ¬ (6 ≤ lv)) (x4 : ¬ (tl < 0)) (x5 : ¬ (2147483648 < tl)) (x6 : ¬ (1152921504606846976 < gn)) (x7 : st = 1) (x8 : gn = 0) : Calls Try.prog 9 #[.agg #[.int .u64 id, .int .i64 co, .int .i64 st, .int .i64 lv, .int .u64 gn, .int .i64 fr, .int .i64 lf, .int .i64 du, .int .i64 tl]] w fun e w' => e = .returned (.bool (tkB ⟨id, co, st, lv, gn, fr, lf, du, tl⟩)) ∧ Below w.heap.size w w' := by
  obtain ⟨⟨i0, i1⟩, ⟨a0, a1⟩, ⟨b0, b1⟩, ⟨c0, c1⟩, ⟨d0, d1⟩, ⟨e0, e1⟩, ⟨f0, f1⟩, ⟨g0, g1⟩, ⟨h0, h1⟩⟩ := h
  simp only at i0 i1 a0 a1 b0 b1 c0 c1 d0 d1 e0 e1 f0 f1 g0 g1 h0 h1
  have HF := Aside0.mk (tk_no (t := ⟨id, co, st, lv, gn, fr, lf, du, tl⟩) (by unfold tkS; simp only; omega))
  generalize tkB _ = R at HF ⊢
  have y0 : decide (co < 0) = false := decide_eq_false x0
  have u0 : decide (0 ≤ co) = true := decide_eq_true (by omega)
  have y1 : decide (16 ≤ co) = false := decide_eq_false x1
  have y2 : decide (lv < 0) = false := decide_eq_false x2
  have u2 : decide (0 ≤ lv) = true := decide_eq_true (by omega)
  have y3 : decide (6 ≤ lv) = false := decide_eq_false x3
  have y4 : decide (tl < 0) = false := decide_eq_false x4
  have u4 : decide (0 ≤ tl) = true := decide_eq_true (by omega)
  have y5 : decide (2147483648 < tl) = false := decide_eq_false x5
  have u5 : decide (tl ≤ 2147483648) = true := decide_eq_true (by omega)
  have y6 : decide (1152921504606846976 < gn) = false := decide_eq_false x6
  have u6 : decide (gn ≤ 1152921504606846976) = true := decide_eq_true (by omega)
  have y7 : (st == 1) = true := by simpa using x7
  have z7 : (st != 1) = false := by simpa using x7
  have y8 : (gn == 0) = true := by simpa using x8
  have z8 : (gn != 0) = false := by simpa using x8
  go_enter Try.func9, Try.ntmps9
  go_wp2
  go_ret
  exact ⟨by rw [HF.out]; rfl, by repeat (first | exact below_alloc (Below.refl _ _) _ | refine below_set ?_ (Nat.le_refl _))⟩
set_option maxHeartbeats 4000000 in
set_option maxRecDepth 100000 in
theorem tksound_9 {id co st lv gn fr lf du tl : Int} (w : World) (h : TkOk ⟨id, co, st, lv, gn, fr, lf, du, tl⟩) (x0 : ¬ (co < 0)) (x1 : ¬ (16 ≤ co)) (x2 : ¬ (lv < 0)) (x3 : ¬ (6 ≤ lv)) (x4 : ¬ (tl < 0)) (x5 : ¬ (2147483648 < tl)) (x6 : ¬ (1152921504606846976 < gn)) (x7 : st = 1) (x8 : ¬ (gn = 0)) (x9 : fr < 0) : Calls Try.prog 9 #[.agg #[.int .u64 id, .int .i64 co, .int .i64 st, .int .i64 lv, .int .u64 gn, .int .i64 fr, .int .i64 lf, .int .i64 du, .int .i64 tl]] w fun e w' => e = .returned (.bool (tkB ⟨id, co, st, lv, gn, fr, lf, du, tl⟩)) ∧ Below w.heap.size w w' := by
  obtain ⟨⟨i0, i1⟩, ⟨a0, a1⟩, ⟨b0, b1⟩, ⟨c0, c1⟩, ⟨d0, d1⟩, ⟨e0, e1⟩, ⟨f0, f1⟩, ⟨g0, g1⟩, ⟨h0, h1⟩⟩ := h
  simp only at i0 i1 a0 a1 b0 b1 c0 c1 d0 d1 e0 e1 f0 f1 g0 g1 h0 h1
  have HF := Aside0.mk (tk_no (t := ⟨id, co, st, lv, gn, fr, lf, du, tl⟩) (by unfold tkS; simp only; omega))
  generalize tkB _ = R at HF ⊢
  have y0 : decide (co < 0) = false := decide_eq_false x0
  have u0 : decide (0 ≤ co) = true := decide_eq_true (by omega)
  have y1 : decide (16 ≤ co) = false := decide_eq_false x1
  have y2 : decide (lv < 0) = false := decide_eq_false x2
  have u2 : decide (0 ≤ lv) = true := decide_eq_true (by omega)
  have y3 : decide (6 ≤ lv) = false := decide_eq_false x3
  have y4 : decide (tl < 0) = false := decide_eq_false x4
  have u4 : decide (0 ≤ tl) = true := decide_eq_true (by omega)
  have y5 : decide (2147483648 < tl) = false := decide_eq_false x5
  have u5 : decide (tl ≤ 2147483648) = true := decide_eq_true (by omega)
  have y6 : decide (1152921504606846976 < gn) = false := decide_eq_false x6
  have u6 : decide (gn ≤ 1152921504606846976) = true := decide_eq_true (by omega)
  have y7 : (st == 1) = true := by simpa using x7
  have z7 : (st != 1) = false := by simpa using x7
  have y8 : (gn == 0) = false := by simpa using x8
  have z8 : (gn != 0) = true := by simpa using x8
  have y9 : decide (fr < 0) = true := decide_eq_true x9
  have u9 : decide (0 ≤ fr) = false := decide_eq_false (by omega)
  go_enter Try.func9, Try.ntmps9
  go_wp2
  go_ret
  exact ⟨by rw [HF.out]; rfl, by repeat (first | exact below_alloc (Below.refl _ _) _ | refine below_set ?_ (Nat.le_refl _))⟩
set_option maxHeartbeats 4000000 in
set_option maxRecDepth 100000 in
theorem tksound_10 {id co st lv gn fr lf du tl : Int} (w : World) (h : TkOk ⟨id, co, st, lv, gn, fr, lf, du, tl⟩) (x0 : ¬ (co < 0)) (x1 : ¬ (16 ≤ co)) (x2 : ¬ (lv < 0)) (x3 : ¬ (6 ≤ lv)) (x4 : ¬ (tl < 0)) (x5 : ¬ (2147483648 < tl)) (x6 : ¬ (1152921504606846976 < gn)) (x7 : st = 1) (x8 : ¬ (gn = 0)) (x9 : ¬ (fr < 0)) (x10 : 1125899906842624 < fr) : Calls Try.prog 9 #[.agg #[.int .u64 id, .int .i64 co, .int .i64 st, .int .i64 lv, .int .u64 gn, .int .i64 fr, .int .i64 lf, .int .i64 du, .int .i64 tl]] w fun e w' => e = .returned (.bool (tkB ⟨id, co, st, lv, gn, fr, lf, du, tl⟩)) ∧ Below w.heap.size w w' := by
  obtain ⟨⟨i0, i1⟩, ⟨a0, a1⟩, ⟨b0, b1⟩, ⟨c0, c1⟩, ⟨d0, d1⟩, ⟨e0, e1⟩, ⟨f0, f1⟩, ⟨g0, g1⟩, ⟨h0, h1⟩⟩ := h
  simp only at i0 i1 a0 a1 b0 b1 c0 c1 d0 d1 e0 e1 f0 f1 g0 g1 h0 h1
  have HF := Aside0.mk (tk_no (t := ⟨id, co, st, lv, gn, fr, lf, du, tl⟩) (by unfold tkS; simp only; omega))
  generalize tkB _ = R at HF ⊢
  have y0 : decide (co < 0) = false := decide_eq_false x0
  have u0 : decide (0 ≤ co) = true := decide_eq_true (by omega)
  have y1 : decide (16 ≤ co) = false := decide_eq_false x1
  have y2 : decide (lv < 0) = false := decide_eq_false x2
  have u2 : decide (0 ≤ lv) = true := decide_eq_true (by omega)
  have y3 : decide (6 ≤ lv) = false := decide_eq_false x3
  have y4 : decide (tl < 0) = false := decide_eq_false x4
  have u4 : decide (0 ≤ tl) = true := decide_eq_true (by omega)
  have y5 : decide (2147483648 < tl) = false := decide_eq_false x5
  have u5 : decide (tl ≤ 2147483648) = true := decide_eq_true (by omega)
  have y6 : decide (1152921504606846976 < gn) = false := decide_eq_false x6
  have u6 : decide (gn ≤ 1152921504606846976) = true := decide_eq_true (by omega)
  have y7 : (st == 1) = true := by simpa using x7
  have z7 : (st != 1) = false := by simpa using x7
  have y8 : (gn == 0) = false := by simpa using x8
  have z8 : (gn != 0) = true := by simpa using x8
  have y9 : decide (fr < 0) = false := decide_eq_false x9
  have u9 : decide (0 ≤ fr) = true := decide_eq_true (by omega)
  have y10 : decide (1125899906842624 < fr) = true := decide_eq_true x10
  have u10 : decide (fr ≤ 1125899906842624) = false := decide_eq_false (by omega)
  go_enter Try.func9, Try.ntmps9
  go_wp2
  go_ret
  exact ⟨by rw [HF.out]; rfl, by repeat (first | exact below_alloc (Below.refl _ _) _ | refine below_set ?_ (Nat.le_refl _))⟩
set_option maxHeartbeats 4000000 in
set_option maxRecDepth 100000 in
theorem tksound_11 {id co st lv gn fr lf du tl : Int} (w : World) (h : TkOk ⟨id, co, st, lv, gn, fr, lf, du, tl⟩) (x0 : ¬ (co < 0)) (x1 : ¬ (16 ≤ co)) (x2 : ¬ (lv < 0)) (x3 : ¬ (6 ≤ lv)) (x4 : ¬ (tl < 0)) (x5 : ¬ (2147483648 < tl)) (x6 : ¬ (1152921504606846976 < gn)) (x7 : st = 1) (x8 : ¬ (gn = 0)) (x9 : ¬ (fr < 0)) (x10 : ¬ (1125899906842624 < fr)) (x11 : du < 0) : Calls Try.prog 9 #[.agg #[.int .u64 id, .int .i64 co, .int .i64 st, .int .i64 lv, .int .u64 gn, .int .i64 fr, .int .i64 lf, .int .i64 du, .int .i64 tl]] w fun e w' => e = .returned (.bool (tkB ⟨id, co, st, lv, gn, fr, lf, du, tl⟩)) ∧ Below w.heap.size w w' := by
  obtain ⟨⟨i0, i1⟩, ⟨a0, a1⟩, ⟨b0, b1⟩, ⟨c0, c1⟩, ⟨d0, d1⟩, ⟨e0, e1⟩, ⟨f0, f1⟩, ⟨g0, g1⟩, ⟨h0, h1⟩⟩ := h
  simp only at i0 i1 a0 a1 b0 b1 c0 c1 d0 d1 e0 e1 f0 f1 g0 g1 h0 h1
  have HF := Aside0.mk (tk_no (t := ⟨id, co, st, lv, gn, fr, lf, du, tl⟩) (by unfold tkS; simp only; omega))
  generalize tkB _ = R at HF ⊢
  have y0 : decide (co < 0) = false := decide_eq_false x0
  have u0 : decide (0 ≤ co) = true := decide_eq_true (by omega)
  have y1 : decide (16 ≤ co) = false := decide_eq_false x1
  have y2 : decide (lv < 0) = false := decide_eq_false x2
  have u2 : decide (0 ≤ lv) = true := decide_eq_true (by omega)
  have y3 : decide (6 ≤ lv) = false := decide_eq_false x3
  have y4 : decide (tl < 0) = false := decide_eq_false x4
  have u4 : decide (0 ≤ tl) = true := decide_eq_true (by omega)
  have y5 : decide (2147483648 < tl) = false := decide_eq_false x5
  have u5 : decide (tl ≤ 2147483648) = true := decide_eq_true (by omega)
  have y6 : decide (1152921504606846976 < gn) = false := decide_eq_false x6
  have u6 : decide (gn ≤ 1152921504606846976) = true := decide_eq_true (by omega)
  have y7 : (st == 1) = true := by simpa using x7
  have z7 : (st != 1) = false := by simpa using x7
  have y8 : (gn == 0) = false := by simpa using x8
  have z8 : (gn != 0) = true := by simpa using x8
  have y9 : decide (fr < 0) = false := decide_eq_false x9
  have u9 : decide (0 ≤ fr) = true := decide_eq_true (by omega)
  have y10 : decide (1125899906842624 < fr) = false := decide_eq_false x10
  have u10 : decide (fr ≤ 1125899906842624) = true := decide_eq_true (by omega)
  have y11 : decide (du < 0) = true := decide_eq_true x11
  have u11 : decide (0 ≤ du) = false := decide_eq_false (by omega)
  go_enter Try.func9, Try.ntmps9
  go_wp2
  go_ret
  exact ⟨by rw [HF.out]; rfl, by repeat (first | exact below_alloc (Below.refl _ _) _ | refine below_set ?_ (Nat.le_refl _))⟩
set_option maxHeartbeats 4000000 in
set_option maxRecDepth 100000 in
theorem tksound_12 {id co st lv gn fr lf du tl : Int} (w : World) (h : TkOk ⟨id, co, st, lv, gn, fr, lf, du, tl⟩) (x0 : ¬ (co < 0)) (x1 : ¬ (16 ≤ co)) (x2 : ¬ (lv < 0)) (x3 : ¬ (6 ≤ lv)) (x4 : ¬ (tl < 0)) (x5 : ¬ (2147483648 < tl)) (x6 : ¬ (1152921504606846976 < gn)) (x7 : st = 1) (x8 : ¬ (gn = 0)) (x9 : ¬ (fr < 0)) (x10 : ¬ (1125899906842624 < fr)) (x11 : ¬ (du < 0)) (x12 : 1125899906842624 < du) : Calls Try.prog 9 #[.agg #[.int .u64 id, .int .i64 co, .int .i64 st, .int .i64 lv, .int .u64 gn, .int .i64 fr, .int .i64 lf, .int .i64 du, .int .i64 tl]] w fun e w' => e = .returned (.bool (tkB ⟨id, co, st, lv, gn, fr, lf, du, tl⟩)) ∧ Below w.heap.size w w' := by
  obtain ⟨⟨i0, i1⟩, ⟨a0, a1⟩, ⟨b0, b1⟩, ⟨c0, c1⟩, ⟨d0, d1⟩, ⟨e0, e1⟩, ⟨f0, f1⟩, ⟨g0, g1⟩, ⟨h0, h1⟩⟩ := h
  simp only at i0 i1 a0 a1 b0 b1 c0 c1 d0 d1 e0 e1 f0 f1 g0 g1 h0 h1
  have HF := Aside0.mk (tk_no (t := ⟨id, co, st, lv, gn, fr, lf, du, tl⟩) (by unfold tkS; simp only; omega))
  generalize tkB _ = R at HF ⊢
  have y0 : decide (co < 0) = false := decide_eq_false x0
  have u0 : decide (0 ≤ co) = true := decide_eq_true (by omega)
  have y1 : decide (16 ≤ co) = false := decide_eq_false x1
  have y2 : decide (lv < 0) = false := decide_eq_false x2
  have u2 : decide (0 ≤ lv) = true := decide_eq_true (by omega)
  have y3 : decide (6 ≤ lv) = false := decide_eq_false x3
  have y4 : decide (tl < 0) = false := decide_eq_false x4
  have u4 : decide (0 ≤ tl) = true := decide_eq_true (by omega)
  have y5 : decide (2147483648 < tl) = false := decide_eq_false x5
  have u5 : decide (tl ≤ 2147483648) = true := decide_eq_true (by omega)
  have y6 : decide (1152921504606846976 < gn) = false := decide_eq_false x6
  have u6 : decide (gn ≤ 1152921504606846976) = true := decide_eq_true (by omega)
  have y7 : (st == 1) = true := by simpa using x7
  have z7 : (st != 1) = false := by simpa using x7
  have y8 : (gn == 0) = false := by simpa using x8
  have z8 : (gn != 0) = true := by simpa using x8
  have y9 : decide (fr < 0) = false := decide_eq_false x9
  have u9 : decide (0 ≤ fr) = true := decide_eq_true (by omega)
  have y10 : decide (1125899906842624 < fr) = false := decide_eq_false x10
  have u10 : decide (fr ≤ 1125899906842624) = true := decide_eq_true (by omega)
  have y11 : decide (du < 0) = false := decide_eq_false x11
  have u11 : decide (0 ≤ du) = true := decide_eq_true (by omega)
  have y12 : decide (1125899906842624 < du) = true := decide_eq_true x12
  have u12 : decide (du ≤ 1125899906842624) = false := decide_eq_false (by omega)
  go_enter Try.func9, Try.ntmps9
  go_wp2
  go_ret
  exact ⟨by rw [HF.out]; rfl, by repeat (first | exact below_alloc (Below.refl _ _) _ | refine below_set ?_ (Nat.le_refl _))⟩
set_option maxHeartbeats 4000000 in
set_option maxRecDepth 100000 in
theorem tksound_13 {id co st lv gn fr lf du tl : Int} (w : World) (h : TkOk ⟨id, co, st, lv, gn, fr, lf, du, tl⟩) (x0 : ¬ (co < 0)) (x1 : ¬ (16 ≤ co)) (x2 : ¬ (lv < 0)) (x3 : ¬ (6 ≤ lv)) (x4 : ¬ (tl < 0)) (x5 : ¬ (2147483648 < tl)) (x6 : ¬ (1152921504606846976 < gn)) (x7 : st = 1) (x8 : ¬ (gn = 0)) (x9 : ¬ (fr < 0)) (x10 : ¬ (1125899906842624 < fr)) (x11 : ¬ (du < 0)) (x12 : ¬ (1125899906842624 < du)) (x13 : lf < 1) : Calls Try.prog 9 #[.agg #[.int .u64 id, .int .i64 co, .int .i64 st, .int .i64 lv, .int .u64 gn, .int .i64 fr, .int .i64 lf, .int .i64 du, .int .i64 tl]] w fun e w' => e = .returned (.bool (tkB ⟨id, co, st, lv, gn, fr, lf, du, tl⟩)) ∧ Below w.heap.size w w' := by
  obtain ⟨⟨i0, i1⟩, ⟨a0, a1⟩, ⟨b0, b1⟩, ⟨c0, c1⟩, ⟨d0, d1⟩, ⟨e0, e1⟩, ⟨f0, f1⟩, ⟨g0, g1⟩, ⟨h0, h1⟩⟩ := h
  simp only at i0 i1 a0 a1 b0 b1 c0 c1 d0 d1 e0 e1 f0 f1 g0 g1 h0 h1
  have HF := Aside0.mk (tk_no (t := ⟨id, co, st, lv, gn, fr, lf, du, tl⟩) (by unfold tkS; simp only; omega))
  generalize tkB _ = R at HF ⊢
  have y0 : decide (co < 0) = false := decide_eq_false x0
  have u0 : decide (0 ≤ co) = true := decide_eq_true (by omega)
  have y1 : decide (16 ≤ co) = false := decide_eq_false x1
  have y2 : decide (lv < 0) = false := decide_eq_false x2
  have u2 : decide (0 ≤ lv) = true := decide_eq_true (by omega)
  have y3 : decide (6 ≤ lv) = false := decide_eq_false x3
  have y4 : decide (tl < 0) = false := decide_eq_false x4
  have u4 : decide (0 ≤ tl) = true := decide_eq_true (by omega)
  have y5 : decide (2147483648 < tl) = false := decide_eq_false x5
  have u5 : decide (tl ≤ 2147483648) = true := decide_eq_true (by omega)
  have y6 : decide (1152921504606846976 < gn) = false := decide_eq_false x6
  have u6 : decide (gn ≤ 1152921504606846976) = true := decide_eq_true (by omega)
  have y7 : (st == 1) = true := by simpa using x7
  have z7 : (st != 1) = false := by simpa using x7
  have y8 : (gn == 0) = false := by simpa using x8
  have z8 : (gn != 0) = true := by simpa using x8
  have y9 : decide (fr < 0) = false := decide_eq_false x9
  have u9 : decide (0 ≤ fr) = true := decide_eq_true (by omega)
  have y10 : decide (1125899906842624 < fr) = false := decide_eq_false x10
  have u10 : decide (fr ≤ 1125899906842624) = true := decide_eq_true (by omega)
  have y11 : decide (du < 0) = false := decide_eq_false x11
  have u11 : decide (0 ≤ du) = true := decide_eq_true (by omega)
  have y12 : decide (1125899906842624 < du) = false := decide_eq_false x12
  have u12 : decide (du ≤ 1125899906842624) = true := decide_eq_true (by omega)
  have y13 : decide (lf < 1) = true := decide_eq_true x13
  have u13 : decide (1 ≤ lf) = false := decide_eq_false (by omega)
  go_enter Try.func9, Try.ntmps9
  go_wp2
  go_ret
  exact ⟨by rw [HF.out]; rfl, by repeat (first | exact below_alloc (Below.refl _ _) _ | refine below_set ?_ (Nat.le_refl _))⟩
set_option maxHeartbeats 4000000 in
set_option maxRecDepth 100000 in
theorem tksound_14 {id co st lv gn fr lf du tl : Int} (w : World) (h : TkOk ⟨id, co, st, lv, gn, fr, lf, du, tl⟩) (x0 : ¬ (co < 0)) (x1 : ¬ (16 ≤ co)) (x2 : ¬ (lv < 0)) (x3 : ¬ (6 ≤ lv)) (x4 : ¬ (tl < 0)) (x5 : ¬ (2147483648 < tl)) (x6 : ¬ (1152921504606846976 < gn)) (x7 : st = 1) (x8 : ¬ (gn = 0)) (x9 : ¬ (fr < 0)) (x10 : ¬ (1125899906842624 < fr)) (x11 : ¬ (du < 0)) (x12 : ¬ (1125899906842624 < du)) (x13 : ¬ (lf < 1)) (x14 : ¬ (lf ≤ du - fr)) : Calls Try.prog 9 #[.agg #[.int .u64 id, .int .i64 co, .int .i64 st, .int .i64 lv, .int .u64 gn, .int .i64 fr, .int .i64 lf, .int .i64 du, .int .i64 tl]] w fun e w' => e = .returned (.bool (tkB ⟨id, co, st, lv, gn, fr, lf, du, tl⟩)) ∧ Below w.heap.size w w' := by
  obtain ⟨⟨i0, i1⟩, ⟨a0, a1⟩, ⟨b0, b1⟩, ⟨c0, c1⟩, ⟨d0, d1⟩, ⟨e0, e1⟩, ⟨f0, f1⟩, ⟨g0, g1⟩, ⟨h0, h1⟩⟩ := h
  simp only at i0 i1 a0 a1 b0 b1 c0 c1 d0 d1 e0 e1 f0 f1 g0 g1 h0 h1
  have HF := Aside0.mk (tk_no (t := ⟨id, co, st, lv, gn, fr, lf, du, tl⟩) (by unfold tkS; simp only; omega))
  generalize tkB _ = R at HF ⊢
  have y0 : decide (co < 0) = false := decide_eq_false x0
  have u0 : decide (0 ≤ co) = true := decide_eq_true (by omega)
  have y1 : decide (16 ≤ co) = false := decide_eq_false x1
  have y2 : decide (lv < 0) = false := decide_eq_false x2
  have u2 : decide (0 ≤ lv) = true := decide_eq_true (by omega)
  have y3 : decide (6 ≤ lv) = false := decide_eq_false x3
  have y4 : decide (tl < 0) = false := decide_eq_false x4
  have u4 : decide (0 ≤ tl) = true := decide_eq_true (by omega)
  have y5 : decide (2147483648 < tl) = false := decide_eq_false x5
  have u5 : decide (tl ≤ 2147483648) = true := decide_eq_true (by omega)
  have y6 : decide (1152921504606846976 < gn) = false := decide_eq_false x6
  have u6 : decide (gn ≤ 1152921504606846976) = true := decide_eq_true (by omega)
  have y7 : (st == 1) = true := by simpa using x7
  have z7 : (st != 1) = false := by simpa using x7
  have y8 : (gn == 0) = false := by simpa using x8
  have z8 : (gn != 0) = true := by simpa using x8
  have y9 : decide (fr < 0) = false := decide_eq_false x9
  have u9 : decide (0 ≤ fr) = true := decide_eq_true (by omega)
  have y10 : decide (1125899906842624 < fr) = false := decide_eq_false x10
  have u10 : decide (fr ≤ 1125899906842624) = true := decide_eq_true (by omega)
  have y11 : decide (du < 0) = false := decide_eq_false x11
  have u11 : decide (0 ≤ du) = true := decide_eq_true (by omega)
  have y12 : decide (1125899906842624 < du) = false := decide_eq_false x12
  have u12 : decide (du ≤ 1125899906842624) = true := decide_eq_true (by omega)
  have y13 : decide (lf < 1) = false := decide_eq_false x13
  have u13 : decide (1 ≤ lf) = true := decide_eq_true (by omega)
  have y14 : decide (lf ≤ du - fr) = false := decide_eq_false x14
  go_enter Try.func9, Try.ntmps9
  go_wp2
  go_ret
  exact ⟨by rw [HF.out]; rfl, by repeat (first | exact below_alloc (Below.refl _ _) _ | refine below_set ?_ (Nat.le_refl _))⟩
set_option maxHeartbeats 4000000 in
set_option maxRecDepth 100000 in
theorem tksound_15 {id co st lv gn fr lf du tl : Int} (w : World) (h : TkOk ⟨id, co, st, lv, gn, fr, lf, du, tl⟩) (x0 : ¬ (co < 0)) (x1 : ¬ (16 ≤ co)) (x2 : ¬ (lv < 0)) (x3 : ¬ (6 ≤ lv)) (x4 : ¬ (tl < 0)) (x5 : ¬ (2147483648 < tl)) (x6 : ¬ (1152921504606846976 < gn)) (x7 : st = 1) (x8 : ¬ (gn = 0)) (x9 : ¬ (fr < 0)) (x10 : ¬ (1125899906842624 < fr)) (x11 : ¬ (du < 0)) (x12 : ¬ (1125899906842624 < du)) (x13 : ¬ (lf < 1)) (x14 : lf ≤ du - fr) : Calls Try.prog 9 #[.agg #[.int .u64 id, .int .i64 co, .int .i64 st, .int .i64 lv, .int .u64 gn, .int .i64 fr, .int .i64 lf, .int .i64 du, .int .i64 tl]] w fun e w' => e = .returned (.bool (tkB ⟨id, co, st, lv, gn, fr, lf, du, tl⟩)) ∧ Below w.heap.size w w' := by
  obtain ⟨⟨i0, i1⟩, ⟨a0, a1⟩, ⟨b0, b1⟩, ⟨c0, c1⟩, ⟨d0, d1⟩, ⟨e0, e1⟩, ⟨f0, f1⟩, ⟨g0, g1⟩, ⟨h0, h1⟩⟩ := h
  simp only at i0 i1 a0 a1 b0 b1 c0 c1 d0 d1 e0 e1 f0 f1 g0 g1 h0 h1
  have HF := Aside0.mk (tk_yes (t := ⟨id, co, st, lv, gn, fr, lf, du, tl⟩) (by unfold tkS; simp only; omega))
  generalize tkB _ = R at HF ⊢
  have y0 : decide (co < 0) = false := decide_eq_false x0
  have u0 : decide (0 ≤ co) = true := decide_eq_true (by omega)
  have y1 : decide (16 ≤ co) = false := decide_eq_false x1
  have y2 : decide (lv < 0) = false := decide_eq_false x2
  have u2 : decide (0 ≤ lv) = true := decide_eq_true (by omega)
  have y3 : decide (6 ≤ lv) = false := decide_eq_false x3
  have y4 : decide (tl < 0) = false := decide_eq_false x4
  have u4 : decide (0 ≤ tl) = true := decide_eq_true (by omega)
  have y5 : decide (2147483648 < tl) = false := decide_eq_false x5
  have u5 : decide (tl ≤ 2147483648) = true := decide_eq_true (by omega)
  have y6 : decide (1152921504606846976 < gn) = false := decide_eq_false x6
  have u6 : decide (gn ≤ 1152921504606846976) = true := decide_eq_true (by omega)
  have y7 : (st == 1) = true := by simpa using x7
  have z7 : (st != 1) = false := by simpa using x7
  have y8 : (gn == 0) = false := by simpa using x8
  have z8 : (gn != 0) = true := by simpa using x8
  have y9 : decide (fr < 0) = false := decide_eq_false x9
  have u9 : decide (0 ≤ fr) = true := decide_eq_true (by omega)
  have y10 : decide (1125899906842624 < fr) = false := decide_eq_false x10
  have u10 : decide (fr ≤ 1125899906842624) = true := decide_eq_true (by omega)
  have y11 : decide (du < 0) = false := decide_eq_false x11
  have u11 : decide (0 ≤ du) = true := decide_eq_true (by omega)
  have y12 : decide (1125899906842624 < du) = false := decide_eq_false x12
  have u12 : decide (du ≤ 1125899906842624) = true := decide_eq_true (by omega)
  have y13 : decide (lf < 1) = false := decide_eq_false x13
  have u13 : decide (1 ≤ lf) = true := decide_eq_true (by omega)
  have y14 : decide (lf ≤ du - fr) = true := decide_eq_true x14
  go_enter Try.func9, Try.ntmps9
  go_wp2
  go_ret
  exact ⟨by rw [HF.out]; rfl, by repeat (first | exact below_alloc (Below.refl _ _) _ | refine below_set ?_ (Nat.le_refl _))⟩
set_option maxHeartbeats 4000000 in
set_option maxRecDepth 100000 in
theorem tksound_16 {id co st lv gn fr lf du tl : Int} (w : World) (h : TkOk ⟨id, co, st, lv, gn, fr, lf, du, tl⟩) (x0 : ¬ (co < 0)) (x1 : ¬ (16 ≤ co)) (x2 : ¬ (lv < 0)) (x3 : ¬ (6 ≤ lv)) (x4 : ¬ (tl < 0)) (x5 : ¬ (2147483648 < tl)) (x6 : ¬ (1152921504606846976 < gn)) (x7 : ¬ (st = 1)) (x8 : st = 2) (x9 : lf < 1) : Calls Try.prog 9 #[.agg #[.int .u64 id, .int .i64 co, .int .i64 st, .int .i64 lv, .int .u64 gn, .int .i64 fr, .int .i64 lf, .int .i64 du, .int .i64 tl]] w fun e w' => e = .returned (.bool (tkB ⟨id, co, st, lv, gn, fr, lf, du, tl⟩)) ∧ Below w.heap.size w w' := by
  obtain ⟨⟨i0, i1⟩, ⟨a0, a1⟩, ⟨b0, b1⟩, ⟨c0, c1⟩, ⟨d0, d1⟩, ⟨e0, e1⟩, ⟨f0, f1⟩, ⟨g0, g1⟩, ⟨h0, h1⟩⟩ := h
  simp only at i0 i1 a0 a1 b0 b1 c0 c1 d0 d1 e0 e1 f0 f1 g0 g1 h0 h1
  have HF := Aside0.mk (tk_no (t := ⟨id, co, st, lv, gn, fr, lf, du, tl⟩) (by unfold tkS; simp only; omega))
  generalize tkB _ = R at HF ⊢
  have y0 : decide (co < 0) = false := decide_eq_false x0
  have u0 : decide (0 ≤ co) = true := decide_eq_true (by omega)
  have y1 : decide (16 ≤ co) = false := decide_eq_false x1
  have y2 : decide (lv < 0) = false := decide_eq_false x2
  have u2 : decide (0 ≤ lv) = true := decide_eq_true (by omega)
  have y3 : decide (6 ≤ lv) = false := decide_eq_false x3
  have y4 : decide (tl < 0) = false := decide_eq_false x4
  have u4 : decide (0 ≤ tl) = true := decide_eq_true (by omega)
  have y5 : decide (2147483648 < tl) = false := decide_eq_false x5
  have u5 : decide (tl ≤ 2147483648) = true := decide_eq_true (by omega)
  have y6 : decide (1152921504606846976 < gn) = false := decide_eq_false x6
  have u6 : decide (gn ≤ 1152921504606846976) = true := decide_eq_true (by omega)
  have y7 : (st == 1) = false := by simpa using x7
  have z7 : (st != 1) = true := by simpa using x7
  have y8 : (st == 2) = true := by simpa using x8
  have z8 : (st != 2) = false := by simpa using x8
  have y9 : decide (lf < 1) = true := decide_eq_true x9
  have u9 : decide (1 ≤ lf) = false := decide_eq_false (by omega)
  go_enter Try.func9, Try.ntmps9
  go_wp2
  go_ret
  exact ⟨by rw [HF.out]; rfl, by repeat (first | exact below_alloc (Below.refl _ _) _ | refine below_set ?_ (Nat.le_refl _))⟩
set_option maxHeartbeats 4000000 in
set_option maxRecDepth 100000 in
theorem tksound_17 {id co st lv gn fr lf du tl : Int} (w : World) (h : TkOk ⟨id, co, st, lv, gn, fr, lf, du, tl⟩) (x0 : ¬ (co < 0)) (x1 : ¬ (16 ≤ co)) (x2 : ¬ (lv < 0)) (x3 : ¬ (6 ≤ lv)) (x4 : ¬ (tl < 0)) (x5 : ¬ (2147483648 < tl)) (x6 : ¬ (1152921504606846976 < gn)) (x7 : ¬ (st = 1)) (x8 : st = 2) (x9 : ¬ (lf < 1)) (x10 : 1125899906842624 < lf) : Calls Try.prog 9 #[.agg #[.int .u64 id, .int .i64 co, .int .i64 st, .int .i64 lv, .int .u64 gn, .int .i64 fr, .int .i64 lf, .int .i64 du, .int .i64 tl]] w fun e w' => e = .returned (.bool (tkB ⟨id, co, st, lv, gn, fr, lf, du, tl⟩)) ∧ Below w.heap.size w w' := by
  obtain ⟨⟨i0, i1⟩, ⟨a0, a1⟩, ⟨b0, b1⟩, ⟨c0, c1⟩, ⟨d0, d1⟩, ⟨e0, e1⟩, ⟨f0, f1⟩, ⟨g0, g1⟩, ⟨h0, h1⟩⟩ := h
  simp only at i0 i1 a0 a1 b0 b1 c0 c1 d0 d1 e0 e1 f0 f1 g0 g1 h0 h1
  have HF := Aside0.mk (tk_no (t := ⟨id, co, st, lv, gn, fr, lf, du, tl⟩) (by unfold tkS; simp only; omega))
  generalize tkB _ = R at HF ⊢
  have y0 : decide (co < 0) = false := decide_eq_false x0
  have u0 : decide (0 ≤ co) = true := decide_eq_true (by omega)
  have y1 : decide (16 ≤ co) = false := decide_eq_false x1
  have y2 : decide (lv < 0) = false := decide_eq_false x2
  have u2 : decide (0 ≤ lv) = true := decide_eq_true (by omega)
  have y3 : decide (6 ≤ lv) = false := decide_eq_false x3
  have y4 : decide (tl < 0) = false := decide_eq_false x4
  have u4 : decide (0 ≤ tl) = true := decide_eq_true (by omega)
  have y5 : decide (2147483648 < tl) = false := decide_eq_false x5
  have u5 : decide (tl ≤ 2147483648) = true := decide_eq_true (by omega)
  have y6 : decide (1152921504606846976 < gn) = false := decide_eq_false x6
  have u6 : decide (gn ≤ 1152921504606846976) = true := decide_eq_true (by omega)
  have y7 : (st == 1) = false := by simpa using x7
  have z7 : (st != 1) = true := by simpa using x7
  have y8 : (st == 2) = true := by simpa using x8
  have z8 : (st != 2) = false := by simpa using x8
  have y9 : decide (lf < 1) = false := decide_eq_false x9
  have u9 : decide (1 ≤ lf) = true := decide_eq_true (by omega)
  have y10 : decide (1125899906842624 < lf) = true := decide_eq_true x10
  have u10 : decide (lf ≤ 1125899906842624) = false := decide_eq_false (by omega)
  go_enter Try.func9, Try.ntmps9
  go_wp2
  go_ret
  exact ⟨by rw [HF.out]; rfl, by repeat (first | exact below_alloc (Below.refl _ _) _ | refine below_set ?_ (Nat.le_refl _))⟩
set_option maxHeartbeats 4000000 in
set_option maxRecDepth 100000 in
theorem tksound_18 {id co st lv gn fr lf du tl : Int} (w : World) (h : TkOk ⟨id, co, st, lv, gn, fr, lf, du, tl⟩) (x0 : ¬ (co < 0)) (x1 : ¬ (16 ≤ co)) (x2 : ¬ (lv < 0)) (x3 : ¬ (6 ≤ lv)) (x4 : ¬ (tl < 0)) (x5 : ¬ (2147483648 < tl)) (x6 : ¬ (1152921504606846976 < gn)) (x7 : ¬ (st = 1)) (x8 : st = 2) (x9 : ¬ (lf < 1)) (x10 : ¬ (1125899906842624 < lf)) (x11 : fr < 0) : Calls Try.prog 9 #[.agg #[.int .u64 id, .int .i64 co, .int .i64 st, .int .i64 lv, .int .u64 gn, .int .i64 fr, .int .i64 lf, .int .i64 du, .int .i64 tl]] w fun e w' => e = .returned (.bool (tkB ⟨id, co, st, lv, gn, fr, lf, du, tl⟩)) ∧ Below w.heap.size w w' := by
  obtain ⟨⟨i0, i1⟩, ⟨a0, a1⟩, ⟨b0, b1⟩, ⟨c0, c1⟩, ⟨d0, d1⟩, ⟨e0, e1⟩, ⟨f0, f1⟩, ⟨g0, g1⟩, ⟨h0, h1⟩⟩ := h
  simp only at i0 i1 a0 a1 b0 b1 c0 c1 d0 d1 e0 e1 f0 f1 g0 g1 h0 h1
  have HF := Aside0.mk (tk_no (t := ⟨id, co, st, lv, gn, fr, lf, du, tl⟩) (by unfold tkS; simp only; omega))
  generalize tkB _ = R at HF ⊢
  have y0 : decide (co < 0) = false := decide_eq_false x0
  have u0 : decide (0 ≤ co) = true := decide_eq_true (by omega)
  have y1 : decide (16 ≤ co) = false := decide_eq_false x1
  have y2 : decide (lv < 0) = false := decide_eq_false x2
  have u2 : decide (0 ≤ lv) = true := decide_eq_true (by omega)
  have y3 : decide (6 ≤ lv) = false := decide_eq_false x3
  have y4 : decide (tl < 0) = false := decide_eq_false x4
  have u4 : decide (0 ≤ tl) = true := decide_eq_true (by omega)
  have y5 : decide (2147483648 < tl) = false := decide_eq_false x5
  have u5 : decide (tl ≤ 2147483648) = true := decide_eq_true (by omega)
  have y6 : decide (1152921504606846976 < gn) = false := decide_eq_false x6
  have u6 : decide (gn ≤ 1152921504606846976) = true := decide_eq_true (by omega)
  have y7 : (st == 1) = false := by simpa using x7
  have z7 : (st != 1) = true := by simpa using x7
  have y8 : (st == 2) = true := by simpa using x8
  have z8 : (st != 2) = false := by simpa using x8
  have y9 : decide (lf < 1) = false := decide_eq_false x9
  have u9 : decide (1 ≤ lf) = true := decide_eq_true (by omega)
  have y10 : decide (1125899906842624 < lf) = false := decide_eq_false x10
  have u10 : decide (lf ≤ 1125899906842624) = true := decide_eq_true (by omega)
  have y11 : decide (fr < 0) = true := decide_eq_true x11
  have u11 : decide (0 ≤ fr) = false := decide_eq_false (by omega)
  go_enter Try.func9, Try.ntmps9
  go_wp2
  go_ret
  exact ⟨by rw [HF.out]; rfl, by repeat (first | exact below_alloc (Below.refl _ _) _ | refine below_set ?_ (Nat.le_refl _))⟩
set_option maxHeartbeats 4000000 in
set_option maxRecDepth 100000 in
theorem tksound_19 {id co st lv gn fr lf du tl : Int} (w : World) (h : TkOk ⟨id, co, st, lv, gn, fr, lf, du, tl⟩) (x0 : ¬ (co < 0)) (x1 : ¬ (16 ≤ co)) (x2 : ¬ (lv < 0)) (x3 : ¬ (6 ≤ lv)) (x4 : ¬ (tl < 0)) (x5 : ¬ (2147483648 < tl)) (x6 : ¬ (1152921504606846976 < gn)) (x7 : ¬ (st = 1)) (x8 : st = 2) (x9 : ¬ (lf < 1)) (x10 : ¬ (1125899906842624 < lf)) (x11 : ¬ (fr < 0)) (x12 : 1125899906842624 < fr) : Calls Try.prog 9 #[.agg #[.int .u64 id, .int .i64 co, .int .i64 st, .int .i64 lv, .int .u64 gn, .int .i64 fr, .int .i64 lf, .int .i64 du, .int .i64 tl]] w fun e w' => e = .returned (.bool (tkB ⟨id, co, st, lv, gn, fr, lf, du, tl⟩)) ∧ Below w.heap.size w w' := by
  obtain ⟨⟨i0, i1⟩, ⟨a0, a1⟩, ⟨b0, b1⟩, ⟨c0, c1⟩, ⟨d0, d1⟩, ⟨e0, e1⟩, ⟨f0, f1⟩, ⟨g0, g1⟩, ⟨h0, h1⟩⟩ := h
  simp only at i0 i1 a0 a1 b0 b1 c0 c1 d0 d1 e0 e1 f0 f1 g0 g1 h0 h1
  have HF := Aside0.mk (tk_no (t := ⟨id, co, st, lv, gn, fr, lf, du, tl⟩) (by unfold tkS; simp only; omega))
  generalize tkB _ = R at HF ⊢
  have y0 : decide (co < 0) = false := decide_eq_false x0
  have u0 : decide (0 ≤ co) = true := decide_eq_true (by omega)
  have y1 : decide (16 ≤ co) = false := decide_eq_false x1
  have y2 : decide (lv < 0) = false := decide_eq_false x2
  have u2 : decide (0 ≤ lv) = true := decide_eq_true (by omega)
  have y3 : decide (6 ≤ lv) = false := decide_eq_false x3
  have y4 : decide (tl < 0) = false := decide_eq_false x4
  have u4 : decide (0 ≤ tl) = true := decide_eq_true (by omega)
  have y5 : decide (2147483648 < tl) = false := decide_eq_false x5
  have u5 : decide (tl ≤ 2147483648) = true := decide_eq_true (by omega)
  have y6 : decide (1152921504606846976 < gn) = false := decide_eq_false x6
  have u6 : decide (gn ≤ 1152921504606846976) = true := decide_eq_true (by omega)
  have y7 : (st == 1) = false := by simpa using x7
  have z7 : (st != 1) = true := by simpa using x7
  have y8 : (st == 2) = true := by simpa using x8
  have z8 : (st != 2) = false := by simpa using x8
  have y9 : decide (lf < 1) = false := decide_eq_false x9
  have u9 : decide (1 ≤ lf) = true := decide_eq_true (by omega)
  have y10 : decide (1125899906842624 < lf) = false := decide_eq_false x10
  have u10 : decide (lf ≤ 1125899906842624) = true := decide_eq_true (by omega)
  have y11 : decide (fr < 0) = false := decide_eq_false x11
  have u11 : decide (0 ≤ fr) = true := decide_eq_true (by omega)
  have y12 : decide (1125899906842624 < fr) = true := decide_eq_true x12
  have u12 : decide (fr ≤ 1125899906842624) = false := decide_eq_false (by omega)
  go_enter Try.func9, Try.ntmps9
  go_wp2
  go_ret
  exact ⟨by rw [HF.out]; rfl, by repeat (first | exact below_alloc (Below.refl _ _) _ | refine below_set ?_ (Nat.le_refl _))⟩
set_option maxHeartbeats 4000000 in
set_option maxRecDepth 100000 in
theorem tksound_20 {id co st lv gn fr lf du tl : Int} (w : World) (h : TkOk ⟨id, co, st, lv, gn, fr, lf, du, tl⟩) (x0 : ¬ (co < 0)) (x1 : ¬ (16 ≤ co)) (x2 : ¬ (lv < 0)) (x3 : ¬ (6 ≤ lv)) (x4 : ¬ (tl < 0)) (x5 : ¬ (2147483648 < tl)) (x6 : ¬ (1152921504606846976 < gn)) (x7 : ¬ (st = 1)) (x8 : st = 2) (x9 : ¬ (lf < 1)) (x10 : ¬ (1125899906842624 < lf)) (x11 : ¬ (fr < 0)) (x12 : ¬ (1125899906842624 < fr)) (x13 : ¬ (gn = 0)) : Calls Try.prog 9 #[.agg #[.int .u64 id, .int .i64 co, .int .i64 st, .int .i64 lv, .int .u64 gn, .int .i64 fr, .int .i64 lf, .int .i64 du, .int .i64 tl]] w fun e w' => e = .returned (.bool (tkB ⟨id, co, st, lv, gn, fr, lf, du, tl⟩)) ∧ Below w.heap.size w w' := by
  obtain ⟨⟨i0, i1⟩, ⟨a0, a1⟩, ⟨b0, b1⟩, ⟨c0, c1⟩, ⟨d0, d1⟩, ⟨e0, e1⟩, ⟨f0, f1⟩, ⟨g0, g1⟩, ⟨h0, h1⟩⟩ := h
  simp only at i0 i1 a0 a1 b0 b1 c0 c1 d0 d1 e0 e1 f0 f1 g0 g1 h0 h1
  have HF := Aside0.mk (tk_no (t := ⟨id, co, st, lv, gn, fr, lf, du, tl⟩) (by unfold tkS; simp only; omega))
  generalize tkB _ = R at HF ⊢
  have y0 : decide (co < 0) = false := decide_eq_false x0
  have u0 : decide (0 ≤ co) = true := decide_eq_true (by omega)
  have y1 : decide (16 ≤ co) = false := decide_eq_false x1
  have y2 : decide (lv < 0) = false := decide_eq_false x2
  have u2 : decide (0 ≤ lv) = true := decide_eq_true (by omega)
  have y3 : decide (6 ≤ lv) = false := decide_eq_false x3
  have y4 : decide (tl < 0) = false := decide_eq_false x4
  have u4 : decide (0 ≤ tl) = true := decide_eq_true (by omega)
  have y5 : decide (2147483648 < tl) = false := decide_eq_false x5
  have u5 : decide (tl ≤ 2147483648) = true := decide_eq_true (by omega)
  have y6 : decide (1152921504606846976 < gn) = false := decide_eq_false x6
  have u6 : decide (gn ≤ 1152921504606846976) = true := decide_eq_true (by omega)
  have y7 : (st == 1) = false := by simpa using x7
  have z7 : (st != 1) = true := by simpa using x7
  have y8 : (st == 2) = true := by simpa using x8
  have z8 : (st != 2) = false := by simpa using x8
  have y9 : decide (lf < 1) = false := decide_eq_false x9
  have u9 : decide (1 ≤ lf) = true := decide_eq_true (by omega)
  have y10 : decide (1125899906842624 < lf) = false := decide_eq_false x10
  have u10 : decide (lf ≤ 1125899906842624) = true := decide_eq_true (by omega)
  have y11 : decide (fr < 0) = false := decide_eq_false x11
  have u11 : decide (0 ≤ fr) = true := decide_eq_true (by omega)
  have y12 : decide (1125899906842624 < fr) = false := decide_eq_false x12
  have u12 : decide (fr ≤ 1125899906842624) = true := decide_eq_true (by omega)
  have y13 : (gn == 0) = false := by simpa using x13
  have z13 : (gn != 0) = true := by simpa using x13
  go_enter Try.func9, Try.ntmps9
  go_wp2
  go_ret
  exact ⟨by rw [HF.out]; rfl, by repeat (first | exact below_alloc (Below.refl _ _) _ | refine below_set ?_ (Nat.le_refl _))⟩
set_option maxHeartbeats 4000000 in
set_option maxRecDepth 100000 in
theorem tksound_21 {id co st lv gn fr lf du tl : Int} (w : World) (h : TkOk ⟨id, co, st, lv, gn, fr, lf, du, tl⟩) (x0 : ¬ (co < 0)) (x1 : ¬ (16 ≤ co)) (x2 : ¬ (lv < 0)) (x3 : ¬ (6 ≤ lv)) (x4 : ¬ (tl < 0)) (x5 : ¬ (2147483648 < tl)) (x6 : ¬ (1152921504606846976 < gn)) (x7 : ¬ (st = 1)) (x8 : st = 2) (x9 : ¬ (lf < 1)) (x10 : ¬ (1125899906842624 < lf)) (x11 : ¬ (fr < 0)) (x12 : ¬ (1125899906842624 < fr)) (x13 : gn = 0) (x14 : ¬ (du = 0)) : Calls Try.prog 9 #[.agg #[.int .u64 id, .int .i64 co, .int .i64 st, .int .i64 lv, .int .u64 gn, .int .i64 fr, .int .i64 lf, .int .i64 du, .int .i64 tl]] w fun e w' => e = .returned (.bool (tkB ⟨id, co, st, lv, gn, fr, lf, du, tl⟩)) ∧ Below w.heap.size w w' := by
  obtain ⟨⟨i0, i1⟩, ⟨a0, a1⟩, ⟨b0, b1⟩, ⟨c0, c1⟩, ⟨d0, d1⟩, ⟨e0, e1⟩, ⟨f0, f1⟩, ⟨g0, g1⟩, ⟨h0, h1⟩⟩ := h
  simp only at i0 i1 a0 a1 b0 b1 c0 c1 d0 d1 e0 e1 f0 f1 g0 g1 h0 h1
  have HF := Aside0.mk (tk_no (t := ⟨id, co, st, lv, gn, fr, lf, du, tl⟩) (by unfold tkS; simp only; omega))
  generalize tkB _ = R at HF ⊢
  have y0 : decide (co < 0) = false := decide_eq_false x0
  have u0 : decide (0 ≤ co) = true := decide_eq_true (by omega)
  have y1 : decide (16 ≤ co) = false := decide_eq_false x1
  have y2 : decide (lv < 0) = false := decide_eq_false x2
  have u2 : decide (0 ≤ lv) = true := decide_eq_true (by omega)
  have y3 : decide (6 ≤ lv) = false := decide_eq_false x3
  have y4 : decide (tl < 0) = false := decide_eq_false x4
  have u4 : decide (0 ≤ tl) = true := decide_eq_true (by omega)
  have y5 : decide (2147483648 < tl) = false := decide_eq_false x5
  have u5 : decide (tl ≤ 2147483648) = true := decide_eq_true (by omega)
  have y6 : decide (1152921504606846976 < gn) = false := decide_eq_false x6
  have u6 : decide (gn ≤ 1152921504606846976) = true := decide_eq_true (by omega)
  have y7 : (st == 1) = false := by simpa using x7
  have z7 : (st != 1) = true := by simpa using x7
  have y8 : (st == 2) = true := by simpa using x8
  have z8 : (st != 2) = false := by simpa using x8
  have y9 : decide (lf < 1) = false := decide_eq_false x9
  have u9 : decide (1 ≤ lf) = true := decide_eq_true (by omega)
  have y10 : decide (1125899906842624 < lf) = false := decide_eq_false x10
  have u10 : decide (lf ≤ 1125899906842624) = true := decide_eq_true (by omega)
  have y11 : decide (fr < 0) = false := decide_eq_false x11
  have u11 : decide (0 ≤ fr) = true := decide_eq_true (by omega)
  have y12 : decide (1125899906842624 < fr) = false := decide_eq_false x12
  have u12 : decide (fr ≤ 1125899906842624) = true := decide_eq_true (by omega)
  have y13 : (gn == 0) = true := by simpa using x13
  have z13 : (gn != 0) = false := by simpa using x13
  have y14 : (du == 0) = false := by simpa using x14
  have z14 : (du != 0) = true := by simpa using x14
  go_enter Try.func9, Try.ntmps9
  go_wp2
  go_ret
  exact ⟨by rw [HF.out]; rfl, by repeat (first | exact below_alloc (Below.refl _ _) _ | refine below_set ?_ (Nat.le_refl _))⟩
set_option maxHeartbeats 4000000 in
set_option maxRecDepth 100000 in
theorem tksound_22 {id co st lv gn fr lf du tl : Int} (w : World) (h : TkOk ⟨id, co, st, lv, gn, fr, lf, du, tl⟩) (x0 : ¬ (co < 0)) (x1 : ¬ (16 ≤ co)) (x2 : ¬ (lv < 0)) (x3 : ¬ (6 ≤ lv)) (x4 : ¬ (tl < 0)) (x5 : ¬ (2147483648 < tl)) (x6 : ¬ (1152921504606846976 < gn)) (x7 : ¬ (st = 1)) (x8 : st = 2) (x9 : ¬ (lf < 1)) (x10 : ¬ (1125899906842624 < lf)) (x11 : ¬ (fr < 0)) (x12 : ¬ (1125899906842624 < fr)) (x13 : gn = 0) (x14 : du = 0) : Calls Try.prog 9 #[.agg #[.int .u64 id, .int .i64 co, .int .i64 st, .int .i64 lv, .int .u64 gn, .int .i64 fr, .int .i64 lf, .int .i64 du, .int .i64 tl]] w fun e w' => e = .returned (.bool (tkB ⟨id, co, st, lv, gn, fr, lf, du, tl⟩)) ∧ Below w.heap.size w w' := by
  obtain ⟨⟨i0, i1⟩, ⟨a0, a1⟩, ⟨b0, b1⟩, ⟨c0, c1⟩, ⟨d0, d1⟩, ⟨e0, e1⟩, ⟨f0, f1⟩, ⟨g0, g1⟩, ⟨h0, h1⟩⟩ := h
  simp only at i0 i1 a0 a1 b0 b1 c0 c1 d0 d1 e0 e1 f0 f1 g0 g1 h0 h1
  have HF := Aside0.mk (tk_yes (t := ⟨id, co, st, lv, gn, fr, lf, du, tl⟩) (by unfold tkS; simp only; omega))
  generalize tkB _ = R at HF ⊢
  have y0 : decide (co < 0) = false := decide_eq_false x0
  have u0 : decide (0 ≤ co) = true := decide_eq_true (by omega)
  have y1 : decide (16 ≤ co) = false := decide_eq_false x1
  have y2 : decide (lv < 0) = false := decide_eq_false x2
  have u2 : decide (0 ≤ lv) = true := decide_eq_true (by omega)
  have y3 : decide (6 ≤ lv) = false := decide_eq_false x3
  have y4 : decide (tl < 0) = false := decide_eq_false x4
  have u4 : decide (0 ≤ tl) = true := decide_eq_true (by omega)
  have y5 : decide (2147483648 < tl) = false := decide_eq_false x5
  have u5 : decide (tl ≤ 2147483648) = true := decide_eq_true (by omega)
  have y6 : decide (1152921504606846976 < gn) = false := decide_eq_false x6
  have u6 : decide (gn ≤ 1152921504606846976) = true := decide_eq_true (by omega)
  have y7 : (st == 1) = false := by simpa using x7
  have z7 : (st != 1) = true := by simpa using x7
  have y8 : (st == 2) = true := by simpa using x8
  have z8 : (st != 2) = false := by simpa using x8
  have y9 : decide (lf < 1) = false := decide_eq_false x9
  have u9 : decide (1 ≤ lf) = true := decide_eq_true (by omega)
  have y10 : decide (1125899906842624 < lf) = false := decide_eq_false x10
  have u10 : decide (lf ≤ 1125899906842624) = true := decide_eq_true (by omega)
  have y11 : decide (fr < 0) = false := decide_eq_false x11
  have u11 : decide (0 ≤ fr) = true := decide_eq_true (by omega)
  have y12 : decide (1125899906842624 < fr) = false := decide_eq_false x12
  have u12 : decide (fr ≤ 1125899906842624) = true := decide_eq_true (by omega)
  have y13 : (gn == 0) = true := by simpa using x13
  have z13 : (gn != 0) = false := by simpa using x13
  have y14 : (du == 0) = true := by simpa using x14
  have z14 : (du != 0) = false := by simpa using x14
  go_enter Try.func9, Try.ntmps9
  go_wp2
  go_ret
  exact ⟨by rw [HF.out]; rfl, by repeat (first | exact below_alloc (Below.refl _ _) _ | refine below_set ?_ (Nat.le_refl _))⟩
set_option maxHeartbeats 4000000 in
set_option maxRecDepth 100000 in
theorem tksound_23 {id co st lv gn fr lf du tl : Int} (w : World) (h : TkOk ⟨id, co, st, lv, gn, fr, lf, du, tl⟩) (x0 : ¬ (co < 0)) (x1 : ¬ (16 ≤ co)) (x2 : ¬ (lv < 0)) (x3 : ¬ (6 ≤ lv)) (x4 : ¬ (tl < 0)) (x5 : ¬ (2147483648 < tl)) (x6 : ¬ (1152921504606846976 < gn)) (x7 : ¬ (st = 1)) (x8 : ¬ (st = 2)) (x9 : st = 3) (x10 : ¬ (gn = 0)) : Calls Try.prog 9 #[.agg #[.int .u64 id, .int .i64 co, .int .i64 st, .int .i64 lv, .int .u64 gn, .int .i64 fr, .int .i64 lf, .int .i64 du, .int .i64 tl]] w fun e w' => e = .returned (.bool (tkB ⟨id, co, st, lv, gn, fr, lf, du, tl⟩)) ∧ Below w.heap.size w w' := by
  obtain ⟨⟨i0, i1⟩, ⟨a0, a1⟩, ⟨b0, b1⟩, ⟨c0, c1⟩, ⟨d0, d1⟩, ⟨e0, e1⟩, ⟨f0, f1⟩, ⟨g0, g1⟩, ⟨h0, h1⟩⟩ := h
  simp only at i0 i1 a0 a1 b0 b1 c0 c1 d0 d1 e0 e1 f0 f1 g0 g1 h0 h1
  have HF := Aside0.mk (tk_no (t := ⟨id, co, st, lv, gn, fr, lf, du, tl⟩) (by unfold tkS; simp only; omega))
  generalize tkB _ = R at HF ⊢
  have y0 : decide (co < 0) = false := decide_eq_false x0
  have u0 : decide (0 ≤ co) = true := decide_eq_true (by omega)
  have y1 : decide (16 ≤ co) = false := decide_eq_false x1
  have y2 : decide (lv < 0) = false := decide_eq_false x2
  have u2 : decide (0 ≤ lv) = true := decide_eq_true (by omega)
  have y3 : decide (6 ≤ lv) = false := decide_eq_false x3
  have y4 : decide (tl < 0) = false := decide_eq_false x4
  have u4 : decide (0 ≤ tl) = true := decide_eq_true (by omega)
  have y5 : decide (2147483648 < tl) = false := decide_eq_false x5
  have u5 : decide (tl ≤ 2147483648) = true := decide_eq_true (by omega)
  have y6 : decide (1152921504606846976 < gn) = false := decide_eq_false x6
  have u6 : decide (gn ≤ 1152921504606846976) = true := decide_eq_true (by omega)
  have y7 : (st == 1) = false := by simpa using x7
  have z7 : (st != 1) = true := by simpa using x7
  have y8 : (st == 2) = false := by simpa using x8
  have z8 : (st != 2) = true := by simpa using x8
  have y9 : (st == 3) = true := by simpa using x9
  have z9 : (st != 3) = false := by simpa using x9
  have y10 : (gn == 0) = false := by simpa using x10
  have z10 : (gn != 0) = true := by simpa using x10
  go_enter Try.func9, Try.ntmps9
  go_wp2
  go_ret
  exact ⟨by rw [HF.out]; rfl, by repeat (first | exact below_alloc (Below.refl _ _) _ | refine below_set ?_ (Nat.le_refl _))⟩
set_option maxHeartbeats 4000000 in
set_option maxRecDepth 100000 in
theorem tksound_24 {id co st lv gn fr lf du tl : Int} (w : World) (h : TkOk ⟨id, co, st, lv, gn, fr, lf, du, tl⟩) (x0 : ¬ (co < 0)) (x1 : ¬ (16 ≤ co)) (x2 : ¬ (lv < 0)) (x3 : ¬ (6 ≤ lv)) (x4 : ¬ (tl < 0)) (x5 : ¬ (2147483648 < tl)) (x6 : ¬ (1152921504606846976 < gn)) (x7 : ¬ (st = 1)) (x8 : ¬ (st = 2)) (x9 : st = 3) (x10 : gn = 0) (x11 : ¬ (fr = 0)) : Calls Try.prog 9 #[.agg #[.int .u64 id, .int .i64 co, .int .i64 st, .int .i64 lv, .int .u64 gn, .int .i64 fr, .int .i64 lf, .int .i64 du, .int .i64 tl]] w fun e w' => e = .returned (.bool (tkB ⟨id, co, st, lv, gn, fr, lf, du, tl⟩)) ∧ Below w.heap.size w w' := by
  obtain ⟨⟨i0, i1⟩, ⟨a0, a1⟩, ⟨b0, b1⟩, ⟨c0, c1⟩, ⟨d0, d1⟩, ⟨e0, e1⟩, ⟨f0, f1⟩, ⟨g0, g1⟩, ⟨h0, h1⟩⟩ := h
  simp only at i0 i1 a0 a1 b0 b1 c0 c1 d0 d1 e0 e1 f0 f1 g0 g1 h0 h1
  have HF := Aside0.mk (tk_no (t := ⟨id, co, st, lv, gn, fr, lf, du, tl⟩) (by unfold tkS; simp only; omega))
  generalize tkB _ = R at HF ⊢
  have y0 : decide (co < 0) = false := decide_eq_false x0
  have u0 : decide (0 ≤ co) = true := decide_eq_true (by omega)
  have y1 : decide (16 ≤ co) = false := decide_eq_false x1
  have y2 : decide (lv < 0) = false := decide_eq_false x2
  have u2 : decide (0 ≤ lv) = true := decide_eq_true (by omega)
  have y3 : decide (6 ≤ lv) = false := decide_eq_false x3
  have y4 : decide (tl < 0) = false := decide_eq_false x4
  have u4 : decide (0 ≤ tl) = true := decide_eq_true (by omega)
  have y5 : decide (2147483648 < tl) = false := decide_eq_false x5
  have u5 : decide (tl ≤ 2147483648) = true := decide_eq_true (by omega)
  have y6 : decide (1152921504606846976 < gn) = false := decide_eq_false x6
  have u6 : decide (gn ≤ 1152921504606846976) = true := decide_eq_true (by omega)
  have y7 : (st == 1) = false := by simpa using x7
  have z7 : (st != 1) = true := by simpa using x7
  have y8 : (st == 2) = false := by simpa using x8
  have z8 : (st != 2) = true := by simpa using x8
  have y9 : (st == 3) = true := by simpa using x9
  have z9 : (st != 3) = false := by simpa using x9
  have y10 : (gn == 0) = true := by simpa using x10
  have z10 : (gn != 0) = false := by simpa using x10
  have y11 : (fr == 0) = false := by simpa using x11
  have z11 : (fr != 0) = true := by simpa using x11
  go_enter Try.func9, Try.ntmps9
  go_wp2
  go_ret
  exact ⟨by rw [HF.out]; rfl, by repeat (first | exact below_alloc (Below.refl _ _) _ | refine below_set ?_ (Nat.le_refl _))⟩
set_option maxHeartbeats 4000000 in
set_option maxRecDepth 100000 in
theorem tksound_25 {id co st lv gn fr lf du tl : Int} (w : World) (h : TkOk ⟨id, co, st, lv, gn, fr, lf, du, tl⟩) (x0 : ¬ (co < 0)) (x1 : ¬ (16 ≤ co)) (x2 : ¬ (lv < 0)) (x3 : ¬ (6 ≤ lv)) (x4 : ¬ (tl < 0)) (x5 : ¬ (2147483648 < tl)) (x6 : ¬ (1152921504606846976 < gn)) (x7 : ¬ (st = 1)) (x8 : ¬ (st = 2)) (x9 : st = 3) (x10 : gn = 0) (x11 : fr = 0) (x12 : ¬ (lf = 0)) : Calls Try.prog 9 #[.agg #[.int .u64 id, .int .i64 co, .int .i64 st, .int .i64 lv, .int .u64 gn, .int .i64 fr, .int .i64 lf, .int .i64 du, .int .i64 tl]] w fun e w' => e = .returned (.bool (tkB ⟨id, co, st, lv, gn, fr, lf, du, tl⟩)) ∧ Below w.heap.size w w' := by
  obtain ⟨⟨i0, i1⟩, ⟨a0, a1⟩, ⟨b0, b1⟩, ⟨c0, c1⟩, ⟨d0, d1⟩, ⟨e0, e1⟩, ⟨f0, f1⟩, ⟨g0, g1⟩, ⟨h0, h1⟩⟩ := h
  simp only at i0 i1 a0 a1 b0 b1 c0 c1 d0 d1 e0 e1 f0 f1 g0 g1 h0 h1
  have HF := Aside0.mk (tk_no (t := ⟨id, co, st, lv, gn, fr, lf, du, tl⟩) (by unfold tkS; simp only; omega))
  generalize tkB _ = R at HF ⊢
  have y0 : decide (co < 0) = false := decide_eq_false x0
  have u0 : decide (0 ≤ co) = true := decide_eq_true (by omega)
  have y1 : decide (16 ≤ co) = false := decide_eq_false x1
  have y2 : decide (lv < 0) = false := decide_eq_false x2
  have u2 : decide (0 ≤ lv) = true := decide_eq_true (by omega)
  have y3 : decide (6 ≤ lv) = false := decide_eq_false x3
  have y4 : decide (tl < 0) = false := decide_eq_false x4
  have u4 : decide (0 ≤ tl) = true := decide_eq_true (by omega)
  have y5 : decide (2147483648 < tl) = false := decide_eq_false x5
  have u5 : decide (tl ≤ 2147483648) = true := decide_eq_true (by omega)
  have y6 : decide (1152921504606846976 < gn) = false := decide_eq_false x6
  have u6 : decide (gn ≤ 1152921504606846976) = true := decide_eq_true (by omega)
  have y7 : (st == 1) = false := by simpa using x7
  have z7 : (st != 1) = true := by simpa using x7
  have y8 : (st == 2) = false := by simpa using x8
  have z8 : (st != 2) = true := by simpa using x8
  have y9 : (st == 3) = true := by simpa using x9
  have z9 : (st != 3) = false := by simpa using x9
  have y10 : (gn == 0) = true := by simpa using x10
  have z10 : (gn != 0) = false := by simpa using x10
  have y11 : (fr == 0) = true := by simpa using x11
  have z11 : (fr != 0) = false := by simpa using x11
  have y12 : (lf == 0) = false := by simpa using x12
  have z12 : (lf != 0) = true := by simpa using x12
  go_enter Try.func9, Try.ntmps9
  go_wp2
  go_ret
  exact ⟨by rw [HF.out]; rfl, by repeat (first | exact below_alloc (Below.refl _ _) _ | refine below_set ?_ (Nat.le_refl _))⟩
set_option maxHeartbeats 4000000 in
set_option maxRecDepth 100000 in
theorem tksound_26 {id co st lv gn fr lf du tl : Int} (w : World) (h : TkOk ⟨id, co, st, lv, gn, fr, lf, du, tl⟩) (x0 : ¬ (co < 0)) (x1 : ¬ (16 ≤ co)) (x2 : ¬ (lv < 0)) (x3 : ¬ (6 ≤ lv)) (x4 : ¬ (tl < 0)) (x5 : ¬ (2147483648 < tl)) (x6 : ¬ (1152921504606846976 < gn)) (x7 : ¬ (st = 1)) (x8 : ¬ (st = 2)) (x9 : st = 3) (x10 : gn = 0) (x11 : fr = 0) (x12 : lf = 0) (x13 : ¬ (du = 0)) : Calls Try.prog 9 #[.agg #[.int .u64 id, .int .i64 co, .int .i64 st, .int .i64 lv, .int .u64 gn, .int .i64 fr, .int .i64 lf, .int .i64 du, .int .i64 tl]] w fun e w' => e = .returned (.bool (tkB ⟨id, co, st, lv, gn, fr, lf, du, tl⟩)) ∧ Below w.heap.size w w' := by
  obtain ⟨⟨i0, i1⟩, ⟨a0, a1⟩, ⟨b0, b1⟩, ⟨c0, c1⟩, ⟨d0, d1⟩, ⟨e0, e1⟩, ⟨f0, f1⟩, ⟨g0, g1⟩, ⟨h0, h1⟩⟩ := h
  simp only at i0 i1 a0 a1 b0 b1 c0 c1 d0 d1 e0 e1 f0 f1 g0 g1 h0 h1
  have HF := Aside0.mk (tk_no (t := ⟨id, co, st, lv, gn, fr, lf, du, tl⟩) (by unfold tkS; simp only; omega))
  generalize tkB _ = R at HF ⊢
  have y0 : decide (co < 0) = false := decide_eq_false x0
  have u0 : decide (0 ≤ co) = true := decide_eq_true (by omega)
  have y1 : decide (16 ≤ co) = false := decide_eq_false x1
  have y2 : decide (lv < 0) = false := decide_eq_false x2
  have u2 : decide (0 ≤ lv) = true := decide_eq_true (by omega)
  have y3 : decide (6 ≤ lv) = false := decide_eq_false x3
  have y4 : decide (tl < 0) = false := decide_eq_false x4
  have u4 : decide (0 ≤ tl) = true := decide_eq_true (by omega)
  have y5 : decide (2147483648 < tl) = false := decide_eq_false x5
  have u5 : decide (tl ≤ 2147483648) = true := decide_eq_true (by omega)
  have y6 : decide (1152921504606846976 < gn) = false := decide_eq_false x6
  have u6 : decide (gn ≤ 1152921504606846976) = true := decide_eq_true (by omega)
  have y7 : (st == 1) = false := by simpa using x7
  have z7 : (st != 1) = true := by simpa using x7
  have y8 : (st == 2) = false := by simpa using x8
  have z8 : (st != 2) = true := by simpa using x8
  have y9 : (st == 3) = true := by simpa using x9
  have z9 : (st != 3) = false := by simpa using x9
  have y10 : (gn == 0) = true := by simpa using x10
  have z10 : (gn != 0) = false := by simpa using x10
  have y11 : (fr == 0) = true := by simpa using x11
  have z11 : (fr != 0) = false := by simpa using x11
  have y12 : (lf == 0) = true := by simpa using x12
  have z12 : (lf != 0) = false := by simpa using x12
  have y13 : (du == 0) = false := by simpa using x13
  have z13 : (du != 0) = true := by simpa using x13
  go_enter Try.func9, Try.ntmps9
  go_wp2
  go_ret
  exact ⟨by rw [HF.out]; rfl, by repeat (first | exact below_alloc (Below.refl _ _) _ | refine below_set ?_ (Nat.le_refl _))⟩
set_option maxHeartbeats 4000000 in
set_option maxRecDepth 100000 in
theorem tksound_27 {id co st lv gn fr lf du tl : Int} (w : World) (h : TkOk ⟨id, co, st, lv, gn, fr, lf, du, tl⟩) (x0 : ¬ (co < 0)) (x1 : ¬ (16 ≤ co)) (x2 : ¬ (lv < 0)) (x3 : ¬ (6 ≤ lv)) (x4 : ¬ (tl < 0)) (x5 : ¬ (2147483648 < tl)) (x6 : ¬ (1152921504606846976 < gn)) (x7 : ¬ (st = 1)) (x8 : ¬ (st = 2)) (x9 : st = 3) (x10 : gn = 0) (x11 : fr = 0) (x12 : lf = 0) (x13 : du = 0) : Calls Try.prog 9 #[.agg #[.int .u64 id, .int .i64 co, .int .i64 st, .int .i64 lv, .int .u64 gn, .int .i64 fr, .int .i64 lf, .int .i64 du, .int .i64 tl]] w fun e w' => e = .returned (.bool (tkB ⟨id, co, st, lv, gn, fr, lf, du, tl⟩)) ∧ Below w.heap.size w w' := by
  obtain ⟨⟨i0, i1⟩, ⟨a0, a1⟩, ⟨b0, b1⟩, ⟨c0, c1⟩, ⟨d0, d1⟩, ⟨e0, e1⟩, ⟨f0, f1⟩, ⟨g0, g1⟩, ⟨h0, h1⟩⟩ := h
  simp only at i0 i1 a0 a1 b0 b1 c0 c1 d0 d1 e0 e1 f0 f1 g0 g1 h0 h1
  have HF := Aside0.mk (tk_yes (t := ⟨id, co, st, lv, gn, fr, lf, du, tl⟩) (by unfold tkS; simp only; omega))
  generalize tkB _ = R at HF ⊢
  have y0 : decide (co < 0) = false := decide_eq_false x0
  have u0 : decide (0 ≤ co) = true := decide_eq_true (by omega)
  have y1 : decide (16 ≤ co) = false := decide_eq_false x1
  have y2 : decide (lv < 0) = false := decide_eq_false x2
  have u2 : decide (0 ≤ lv) = true := decide_eq_true (by omega)
  have y3 : decide (6 ≤ lv) = false := decide_eq_false x3
  have y4 : decide (tl < 0) = false := decide_eq_false x4
  have u4 : decide (0 ≤ tl) = true := decide_eq_true (by omega)
  have y5 : decide (2147483648 < tl) = false := decide_eq_false x5
  have u5 : decide (tl ≤ 2147483648) = true := decide_eq_true (by omega)
  have y6 : decide (1152921504606846976 < gn) = false := decide_eq_false x6
  have u6 : decide (gn ≤ 1152921504606846976) = true := decide_eq_true (by omega)
  have y7 : (st == 1) = false := by simpa using x7
  have z7 : (st != 1) = true := by simpa using x7
  have y8 : (st == 2) = false := by simpa using x8
  have z8 : (st != 2) = true := by simpa using x8
  have y9 : (st == 3) = true := by simpa using x9
  have z9 : (st != 3) = false := by simpa using x9
  have y10 : (gn == 0) = true := by simpa using x10
  have z10 : (gn != 0) = false := by simpa using x10
  have y11 : (fr == 0) = true := by simpa using x11
  have z11 : (fr != 0) = false := by simpa using x11
  have y12 : (lf == 0) = true := by simpa using x12
  have z12 : (lf != 0) = false := by simpa using x12
  have y13 : (du == 0) = true := by simpa using x13
  have z13 : (du != 0) = false := by simpa using x13
  go_enter Try.func9, Try.ntmps9
  go_wp2
  go_ret
  exact ⟨by rw [HF.out]; rfl, by repeat (first | exact below_alloc (Below.refl _ _) _ | refine below_set ?_ (Nat.le_refl _))⟩
set_option maxHeartbeats 4000000 in
set_option maxRecDepth 100000 in
theorem tksound_28 {id co st lv gn fr lf du tl : Int} (w : World) (h : TkOk ⟨id, co, st, lv, gn, fr, lf, du, tl⟩) (x0 : ¬ (co < 0)) (x1 : ¬ (16 ≤ co)) (x2 : ¬ (lv < 0)) (x3 : ¬ (6 ≤ lv)) (x4 : ¬ (tl < 0)) (x5 : ¬ (2147483648 < tl)) (x6 : ¬ (1152921504606846976 < gn)) (x7 : ¬ (st = 1)) (x8 : ¬ (st = 2)) (x9 : ¬ (st = 3)) (x10 : st = 4) (x11 : ¬ (gn = 0)) : Calls Try.prog 9 #[.agg #[.int .u64 id, .int .i64 co, .int .i64 st, .int .i64 lv, .int .u64 gn, .int .i64 fr, .int .i64 lf, .int .i64 du, .int .i64 tl]] w fun e w' => e = .returned (.bool (tkB ⟨id, co, st, lv, gn, fr, lf, du, tl⟩)) ∧ Below w.heap.size w w' := by
  obtain ⟨⟨i0, i1⟩, ⟨a0, a1⟩, ⟨b0, b1⟩, ⟨c0, c1⟩, ⟨d0, d1⟩, ⟨e0, e1⟩, ⟨f0, f1⟩, ⟨g0, g1⟩, ⟨h0, h1⟩⟩ := h
  simp only at i0 i1 a0 a1 b0 b1 c0 c1 d0 d1 e0 e1 f0 f1 g0 g1 h0 h1
  have HF := Aside0.mk (tk_no (t := ⟨id, co, st, lv, gn, fr, lf, du, tl⟩) (by unfold tkS; simp only; omega))
  generalize tkB _ = R at HF ⊢
  have y0 : decide (co < 0) = false := decide_eq_false x0
  have u0 : decide (0 ≤ co) = true := decide_eq_true (by omega)
  have y1 : decide (16 ≤ co) = false := decide_eq_false x1
  have y2 : decide (lv < 0) = false := decide_eq_false x2
  have u2 : decide (0 ≤ lv) = true := decide_eq_true (by omega)
  have y3 : decide (6 ≤ lv) = false := decide_eq_false x3
  have y4 : decide (tl < 0) = false := decide_eq_false x4
  have u4 : decide (0 ≤ tl) = true := decide_eq_true (by omega)
  have y5 : decide (2147483648 < tl) = false := decide_eq_false x5
  have u5 : decide (tl ≤ 2147483648) = true := decide_eq_true (by omega)
  have y6 : decide (1152921504606846976 < gn) = false := decide_eq_false x6
  have u6 : decide (gn ≤ 1152921504606846976) = true := decide_eq_true (by omega)
  have y7 : (st == 1) = false := by simpa using x7
  have z7 : (st != 1) = true := by simpa using x7
  have y8 : (st == 2) = false := by simpa using x8
  have z8 : (st != 2) = true := by simpa using x8
  have y9 : (st == 3) = false := by simpa using x9
  have z9 : (st != 3) = true := by simpa using x9
  have y10 : (st == 4) = true := by simpa using x10
  have z10 : (st != 4) = false := by simpa using x10
  have y11 : (gn == 0) = false := by simpa using x11
  have z11 : (gn != 0) = true := by simpa using x11
  go_enter Try.func9, Try.ntmps9
  go_wp2
  go_ret
  exact ⟨by rw [HF.out]; rfl, by repeat (first | exact below_alloc (Below.refl _ _) _ | refine below_set ?_ (Nat.le_refl _))⟩
set_option maxHeartbeats 4000000 in
set_option maxRecDepth 100000 in
theorem tksound_29 {id co st lv gn fr lf du tl : Int} (w : World) (h : TkOk ⟨id, co, st, lv, gn, fr, lf, du, tl⟩) (x0 : ¬ (co < 0)) (x1 : ¬ (16 ≤ co)) (x2 : ¬ (lv < 0)) (x3 : ¬ (6 ≤ lv)) (x4 : ¬ (tl < 0)) (x5 : ¬ (2147483648 < tl)) (x6 : ¬ (1152921504606846976 < gn)) (x7 : ¬ (st = 1)) (x8 : ¬ (st = 2)) (x9 : ¬ (st = 3)) (x10 : st = 4) (x11 : gn = 0) (x12 : ¬ (fr = 0)) : Calls Try.prog 9 #[.agg #[.int .u64 id, .int .i64 co, .int .i64 st, .int .i64 lv, .int .u64 gn, .int .i64 fr, .int .i64 lf, .int .i64 du, .int .i64 tl]] w fun e w' => e = .returned (.bool (tkB ⟨id, co, st, lv, gn, fr, lf, du, tl⟩)) ∧ Below w.heap.size w w' := by
  obtain ⟨⟨i0, i1⟩, ⟨a0, a1⟩, ⟨b0, b1⟩, ⟨c0, c1⟩, ⟨d0, d1⟩, ⟨e0, e1⟩, ⟨f0, f1⟩, ⟨g0, g1⟩, ⟨h0, h1⟩⟩ := h
  simp only at i0 i1 a0 a1 b0 b1 c0 c1 d0 d1 e0 e1 f0 f1 g0 g1 h0 h1
  have HF := Aside0.mk (tk_no (t := ⟨id, co, st, lv, gn, fr, lf, du, tl⟩) (by unfold tkS; simp only; omega))
  generalize tkB _ = R at HF ⊢
  have y0 : decide (co < 0) = false := decide_eq_false x0
  have u0 : decide (0 ≤ co) = true := decide_eq_true (by omega)
  have y1 : decide (16 ≤ co) = false := decide_eq_false x1
  have y2 : decide (lv < 0) = false := decide_eq_false x2
  have u2 : decide (0 ≤ lv) = true := decide_eq_true (by omega)
  have y3 : decide (6 ≤ lv) = false := decide_eq_false x3
  have y4 : decide (tl < 0) = false := decide_eq_false x4
  have u4 : decide (0 ≤ tl) = true := decide_eq_true (by omega)
  have y5 : decide (2147483648 < tl) = false := decide_eq_false x5
  have u5 : decide (tl ≤ 2147483648) = true := decide_eq_true (by omega)
  have y6 : decide (1152921504606846976 < gn) = false := decide_eq_false x6
  have u6 : decide (gn ≤ 1152921504606846976) = true := decide_eq_true (by omega)
  have y7 : (st == 1) = false := by simpa using x7
  have z7 : (st != 1) = true := by simpa using x7
  have y8 : (st == 2) = false := by simpa using x8
  have z8 : (st != 2) = true := by simpa using x8
  have y9 : (st == 3) = false := by simpa using x9
  have z9 : (st != 3) = true := by simpa using x9
  have y10 : (st == 4) = true := by simpa using x10
  have z10 : (st != 4) = false := by simpa using x10
  have y11 : (gn == 0) = true := by simpa using x11
  have z11 : (gn != 0) = false := by simpa using x11
  have y12 : (fr == 0) = false := by simpa using x12
  have z12 : (fr != 0) = true := by simpa using x12
  go_enter Try.func9, Try.ntmps9
  go_wp2
  go_ret
  exact ⟨by rw [HF.out]; rfl, by repeat (first | exact below_alloc (Below.refl _ _) _ | refine below_set ?_ (Nat.le_refl _))⟩
set_option maxHeartbeats 4000000 in
set_option maxRecDepth 100000 in
theorem tksound_30 {id co st lv gn fr lf du tl : Int} (w : World) (h : TkOk ⟨id, co, st, lv, gn, fr, lf, du, tl⟩) (x0 : ¬ (co < 0)) (x1 : ¬ (16 ≤ co)) (x2 : ¬ (lv < 0)) (x3 : ¬ (6 ≤ lv)) (x4 : ¬ (tl < 0)) (x5 : ¬ (2147483648 < tl)) (x6 : ¬ (1152921504606846976 < gn)) (x7 : ¬ (st = 1)) (x8 : ¬ (st = 2)) (x9 : ¬ (st = 3)) (x10 : st = 4) (x11 : gn = 0) (x12 : fr = 0) (x13 : ¬ (lf = 0)) : Calls Try.prog 9 #[.agg #[.int .u64 id, .int .i64 co, .int .i64 st, .int .i64 lv, .int .u64 gn, .int .i64 fr, .int .i64 lf, .int .i64 du, .int .i64 tl]] w fun e w' => e = .returned (.bool (tkB ⟨id, co, st, lv, gn, fr, lf, du, tl⟩)) ∧ Below w.heap.size w w' := by
  obtain ⟨⟨i0, i1⟩, ⟨a0, a1⟩, ⟨b0, b1⟩, ⟨c0, c1⟩, ⟨d0, d1⟩, ⟨e0, e1⟩, ⟨f0, f1⟩, ⟨g0, g1⟩, ⟨h0, h1⟩⟩ := h
  simp only at i0 i1 a0 a1 b0 b1 c0 c1 d0 d1 e0 e1 f0 f1 g0 g1 h0 h1
  have HF := Aside0.mk (tk_no (t := ⟨id, co, st, lv, gn, fr, lf, du, tl⟩) (by unfold tkS; simp only; omega))
  generalize tkB _ = R at HF ⊢
  have y0 : decide (co < 0) = false := decide_eq_false x0
  have u0 : decide (0 ≤ co) = true := decide_eq_true (by omega)
  have y1 : decide (16 ≤ co) = false := decide_eq_false x1
  have y2 : decide (lv < 0) = false := decide_eq_false x2
  have u2 : decide (0 ≤ lv) = true := decide_eq_true (by omega)
  have y3 : decide (6 ≤ lv) = false := decide_eq_false x3
  have y4 : decide (tl < 0) = false := decide_eq_false x4
  have u4 : decide (0 ≤ tl) = true := decide_eq_true (by omega)
  have y5 : decide (2147483648 < tl) = false := decide_eq_false x5
  have u5 : decide (tl ≤ 2147483648) = true := decide_eq_true (by omega)
  have y6 : decide (1152921504606846976 < gn) = false := decide_eq_false x6
  have u6 : decide (gn ≤ 1152921504606846976) = true := decide_eq_true (by omega)
  have y7 : (st == 1) = false := by simpa using x7
  have z7 : (st != 1) = true := by simpa using x7
  have y8 : (st == 2) = false := by simpa using x8
  have z8 : (st != 2) = true := by simpa using x8
  have y9 : (st == 3) = false := by simpa using x9
  have z9 : (st != 3) = true := by simpa using x9
  have y10 : (st == 4) = true := by simpa using x10
  have z10 : (st != 4) = false := by simpa using x10
  have y11 : (gn == 0) = true := by simpa using x11
  have z11 : (gn != 0) = false := by simpa using x11
  have y12 : (fr == 0) = true := by simpa using x12
  have z12 : (fr != 0) = false := by simpa using x12
  have y13 : (lf == 0) = false := by simpa using x13
  have z13 : (lf != 0) = true := by simpa using x13
  go_enter Try.func9, Try.ntmps9
  go_wp2
  go_ret
  exact ⟨by rw [HF.out]; rfl, by repeat (first | exact below_alloc (Below.refl _ _) _ | refine below_set ?_ (Nat.le_refl _))⟩
set_option maxHeartbeats 4000000 in
set_option maxRecDepth 100000 in
theorem tksound_31 {id co st lv gn fr lf du tl : Int} (w : World) (h : TkOk ⟨id, co, st, lv, gn, fr, lf, du, tl⟩) (x0 : ¬ (co < 0)) (x1 : ¬ (16 ≤ co)) (x2 : ¬ (lv < 0)) (x3 : ¬ (6 ≤ lv)) (x4 : ¬ (tl < 0)) (x5 : ¬ (2147483648 < tl)) (x6 : ¬ (1152921504606846976 < gn)) (x7 : ¬ (st = 1)) (x8 : ¬ (st = 2)) (x9 : ¬ (st = 3)) (x10 : st = 4) (x11 : gn = 0) (x12 : fr = 0) (x13 : lf = 0) (x14 : ¬ (du = 0)) : Calls Try.prog 9 #[.agg #[.int .u64 id, .int .i64 co, .int .i64 st, .int .i64 lv, .int .u64 gn, .int .i64 fr, .int .i64 lf, .int .i64 du, .int .i64 tl]] w fun e w' => e = .returned (.bool (tkB ⟨id, co, st, lv, gn, fr, lf, du, tl⟩)) ∧ Below w.heap.size w w' := by
  obtain ⟨⟨i0, i1⟩, ⟨a0, a1⟩, ⟨b0, b1⟩, ⟨c0, c1⟩, ⟨d0, d1⟩, ⟨e0, e1⟩, ⟨f0, f1⟩, ⟨g0, g1⟩, ⟨h0, h1⟩⟩ := h
  simp only at i0 i1 a0 a1 b0 b1 c0 c1 d0 d1 e0 e1 f0 f1 g0 g1 h0 h1
  have HF := Aside0.mk (tk_no (t := ⟨id, co, st, lv, gn, fr, lf, du, tl⟩) (by unfold tkS; simp only; omega))
  generalize tkB _ = R at HF ⊢
  have y0 : decide (co < 0) = false := decide_eq_false x0
  have u0 : decide (0 ≤ co) = true := decide_eq_true (by omega)
  have y1 : decide (16 ≤ co) = false := decide_eq_false x1
  have y2 : decide (lv < 0) = false := decide_eq_false x2
  have u2 : decide (0 ≤ lv) = true := decide_eq_true (by omega)
  have y3 : decide (6 ≤ lv) = false := decide_eq_false x3
  have y4 : decide (tl < 0) = false := decide_eq_false x4
  have u4 : decide (0 ≤ tl) = true := decide_eq_true (by omega)
  have y5 : decide (2147483648 < tl) = false := decide_eq_false x5
  have u5 : decide (tl ≤ 2147483648) = true := decide_eq_true (by omega)
  have y6 : decide (1152921504606846976 < gn) = false := decide_eq_false x6
  have u6 : decide (gn ≤ 1152921504606846976) = true := decide_eq_true (by omega)
  have y7 : (st == 1) = false := by simpa using x7
  have z7 : (st != 1) = true := by simpa using x7
  have y8 : (st == 2) = false := by simpa using x8
  have z8 : (st != 2) = true := by simpa using x8
  have y9 : (st == 3) = false := by simpa using x9
  have z9 : (st != 3) = true := by simpa using x9
  have y10 : (st == 4) = true := by simpa using x10
  have z10 : (st != 4) = false := by simpa using x10
  have y11 : (gn == 0) = true := by simpa using x11
  have z11 : (gn != 0) = false := by simpa using x11
  have y12 : (fr == 0) = true := by simpa using x12
  have z12 : (fr != 0) = false := by simpa using x12
  have y13 : (lf == 0) = true := by simpa using x13
  have z13 : (lf != 0) = false := by simpa using x13
  have y14 : (du == 0) = false := by simpa using x14
  have z14 : (du != 0) = true := by simpa using x14
  go_enter Try.func9, Try.ntmps9
  go_wp2
  go_ret
  exact ⟨by rw [HF.out]; rfl, by repeat (first | exact below_alloc (Below.refl _ _) _ | refine below_set ?_ (Nat.le_refl _))⟩
set_option maxHeartbeats 4000000 in
set_option maxRecDepth 100000 in
theorem tksound_32 {id co st lv gn fr lf du tl : Int} (w : World) (h : TkOk ⟨id, co, st, lv, gn, fr, lf, du, tl⟩) (x0 : ¬ (co < 0)) (x1 : ¬ (16 ≤ co)) (x2 : ¬ (lv < 0)) (x3 : ¬ (6 ≤ lv)) (x4 : ¬ (tl < 0)) (x5 : ¬ (2147483648 < tl)) (x6 : ¬ (1152921504606846976 < gn)) (x7 : ¬ (st = 1)) (x8 : ¬ (st = 2)) (x9 : ¬ (st = 3)) (x10 : st = 4) (x11 : gn = 0) (x12 : fr = 0) (x13 : lf = 0) (x14 : du = 0) : Calls Try.prog 9 #[.agg #[.int .u64 id, .int .i64 co, .int .i64 st, .int .i64 lv, .int .u64 gn, .int .i64 fr, .int .i64 lf, .int .i64 du, .int .i64 tl]] w fun e w' => e = .returned (.bool (tkB ⟨id, co, st, lv, gn, fr, lf, du, tl⟩)) ∧ Below w.heap.size w w' := by
  obtain ⟨⟨i0, i1⟩, ⟨a0, a1⟩, ⟨b0, b1⟩, ⟨c0, c1⟩, ⟨d0, d1⟩, ⟨e0, e1⟩, ⟨f0, f1⟩, ⟨g0, g1⟩, ⟨h0, h1⟩⟩ := h
  simp only at i0 i1 a0 a1 b0 b1 c0 c1 d0 d1 e0 e1 f0 f1 g0 g1 h0 h1
  have HF := Aside0.mk (tk_yes (t := ⟨id, co, st, lv, gn, fr, lf, du, tl⟩) (by unfold tkS; simp only; omega))
  generalize tkB _ = R at HF ⊢
  have y0 : decide (co < 0) = false := decide_eq_false x0
  have u0 : decide (0 ≤ co) = true := decide_eq_true (by omega)
  have y1 : decide (16 ≤ co) = false := decide_eq_false x1
  have y2 : decide (lv < 0) = false := decide_eq_false x2
  have u2 : decide (0 ≤ lv) = true := decide_eq_true (by omega)
  have y3 : decide (6 ≤ lv) = false := decide_eq_false x3
  have y4 : decide (tl < 0) = false := decide_eq_false x4
  have u4 : decide (0 ≤ tl) = true := decide_eq_true (by omega)
  have y5 : decide (2147483648 < tl) = false := decide_eq_false x5
  have u5 : decide (tl ≤ 2147483648) = true := decide_eq_true (by omega)
  have y6 : decide (1152921504606846976 < gn) = false := decide_eq_false x6
  have u6 : decide (gn ≤ 1152921504606846976) = true := decide_eq_true (by omega)
  have y7 : (st == 1) = false := by simpa using x7
  have z7 : (st != 1) = true := by simpa using x7
  have y8 : (st == 2) = false := by simpa using x8
  have z8 : (st != 2) = true := by simpa using x8
  have y9 : (st == 3) = false := by simpa using x9
  have z9 : (st != 3) = true := by simpa using x9
  have y10 : (st == 4) = true := by simpa using x10
  have z10 : (st != 4) = false := by simpa using x10
  have y11 : (gn == 0) = true := by simpa using x11
  have z11 : (gn != 0) = false := by simpa using x11
  have y12 : (fr == 0) = true := by simpa using x12
  have z12 : (fr != 0) = false := by simpa using x12
  have y13 : (lf == 0) = true := by simpa using x13
  have z13 : (lf != 0) = false := by simpa using x13
  have y14 : (du == 0) = true := by simpa using x14
  have z14 : (du != 0) = false := by simpa using x14
  go_enter Try.func9, Try.ntmps9
  go_wp2
  go_ret
  exact ⟨by rw [HF.out]; rfl, by repeat (first | exact below_alloc (Below.refl _ _) _ | refine below_set ?_ (Nat.le_refl _))⟩
set_option maxHeartbeats 4000000 in
set_option maxRecDepth 100000 in
theorem tksound_33 {id co st lv gn fr lf du tl : Int} (w : World) (h : TkOk ⟨id, co, st, lv, gn, fr, lf, du, tl⟩) (x0 : ¬ (co < 0)) (x1 : ¬ (16 ≤ co)) (x2 : ¬ (lv < 0)) (x3 : ¬ (6 ≤ lv)) (x4 : ¬ (tl < 0)) (x5 : ¬ (2147483648 < tl)) (x6 : ¬ (1152921504606846976 < gn)) (x7 : ¬ (st = 1)) (x8 : ¬ (st = 2)) (x9 : ¬ (st = 3)) (x10 : ¬ (st = 4)) : Calls Try.prog 9 #[.agg #[.int .u64 id, .int .i64 co, .int .i64 st, .int .i64 lv, .int .u64 gn, .int .i64 fr, .int .i64 lf, .int .i64 du, .int .i64 tl]] w fun e w' => e = .returned (.bool (tkB ⟨id, co, st, lv, gn, fr, lf, du, tl⟩)) ∧ Below w.heap.size w w' := by
  obtain ⟨⟨i0, i1⟩, ⟨a0, a1⟩, ⟨b0, b1⟩, ⟨c0, c1⟩, ⟨d0, d1⟩, ⟨e0, e1⟩, ⟨f0, f1⟩, ⟨g0, g1⟩, ⟨h0, h1⟩⟩ := h
  simp only at i0 i1 a0 a1 b0 b1 c0 c1 d0 d1 e0 e1 f0 f1 g0 g1 h0 h1
  have HF := Aside0.mk (tk_no (t := ⟨id, co, st, lv, gn, fr, lf, du, tl⟩) (by unfold tkS; simp only; omega))
  generalize tkB _ = R at HF ⊢
  have y0 : decide (co < 0) = false := decide_eq_false x0
  have u0 : decide (0 ≤ co) = true := decide_eq_true (by omega)
  have y1 : decide (16 ≤ co) = false := decide_eq_false x1
  have y2 : decide (lv < 0) = false := decide_eq_false x2
  have u2 : decide (0 ≤ lv) = true := decide_eq_true (by omega)
  have y3 : decide (6 ≤ lv) = false := decide_eq_false x3
  have y4 : decide (tl < 0) = false := decide_eq_false x4
  have u4 : decide (0 ≤ tl) = true := decide_eq_true (by omega)
  have y5 : decide (2147483648 < tl) = false := decide_eq_false x5
  have u5 : decide (tl ≤ 2147483648) = true := decide_eq_true (by omega)
  have y6 : decide (1152921504606846976 < gn) = false := decide_eq_false x6
  have u6 : decide (gn ≤ 1152921504606846976) = true := decide_eq_true (by omega)
  have y7 : (st == 1) = false := by simpa using x7
  have z7 : (st != 1) = true := by simpa using x7
  have y8 : (st == 2) = false := by simpa using x8
  have z8 : (st != 2) = true := by simpa using x8
  have y9 : (st == 3) = false := by simpa using x9
  have z9 : (st != 3) = true := by simpa using x9
  have y10 : (st == 4) = false := by simpa using x10
  have z10 : (st != 4) = true := by simpa using x10
  go_enter Try.func9, Try.ntmps9
  go_wp2
  go_ret
  exact ⟨by rw [HF.out]; rfl, by repeat (first | exact below_alloc (Below.refl _ _) _ | refine below_set ?_ (Nat.le_refl _))⟩
theorem tksound_any (t : Tk) (w : World) (h : TkOk t) : Calls Try.prog 9 #[.agg #[.int .u64 t.id, .int .i64 t.co, .int .i64 t.st, .int .i64 t.lv, .int .u64 t.gn, .int .i64 t.fr, .int .i64 t.lf, .int .i64 t.du, .int .i64 t.tl]] w fun e w' => e = .returned (.bool (tkB t)) ∧ Below w.heap.size w w' := by
  obtain ⟨id, co, st, lv, gn, fr, lf, du, tl⟩ := t
  by_cases x0 : co < 0
  · exact tksound_1 w h x0
  by_cases x1 : 16 ≤ co
  · exact tksound_2 w h x0 x1
  by_cases x2 : lv < 0
  · exact tksound_3 w h x0 x1 x2
  by_cases x3 : 6 ≤ lv
  · exact tksound_4 w h x0 x1 x2 x3
  by_cases x4 : tl < 0
  · exact tksound_5 w h x0 x1 x2 x3 x4
  by_cases x5 : 2147483648 < tl
  · exact tksound_6 w h x0 x1 x2 x3 x4 x5
  by_cases x6 : 1152921504606846976 < gn
  · exact tksound_7 w h x0 x1 x2 x3 x4 x5 x6
  by_cases x7 : st = 1
  · skip
    by_cases x8 : gn = 0
    · exact tksound_8 w h x0 x1 x2 x3 x4 x5 x6 x7 x8
    by_cases x9 : fr < 0
    · exact tksound_9 w h x0 x1 x2 x3 x4 x5 x6 x7 x8 x9
    by_cases x10 : 1125899906842624 < fr
    · exact tksound_10 w h x0 x1 x2 x3 x4 x5 x6 x7 x8 x9 x10
    by_cases x11 : du < 0
    · exact tksound_11 w h x0 x1 x2 x3 x4 x5 x6 x7 x8 x9 x10 x11
    by_cases x12 : 1125899906842624 < du
    · exact tksound_12 w h x0 x1 x2 x3 x4 x5 x6 x7 x8 x9 x10 x11 x12
    by_cases x13 : lf < 1
    · exact tksound_13 w h x0 x1 x2 x3 x4 x5 x6 x7 x8 x9 x10 x11 x12 x13
    by_cases x14 : lf ≤ du - fr
    rotate_left
    · exact tksound_14 w h x0 x1 x2 x3 x4 x5 x6 x7 x8 x9 x10 x11 x12 x13 x14
    exact tksound_15 w h x0 x1 x2 x3 x4 x5 x6 x7 x8 x9 x10 x11 x12 x13 x14
  by_cases x8 : st = 2
  · skip
    by_cases x9 : lf < 1
    · exact tksound_16 w h x0 x1 x2 x3 x4 x5 x6 x7 x8 x9
    by_cases x10 : 1125899906842624 < lf
    · exact tksound_17 w h x0 x1 x2 x3 x4 x5 x6 x7 x8 x9 x10
    by_cases x11 : fr < 0
    · exact tksound_18 w h x0 x1 x2 x3 x4 x5 x6 x7 x8 x9 x10 x11
    by_cases x12 : 1125899906842624 < fr
    · exact tksound_19 w h x0 x1 x2 x3 x4 x5 x6 x7 x8 x9 x10 x11 x12
    by_cases x13 : gn = 0
    rotate_left
    · exact tksound_20 w h x0 x1 x2 x3 x4 x5 x6 x7 x8 x9 x10 x11 x12 x13
    by_cases x14 : du = 0
    rotate_left
    · exact tksound_21 w h x0 x1 x2 x3 x4 x5 x6 x7 x8 x9 x10 x11 x12 x13 x14
    exact tksound_22 w h x0 x1 x2 x3 x4 x5 x6 x7 x8 x9 x10 x11 x12 x13 x14
  by_cases x9 : st = 3
  · skip
    by_cases x10 : gn = 0
    rotate_left
    · exact tksound_23 w h x0 x1 x2 x3 x4 x5 x6 x7 x8 x9 x10
    by_cases x11 : fr = 0
    rotate_left
    · exact tksound_24 w h x0 x1 x2 x3 x4 x5 x6 x7 x8 x9 x10 x11
    by_cases x12 : lf = 0
    rotate_left
    · exact tksound_25 w h x0 x1 x2 x3 x4 x5 x6 x7 x8 x9 x10 x11 x12
    by_cases x13 : du = 0
    rotate_left
    · exact tksound_26 w h x0 x1 x2 x3 x4 x5 x6 x7 x8 x9 x10 x11 x12 x13
    exact tksound_27 w h x0 x1 x2 x3 x4 x5 x6 x7 x8 x9 x10 x11 x12 x13
  by_cases x10 : st = 4
  · skip
    by_cases x11 : gn = 0
    rotate_left
    · exact tksound_28 w h x0 x1 x2 x3 x4 x5 x6 x7 x8 x9 x10 x11
    by_cases x12 : fr = 0
    rotate_left
    · exact tksound_29 w h x0 x1 x2 x3 x4 x5 x6 x7 x8 x9 x10 x11 x12
    by_cases x13 : lf = 0
    rotate_left
    · exact tksound_30 w h x0 x1 x2 x3 x4 x5 x6 x7 x8 x9 x10 x11 x12 x13
    by_cases x14 : du = 0
    rotate_left
    · exact tksound_31 w h x0 x1 x2 x3 x4 x5 x6 x7 x8 x9 x10 x11 x12 x13 x14
    exact tksound_32 w h x0 x1 x2 x3 x4 x5 x6 x7 x8 x9 x10 x11 x12 x13 x14
  exact tksound_33 w h x0 x1 x2 x3 x4 x5 x6 x7 x8 x9 x10
end Go.Proofs.Ytepldlnmeenlbaa.Own
namespace Go.Proofs.Ytepldlnmeenlbaa.Own
open Go.RowKit Go.Proofs Go.Proofs.YtepldlnmeenlbaaW.PrintWords Go.Proofs.YtepldlnmeenlbaaW.PrintLast Go.Proofs.YtepldlnmeenlbaaW.PrintMore Go.Proofs.Ytepldlnmeenlbaa.Base
variable {off : Int} {week closed : List S143} {cal re ba : Int} {ls : List S98}
structure Snd (off : Int) (week closed : List S143) (L next told : Int) (t : Tk) : Prop where
  id : t.id = 1
  co : t.co = 2
  lv : 0 ≤ t.lv ∧ t.lv < L
  tl : t.tl = told
  nx : 0 ≤ next ∧ next ≤ L
  st : (t.st = 1 ∧ next = t.lv ∧ (0 ≤ t.fr ∧ t.fr ≤ 1125899906842624) ∧ (0 ≤ t.du ∧ t.du ≤ 1125899906842624) ∧ 1 ≤ t.lf ∧ t.lf ≤ t.du - t.fr ∧ dueP off week closed t.fr t.lf = (t.du, 0)) ∨
    (t.st = 2 ∧ next = t.lv ∧ t.gn = 0 ∧ (1 ≤ t.lf ∧ t.lf ≤ 1125899906842624) ∧ (0 ≤ t.fr ∧ t.fr ≤ 1125899906842624) ∧ t.du = 0) ∨
    ((t.st = 3 ∨ t.st = 4) ∧ t.gn = 0 ∧ t.fr = 0 ∧ t.lf = 0 ∧ t.du = 0)
def genT (i : Int) (t : Tk) : Tk := { t with gn := if t.st = 1 then i + 1 else t.gn }
theorem Snd.sound {L next told i : Int} {t : Tk} (h : Snd off week closed L next told t) (hL : L ≤ 6) (hi : 0 ≤ i ∧ i ≤ 60) (ht : 0 ≤ told ∧ told ≤ 60) : tkS (genT i t) := by
  obtain ⟨h1, h2, ⟨h3, h4⟩, h5, h6, hs⟩ := h
  unfold tkS genT
  simp only
  rcases hs with ⟨s, x⟩ | ⟨s, x⟩ | ⟨s, x⟩
  · rw [if_pos s]; omega
  · rw [if_neg (by omega)]; omega
  · rw [if_neg (by omega)]; omega
theorem atS_ok (h : CalOk off week closed) {lv l now a b c d : Int} (hl : 1 ≤ l) (hd : atS off week closed lv l now = (a, b, c, d, 0)) : a = lv ∧ b = now ∧ c = l ∧ (0 ≤ now ∧ now ≤ 1125899906842624) ∧ (0 ≤ d ∧ d ≤ 1125899906842624) ∧ l ≤ d - now ∧ dueP off week closed b c = (d, 0) := by
  unfold atS at hd
  by_cases h0 : (dueP off week closed now l).2 = 0
  · rw [if_pos h0] at hd
    obtain ⟨i0, i1, _⟩ := dueP_inst (off := off) (week := week) (closed := closed) h0
    have hN := Nn_step h.week h.closed h.lo h.hi
    rcases dueP_spec h (a := now) (B := l) i0 i1 (by omega) with ⟨_, f1, f2, f3, _, _⟩ | ⟨_, _, f2⟩
    · have m := (hN.le (a := now) (b := (dueP off week closed now l).1) (by omega) (by omega) (by omega)).2
      injection hd with e1 e2
      injection e2 with e2 e3
      injection e3 with e3 e4
      injection e4 with e4 e5
      refine ⟨by omega, by omega, by omega, by omega, by omega, by omega, ?_⟩
      rw [← e2, ← e3, ← e4, ← h0]
    · omega
  · rw [if_neg h0] at hd
    injection hd with e1 e2
    injection e2 with e2 e3
    injection e3 with e3 e4
    injection e4 with e4 e5
    omega
theorem good_bd (hg : goodP cal ls re ba = true) (j : Nat) (hj : (j : Int) < ls.length) : 1 ≤ (rd_T98 ls (j : Int)).f0 := by
  obtain ⟨gg, gl⟩ := goodP_iff.1 hg
  exact (gl (rd_T98 ls (j : Int)) (by rw [rdL_at ls j (by omega)]; exact List.getElem_mem _)).1
theorem first_bd (h : CalOk off week closed) {now a b c d : Int} (hg : goodP cal ls re ba = true) (hd : firstP off week closed cal ls re ba now = (a, b, c, d, 0)) : a = 0 ∧ b = now ∧ 1 ≤ c ∧ (0 ≤ now ∧ now ≤ 1125899906842624) ∧ (0 ≤ d ∧ d ≤ 1125899906842624) ∧ c ≤ d - now ∧ 1 ≤ (ls.length : Int) ∧ (ls.length : Int) ≤ 6 ∧ dueP off week closed b c = (d, 0) := by
  obtain ⟨gg, _⟩ := goodP_iff.1 hg
  unfold firstP at hd
  rw [if_pos hg] at hd
  have hb := good_bd hg 0 (by omega)
  have := atS_ok h (by simpa using hb) hd
  have hb' : 1 ≤ (rd_T98 ls 0).f0 := by simpa using hb
  exact ⟨this.1, this.2.1, by omega, this.2.2.2.1, this.2.2.2.2.1, by omega, by omega, by omega, this.2.2.2.2.2.2⟩
theorem Snd.opened (h : CalOk off week closed) {now a b c d told gn tl : Int} (hg : goodP cal ls re ba = true) (hd : firstP off week closed cal ls re ba now = (a, b, c, d, 0)) (ht : tl = told) : Snd off week closed ls.length 0 told ⟨1, 2, 1, a, gn, b, c, d, tl⟩ := by
  obtain ⟨e0, e1, e2, e3, e4, e5, e6, e7, e8⟩ := first_bd h hg hd
  exact ⟨rfl, rfl, by simp only; omega, ht, by omega, .inl ⟨rfl, by simp only; omega, by simp only; omega, by simp only; omega, by simp only; omega, by simp only; omega, e8⟩⟩
theorem Snd.paused (h : CalOk off week closed) {L next told now a b c d gn : Int} {t : Tk} (hs : Snd off week closed L next told t) (s1 : t.st = 1) (hd : standP off week closed t.lv t.fr t.lf t.du now = (a, b, c, d, 0)) : Snd off week closed L next told ⟨t.id, t.co, 2, a, 0, b, c, d, t.tl⟩ := by
  obtain ⟨h1, h2, ⟨h3, h4⟩, h5, h6, hx⟩ := hs
  have hx' : next = t.lv ∧ (0 ≤ t.fr ∧ t.fr ≤ 1125899906842624) ∧ (0 ≤ t.du ∧ t.du ≤ 1125899906842624) ∧ 1 ≤ t.lf ∧ t.lf ≤ t.du - t.fr ∧ dueP off week closed t.fr t.lf = (t.du, 0) := by
    rcases hx with ⟨s, x⟩ | ⟨s, x⟩ | ⟨s, x⟩ <;> first | exact x | omega
  obtain ⟨g1, g2, g3, g4, g5, g6⟩ := hx'
  have hN := Nn_step h.week h.closed h.lo h.hi
  rcases dueP_spec h (a := t.fr) (B := t.lf) (by omega) (by omega) (by omega) with ⟨_, f1, f2, f3, _, f5⟩ | ⟨_, _, f2⟩
  · obtain ⟨k1, k2, _⟩ := f5 (by omega)
    have g7 : (dueP off week closed t.fr t.lf).1 = t.du := by rw [g6]
    rw [g7] at f1 f2 f3 k1 k2
    unfold standP restR at hd
    rw [if_neg (by omega)] at hd
    by_cases hn : t.du ≤ now
    · rw [if_pos hn] at hd
      injection hd with e1 e2; injection e2 with e2 e3; injection e3 with e3 e4; injection e4 with e4 e5
      omega
    · rw [if_neg hn, if_neg (show ¬ t.lf < 0 by omega)] at hd
      by_cases hi : 0 ≤ t.fr ∧ t.fr ≤ now ∧ now ≤ 1125899906842624
      · rw [if_pos hi, if_pos rfl] at hd
        have he := elap_Nn h.week h.closed h.lo h.hi hi.1 hi.2.1 hi.2.2
        have m1 := (hN.le (a := now) (b := t.du - 1) (by omega) (by omega) (by omega)).1
        have m2 := (hN.le (a := t.fr) (b := now) (by omega) (by omega) (by omega)).1
        injection hd with e1 e2; injection e2 with e2 e3; injection e3 with e3 e4; injection e4 with e4 e5
        unfold mx at e3
        refine ⟨h1, h2, by simp only; omega, h5, h6, .inr (.inl ⟨rfl, by simp only; omega, rfl, ?_, by simp only; omega, by simp only; omega⟩)⟩
        simp only
        split at e3 <;> omega
      · rw [if_neg hi, if_neg (by show ¬ (2 : Int) = 0; omega)] at hd
        injection hd with e1 e2; injection e2 with e2 e3; injection e3 with e3 e4; injection e4 with e4 e5
        cases e5
  · rw [g6] at f2
    omega
theorem Snd.resumed (h : CalOk off week closed) {L next told now a b c d : Int} {t : Tk} (hs : Snd off week closed L next told t) (s2 : t.st = 2) (hd : goP off week closed t.lv t.lf t.du now = (a, b, c, d, 0)) : Snd off week closed L next told ⟨t.id, t.co, 1, a, 0, b, c, d, t.tl⟩ := by
  obtain ⟨h1, h2, ⟨h3, h4⟩, h5, h6, hx⟩ := hs
  have hx' : next = t.lv ∧ t.gn = 0 ∧ (1 ≤ t.lf ∧ t.lf ≤ 1125899906842624) ∧ (0 ≤ t.fr ∧ t.fr ≤ 1125899906842624) ∧ t.du = 0 := by
    rcases hx with ⟨s, x⟩ | ⟨s, x⟩ | ⟨s, x⟩ <;> first | exact x | omega
  unfold goP at hd
  rw [if_neg (by omega), if_neg (by omega)] at hd
  obtain ⟨e0, e1, e2, e3, e4, e5, e6⟩ := atS_ok h (by omega) hd
  exact ⟨h1, h2, by simp only; omega, h5, h6, .inl ⟨rfl, by simp only; omega, by simp only; omega, by simp only; omega, by simp only; omega, by simp only; omega, e6⟩⟩
theorem Snd.resolved {L next told : Int} {t : Tk} (hs : Snd off week closed L next told t) : Snd off week closed L next told ⟨t.id, t.co, 4, t.lv, 0, 0, 0, 0, t.tl⟩ :=
  ⟨hs.id, hs.co, hs.lv, hs.tl, hs.nx, .inr (.inr ⟨.inr rfl, rfl, rfl, rfl, rfl⟩)⟩
theorem Snd.reopened (h : CalOk off week closed) {next told now a b c d : Int} {t : Tk} (hs : Snd off week closed ls.length next told t) (hg : goodP cal ls re ba = true) (hd : firstP off week closed cal ls re ba now = (a, b, c, d, 0)) : Snd off week closed ls.length 0 told ⟨t.id, t.co, 1, a, 0, b, c, d, t.tl⟩ := by
  have := Snd.opened (gn := 0) h hg hd hs.tl
  rw [hs.id, hs.co]; exact this
theorem Snd.spent {L next told : Int} {t : Tk} (hs : Snd off week closed L next told t) (s1 : t.st = 1) : Snd off week closed L (next + 1) (told + 1) ⟨t.id, t.co, 3, t.lv, 0, 0, 0, 0, t.tl + 1⟩ := by
  obtain ⟨h1, h2, ⟨h3, h4⟩, h5, h6, hx⟩ := hs
  have hx' : next = t.lv := by rcases hx with ⟨s, x⟩ | ⟨s, x⟩ | ⟨s, x⟩ <;> first | exact x.1 | omega
  exact ⟨h1, h2, ⟨h3, h4⟩, by simp only; omega, by omega, .inr (.inr ⟨.inl rfl, rfl, rfl, rfl, rfl⟩)⟩
theorem Snd.fired (h : CalOk off week closed) {next told now a b c d e : Int} {t : Tk} (hs : Snd off week closed ls.length next told t) (s1 : t.st = 1) (hg : goodP cal ls re ba = true) (hd : nextP off week closed cal ls re ba t.lv now = (a, b, c, d, e)) (hm : moreP off week closed cal ls re ba t.lv now = true) : Snd off week closed ls.length (next + 1) (told + 1) ⟨t.id, t.co, 1, a, 0, b, c, d, t.tl + 1⟩ ∧ a = t.lv + 1 := by
  obtain ⟨h1, h2, ⟨h3, h4⟩, h5, h6, hx⟩ := hs
  have hx' : next = t.lv := by rcases hx with ⟨s, x⟩ | ⟨s, x⟩ | ⟨s, x⟩ <;> first | exact x.1 | omega
  unfold moreP at hm
  rw [hd] at hm
  simp only [Bool.and_eq_true, decide_eq_true_eq] at hm
  obtain ⟨rfl, hl⟩ := hm
  unfold nextP at hd
  rw [if_pos ⟨hg, h3, h4⟩, if_neg hl] at hd
  have hb := good_bd hg (t.lv.toNat + 1) (by omega)
  rw [show ((t.lv.toNat + 1 : Nat) : Int) = t.lv + 1 by omega] at hb
  obtain ⟨e0, e1, e2, e3, e4, e5, e6⟩ := atS_ok h hb hd
  exact ⟨⟨h1, h2, by simp only; omega, by simp only; omega, by omega, .inl ⟨rfl, by simp only; omega, by simp only; omega, by simp only; omega, by simp only; omega, by simp only; omega, e6⟩⟩, by omega⟩
end Go.Proofs.Ytepldlnmeenlbaa.Own
namespace Go.Proofs.Ytepldlnmeenlbaa.Own
open Go.RowKit Go.Proofs Go.Proofs.YtepldlnmeenlbaaW.PrintWords Go.Proofs.YtepldlnmeenlbaaW.PrintLast Go.Proofs.YtepldlnmeenlbaaW.PrintMore Go.Proofs.Ytepldlnmeenlbaa.Base
variable {A : Option Addr} {k : Nat} {ls : List S98}
set_option maxHeartbeats 4000000 in
set_option maxRecDepth 100000 in
theorem ahead_1 (id co lv gn fr lf du tl cal re ba : Int) (w : World) (l0 : 0 ≤ lv) (l1 : lv < ls.length) (hL : ls.length ≤ 6) :
    Calls Try.prog 29 #[.agg #[.int .u64 id, .int .i64 co, .int .i64 1, .int .i64 lv, .int .u64 gn, .int .i64 fr, .int .i64 lf, .int .i64 du, .int .i64 tl], .agg #[.int .i64 cal, .slice A ls.length k, .int .i64 re, .int .i64 ba]] w fun e w' => e = .returned (.int .i64 ((ls.length : Int) - lv)) ∧ Below w.heap.size w w' := by
  have f0_ : decide (lv < 0) = false := decide_eq_false (by omega)
  have hmax : ((ls.length : Int) - lv < 0) = False := eq_false (by omega)
  have HB_1 : Aside0 (Below w.heap.size w ((w.alloc (.cells #[.int .u64 id, .int .i64 co, .int .i64 1, .int .i64 lv, .int .u64 gn, .int .i64 fr, .int .i64 lf, .int .i64 du, .int .i64 tl] 24)).alloc (.cells #[.int .i64 cal, .slice A ls.length k, .int .i64 re, .int .i64 ba] 49))) := ⟨(below_alloc (below_alloc (Below.refl w.heap.size w) (.cells #[.int .u64 id, .int .i64 co, .int .i64 1, .int .i64 lv, .int .u64 gn, .int .i64 fr, .int .i64 lf, .int .i64 du, .int .i64 tl] 24)) (.cells #[.int .i64 cal, .slice A ls.length k, .int .i64 re, .int .i64 ba] 49))⟩
  have hs_1 : w.heap.size ≤ ((w.alloc (.cells #[.int .u64 id, .int .i64 co, .int .i64 1, .int .i64 lv, .int .u64 gn, .int .i64 fr, .int .i64 lf, .int .i64 du, .int .i64 tl] 24)).alloc (.cells #[.int .i64 cal, .slice A ls.length k, .int .i64 re, .int .i64 ba] 49)).heap.size := HB_1.out.size
  have Bt_1 : Aside0 (((w.alloc (.cells #[.int .u64 id, .int .i64 co, .int .i64 1, .int .i64 lv, .int .u64 gn, .int .i64 fr, .int .i64 lf, .int .i64 du, .int .i64 tl] 24)).alloc (.cells #[.int .i64 cal, .slice A ls.length k, .int .i64 re, .int .i64 ba] 49)).heap[w.heap.size]? = some (.cells #[.int .u64 id, .int .i64 co, .int .i64 1, .int .i64 lv, .int .u64 gn, .int .i64 fr, .int .i64 lf, .int .i64 du, .int .i64 tl] 24 (0, 0))) := ⟨(blk_alloc (blk_new w _) _)⟩
  have Bq_1 : Aside0 (((w.alloc (.cells #[.int .u64 id, .int .i64 co, .int .i64 1, .int .i64 lv, .int .u64 gn, .int .i64 fr, .int .i64 lf, .int .i64 du, .int .i64 tl] 24)).alloc (.cells #[.int .i64 cal, .slice A ls.length k, .int .i64 re, .int .i64 ba] 49)).heap[w.heap.size + 1]? = some (.cells #[.int .i64 cal, .slice A ls.length k, .int .i64 re, .int .i64 ba] 49 (0, 0))) := ⟨(by simpa using blk_new (w.alloc (.cells #[.int .u64 id, .int .i64 co, .int .i64 1, .int .i64 lv, .int .u64 gn, .int .i64 fr, .int .i64 lf, .int .i64 du, .int .i64 tl] 24)) (.cells #[.int .i64 cal, .slice A ls.length k, .int .i64 re, .int .i64 ba] 49))⟩
  have hz_1 : w.heap.size + 1 < ((w.alloc (.cells #[.int .u64 id, .int .i64 co, .int .i64 1, .int .i64 lv, .int .u64 gn, .int .i64 fr, .int .i64 lf, .int .i64 du, .int .i64 tl] 24)).alloc (.cells #[.int .i64 cal, .slice A ls.length k, .int .i64 re, .int .i64 ba] 49)).heap.size := blk_lt Bq_1.out
  go_enter Try.func29, Try.ntmps29
  go_upto_region 1 with fail
  generalize ((w.alloc (.cells #[.int .u64 id, .int .i64 co, .int .i64 1, .int .i64 lv, .int .u64 gn, .int .i64 fr, .int .i64 lf, .int .i64 du, .int .i64 tl] 24)).alloc (.cells #[.int .i64 cal, .slice A ls.length k, .int .i64 re, .int .i64 ba] 49)) = w1 at HB_1 hs_1 Bt_1 Bq_1 hz_1 ⊢
  have dt2 : w1.cell? ⟨w.heap.size, 2, none⟩ = some (.int .i64 1) := (blk_cell Bt_1.out 2).trans rfl
  have dt3 : w1.cell? ⟨w.heap.size, 3, none⟩ = some (.int .i64 lv) := (blk_cell Bt_1.out 3).trans rfl
  have dq1 : w1.cell? ⟨w.heap.size + 1, 1, none⟩ = some (.slice A ls.length k) := (blk_cell Bq_1.out 1).trans rfl
  go_wp2
  go_ret
  exact ⟨by first | rfl | (congr 2; simp [mx]; omega), HB_1.out⟩
set_option maxHeartbeats 4000000 in
set_option maxRecDepth 100000 in
theorem ahead_2 (id co lv gn fr lf du tl cal re ba : Int) (w : World) (l0 : 0 ≤ lv) (l1 : lv < ls.length) (hL : ls.length ≤ 6) :
    Calls Try.prog 29 #[.agg #[.int .u64 id, .int .i64 co, .int .i64 2, .int .i64 lv, .int .u64 gn, .int .i64 fr, .int .i64 lf, .int .i64 du, .int .i64 tl], .agg #[.int .i64 cal, .slice A ls.length k, .int .i64 re, .int .i64 ba]] w fun e w' => e = .returned (.int .i64 ((ls.length : Int) - lv)) ∧ Below w.heap.size w w' := by
  have f0_ : decide (lv < 0) = false := decide_eq_false (by omega)
  have hmax : ((ls.length : Int) - lv < 0) = False := eq_false (by omega)
  have HB_1 : Aside0 (Below w.heap.size w ((w.alloc (.cells #[.int .u64 id, .int .i64 co, .int .i64 2, .int .i64 lv, .int .u64 gn, .int .i64 fr, .int .i64 lf, .int .i64 du, .int .i64 tl] 24)).alloc (.cells #[.int .i64 cal, .slice A ls.length k, .int .i64 re, .int .i64 ba] 49))) := ⟨(below_alloc (below_alloc (Below.refl w.heap.size w) (.cells #[.int .u64 id, .int .i64 co, .int .i64 2, .int .i64 lv, .int .u64 gn, .int .i64 fr, .int .i64 lf, .int .i64 du, .int .i64 tl] 24)) (.cells #[.int .i64 cal, .slice A ls.length k, .int .i64 re, .int .i64 ba] 49))⟩
  have hs_1 : w.heap.size ≤ ((w.alloc (.cells #[.int .u64 id, .int .i64 co, .int .i64 2, .int .i64 lv, .int .u64 gn, .int .i64 fr, .int .i64 lf, .int .i64 du, .int .i64 tl] 24)).alloc (.cells #[.int .i64 cal, .slice A ls.length k, .int .i64 re, .int .i64 ba] 49)).heap.size := HB_1.out.size
  have Bt_1 : Aside0 (((w.alloc (.cells #[.int .u64 id, .int .i64 co, .int .i64 2, .int .i64 lv, .int .u64 gn, .int .i64 fr, .int .i64 lf, .int .i64 du, .int .i64 tl] 24)).alloc (.cells #[.int .i64 cal, .slice A ls.length k, .int .i64 re, .int .i64 ba] 49)).heap[w.heap.size]? = some (.cells #[.int .u64 id, .int .i64 co, .int .i64 2, .int .i64 lv, .int .u64 gn, .int .i64 fr, .int .i64 lf, .int .i64 du, .int .i64 tl] 24 (0, 0))) := ⟨(blk_alloc (blk_new w _) _)⟩
  have Bq_1 : Aside0 (((w.alloc (.cells #[.int .u64 id, .int .i64 co, .int .i64 2, .int .i64 lv, .int .u64 gn, .int .i64 fr, .int .i64 lf, .int .i64 du, .int .i64 tl] 24)).alloc (.cells #[.int .i64 cal, .slice A ls.length k, .int .i64 re, .int .i64 ba] 49)).heap[w.heap.size + 1]? = some (.cells #[.int .i64 cal, .slice A ls.length k, .int .i64 re, .int .i64 ba] 49 (0, 0))) := ⟨(by simpa using blk_new (w.alloc (.cells #[.int .u64 id, .int .i64 co, .int .i64 2, .int .i64 lv, .int .u64 gn, .int .i64 fr, .int .i64 lf, .int .i64 du, .int .i64 tl] 24)) (.cells #[.int .i64 cal, .slice A ls.length k, .int .i64 re, .int .i64 ba] 49))⟩
  have hz_1 : w.heap.size + 1 < ((w.alloc (.cells #[.int .u64 id, .int .i64 co, .int .i64 2, .int .i64 lv, .int .u64 gn, .int .i64 fr, .int .i64 lf, .int .i64 du, .int .i64 tl] 24)).alloc (.cells #[.int .i64 cal, .slice A ls.length k, .int .i64 re, .int .i64 ba] 49)).heap.size := blk_lt Bq_1.out
  go_enter Try.func29, Try.ntmps29
  go_upto_region 1 with fail
  generalize ((w.alloc (.cells #[.int .u64 id, .int .i64 co, .int .i64 2, .int .i64 lv, .int .u64 gn, .int .i64 fr, .int .i64 lf, .int .i64 du, .int .i64 tl] 24)).alloc (.cells #[.int .i64 cal, .slice A ls.length k, .int .i64 re, .int .i64 ba] 49)) = w1 at HB_1 hs_1 Bt_1 Bq_1 hz_1 ⊢
  have dt2 : w1.cell? ⟨w.heap.size, 2, none⟩ = some (.int .i64 2) := (blk_cell Bt_1.out 2).trans rfl
  have dt3 : w1.cell? ⟨w.heap.size, 3, none⟩ = some (.int .i64 lv) := (blk_cell Bt_1.out 3).trans rfl
  have dq1 : w1.cell? ⟨w.heap.size + 1, 1, none⟩ = some (.slice A ls.length k) := (blk_cell Bq_1.out 1).trans rfl
  go_wp2
  go_ret
  exact ⟨by first | rfl | (congr 2; simp [mx]; omega), HB_1.out⟩
set_option maxHeartbeats 4000000 in
set_option maxRecDepth 100000 in
theorem ahead_0 (id co st lv gn fr lf du tl cal re ba : Int) (w : World) (h1 : ¬ st = 1) (h2 : ¬ st = 2) :
    Calls Try.prog 29 #[.agg #[.int .u64 id, .int .i64 co, .int .i64 st, .int .i64 lv, .int .u64 gn, .int .i64 fr, .int .i64 lf, .int .i64 du, .int .i64 tl], .agg #[.int .i64 cal, .slice A ls.length k, .int .i64 re, .int .i64 ba]] w fun e w' => e = .returned (.int .i64 0) ∧ Below w.heap.size w w' := by
  have f1_ : (st != 1) = true := bne_iff_ne.mpr h1
  have f2_ : (st != 2) = true := bne_iff_ne.mpr h2
  clear h1 h2
  have HB_1 : Aside0 (Below w.heap.size w ((w.alloc (.cells #[.int .u64 id, .int .i64 co, .int .i64 st, .int .i64 lv, .int .u64 gn, .int .i64 fr, .int .i64 lf, .int .i64 du, .int .i64 tl] 24)).alloc (.cells #[.int .i64 cal, .slice A ls.length k, .int .i64 re, .int .i64 ba] 49))) := ⟨(below_alloc (below_alloc (Below.refl w.heap.size w) (.cells #[.int .u64 id, .int .i64 co, .int .i64 st, .int .i64 lv, .int .u64 gn, .int .i64 fr, .int .i64 lf, .int .i64 du, .int .i64 tl] 24)) (.cells #[.int .i64 cal, .slice A ls.length k, .int .i64 re, .int .i64 ba] 49))⟩
  have hs_1 : w.heap.size ≤ ((w.alloc (.cells #[.int .u64 id, .int .i64 co, .int .i64 st, .int .i64 lv, .int .u64 gn, .int .i64 fr, .int .i64 lf, .int .i64 du, .int .i64 tl] 24)).alloc (.cells #[.int .i64 cal, .slice A ls.length k, .int .i64 re, .int .i64 ba] 49)).heap.size := HB_1.out.size
  have Bt_1 : Aside0 (((w.alloc (.cells #[.int .u64 id, .int .i64 co, .int .i64 st, .int .i64 lv, .int .u64 gn, .int .i64 fr, .int .i64 lf, .int .i64 du, .int .i64 tl] 24)).alloc (.cells #[.int .i64 cal, .slice A ls.length k, .int .i64 re, .int .i64 ba] 49)).heap[w.heap.size]? = some (.cells #[.int .u64 id, .int .i64 co, .int .i64 st, .int .i64 lv, .int .u64 gn, .int .i64 fr, .int .i64 lf, .int .i64 du, .int .i64 tl] 24 (0, 0))) := ⟨(blk_alloc (blk_new w _) _)⟩
  have Bq_1 : Aside0 (((w.alloc (.cells #[.int .u64 id, .int .i64 co, .int .i64 st, .int .i64 lv, .int .u64 gn, .int .i64 fr, .int .i64 lf, .int .i64 du, .int .i64 tl] 24)).alloc (.cells #[.int .i64 cal, .slice A ls.length k, .int .i64 re, .int .i64 ba] 49)).heap[w.heap.size + 1]? = some (.cells #[.int .i64 cal, .slice A ls.length k, .int .i64 re, .int .i64 ba] 49 (0, 0))) := ⟨(by simpa using blk_new (w.alloc (.cells #[.int .u64 id, .int .i64 co, .int .i64 st, .int .i64 lv, .int .u64 gn, .int .i64 fr, .int .i64 lf, .int .i64 du, .int .i64 tl] 24)) (.cells #[.int .i64 cal, .slice A ls.length k, .int .i64 re, .int .i64 ba] 49))⟩
  have hz_1 : w.heap.size + 1 < ((w.alloc (.cells #[.int .u64 id, .int .i64 co, .int .i64 st, .int .i64 lv, .int .u64 gn, .int .i64 fr, .int .i64 lf, .int .i64 du, .int .i64 tl] 24)).alloc (.cells #[.int .i64 cal, .slice A ls.length k, .int .i64 re, .int .i64 ba] 49)).heap.size := blk_lt Bq_1.out
  go_enter Try.func29, Try.ntmps29
  go_upto_region 1 with fail
  generalize ((w.alloc (.cells #[.int .u64 id, .int .i64 co, .int .i64 st, .int .i64 lv, .int .u64 gn, .int .i64 fr, .int .i64 lf, .int .i64 du, .int .i64 tl] 24)).alloc (.cells #[.int .i64 cal, .slice A ls.length k, .int .i64 re, .int .i64 ba] 49)) = w1 at HB_1 hs_1 Bt_1 Bq_1 hz_1 ⊢
  have dt2 : w1.cell? ⟨w.heap.size, 2, none⟩ = some (.int .i64 st) := (blk_cell Bt_1.out 2).trans rfl
  have dt3 : w1.cell? ⟨w.heap.size, 3, none⟩ = some (.int .i64 lv) := (blk_cell Bt_1.out 3).trans rfl
  have dq1 : w1.cell? ⟨w.heap.size + 1, 1, none⟩ = some (.slice A ls.length k) := (blk_cell Bq_1.out 1).trans rfl
  go_wp2
  go_ret
  exact ⟨by first | rfl | (congr 2; simp [mx]; omega), HB_1.out⟩
set_option maxHeartbeats 4000000 in
set_option maxRecDepth 100000 in
theorem resolve_1 (id co lv gn fr lf du tl : Int) (w : World) :
    Calls Try.prog 25 #[.agg #[.int .u64 id, .int .i64 co, .int .i64 1, .int .i64 lv, .int .u64 gn, .int .i64 fr, .int .i64 lf, .int .i64 du, .int .i64 tl]] w fun e w' => e = .returned (.tuple #[.agg #[.int .u64 id, .int .i64 co, .int .i64 4, .int .i64 lv, .int .u64 0, .int .i64 0, .int .i64 0, .int .i64 0, .int .i64 tl], .int .i64 0]) ∧ Below w.heap.size w w' := by
  have HB_1 : Aside0 (Below w.heap.size w ((w.alloc (.cells #[.int .u64 id, .int .i64 co, .int .i64 1, .int .i64 lv, .int .u64 gn, .int .i64 fr, .int .i64 lf, .int .i64 du, .int .i64 tl] 24)).alloc (.cells #[.int .u64 0, .int .i64 0, .int .i64 0, .int .i64 0, .int .u64 0, .int .i64 0, .int .i64 0, .int .i64 0, .int .i64 0] 24))) := ⟨(below_alloc (below_alloc (Below.refl w.heap.size w) (.cells #[.int .u64 id, .int .i64 co, .int .i64 1, .int .i64 lv, .int .u64 gn, .int .i64 fr, .int .i64 lf, .int .i64 du, .int .i64 tl] 24)) (.cells #[.int .u64 0, .int .i64 0, .int .i64 0, .int .i64 0, .int .u64 0, .int .i64 0, .int .i64 0, .int .i64 0, .int .i64 0] 24))⟩
  have hs_1 : w.heap.size ≤ ((w.alloc (.cells #[.int .u64 id, .int .i64 co, .int .i64 1, .int .i64 lv, .int .u64 gn, .int .i64 fr, .int .i64 lf, .int .i64 du, .int .i64 tl] 24)).alloc (.cells #[.int .u64 0, .int .i64 0, .int .i64 0, .int .i64 0, .int .u64 0, .int .i64 0, .int .i64 0, .int .i64 0, .int .i64 0] 24)).heap.size := HB_1.out.size
  have Bt_1 : Aside0 (((w.alloc (.cells #[.int .u64 id, .int .i64 co, .int .i64 1, .int .i64 lv, .int .u64 gn, .int .i64 fr, .int .i64 lf, .int .i64 du, .int .i64 tl] 24)).alloc (.cells #[.int .u64 0, .int .i64 0, .int .i64 0, .int .i64 0, .int .u64 0, .int .i64 0, .int .i64 0, .int .i64 0, .int .i64 0] 24)).heap[w.heap.size]? = some (.cells #[.int .u64 id, .int .i64 co, .int .i64 1, .int .i64 lv, .int .u64 gn, .int .i64 fr, .int .i64 lf, .int .i64 du, .int .i64 tl] 24 (0, 0))) := ⟨(blk_alloc (blk_new w _) _)⟩
  have Bz_1 : Aside0 (((w.alloc (.cells #[.int .u64 id, .int .i64 co, .int .i64 1, .int .i64 lv, .int .u64 gn, .int .i64 fr, .int .i64 lf, .int .i64 du, .int .i64 tl] 24)).alloc (.cells #[.int .u64 0, .int .i64 0, .int .i64 0, .int .i64 0, .int .u64 0, .int .i64 0, .int .i64 0, .int .i64 0, .int .i64 0] 24)).heap[w.heap.size + 1]? = some (.cells #[.int .u64 0, .int .i64 0, .int .i64 0, .int .i64 0, .int .u64 0, .int .i64 0, .int .i64 0, .int .i64 0, .int .i64 0] 24 (0, 0))) := ⟨(by simpa using blk_new (w.alloc (.cells #[.int .u64 id, .int .i64 co, .int .i64 1, .int .i64 lv, .int .u64 gn, .int .i64 fr, .int .i64 lf, .int .i64 du, .int .i64 tl] 24)) (.cells #[.int .u64 0, .int .i64 0, .int .i64 0, .int .i64 0, .int .u64 0, .int .i64 0, .int .i64 0, .int .i64 0, .int .i64 0] 24))⟩
  have hz_1 : w.heap.size + 1 < ((w.alloc (.cells #[.int .u64 id, .int .i64 co, .int .i64 1, .int .i64 lv, .int .u64 gn, .int .i64 fr, .int .i64 lf, .int .i64 du, .int .i64 tl] 24)).alloc (.cells #[.int .u64 0, .int .i64 0, .int .i64 0, .int .i64 0, .int .u64 0, .int .i64 0, .int .i64 0, .int .i64 0, .int .i64 0] 24)).heap.size := blk_lt Bz_1.out
  go_enter Try.func25, Try.ntmps25
  go_wp2_with fail
  generalize ((w.alloc (.cells #[.int .u64 id, .int .i64 co, .int .i64 1, .int .i64 lv, .int .u64 gn, .int .i64 fr, .int .i64 lf, .int .i64 du, .int .i64 tl] 24)).alloc (.cells #[.int .u64 0, .int .i64 0, .int .i64 0, .int .i64 0, .int .u64 0, .int .i64 0, .int .i64 0, .int .i64 0, .int .i64 0] 24)) = w1 at HB_1 hs_1 Bt_1 Bz_1 hz_1 ⊢
  obtain ⟨dt0, dt1, dt2, dt3, dt4, dt5, dt6, dt7, dt8⟩ := cells9 Bt_1.out
  go_wp2_with (go_at_call 57; with_reducible refine (ticket_with.calls id co 1 lv gn fr lf du tl 4 lv 0 0 0 0 id co 4 lv 0 0 0 0 tl 0 w1 rfl).mono ?_; rintro e w2 ⟨rfl, q1⟩; clear dt0 dt1 dt2 dt3 dt4 dt5 dt6 dt7 dt8; have HB_2 := Aside0.mk (below_step HB_1.out q1); have hs_2 : w1.heap.size ≤ w2.heap.size := q1.size; have Bt_2 := Aside0.mk (blk_below Bt_1.out q1); have Bz_2 := Aside0.mk (blk_below Bz_1.out q1); clear q1; obtain ⟨dz0, dz1, dz2, dz3, dz4, dz5, dz6, dz7, dz8⟩ := cells9 Bz_2.out; have fz := blk_frozen Bz_2.out)
  clear dz0 dz1 dz2 dz3 dz4 dz5 dz6 dz7 dz8 fz
  have Bz_3 := Aside0.mk (blk_put (cs' := #[.int .u64 id, .int .i64 co, .int .i64 4, .int .i64 lv, .int .u64 0, .int .i64 0, .int .i64 0, .int .i64 0, .int .i64 tl]) (blk_put (cs' := #[.int .u64 id, .int .i64 co, .int .i64 4, .int .i64 lv, .int .u64 0, .int .i64 0, .int .i64 0, .int .i64 0, .int .i64 0]) (blk_put (cs' := #[.int .u64 id, .int .i64 co, .int .i64 4, .int .i64 lv, .int .u64 0, .int .i64 0, .int .i64 0, .int .i64 0, .int .i64 0]) (blk_put (cs' := #[.int .u64 id, .int .i64 co, .int .i64 4, .int .i64 lv, .int .u64 0, .int .i64 0, .int .i64 0, .int .i64 0, .int .i64 0]) (blk_put (cs' := #[.int .u64 id, .int .i64 co, .int .i64 4, .int .i64 lv, .int .u64 0, .int .i64 0, .int .i64 0, .int .i64 0, .int .i64 0]) (blk_put (cs' := #[.int .u64 id, .int .i64 co, .int .i64 4, .int .i64 lv, .int .u64 0, .int .i64 0, .int .i64 0, .int .i64 0, .int .i64 0]) (blk_put (cs' := #[.int .u64 id, .int .i64 co, .int .i64 4, .int .i64 0, .int .u64 0, .int .i64 0, .int .i64 0, .int .i64 0, .int .i64 0]) (blk_put (cs' := #[.int .u64 id, .int .i64 co, .int .i64 0, .int .i64 0, .int .u64 0, .int .i64 0, .int .i64 0, .int .i64 0, .int .i64 0]) (blk_put (cs' := #[.int .u64 id, .int .i64 0, .int .i64 0, .int .i64 0, .int .u64 0, .int .i64 0, .int .i64 0, .int .i64 0, .int .i64 0]) Bz_2.out 0 (.int .u64 id) rfl) 1 (.int .i64 co) rfl) 2 (.int .i64 4) rfl) 3 (.int .i64 lv) rfl) 4 (.int .u64 0) rfl) 5 (.int .i64 0) rfl) 6 (.int .i64 0) rfl) 7 (.int .i64 0) rfl) 8 (.int .i64 tl) rfl)
  have HB_3 := Aside0.mk (below_set (g := w.heap.size + 1) (j := 8) (v := .int .i64 tl) (below_set (g := w.heap.size + 1) (j := 7) (v := .int .i64 0) (below_set (g := w.heap.size + 1) (j := 6) (v := .int .i64 0) (below_set (g := w.heap.size + 1) (j := 5) (v := .int .i64 0) (below_set (g := w.heap.size + 1) (j := 4) (v := .int .u64 0) (below_set (g := w.heap.size + 1) (j := 3) (v := .int .i64 lv) (below_set (g := w.heap.size + 1) (j := 2) (v := .int .i64 4) (below_set (g := w.heap.size + 1) (j := 1) (v := .int .i64 co) (below_set (g := w.heap.size + 1) (j := 0) (v := .int .u64 id) HB_2.out (by omega)) (by omega)) (by omega)) (by omega)) (by omega)) (by omega)) (by omega)) (by omega)) (by omega))
  have hs_3 : w2.heap.size ≤ (((((((((w2.setCell ⟨w.heap.size + 1, 0, none⟩ (.int .u64 id)).setCell ⟨w.heap.size + 1, 1, none⟩ (.int .i64 co)).setCell ⟨w.heap.size + 1, 2, none⟩ (.int .i64 4)).setCell ⟨w.heap.size + 1, 3, none⟩ (.int .i64 lv)).setCell ⟨w.heap.size + 1, 4, none⟩ (.int .u64 0)).setCell ⟨w.heap.size + 1, 5, none⟩ (.int .i64 0)).setCell ⟨w.heap.size + 1, 6, none⟩ (.int .i64 0)).setCell ⟨w.heap.size + 1, 7, none⟩ (.int .i64 0)).setCell ⟨w.heap.size + 1, 8, none⟩ (.int .i64 tl)).heap.size := by simp
  have Bt_3 : Aside0 ((((((((((w2.setCell ⟨w.heap.size + 1, 0, none⟩ (.int .u64 id)).setCell ⟨w.heap.size + 1, 1, none⟩ (.int .i64 co)).setCell ⟨w.heap.size + 1, 2, none⟩ (.int .i64 4)).setCell ⟨w.heap.size + 1, 3, none⟩ (.int .i64 lv)).setCell ⟨w.heap.size + 1, 4, none⟩ (.int .u64 0)).setCell ⟨w.heap.size + 1, 5, none⟩ (.int .i64 0)).setCell ⟨w.heap.size + 1, 6, none⟩ (.int .i64 0)).setCell ⟨w.heap.size + 1, 7, none⟩ (.int .i64 0)).setCell ⟨w.heap.size + 1, 8, none⟩ (.int .i64 tl)).heap[w.heap.size]? = _) := ⟨((Below.heap_setCell _ _ _ _ (by show w.heap.size ≠ w.heap.size + 1; omega)).trans ((Below.heap_setCell _ _ _ _ (by show w.heap.size ≠ w.heap.size + 1; omega)).trans ((Below.heap_setCell _ _ _ _ (by show w.heap.size ≠ w.heap.size + 1; omega)).trans ((Below.heap_setCell _ _ _ _ (by show w.heap.size ≠ w.heap.size + 1; omega)).trans ((Below.heap_setCell _ _ _ _ (by show w.heap.size ≠ w.heap.size + 1; omega)).trans ((Below.heap_setCell _ _ _ _ (by show w.heap.size ≠ w.heap.size + 1; omega)).trans ((Below.heap_setCell _ _ _ _ (by show w.heap.size ≠ w.heap.size + 1; omega)).trans ((Below.heap_setCell _ _ _ _ (by show w.heap.size ≠ w.heap.size + 1; omega)).trans ((Below.heap_setCell _ _ _ _ (by show w.heap.size ≠ w.heap.size + 1; omega)).trans Bt_2.out)))))))))⟩
  generalize (((((((((w2.setCell ⟨w.heap.size + 1, 0, none⟩ (.int .u64 id)).setCell ⟨w.heap.size + 1, 1, none⟩ (.int .i64 co)).setCell ⟨w.heap.size + 1, 2, none⟩ (.int .i64 4)).setCell ⟨w.heap.size + 1, 3, none⟩ (.int .i64 lv)).setCell ⟨w.heap.size + 1, 4, none⟩ (.int .u64 0)).setCell ⟨w.heap.size + 1, 5, none⟩ (.int .i64 0)).setCell ⟨w.heap.size + 1, 6, none⟩ (.int .i64 0)).setCell ⟨w.heap.size + 1, 7, none⟩ (.int .i64 0)).setCell ⟨w.heap.size + 1, 8, none⟩ (.int .i64 tl)) = w3 at Bz_3 HB_3 hs_3 Bt_3 ⊢
  obtain ⟨dz0, dz1, dz2, dz3, dz4, dz5, dz6, dz7, dz8⟩ := cells9 Bz_3.out
  have fz := blk_frozen Bz_3.out
  refine bodyPost_ret (v := .tuple #[.agg #[.int .u64 id, .int .i64 co, .int .i64 4, .int .i64 lv, .int .u64 0, .int .i64 0, .int .i64 0, .int .i64 0, .int .i64 tl], .int .i64 0]) (by simp [results, Try.results25, go_sem, dz0, dz1, dz2, dz3, dz4, dz5, dz6, dz7, dz8]) rfl ⟨rfl, HB_3.out⟩
set_option maxHeartbeats 4000000 in
set_option maxRecDepth 100000 in
theorem resolve_2 (id co lv gn fr lf du tl : Int) (w : World) :
    Calls Try.prog 25 #[.agg #[.int .u64 id, .int .i64 co, .int .i64 2, .int .i64 lv, .int .u64 gn, .int .i64 fr, .int .i64 lf, .int .i64 du, .int .i64 tl]] w fun e w' => e = .returned (.tuple #[.agg #[.int .u64 id, .int .i64 co, .int .i64 4, .int .i64 lv, .int .u64 0, .int .i64 0, .int .i64 0, .int .i64 0, .int .i64 tl], .int .i64 0]) ∧ Below w.heap.size w w' := by
  have HB_1 : Aside0 (Below w.heap.size w ((w.alloc (.cells #[.int .u64 id, .int .i64 co, .int .i64 2, .int .i64 lv, .int .u64 gn, .int .i64 fr, .int .i64 lf, .int .i64 du, .int .i64 tl] 24)).alloc (.cells #[.int .u64 0, .int .i64 0, .int .i64 0, .int .i64 0, .int .u64 0, .int .i64 0, .int .i64 0, .int .i64 0, .int .i64 0] 24))) := ⟨(below_alloc (below_alloc (Below.refl w.heap.size w) (.cells #[.int .u64 id, .int .i64 co, .int .i64 2, .int .i64 lv, .int .u64 gn, .int .i64 fr, .int .i64 lf, .int .i64 du, .int .i64 tl] 24)) (.cells #[.int .u64 0, .int .i64 0, .int .i64 0, .int .i64 0, .int .u64 0, .int .i64 0, .int .i64 0, .int .i64 0, .int .i64 0] 24))⟩
  have hs_1 : w.heap.size ≤ ((w.alloc (.cells #[.int .u64 id, .int .i64 co, .int .i64 2, .int .i64 lv, .int .u64 gn, .int .i64 fr, .int .i64 lf, .int .i64 du, .int .i64 tl] 24)).alloc (.cells #[.int .u64 0, .int .i64 0, .int .i64 0, .int .i64 0, .int .u64 0, .int .i64 0, .int .i64 0, .int .i64 0, .int .i64 0] 24)).heap.size := HB_1.out.size
  have Bt_1 : Aside0 (((w.alloc (.cells #[.int .u64 id, .int .i64 co, .int .i64 2, .int .i64 lv, .int .u64 gn, .int .i64 fr, .int .i64 lf, .int .i64 du, .int .i64 tl] 24)).alloc (.cells #[.int .u64 0, .int .i64 0, .int .i64 0, .int .i64 0, .int .u64 0, .int .i64 0, .int .i64 0, .int .i64 0, .int .i64 0] 24)).heap[w.heap.size]? = some (.cells #[.int .u64 id, .int .i64 co, .int .i64 2, .int .i64 lv, .int .u64 gn, .int .i64 fr, .int .i64 lf, .int .i64 du, .int .i64 tl] 24 (0, 0))) := ⟨(blk_alloc (blk_new w _) _)⟩
  have Bz_1 : Aside0 (((w.alloc (.cells #[.int .u64 id, .int .i64 co, .int .i64 2, .int .i64 lv, .int .u64 gn, .int .i64 fr, .int .i64 lf, .int .i64 du, .int .i64 tl] 24)).alloc (.cells #[.int .u64 0, .int .i64 0, .int .i64 0, .int .i64 0, .int .u64 0, .int .i64 0, .int .i64 0, .int .i64 0, .int .i64 0] 24)).heap[w.heap.size + 1]? = some (.cells #[.int .u64 0, .int .i64 0, .int .i64 0, .int .i64 0, .int .u64 0, .int .i64 0, .int .i64 0, .int .i64 0, .int .i64 0] 24 (0, 0))) := ⟨(by simpa using blk_new (w.alloc (.cells #[.int .u64 id, .int .i64 co, .int .i64 2, .int .i64 lv, .int .u64 gn, .int .i64 fr, .int .i64 lf, .int .i64 du, .int .i64 tl] 24)) (.cells #[.int .u64 0, .int .i64 0, .int .i64 0, .int .i64 0, .int .u64 0, .int .i64 0, .int .i64 0, .int .i64 0, .int .i64 0] 24))⟩
  have hz_1 : w.heap.size + 1 < ((w.alloc (.cells #[.int .u64 id, .int .i64 co, .int .i64 2, .int .i64 lv, .int .u64 gn, .int .i64 fr, .int .i64 lf, .int .i64 du, .int .i64 tl] 24)).alloc (.cells #[.int .u64 0, .int .i64 0, .int .i64 0, .int .i64 0, .int .u64 0, .int .i64 0, .int .i64 0, .int .i64 0, .int .i64 0] 24)).heap.size := blk_lt Bz_1.out
  go_enter Try.func25, Try.ntmps25
  go_wp2_with fail
  generalize ((w.alloc (.cells #[.int .u64 id, .int .i64 co, .int .i64 2, .int .i64 lv, .int .u64 gn, .int .i64 fr, .int .i64 lf, .int .i64 du, .int .i64 tl] 24)).alloc (.cells #[.int .u64 0, .int .i64 0, .int .i64 0, .int .i64 0, .int .u64 0, .int .i64 0, .int .i64 0, .int .i64 0, .int .i64 0] 24)) = w1 at HB_1 hs_1 Bt_1 Bz_1 hz_1 ⊢
  obtain ⟨dt0, dt1, dt2, dt3, dt4, dt5, dt6, dt7, dt8⟩ := cells9 Bt_1.out
  go_wp2_with (go_at_call 57; with_reducible refine (ticket_with.calls id co 2 lv gn fr lf du tl 4 lv 0 0 0 0 id co 4 lv 0 0 0 0 tl 0 w1 rfl).mono ?_; rintro e w2 ⟨rfl, q1⟩; clear dt0 dt1 dt2 dt3 dt4 dt5 dt6 dt7 dt8; have HB_2 := Aside0.mk (below_step HB_1.out q1); have hs_2 : w1.heap.size ≤ w2.heap.size := q1.size; have Bt_2 := Aside0.mk (blk_below Bt_1.out q1); have Bz_2 := Aside0.mk (blk_below Bz_1.out q1); clear q1; obtain ⟨dz0, dz1, dz2, dz3, dz4, dz5, dz6, dz7, dz8⟩ := cells9 Bz_2.out; have fz := blk_frozen Bz_2.out)
  clear dz0 dz1 dz2 dz3 dz4 dz5 dz6 dz7 dz8 fz
  have Bz_3 := Aside0.mk (blk_put (cs' := #[.int .u64 id, .int .i64 co, .int .i64 4, .int .i64 lv, .int .u64 0, .int .i64 0, .int .i64 0, .int .i64 0, .int .i64 tl]) (blk_put (cs' := #[.int .u64 id, .int .i64 co, .int .i64 4, .int .i64 lv, .int .u64 0, .int .i64 0, .int .i64 0, .int .i64 0, .int .i64 0]) (blk_put (cs' := #[.int .u64 id, .int .i64 co, .int .i64 4, .int .i64 lv, .int .u64 0, .int .i64 0, .int .i64 0, .int .i64 0, .int .i64 0]) (blk_put (cs' := #[.int .u64 id, .int .i64 co, .int .i64 4, .int .i64 lv, .int .u64 0, .int .i64 0, .int .i64 0, .int .i64 0, .int .i64 0]) (blk_put (cs' := #[.int .u64 id, .int .i64 co, .int .i64 4, .int .i64 lv, .int .u64 0, .int .i64 0, .int .i64 0, .int .i64 0, .int .i64 0]) (blk_put (cs' := #[.int .u64 id, .int .i64 co, .int .i64 4, .int .i64 lv, .int .u64 0, .int .i64 0, .int .i64 0, .int .i64 0, .int .i64 0]) (blk_put (cs' := #[.int .u64 id, .int .i64 co, .int .i64 4, .int .i64 0, .int .u64 0, .int .i64 0, .int .i64 0, .int .i64 0, .int .i64 0]) (blk_put (cs' := #[.int .u64 id, .int .i64 co, .int .i64 0, .int .i64 0, .int .u64 0, .int .i64 0, .int .i64 0, .int .i64 0, .int .i64 0]) (blk_put (cs' := #[.int .u64 id, .int .i64 0, .int .i64 0, .int .i64 0, .int .u64 0, .int .i64 0, .int .i64 0, .int .i64 0, .int .i64 0]) Bz_2.out 0 (.int .u64 id) rfl) 1 (.int .i64 co) rfl) 2 (.int .i64 4) rfl) 3 (.int .i64 lv) rfl) 4 (.int .u64 0) rfl) 5 (.int .i64 0) rfl) 6 (.int .i64 0) rfl) 7 (.int .i64 0) rfl) 8 (.int .i64 tl) rfl)
  have HB_3 := Aside0.mk (below_set (g := w.heap.size + 1) (j := 8) (v := .int .i64 tl) (below_set (g := w.heap.size + 1) (j := 7) (v := .int .i64 0) (below_set (g := w.heap.size + 1) (j := 6) (v := .int .i64 0) (below_set (g := w.heap.size + 1) (j := 5) (v := .int .i64 0) (below_set (g := w.heap.size + 1) (j := 4) (v := .int .u64 0) (below_set (g := w.heap.size + 1) (j := 3) (v := .int .i64 lv) (below_set (g := w.heap.size + 1) (j := 2) (v := .int .i64 4) (below_set (g := w.heap.size + 1) (j := 1) (v := .int .i64 co) (below_set (g := w.heap.size + 1) (j := 0) (v := .int .u64 id) HB_2.out (by omega)) (by omega)) (by omega)) (by omega)) (by omega)) (by omega)) (by omega)) (by omega)) (by omega))
  have hs_3 : w2.heap.size ≤ (((((((((w2.setCell ⟨w.heap.size + 1, 0, none⟩ (.int .u64 id)).setCell ⟨w.heap.size + 1, 1, none⟩ (.int .i64 co)).setCell ⟨w.heap.size + 1, 2, none⟩ (.int .i64 4)).setCell ⟨w.heap.size + 1, 3, none⟩ (.int .i64 lv)).setCell ⟨w.heap.size + 1, 4, none⟩ (.int .u64 0)).setCell ⟨w.heap.size + 1, 5, none⟩ (.int .i64 0)).setCell ⟨w.heap.size + 1, 6, none⟩ (.int .i64 0)).setCell ⟨w.heap.size + 1, 7, none⟩ (.int .i64 0)).setCell ⟨w.heap.size + 1, 8, none⟩ (.int .i64 tl)).heap.size := by simp
  have Bt_3 : Aside0 ((((((((((w2.setCell ⟨w.heap.size + 1, 0, none⟩ (.int .u64 id)).setCell ⟨w.heap.size + 1, 1, none⟩ (.int .i64 co)).setCell ⟨w.heap.size + 1, 2, none⟩ (.int .i64 4)).setCell ⟨w.heap.size + 1, 3, none⟩ (.int .i64 lv)).setCell ⟨w.heap.size + 1, 4, none⟩ (.int .u64 0)).setCell ⟨w.heap.size + 1, 5, none⟩ (.int .i64 0)).setCell ⟨w.heap.size + 1, 6, none⟩ (.int .i64 0)).setCell ⟨w.heap.size + 1, 7, none⟩ (.int .i64 0)).setCell ⟨w.heap.size + 1, 8, none⟩ (.int .i64 tl)).heap[w.heap.size]? = _) := ⟨((Below.heap_setCell _ _ _ _ (by show w.heap.size ≠ w.heap.size + 1; omega)).trans ((Below.heap_setCell _ _ _ _ (by show w.heap.size ≠ w.heap.size + 1; omega)).trans ((Below.heap_setCell _ _ _ _ (by show w.heap.size ≠ w.heap.size + 1; omega)).trans ((Below.heap_setCell _ _ _ _ (by show w.heap.size ≠ w.heap.size + 1; omega)).trans ((Below.heap_setCell _ _ _ _ (by show w.heap.size ≠ w.heap.size + 1; omega)).trans ((Below.heap_setCell _ _ _ _ (by show w.heap.size ≠ w.heap.size + 1; omega)).trans ((Below.heap_setCell _ _ _ _ (by show w.heap.size ≠ w.heap.size + 1; omega)).trans ((Below.heap_setCell _ _ _ _ (by show w.heap.size ≠ w.heap.size + 1; omega)).trans ((Below.heap_setCell _ _ _ _ (by show w.heap.size ≠ w.heap.size + 1; omega)).trans Bt_2.out)))))))))⟩
  generalize (((((((((w2.setCell ⟨w.heap.size + 1, 0, none⟩ (.int .u64 id)).setCell ⟨w.heap.size + 1, 1, none⟩ (.int .i64 co)).setCell ⟨w.heap.size + 1, 2, none⟩ (.int .i64 4)).setCell ⟨w.heap.size + 1, 3, none⟩ (.int .i64 lv)).setCell ⟨w.heap.size + 1, 4, none⟩ (.int .u64 0)).setCell ⟨w.heap.size + 1, 5, none⟩ (.int .i64 0)).setCell ⟨w.heap.size + 1, 6, none⟩ (.int .i64 0)).setCell ⟨w.heap.size + 1, 7, none⟩ (.int .i64 0)).setCell ⟨w.heap.size + 1, 8, none⟩ (.int .i64 tl)) = w3 at Bz_3 HB_3 hs_3 Bt_3 ⊢
  obtain ⟨dz0, dz1, dz2, dz3, dz4, dz5, dz6, dz7, dz8⟩ := cells9 Bz_3.out
  have fz := blk_frozen Bz_3.out
  refine bodyPost_ret (v := .tuple #[.agg #[.int .u64 id, .int .i64 co, .int .i64 4, .int .i64 lv, .int .u64 0, .int .i64 0, .int .i64 0, .int .i64 0, .int .i64 tl], .int .i64 0]) (by simp [results, Try.results25, go_sem, dz0, dz1, dz2, dz3, dz4, dz5, dz6, dz7, dz8]) rfl ⟨rfl, HB_3.out⟩
set_option maxHeartbeats 4000000 in
set_option maxRecDepth 100000 in
theorem resolve_3 (id co lv gn fr lf du tl : Int) (w : World) :
    Calls Try.prog 25 #[.agg #[.int .u64 id, .int .i64 co, .int .i64 3, .int .i64 lv, .int .u64 gn, .int .i64 fr, .int .i64 lf, .int .i64 du, .int .i64 tl]] w fun e w' => e = .returned (.tuple #[.agg #[.int .u64 id, .int .i64 co, .int .i64 4, .int .i64 lv, .int .u64 0, .int .i64 0, .int .i64 0, .int .i64 0, .int .i64 tl], .int .i64 0]) ∧ Below w.heap.size w w' := by
  have HB_1 : Aside0 (Below w.heap.size w ((w.alloc (.cells #[.int .u64 id, .int .i64 co, .int .i64 3, .int .i64 lv, .int .u64 gn, .int .i64 fr, .int .i64 lf, .int .i64 du, .int .i64 tl] 24)).alloc (.cells #[.int .u64 0, .int .i64 0, .int .i64 0, .int .i64 0, .int .u64 0, .int .i64 0, .int .i64 0, .int .i64 0, .int .i64 0] 24))) := ⟨(below_alloc (below_alloc (Below.refl w.heap.size w) (.cells #[.int .u64 id, .int .i64 co, .int .i64 3, .int .i64 lv, .int .u64 gn, .int .i64 fr, .int .i64 lf, .int .i64 du, .int .i64 tl] 24)) (.cells #[.int .u64 0, .int .i64 0, .int .i64 0, .int .i64 0, .int .u64 0, .int .i64 0, .int .i64 0, .int .i64 0, .int .i64 0] 24))⟩
  have hs_1 : w.heap.size ≤ ((w.alloc (.cells #[.int .u64 id, .int .i64 co, .int .i64 3, .int .i64 lv, .int .u64 gn, .int .i64 fr, .int .i64 lf, .int .i64 du, .int .i64 tl] 24)).alloc (.cells #[.int .u64 0, .int .i64 0, .int .i64 0, .int .i64 0, .int .u64 0, .int .i64 0, .int .i64 0, .int .i64 0, .int .i64 0] 24)).heap.size := HB_1.out.size
  have Bt_1 : Aside0 (((w.alloc (.cells #[.int .u64 id, .int .i64 co, .int .i64 3, .int .i64 lv, .int .u64 gn, .int .i64 fr, .int .i64 lf, .int .i64 du, .int .i64 tl] 24)).alloc (.cells #[.int .u64 0, .int .i64 0, .int .i64 0, .int .i64 0, .int .u64 0, .int .i64 0, .int .i64 0, .int .i64 0, .int .i64 0] 24)).heap[w.heap.size]? = some (.cells #[.int .u64 id, .int .i64 co, .int .i64 3, .int .i64 lv, .int .u64 gn, .int .i64 fr, .int .i64 lf, .int .i64 du, .int .i64 tl] 24 (0, 0))) := ⟨(blk_alloc (blk_new w _) _)⟩
  have Bz_1 : Aside0 (((w.alloc (.cells #[.int .u64 id, .int .i64 co, .int .i64 3, .int .i64 lv, .int .u64 gn, .int .i64 fr, .int .i64 lf, .int .i64 du, .int .i64 tl] 24)).alloc (.cells #[.int .u64 0, .int .i64 0, .int .i64 0, .int .i64 0, .int .u64 0, .int .i64 0, .int .i64 0, .int .i64 0, .int .i64 0] 24)).heap[w.heap.size + 1]? = some (.cells #[.int .u64 0, .int .i64 0, .int .i64 0, .int .i64 0, .int .u64 0, .int .i64 0, .int .i64 0, .int .i64 0, .int .i64 0] 24 (0, 0))) := ⟨(by simpa using blk_new (w.alloc (.cells #[.int .u64 id, .int .i64 co, .int .i64 3, .int .i64 lv, .int .u64 gn, .int .i64 fr, .int .i64 lf, .int .i64 du, .int .i64 tl] 24)) (.cells #[.int .u64 0, .int .i64 0, .int .i64 0, .int .i64 0, .int .u64 0, .int .i64 0, .int .i64 0, .int .i64 0, .int .i64 0] 24))⟩
  have hz_1 : w.heap.size + 1 < ((w.alloc (.cells #[.int .u64 id, .int .i64 co, .int .i64 3, .int .i64 lv, .int .u64 gn, .int .i64 fr, .int .i64 lf, .int .i64 du, .int .i64 tl] 24)).alloc (.cells #[.int .u64 0, .int .i64 0, .int .i64 0, .int .i64 0, .int .u64 0, .int .i64 0, .int .i64 0, .int .i64 0, .int .i64 0] 24)).heap.size := blk_lt Bz_1.out
  go_enter Try.func25, Try.ntmps25
  go_wp2_with fail
  generalize ((w.alloc (.cells #[.int .u64 id, .int .i64 co, .int .i64 3, .int .i64 lv, .int .u64 gn, .int .i64 fr, .int .i64 lf, .int .i64 du, .int .i64 tl] 24)).alloc (.cells #[.int .u64 0, .int .i64 0, .int .i64 0, .int .i64 0, .int .u64 0, .int .i64 0, .int .i64 0, .int .i64 0, .int .i64 0] 24)) = w1 at HB_1 hs_1 Bt_1 Bz_1 hz_1 ⊢
  obtain ⟨dt0, dt1, dt2, dt3, dt4, dt5, dt6, dt7, dt8⟩ := cells9 Bt_1.out
  go_wp2_with (go_at_call 57; with_reducible refine (ticket_with.calls id co 3 lv gn fr lf du tl 4 lv 0 0 0 0 id co 4 lv 0 0 0 0 tl 0 w1 rfl).mono ?_; rintro e w2 ⟨rfl, q1⟩; clear dt0 dt1 dt2 dt3 dt4 dt5 dt6 dt7 dt8; have HB_2 := Aside0.mk (below_step HB_1.out q1); have hs_2 : w1.heap.size ≤ w2.heap.size := q1.size; have Bt_2 := Aside0.mk (blk_below Bt_1.out q1); have Bz_2 := Aside0.mk (blk_below Bz_1.out q1); clear q1; obtain ⟨dz0, dz1, dz2, dz3, dz4, dz5, dz6, dz7, dz8⟩ := cells9 Bz_2.out; have fz := blk_frozen Bz_2.out)
  clear dz0 dz1 dz2 dz3 dz4 dz5 dz6 dz7 dz8 fz
  have Bz_3 := Aside0.mk (blk_put (cs' := #[.int .u64 id, .int .i64 co, .int .i64 4, .int .i64 lv, .int .u64 0, .int .i64 0, .int .i64 0, .int .i64 0, .int .i64 tl]) (blk_put (cs' := #[.int .u64 id, .int .i64 co, .int .i64 4, .int .i64 lv, .int .u64 0, .int .i64 0, .int .i64 0, .int .i64 0, .int .i64 0]) (blk_put (cs' := #[.int .u64 id, .int .i64 co, .int .i64 4, .int .i64 lv, .int .u64 0, .int .i64 0, .int .i64 0, .int .i64 0, .int .i64 0]) (blk_put (cs' := #[.int .u64 id, .int .i64 co, .int .i64 4, .int .i64 lv, .int .u64 0, .int .i64 0, .int .i64 0, .int .i64 0, .int .i64 0]) (blk_put (cs' := #[.int .u64 id, .int .i64 co, .int .i64 4, .int .i64 lv, .int .u64 0, .int .i64 0, .int .i64 0, .int .i64 0, .int .i64 0]) (blk_put (cs' := #[.int .u64 id, .int .i64 co, .int .i64 4, .int .i64 lv, .int .u64 0, .int .i64 0, .int .i64 0, .int .i64 0, .int .i64 0]) (blk_put (cs' := #[.int .u64 id, .int .i64 co, .int .i64 4, .int .i64 0, .int .u64 0, .int .i64 0, .int .i64 0, .int .i64 0, .int .i64 0]) (blk_put (cs' := #[.int .u64 id, .int .i64 co, .int .i64 0, .int .i64 0, .int .u64 0, .int .i64 0, .int .i64 0, .int .i64 0, .int .i64 0]) (blk_put (cs' := #[.int .u64 id, .int .i64 0, .int .i64 0, .int .i64 0, .int .u64 0, .int .i64 0, .int .i64 0, .int .i64 0, .int .i64 0]) Bz_2.out 0 (.int .u64 id) rfl) 1 (.int .i64 co) rfl) 2 (.int .i64 4) rfl) 3 (.int .i64 lv) rfl) 4 (.int .u64 0) rfl) 5 (.int .i64 0) rfl) 6 (.int .i64 0) rfl) 7 (.int .i64 0) rfl) 8 (.int .i64 tl) rfl)
  have HB_3 := Aside0.mk (below_set (g := w.heap.size + 1) (j := 8) (v := .int .i64 tl) (below_set (g := w.heap.size + 1) (j := 7) (v := .int .i64 0) (below_set (g := w.heap.size + 1) (j := 6) (v := .int .i64 0) (below_set (g := w.heap.size + 1) (j := 5) (v := .int .i64 0) (below_set (g := w.heap.size + 1) (j := 4) (v := .int .u64 0) (below_set (g := w.heap.size + 1) (j := 3) (v := .int .i64 lv) (below_set (g := w.heap.size + 1) (j := 2) (v := .int .i64 4) (below_set (g := w.heap.size + 1) (j := 1) (v := .int .i64 co) (below_set (g := w.heap.size + 1) (j := 0) (v := .int .u64 id) HB_2.out (by omega)) (by omega)) (by omega)) (by omega)) (by omega)) (by omega)) (by omega)) (by omega)) (by omega))
  have hs_3 : w2.heap.size ≤ (((((((((w2.setCell ⟨w.heap.size + 1, 0, none⟩ (.int .u64 id)).setCell ⟨w.heap.size + 1, 1, none⟩ (.int .i64 co)).setCell ⟨w.heap.size + 1, 2, none⟩ (.int .i64 4)).setCell ⟨w.heap.size + 1, 3, none⟩ (.int .i64 lv)).setCell ⟨w.heap.size + 1, 4, none⟩ (.int .u64 0)).setCell ⟨w.heap.size + 1, 5, none⟩ (.int .i64 0)).setCell ⟨w.heap.size + 1, 6, none⟩ (.int .i64 0)).setCell ⟨w.heap.size + 1, 7, none⟩ (.int .i64 0)).setCell ⟨w.heap.size + 1, 8, none⟩ (.int .i64 tl)).heap.size := by simp
  have Bt_3 : Aside0 ((((((((((w2.setCell ⟨w.heap.size + 1, 0, none⟩ (.int .u64 id)).setCell ⟨w.heap.size + 1, 1, none⟩ (.int .i64 co)).setCell ⟨w.heap.size + 1, 2, none⟩ (.int .i64 4)).setCell ⟨w.heap.size + 1, 3, none⟩ (.int .i64 lv)).setCell ⟨w.heap.size + 1, 4, none⟩ (.int .u64 0)).setCell ⟨w.heap.size + 1, 5, none⟩ (.int .i64 0)).setCell ⟨w.heap.size + 1, 6, none⟩ (.int .i64 0)).setCell ⟨w.heap.size + 1, 7, none⟩ (.int .i64 0)).setCell ⟨w.heap.size + 1, 8, none⟩ (.int .i64 tl)).heap[w.heap.size]? = _) := ⟨((Below.heap_setCell _ _ _ _ (by show w.heap.size ≠ w.heap.size + 1; omega)).trans ((Below.heap_setCell _ _ _ _ (by show w.heap.size ≠ w.heap.size + 1; omega)).trans ((Below.heap_setCell _ _ _ _ (by show w.heap.size ≠ w.heap.size + 1; omega)).trans ((Below.heap_setCell _ _ _ _ (by show w.heap.size ≠ w.heap.size + 1; omega)).trans ((Below.heap_setCell _ _ _ _ (by show w.heap.size ≠ w.heap.size + 1; omega)).trans ((Below.heap_setCell _ _ _ _ (by show w.heap.size ≠ w.heap.size + 1; omega)).trans ((Below.heap_setCell _ _ _ _ (by show w.heap.size ≠ w.heap.size + 1; omega)).trans ((Below.heap_setCell _ _ _ _ (by show w.heap.size ≠ w.heap.size + 1; omega)).trans ((Below.heap_setCell _ _ _ _ (by show w.heap.size ≠ w.heap.size + 1; omega)).trans Bt_2.out)))))))))⟩
  generalize (((((((((w2.setCell ⟨w.heap.size + 1, 0, none⟩ (.int .u64 id)).setCell ⟨w.heap.size + 1, 1, none⟩ (.int .i64 co)).setCell ⟨w.heap.size + 1, 2, none⟩ (.int .i64 4)).setCell ⟨w.heap.size + 1, 3, none⟩ (.int .i64 lv)).setCell ⟨w.heap.size + 1, 4, none⟩ (.int .u64 0)).setCell ⟨w.heap.size + 1, 5, none⟩ (.int .i64 0)).setCell ⟨w.heap.size + 1, 6, none⟩ (.int .i64 0)).setCell ⟨w.heap.size + 1, 7, none⟩ (.int .i64 0)).setCell ⟨w.heap.size + 1, 8, none⟩ (.int .i64 tl)) = w3 at Bz_3 HB_3 hs_3 Bt_3 ⊢
  obtain ⟨dz0, dz1, dz2, dz3, dz4, dz5, dz6, dz7, dz8⟩ := cells9 Bz_3.out
  have fz := blk_frozen Bz_3.out
  refine bodyPost_ret (v := .tuple #[.agg #[.int .u64 id, .int .i64 co, .int .i64 4, .int .i64 lv, .int .u64 0, .int .i64 0, .int .i64 0, .int .i64 0, .int .i64 tl], .int .i64 0]) (by simp [results, Try.results25, go_sem, dz0, dz1, dz2, dz3, dz4, dz5, dz6, dz7, dz8]) rfl ⟨rfl, HB_3.out⟩
set_option maxHeartbeats 4000000 in
set_option maxRecDepth 100000 in
theorem resolve_0 (id co st lv gn fr lf du tl : Int) (w : World) (h1 : ¬ st = 1) (h2 : ¬ st = 2) (h3 : ¬ st = 3) :
    Calls Try.prog 25 #[.agg #[.int .u64 id, .int .i64 co, .int .i64 st, .int .i64 lv, .int .u64 gn, .int .i64 fr, .int .i64 lf, .int .i64 du, .int .i64 tl]] w fun e w' => e = .returned (.tuple #[.agg #[.int .u64 0, .int .i64 0, .int .i64 0, .int .i64 0, .int .u64 0, .int .i64 0, .int .i64 0, .int .i64 0, .int .i64 0], .int .i64 33]) ∧ Below w.heap.size w w' := by
  have f1_ : (st == 1) = false := beq_eq_false_iff_ne.mpr h1
  have f2_ : (st == 2) = false := beq_eq_false_iff_ne.mpr h2
  have f3_ : (st == 3) = false := beq_eq_false_iff_ne.mpr h3
  clear h1 h2 h3
  have HB_1 : Aside0 (Below w.heap.size w ((w.alloc (.cells #[.int .u64 id, .int .i64 co, .int .i64 st, .int .i64 lv, .int .u64 gn, .int .i64 fr, .int .i64 lf, .int .i64 du, .int .i64 tl] 24)).alloc (.cells #[.int .u64 0, .int .i64 0, .int .i64 0, .int .i64 0, .int .u64 0, .int .i64 0, .int .i64 0, .int .i64 0, .int .i64 0] 24))) := ⟨(below_alloc (below_alloc (Below.refl w.heap.size w) (.cells #[.int .u64 id, .int .i64 co, .int .i64 st, .int .i64 lv, .int .u64 gn, .int .i64 fr, .int .i64 lf, .int .i64 du, .int .i64 tl] 24)) (.cells #[.int .u64 0, .int .i64 0, .int .i64 0, .int .i64 0, .int .u64 0, .int .i64 0, .int .i64 0, .int .i64 0, .int .i64 0] 24))⟩
  have hs_1 : w.heap.size ≤ ((w.alloc (.cells #[.int .u64 id, .int .i64 co, .int .i64 st, .int .i64 lv, .int .u64 gn, .int .i64 fr, .int .i64 lf, .int .i64 du, .int .i64 tl] 24)).alloc (.cells #[.int .u64 0, .int .i64 0, .int .i64 0, .int .i64 0, .int .u64 0, .int .i64 0, .int .i64 0, .int .i64 0, .int .i64 0] 24)).heap.size := HB_1.out.size
  have Bt_1 : Aside0 (((w.alloc (.cells #[.int .u64 id, .int .i64 co, .int .i64 st, .int .i64 lv, .int .u64 gn, .int .i64 fr, .int .i64 lf, .int .i64 du, .int .i64 tl] 24)).alloc (.cells #[.int .u64 0, .int .i64 0, .int .i64 0, .int .i64 0, .int .u64 0, .int .i64 0, .int .i64 0, .int .i64 0, .int .i64 0] 24)).heap[w.heap.size]? = some (.cells #[.int .u64 id, .int .i64 co, .int .i64 st, .int .i64 lv, .int .u64 gn, .int .i64 fr, .int .i64 lf, .int .i64 du, .int .i64 tl] 24 (0, 0))) := ⟨(blk_alloc (blk_new w _) _)⟩
  have Bz_1 : Aside0 (((w.alloc (.cells #[.int .u64 id, .int .i64 co, .int .i64 st, .int .i64 lv, .int .u64 gn, .int .i64 fr, .int .i64 lf, .int .i64 du, .int .i64 tl] 24)).alloc (.cells #[.int .u64 0, .int .i64 0, .int .i64 0, .int .i64 0, .int .u64 0, .int .i64 0, .int .i64 0, .int .i64 0, .int .i64 0] 24)).heap[w.heap.size + 1]? = some (.cells #[.int .u64 0, .int .i64 0, .int .i64 0, .int .i64 0, .int .u64 0, .int .i64 0, .int .i64 0, .int .i64 0, .int .i64 0] 24 (0, 0))) := ⟨(by simpa using blk_new (w.alloc (.cells #[.int .u64 id, .int .i64 co, .int .i64 st, .int .i64 lv, .int .u64 gn, .int .i64 fr, .int .i64 lf, .int .i64 du, .int .i64 tl] 24)) (.cells #[.int .u64 0, .int .i64 0, .int .i64 0, .int .i64 0, .int .u64 0, .int .i64 0, .int .i64 0, .int .i64 0, .int .i64 0] 24))⟩
  have hz_1 : w.heap.size + 1 < ((w.alloc (.cells #[.int .u64 id, .int .i64 co, .int .i64 st, .int .i64 lv, .int .u64 gn, .int .i64 fr, .int .i64 lf, .int .i64 du, .int .i64 tl] 24)).alloc (.cells #[.int .u64 0, .int .i64 0, .int .i64 0, .int .i64 0, .int .u64 0, .int .i64 0, .int .i64 0, .int .i64 0, .int .i64 0] 24)).heap.size := blk_lt Bz_1.out
  go_enter Try.func25, Try.ntmps25
  go_upto_region 1 with fail
  generalize ((w.alloc (.cells #[.int .u64 id, .int .i64 co, .int .i64 st, .int .i64 lv, .int .u64 gn, .int .i64 fr, .int .i64 lf, .int .i64 du, .int .i64 tl] 24)).alloc (.cells #[.int .u64 0, .int .i64 0, .int .i64 0, .int .i64 0, .int .u64 0, .int .i64 0, .int .i64 0, .int .i64 0, .int .i64 0] 24)) = w1 at HB_1 hs_1 Bt_1 Bz_1 hz_1 ⊢
  have dt2 : w1.cell? ⟨w.heap.size, 2, none⟩ = some (.int .i64 st) := (blk_cell Bt_1.out 2).trans rfl
  obtain ⟨dz0, dz1, dz2, dz3, dz4, dz5, dz6, dz7, dz8⟩ := cells9 Bz_1.out
  have fz := blk_frozen Bz_1.out
  go_wp2
  clear dt2 dz0 dz1 dz2 dz3 dz4 dz5 dz6 dz7 dz8 fz
  have Bz_2 := Aside0.mk (blk_put (cs' := #[.int .u64 0, .int .i64 0, .int .i64 0, .int .i64 0, .int .u64 0, .int .i64 0, .int .i64 0, .int .i64 0, .int .i64 0]) (blk_put (cs' := #[.int .u64 0, .int .i64 0, .int .i64 0, .int .i64 0, .int .u64 0, .int .i64 0, .int .i64 0, .int .i64 0, .int .i64 0]) (blk_put (cs' := #[.int .u64 0, .int .i64 0, .int .i64 0, .int .i64 0, .int .u64 0, .int .i64 0, .int .i64 0, .int .i64 0, .int .i64 0]) (blk_put (cs' := #[.int .u64 0, .int .i64 0, .int .i64 0, .int .i64 0, .int .u64 0, .int .i64 0, .int .i64 0, .int .i64 0, .int .i64 0]) (blk_put (cs' := #[.int .u64 0, .int .i64 0, .int .i64 0, .int .i64 0, .int .u64 0, .int .i64 0, .int .i64 0, .int .i64 0, .int .i64 0]) (blk_put (cs' := #[.int .u64 0, .int .i64 0, .int .i64 0, .int .i64 0, .int .u64 0, .int .i64 0, .int .i64 0, .int .i64 0, .int .i64 0]) (blk_put (cs' := #[.int .u64 0, .int .i64 0, .int .i64 0, .int .i64 0, .int .u64 0, .int .i64 0, .int .i64 0, .int .i64 0, .int .i64 0]) (blk_put (cs' := #[.int .u64 0, .int .i64 0, .int .i64 0, .int .i64 0, .int .u64 0, .int .i64 0, .int .i64 0, .int .i64 0, .int .i64 0]) (blk_put (cs' := #[.int .u64 0, .int .i64 0, .int .i64 0, .int .i64 0, .int .u64 0, .int .i64 0, .int .i64 0, .int .i64 0, .int .i64 0]) Bz_1.out 0 (.int .u64 0) rfl) 1 (.int .i64 0) rfl) 2 (.int .i64 0) rfl) 3 (.int .i64 0) rfl) 4 (.int .u64 0) rfl) 5 (.int .i64 0) rfl) 6 (.int .i64 0) rfl) 7 (.int .i64 0) rfl) 8 (.int .i64 0) rfl)
  have HB_2 := Aside0.mk (below_set (g := w.heap.size + 1) (j := 8) (v := .int .i64 0) (below_set (g := w.heap.size + 1) (j := 7) (v := .int .i64 0) (below_set (g := w.heap.size + 1) (j := 6) (v := .int .i64 0) (below_set (g := w.heap.size + 1) (j := 5) (v := .int .i64 0) (below_set (g := w.heap.size + 1) (j := 4) (v := .int .u64 0) (below_set (g := w.heap.size + 1) (j := 3) (v := .int .i64 0) (below_set (g := w.heap.size + 1) (j := 2) (v := .int .i64 0) (below_set (g := w.heap.size + 1) (j := 1) (v := .int .i64 0) (below_set (g := w.heap.size + 1) (j := 0) (v := .int .u64 0) HB_1.out (by omega)) (by omega)) (by omega)) (by omega)) (by omega)) (by omega)) (by omega)) (by omega)) (by omega))
  have hs_2 : w1.heap.size ≤ (((((((((w1.setCell ⟨w.heap.size + 1, 0, none⟩ (.int .u64 0)).setCell ⟨w.heap.size + 1, 1, none⟩ (.int .i64 0)).setCell ⟨w.heap.size + 1, 2, none⟩ (.int .i64 0)).setCell ⟨w.heap.size + 1, 3, none⟩ (.int .i64 0)).setCell ⟨w.heap.size + 1, 4, none⟩ (.int .u64 0)).setCell ⟨w.heap.size + 1, 5, none⟩ (.int .i64 0)).setCell ⟨w.heap.size + 1, 6, none⟩ (.int .i64 0)).setCell ⟨w.heap.size + 1, 7, none⟩ (.int .i64 0)).setCell ⟨w.heap.size + 1, 8, none⟩ (.int .i64 0)).heap.size := by simp
  have Bt_2 : Aside0 ((((((((((w1.setCell ⟨w.heap.size + 1, 0, none⟩ (.int .u64 0)).setCell ⟨w.heap.size + 1, 1, none⟩ (.int .i64 0)).setCell ⟨w.heap.size + 1, 2, none⟩ (.int .i64 0)).setCell ⟨w.heap.size + 1, 3, none⟩ (.int .i64 0)).setCell ⟨w.heap.size + 1, 4, none⟩ (.int .u64 0)).setCell ⟨w.heap.size + 1, 5, none⟩ (.int .i64 0)).setCell ⟨w.heap.size + 1, 6, none⟩ (.int .i64 0)).setCell ⟨w.heap.size + 1, 7, none⟩ (.int .i64 0)).setCell ⟨w.heap.size + 1, 8, none⟩ (.int .i64 0)).heap[w.heap.size]? = _) := ⟨((Below.heap_setCell _ _ _ _ (by show w.heap.size ≠ w.heap.size + 1; omega)).trans ((Below.heap_setCell _ _ _ _ (by show w.heap.size ≠ w.heap.size + 1; omega)).trans ((Below.heap_setCell _ _ _ _ (by show w.heap.size ≠ w.heap.size + 1; omega)).trans ((Below.heap_setCell _ _ _ _ (by show w.heap.size ≠ w.heap.size + 1; omega)).trans ((Below.heap_setCell _ _ _ _ (by show w.heap.size ≠ w.heap.size + 1; omega)).trans ((Below.heap_setCell _ _ _ _ (by show w.heap.size ≠ w.heap.size + 1; omega)).trans ((Below.heap_setCell _ _ _ _ (by show w.heap.size ≠ w.heap.size + 1; omega)).trans ((Below.heap_setCell _ _ _ _ (by show w.heap.size ≠ w.heap.size + 1; omega)).trans ((Below.heap_setCell _ _ _ _ (by show w.heap.size ≠ w.heap.size + 1; omega)).trans Bt_1.out)))))))))⟩
  generalize (((((((((w1.setCell ⟨w.heap.size + 1, 0, none⟩ (.int .u64 0)).setCell ⟨w.heap.size + 1, 1, none⟩ (.int .i64 0)).setCell ⟨w.heap.size + 1, 2, none⟩ (.int .i64 0)).setCell ⟨w.heap.size + 1, 3, none⟩ (.int .i64 0)).setCell ⟨w.heap.size + 1, 4, none⟩ (.int .u64 0)).setCell ⟨w.heap.size + 1, 5, none⟩ (.int .i64 0)).setCell ⟨w.heap.size + 1, 6, none⟩ (.int .i64 0)).setCell ⟨w.heap.size + 1, 7, none⟩ (.int .i64 0)).setCell ⟨w.heap.size + 1, 8, none⟩ (.int .i64 0)) = w2 at Bz_2 HB_2 hs_2 Bt_2 ⊢
  have dt2 : w2.cell? ⟨w.heap.size, 2, none⟩ = some (.int .i64 st) := (blk_cell Bt_2.out 2).trans rfl
  obtain ⟨dz0, dz1, dz2, dz3, dz4, dz5, dz6, dz7, dz8⟩ := cells9 Bz_2.out
  have fz := blk_frozen Bz_2.out
  refine bodyPost_ret (v := .tuple #[.agg #[.int .u64 0, .int .i64 0, .int .i64 0, .int .i64 0, .int .u64 0, .int .i64 0, .int .i64 0, .int .i64 0, .int .i64 0], .int .i64 33]) (by simp [results, Try.results25, go_sem, dz0, dz1, dz2, dz3, dz4, dz5, dz6, dz7, dz8]) rfl ⟨rfl, HB_2.out⟩
end Go.Proofs.Ytepldlnmeenlbaa.Own
namespace Go.Proofs.Ytepldlnmeenlbaa.Own
open Go.RowKit Go.Proofs Go.Proofs.YtepldlnmeenlbaaW.PrintWords Go.Proofs.YtepldlnmeenlbaaW.PrintLast Go.Proofs.YtepldlnmeenlbaaW.PrintMore Go.Proofs.Ytepldlnmeenlbaa.Base
section
variable {off : Int} {week closed : List S143} {cal re ba : Int} {ls : List S98}
def tkN : Tk := ⟨0, 0, 0, 0, 0, 0, 0, 0, 0⟩
def withT (t : Tk) (st : Int) (p : Int × Int × Int × Int × Int) : Tk × Int := if p.2.2.2.2 = 0 then (⟨t.id, t.co, st, p.1, 0, p.2.1, p.2.2.1, p.2.2.2.1, t.tl⟩, 0) else (tkN, p.2.2.2.2)
theorem with_some (t : Tk) (st a b c d e : Int) (u : Tk) (x : Int) (h : withT t st (a, b, c, d, e) = (u, x)) : ticket_with.f t.id t.co t.st t.lv t.gn t.fr t.lf t.du t.tl st a b c d e = some (u.id, u.co, u.st, u.lv, u.gn, u.fr, u.lf, u.du, u.tl, x) := by
  unfold withT at h
  unfold ticket_with.f
  simp only at h
  by_cases he : e = 0
  · rw [if_pos he] at h ⊢
    injection h with h1 h2
    subst h1 h2
    rfl
  · rw [if_neg he] at h ⊢
    injection h with h1 h2
    subst h1 h2
    rfl
def pauseT (off : Int) (week closed : List S143) (t : Tk) (now : Int) : Tk × Int := if t.st = 1 then withT t 2 (standP off week closed t.lv t.fr t.lf t.du now) else (tkN, 33)
def resumeT (off : Int) (week closed : List S143) (t : Tk) (now : Int) : Tk × Int := if t.st = 2 then withT t 1 (goP off week closed t.lv t.lf t.du now) else (tkN, 33)
def reopenT (off : Int) (week closed : List S143) (cal : Int) (ls : List S98) (re ba : Int) (t : Tk) (now : Int) : Tk × Int := if t.st = 4 then withT t 1 (firstP off week closed cal ls re ba now) else (tkN, 33)
def resolveT (t : Tk) : Tk × Int := if t.st = 1 ∨ t.st = 2 ∨ t.st = 3 then (⟨t.id, t.co, 4, t.lv, 0, 0, 0, 0, t.tl⟩, 0) else (tkN, 33)
def fireT (off : Int) (week closed : List S143) (cal : Int) (ls : List S98) (re ba : Int) (t : Tk) (now : Int) : Tk × Int × Int :=
  if t.st = 1 then (if now < t.du then (tkN, 0, 52) else if moreP off week closed cal ls re ba t.lv now = true then (⟨t.id, t.co, 1, (nextP off week closed cal ls re ba t.lv now).1, 0, (nextP off week closed cal ls re ba t.lv now).2.1, (nextP off week closed cal ls re ba t.lv now).2.2.1, (nextP off week closed cal ls re ba t.lv now).2.2.2.1, t.tl + 1⟩, t.lv, 0) else (⟨t.id, t.co, 3, t.lv, 0, 0, 0, 0, t.tl + 1⟩, t.lv, 0)) else (tkN, 0, 33)
theorem withT_zero {t u : Tk} {st : Int} {p : Int × Int × Int × Int × Int} (h : withT t st p = (u, 0)) : ∃ a b c d, p = (a, b, c, d, 0) ∧ u = ⟨t.id, t.co, st, a, 0, b, c, d, t.tl⟩ := by
  obtain ⟨a, b, c, d, e⟩ := p
  unfold withT at h
  simp only at h
  by_cases he : e = 0
  · subst he
    rw [if_pos rfl] at h
    injection h with h1 _
    exact ⟨a, b, c, d, rfl, h1.symm⟩
  · rw [if_neg he] at h
    injection h with _ h2
    exact absurd h2 he
theorem pause_snd (hk : CalOk off week closed) {L nx told now : Int} {t u : Tk} (hs : Snd off week closed L nx told t) (hu : pauseT off week closed t now = (u, 0)) : Snd off week closed L nx told u := by
  unfold pauseT at hu
  by_cases h1 : t.st = 1
  · rw [if_pos h1] at hu
    obtain ⟨a, b, c, d, hp, rfl⟩ := withT_zero hu
    exact Snd.paused (gn := 0) hk hs h1 hp
  · rw [if_neg h1] at hu
    injection hu with _ h2
    exact absurd h2 (by decide)
theorem resume_snd (hk : CalOk off week closed) {L nx told now : Int} {t u : Tk} (hs : Snd off week closed L nx told t) (hu : resumeT off week closed t now = (u, 0)) : Snd off week closed L nx told u := by
  unfold resumeT at hu
  by_cases h1 : t.st = 2
  · rw [if_pos h1] at hu
    obtain ⟨a, b, c, d, hp, rfl⟩ := withT_zero hu
    exact Snd.resumed hk hs h1 hp
  · rw [if_neg h1] at hu
    injection hu with _ h2
    exact absurd h2 (by decide)
theorem reopen_snd (hk : CalOk off week closed) {nx told now : Int} {t u : Tk} (hg : goodP cal ls re ba = true) (hs : Snd off week closed ls.length nx told t) (hu : reopenT off week closed cal ls re ba t now = (u, 0)) : Snd off week closed ls.length 0 told u := by
  unfold reopenT at hu
  by_cases h1 : t.st = 4
  · rw [if_pos h1] at hu
    obtain ⟨a, b, c, d, hp, rfl⟩ := withT_zero hu
    exact Snd.reopened hk hs hg hp
  · rw [if_neg h1] at hu
    injection hu with _ h2
    exact absurd h2 (by decide)
theorem resolve_snd {L nx told : Int} {t u : Tk} (hs : Snd off week closed L nx told t) (hu : resolveT t = (u, 0)) : Snd off week closed L nx told u := by
  unfold resolveT at hu
  by_cases h1 : t.st = 1 ∨ t.st = 2 ∨ t.st = 3
  · rw [if_pos h1] at hu
    injection hu with h2 _
    rw [← h2]
    exact hs.resolved
  · rw [if_neg h1] at hu
    injection hu with _ h2
    exact absurd h2 (by decide)
theorem fire_snd (hk : CalOk off week closed) {nx told now met : Int} {t u : Tk} (hg : goodP cal ls re ba = true) (hs : Snd off week closed ls.length nx told t) (hu : fireT off week closed cal ls re ba t now = (u, met, 0)) : met = nx ∧ Snd off week closed ls.length (nx + 1) (told + 1) u ∧ (u.st = 1 ∧ u.lv = met + 1 ∨ u.st = 3) ∧ u.tl = t.tl + 1 := by
  unfold fireT at hu
  by_cases h1 : t.st = 1
  · rw [if_pos h1] at hu
    have hnx : nx = t.lv := by rcases hs.st with ⟨s, x⟩ | ⟨s, x⟩ | ⟨s, x⟩ <;> first | exact x.1 | omega
    by_cases h2 : now < t.du
    · rw [if_pos h2] at hu
      injection hu with _ h3
      injection h3 with _ h3
      exact absurd h3 (by decide)
    · rw [if_neg h2] at hu
      by_cases h3 : moreP off week closed cal ls re ba t.lv now = true
      · rw [if_pos h3] at hu
        obtain ⟨⟨a, b, c, d, e⟩, hd⟩ : ∃ p, nextP off week closed cal ls re ba t.lv now = p := ⟨_, rfl⟩
        rw [hd] at hu
        injection hu with h4 h5
        injection h5 with h5 _
        obtain ⟨f1, f2⟩ := Snd.fired hk hs h1 hg hd h3
        subst h4 h5
        exact ⟨hnx.symm, f1, .inl ⟨rfl, f2⟩, rfl⟩
      · rw [if_neg h3] at hu
        injection hu with h4 h5
        injection h5 with h5 _
        subst h4 h5
        exact ⟨hnx.symm, hs.spent h1, .inr rfl, rfl⟩
  · rw [if_neg h1] at hu
    injection hu with _ h2
    injection h2 with _ h2
    exact absurd h2 (by decide)
theorem Snd.gen {L nx told i : Int} {t : Tk} (h : Snd off week closed L nx told t) : Snd off week closed L nx told (genT i t) := by
  obtain ⟨h1, h2, h3, h5, h6, hs⟩ := h
  unfold genT
  refine ⟨h1, h2, h3, h5, h6, ?_⟩
  simp only
  rcases hs with ⟨s, x⟩ | ⟨s, x, y, z⟩ | ⟨s, x, y⟩
  · exact .inl ⟨s, x⟩
  · exact .inr (.inl ⟨s, x, by rw [if_neg (by omega)]; exact y, z⟩)
  · exact .inr (.inr ⟨s, by rw [if_neg (by omega)]; exact x, y⟩)
theorem Snd.ok {L nx told i : Int} {t : Tk} (h : Snd off week closed L nx told t) (hL : L ≤ 6) (hi : 0 ≤ i ∧ i ≤ 60) (ht : 0 ≤ told ∧ told ≤ 60) : TkOk (genT i t) := by
  obtain ⟨h1, h2, ⟨h3, h4⟩, h5, h6, hs⟩ := h
  unfold genT
  rcases hs with ⟨s, x⟩ | ⟨s, x⟩ | ⟨s, x⟩
  · rw [if_pos s]
    constructor <;> simp only <;> omega
  · rw [if_neg (by omega)]
    constructor <;> simp only <;> omega
  · rw [if_neg (by omega)]
    constructor <;> simp only <;> omega
theorem Snd.lf {L nx told : Int} {t : Tk} (h : Snd off week closed L nx told t) : t.lf ≤ 9223372036854775807 := by
  obtain ⟨h1, h2, ⟨h3, h4⟩, h5, h6, hs⟩ := h
  rcases hs with ⟨s, x⟩ | ⟨s, x⟩ | ⟨s, x⟩ <;> omega
def aheadT (L st lv : Int) : Int := if st = 1 ∨ st = 2 then L - lv else 0
theorem Snd.ahead {nx told : Int} {t : Tk} (h : Snd off week closed ls.length nx told t) (hL : (ls.length : Int) ≤ 6) : ∃ r, aheadT ls.length t.st t.lv = r ∧ (0 ≤ r ∧ r ≤ 6) ∧ nx + r ≤ ls.length := by
  obtain ⟨h1, h2, ⟨h3, h4⟩, h5, h6, hs⟩ := h
  refine ⟨_, rfl, ?_⟩
  unfold aheadT
  rcases hs with ⟨s, x⟩ | ⟨s, x⟩ | ⟨s, x⟩
  · rw [if_pos (.inl s)]; omega
  · rw [if_pos (.inr s)]; omega
  · rw [if_neg (by omega)]; omega
end
variable {w w' : World} {n kb ab pb cb : Nat} {off : Int} {week closed : List S143} {A : Option Addr} {k : Nat} {ls : List S98} {cal re ba : Int}
theorem opause_any (t u : Tk) (now e : Int) (w : World) (h : ClkAt w n kb ab pb cb off week closed) (hn : n ≤ w.heap.size) (hk : CalOk off week closed) (hl : t.lf ≤ 9223372036854775807) (hu : pauseT off week closed t now = (u, e)) :
    Calls Try.prog 28 #[.agg #[.int .u64 t.id, .int .i64 t.co, .int .i64 t.st, .int .i64 t.lv, .int .u64 t.gn, .int .i64 t.fr, .int .i64 t.lf, .int .i64 t.du, .int .i64 t.tl], .pointer (some ⟨kb, 0, none⟩), .int .i64 now] w fun r w' => r = .returned (.tuple #[.agg #[.int .u64 u.id, .int .i64 u.co, .int .i64 u.st, .int .i64 u.lv, .int .u64 u.gn, .int .i64 u.fr, .int .i64 u.lf, .int .i64 u.du, .int .i64 u.tl], .int .i64 e]) ∧ ClkAt w' n kb ab pb cb off week closed ∧ Upd cb w w' := by
  obtain ⟨id, co, st, lv, gn, fr, lf, du, tl⟩ := t
  unfold pauseT at hu
  simp only at hu hl ⊢
  by_cases hs : st = 1
  · subst hs
    rw [if_pos rfl] at hu
    obtain ⟨⟨a, b, c, d, x⟩, hd⟩ : ∃ p, standP off week closed lv fr lf du now = p := ⟨_, rfl⟩
    rw [hd] at hu
    exact tkpause_ok id co lv gn fr lf du tl now a b c d x _ _ _ _ _ _ _ _ _ _ w h hn hk hl hd (with_some _ 2 a b c d x u e hu)
  · rw [if_neg hs] at hu
    injection hu with h1 h2
    subst h1 h2
    exact tkpause_no id co st lv gn fr lf du tl now w h hn hs
theorem oresume_any (t u : Tk) (now e : Int) (w : World) (h : ClkAt w n kb ab pb cb off week closed) (hn : n ≤ w.heap.size) (hl : t.lf ≤ 9223372036854775807) (hu : resumeT off week closed t now = (u, e)) :
    Calls Try.prog 24 #[.agg #[.int .u64 t.id, .int .i64 t.co, .int .i64 t.st, .int .i64 t.lv, .int .u64 t.gn, .int .i64 t.fr, .int .i64 t.lf, .int .i64 t.du, .int .i64 t.tl], .pointer (some ⟨kb, 0, none⟩), .int .i64 now] w fun r w' => r = .returned (.tuple #[.agg #[.int .u64 u.id, .int .i64 u.co, .int .i64 u.st, .int .i64 u.lv, .int .u64 u.gn, .int .i64 u.fr, .int .i64 u.lf, .int .i64 u.du, .int .i64 u.tl], .int .i64 e]) ∧ ClkAt w' n kb ab pb cb off week closed ∧ Upd cb w w' := by
  obtain ⟨id, co, st, lv, gn, fr, lf, du, tl⟩ := t
  unfold resumeT at hu
  simp only at hu hl ⊢
  by_cases hs : st = 2
  · subst hs
    rw [if_pos rfl] at hu
    obtain ⟨⟨a, b, c, d, x⟩, hd⟩ : ∃ p, goP off week closed lv lf du now = p := ⟨_, rfl⟩
    rw [hd] at hu
    exact tkresume_ok id co lv gn fr lf du tl now a b c d x _ _ _ _ _ _ _ _ _ _ w h hn hl hd (with_some _ 1 a b c d x u e hu)
  · rw [if_neg hs] at hu
    injection hu with h1 h2
    subst h1 h2
    exact tkresume_no id co st lv gn fr lf du tl now w h hn hs
theorem oreopen_any (t u : Tk) (now e : Int) (w : World) (h : ClkAt w n kb ab pb cb off week closed) (hn : n ≤ w.heap.size) (hq : Kd.C k98 w A ls.length ls ∧ ls.length ≤ k) (hu : reopenT off week closed cal ls re ba t now = (u, e)) :
    Calls Try.prog 26 #[.agg #[.int .u64 t.id, .int .i64 t.co, .int .i64 t.st, .int .i64 t.lv, .int .u64 t.gn, .int .i64 t.fr, .int .i64 t.lf, .int .i64 t.du, .int .i64 t.tl], .pointer (some ⟨kb, 0, none⟩), .agg #[.int .i64 cal, .slice A ls.length k, .int .i64 re, .int .i64 ba], .int .i64 now] w fun r w' => r = .returned (.tuple #[.agg #[.int .u64 u.id, .int .i64 u.co, .int .i64 u.st, .int .i64 u.lv, .int .u64 u.gn, .int .i64 u.fr, .int .i64 u.lf, .int .i64 u.du, .int .i64 u.tl], .int .i64 e]) ∧ ClkAt w' n kb ab pb cb off week closed ∧ Upd cb w w' := by
  obtain ⟨id, co, st, lv, gn, fr, lf, du, tl⟩ := t
  unfold reopenT at hu
  simp only at hu ⊢
  by_cases hs : st = 4
  · subst hs
    rw [if_pos rfl] at hu
    obtain ⟨⟨a, b, c, d, x⟩, hd⟩ : ∃ p, firstP off week closed cal ls re ba now = p := ⟨_, rfl⟩
    rw [hd] at hu
    exact tkreopen_ok id co lv gn fr lf du tl now cal re ba a b c d x _ _ _ _ _ _ _ _ _ _ w h hn hq hd (with_some _ 1 a b c d x u e hu)
  · rw [if_neg hs] at hu
    injection hu with h1 h2
    subst h1 h2
    exact tkreopen_no id co st lv gn fr lf du tl now cal re ba w h hn hq hs
theorem oresolve_any (t u : Tk) (e : Int) (w : World) (hu : resolveT t = (u, e)) :
    Calls Try.prog 25 #[.agg #[.int .u64 t.id, .int .i64 t.co, .int .i64 t.st, .int .i64 t.lv, .int .u64 t.gn, .int .i64 t.fr, .int .i64 t.lf, .int .i64 t.du, .int .i64 t.tl]] w fun r w' => r = .returned (.tuple #[.agg #[.int .u64 u.id, .int .i64 u.co, .int .i64 u.st, .int .i64 u.lv, .int .u64 u.gn, .int .i64 u.fr, .int .i64 u.lf, .int .i64 u.du, .int .i64 u.tl], .int .i64 e]) ∧ Below w.heap.size w w' := by
  obtain ⟨id, co, st, lv, gn, fr, lf, du, tl⟩ := t
  unfold resolveT at hu
  simp only at hu ⊢
  by_cases h1 : st = 1 ∨ st = 2 ∨ st = 3
  · rw [if_pos h1] at hu
    injection hu with h2 h3
    subst h2 h3
    rcases h1 with rfl | rfl | rfl
    · exact resolve_1 id co lv gn fr lf du tl w
    · exact resolve_2 id co lv gn fr lf du tl w
    · exact resolve_3 id co lv gn fr lf du tl w
  · rw [if_neg h1] at hu
    injection hu with h2 h3
    subst h2 h3
    exact resolve_0 id co st lv gn fr lf du tl w (fun h => h1 (.inl h)) (fun h => h1 (.inr (.inl h))) (fun h => h1 (.inr (.inr h)))
theorem oahead_any (id co st lv gn fr lf du tl cal re ba r : Int) (w : World) (l0 : 0 ≤ lv) (l1 : lv < ls.length) (hL : ls.length ≤ 6) (hr : aheadT ls.length st lv = r) :
    Calls Try.prog 29 #[.agg #[.int .u64 id, .int .i64 co, .int .i64 st, .int .i64 lv, .int .u64 gn, .int .i64 fr, .int .i64 lf, .int .i64 du, .int .i64 tl], .agg #[.int .i64 cal, .slice A ls.length k, .int .i64 re, .int .i64 ba]] w fun e w' => e = .returned (.int .i64 r) ∧ Below w.heap.size w w' := by
  subst hr
  unfold aheadT
  by_cases h1 : st = 1
  · subst h1
    rw [if_pos (.inl rfl)]
    exact ahead_1 id co lv gn fr lf du tl cal re ba w l0 l1 hL
  · by_cases h2 : st = 2
    · subst h2
      rw [if_pos (.inr rfl)]
      exact ahead_2 id co lv gn fr lf du tl cal re ba w l0 l1 hL
    · rw [if_neg (by rintro (h | h); exact h1 h; exact h2 h)]
      exact ahead_0 id co st lv gn fr lf du tl cal re ba w h1 h2
theorem ofire_any (t u : Tk) (now e met : Int) (w : World) (h : ClkAt w n kb ab pb cb off week closed) (hn : n ≤ w.heap.size) (hq : Kd.C k98 w A ls.length ls ∧ ls.length ≤ k) (hg : goodP cal ls re ba = true) (l0 : 0 ≤ t.lv) (l1 : t.lv < ls.length) (t0 : 0 ≤ t.tl) (t1 : t.tl ≤ 2147483646) (hu : fireT off week closed cal ls re ba t now = (u, met, e)) :
    Calls Try.prog 27 #[.agg #[.int .u64 t.id, .int .i64 t.co, .int .i64 t.st, .int .i64 t.lv, .int .u64 t.gn, .int .i64 t.fr, .int .i64 t.lf, .int .i64 t.du, .int .i64 t.tl], .pointer (some ⟨kb, 0, none⟩), .agg #[.int .i64 cal, .slice A ls.length k, .int .i64 re, .int .i64 ba], .int .i64 now] w fun r w' => r = .returned (.tuple #[.agg #[.int .u64 u.id, .int .i64 u.co, .int .i64 u.st, .int .i64 u.lv, .int .u64 u.gn, .int .i64 u.fr, .int .i64 u.lf, .int .i64 u.du, .int .i64 u.tl], .int .i64 met, .int .i64 e]) ∧ ClkAt w' n kb ab pb cb off week closed ∧ Upd cb w w' := by
  obtain ⟨id, co, st, lv, gn, fr, lf, du, tl⟩ := t
  unfold fireT at hu
  simp only at hu l0 l1 t0 t1 ⊢
  by_cases hs : st = 1
  · subst hs
    rw [if_pos rfl] at hu
    by_cases hb : now < du
    · rw [if_pos hb] at hu
      injection hu with h1 h2
      injection h2 with h2 h3
      subst h1 h2 h3
      exact tkfire_busy id co lv gn fr lf du tl now cal re ba w h hn hq hb
    · rw [if_neg hb] at hu
      obtain ⟨⟨a, b, c, d, x⟩, hd⟩ : ∃ p, nextP off week closed cal ls re ba lv now = p := ⟨_, rfl⟩
      cases hm : moreP off week closed cal ls re ba lv now with
      | true =>
        rw [if_pos hm, hd] at hu
        injection hu with h1 h2
        injection h2 with h2 h3
        subst h1 h2 h3
        exact tkfire_more cal re ba now id co lv gn fr lf du tl a b c d x w h hn hq hg l0 l1 (by omega) hd hm t0 t1
      | false =>
        rw [if_neg (by rw [hm]; decide)] at hu
        injection hu with h1 h2
        injection h2 with h2 h3
        subst h1 h2 h3
        exact tkfire_last cal re ba now id co lv gn fr lf du tl a b c d x w h hn hq hg l0 l1 (by omega) hd hm t0 t1
  · rw [if_neg hs] at hu
    injection hu with h1 h2
    injection h2 with h2 h3
    subst h1 h2 h3
    exact tkfire_state id co st lv gn fr lf du tl now cal re ba w h hn hq hs
end Go.Proofs.Ytepldlnmeenlbaa.Own
namespace Go.Proofs.Ytepldlnmeenlbaa.Own
open Go.RowKit Go.Proofs Go.Proofs.YtepldlnmeenlbaaW.PrintWords Go.Proofs.YtepldlnmeenlbaaW.PrintLast Go.Proofs.YtepldlnmeenlbaaW.PrintMore Go.Proofs.Ytepldlnmeenlbaa.Base
variable {w w' : World} {n kb ab pb cb : Nat} {off : Int} {week closed : List S143}
theorem always16_any (w : World) : Calls Try.prog 41 #[] w fun e w' => ∃ A1 c1 A2 c2, e = .returned (.agg #[.int .i64 0, .slice A1 [(⟨0, 604800⟩ : S143)].length c1, .slice A2 ([] : List S143).length c2]) ∧ (Kd.C k143 w' A1 [(⟨0, 604800⟩ : S143)].length [⟨0, 604800⟩] ∧ [(⟨0, 604800⟩ : S143)].length ≤ c1) ∧ (Kd.C k143 w' A2 ([] : List S143).length [] ∧ ([] : List S143).length ≤ c2) ∧ Below w.heap.size w w' :=
  (curfewlaw15_Always.calls 0 [⟨0, 604800⟩] [] w rfl).mono fun e w' ⟨v1, v2, he, h1, h2, hb⟩ => by
    obtain ⟨A1, c1, rfl, hc1, hr1⟩ := Kd.R_reads h1
    obtain ⟨A2, c2, rfl, hc2, hr2⟩ := Kd.R_reads h2
    exact ⟨A1, c1, A2, c2, he, ⟨hr1, hc1⟩, ⟨hr2, hc2⟩, hb⟩
theorem plain16_any (w : World) {b : Nat} {t : TypeId} {cs : Array Value} (hg : w.heap[b]? = some (.cells cs t (0, 0))) (ht : t ≠ 98) : Calls Try.prog 42 #[] w fun e w' => ∃ A1 c1, e = .returned (.agg #[.int .i64 0, .slice A1 [(⟨10, 0⟩ : S98), ⟨20, 1⟩].length c1, .int .i64 2, .int .i64 5]) ∧ (∀ W', KeepBut w' W' b none → Kd.C k98 W' A1 [(⟨10, 0⟩ : S98), ⟨20, 1⟩].length [⟨10, 0⟩, ⟨20, 1⟩] ∧ [(⟨10, 0⟩ : S98), ⟨20, 1⟩].length ≤ c1) ∧ Below w.heap.size w w' :=
  (curfewlaw14_Plain.calls 0 [⟨10, 0⟩, ⟨20, 1⟩] 2 5 w rfl).mono fun e w' ⟨v1, he, h1, hb⟩ => by
    obtain ⟨A1, c1, rfl, hc1, hr1⟩ := Kd.R_reads h1
    have hf := Kd.C_foot_own (g := b) (Kd.R_types h1 (blk_below hg hb) (types1 rfl ht)) (fun _ hk => hk.2)
    exact ⟨A1, c1, he, fun W' hk => ⟨hf W' hk, hc1⟩, hb⟩
theorem upd_below16 {cb n0 : Nat} {w u v : World} (h : Below n0 w u) (hu : Upd cb u v) (hn : n0 ≤ cb) (hs : n0 ≤ u.heap.size) : Below n0 w v := h.trans (Upd.below hu hs hn)
theorem keep_of_upd {cb : Nat} {u v : World} (h : Upd cb u v) : KeepBut u v cb none := ⟨h.size, fun i hi hne _ => h.block i hi (fun e => hne (Option.some.inj e))⟩
theorem ClkAt.lazyT (h : ClkAt w n kb ab pb cb off week closed) : ∃ cs, w.heap[cb]? = some (.cells cs 189 (0, 0)) := by
  obtain ⟨m, k, ⟨lv, hc⟩ | ⟨v, hc, hr⟩⟩ := h.plan.cell
  · exact ⟨_, hc⟩
  · exact ⟨_, hc⟩
theorem l16_0 : calErr 0 [⟨0, 604800⟩] [] = 0 := by kernel_rfl
theorem l16_1 : firstP 0 [⟨0, 604800⟩] [] 0 [⟨10, 0⟩, ⟨20, 1⟩] 2 5 0 = (0, 0, 10, 10, 0) := by kernel_rfl
theorem l16_2 : nextP 0 [⟨0, 604800⟩] [] 0 [⟨10, 0⟩, ⟨20, 1⟩] 2 5 0 12 = (1, 12, 20, 32, 0) := by kernel_rfl
theorem l16_3 : moreP 0 [⟨0, 604800⟩] [] 0 [⟨10, 0⟩, ⟨20, 1⟩] 2 5 0 12 = true := by kernel_rfl
theorem l16_4 : nextP 0 [⟨0, 604800⟩] [] 0 [⟨10, 0⟩, ⟨20, 1⟩] 2 5 1 32 = (0, 0, 0, 0, 0) := by kernel_rfl
theorem l16_5 : moreP 0 [⟨0, 604800⟩] [] 0 [⟨10, 0⟩, ⟨20, 1⟩] 2 5 1 32 = false := by kernel_rfl
theorem l16_6 : goodP 0 [⟨10, 0⟩, ⟨20, 1⟩] 2 5 = true := by kernel_rfl
set_option maxHeartbeats 4000000 in
set_option maxRecDepth 100000 in
theorem lives16_any (w : World) : Calls Try.prog 8 #[] w fun e w' => e = .returned (.bool true) ∧ Below w.heap.size w w' := by
  go_enter Try.func8, Try.ntmps8
  go_wp2_with (first | (go_at_call 41; refine (always16_any w).mono ?_; rintro e w1 ⟨A1, c1, A2, c2, rfl, q1, q2, hb⟩; have HQ1 := Aside0.mk q1; have HQ2 := Aside0.mk q2; have HB1 := Aside0.mk hb; clear q1 q2 hb) | (go_at_call 22; refine (calnew_yes 0 A1 A2 c1 c2 [⟨0, 604800⟩] [] w1 HQ1.out.1 HQ1.out.2 HQ2.out.1 HQ2.out.2 l16_0).mono ?_; rintro e w2 ⟨kb, ab, pb, cb, rfl, CK, hb⟩; have HC2 := Aside0.mk CK; have HB2 := Aside0.mk hb; have HCB2 := Aside0.mk CK.lt; obtain ⟨ccs, hcc⟩ := CK.lazyT; have HCC := Aside0.mk hcc; clear CK hb hcc) | (go_at_call 42; refine (plain16_any w2 HCC.out (by decide)).mono ?_; rintro e w3 ⟨A3, c3, rfl, q3, hb⟩; have HF := Aside0.mk q3; have HC3 := Aside0.mk (HC2.out.below hb); have HB3 := Aside0.mk hb; clear q3 hb))
  have hcb := HCB2.out
  have hk3 := HB3.out.size
  have hk2 := HB2.out.size
  have hk1 := HB1.out.size
  have hncb := HC2.out.plan.ncb
  have HC_3 := HC3
  have HU_3 := Aside0.mk (Upd.refl cb w3)
  have hs_3 : w3.heap.size ≤ w3.heap.size := Nat.le_refl _
  have HLq_3 := Aside0.mk (HF.out _ (keep_of_upd HU_3.out))
  have hb : Below w3.heap.size w3 (w3.alloc (.cells #[.int .i64 0, .slice A3 2 c3, .int .i64 2, .int .i64 5] 49)) := below_alloc (Below.refl _ _) _
  have HC_4 := Aside0.mk (HC_3.out.below hb)
  have HU_4 := Aside0.mk (HU_3.out.then hb)
  have hs_4 : w3.heap.size ≤ (w3.alloc (.cells #[.int .i64 0, .slice A3 2 c3, .int .i64 2, .int .i64 5] 49)).heap.size := hb.size
  clear hb
  have Bq_4 := Aside0.mk (blk_new w3 (.cells #[.int .i64 0, .slice A3 2 c3, .int .i64 2, .int .i64 5] 49))
  have hz_4 : w3.heap.size < (w3.alloc (.cells #[.int .i64 0, .slice A3 2 c3, .int .i64 2, .int .i64 5] 49)).heap.size := blk_lt Bq_4.out
  generalize (w3.alloc (.cells #[.int .i64 0, .slice A3 2 c3, .int .i64 2, .int .i64 5] 49)) = w4 at HC_4 HU_4 hs_4 Bq_4 hz_4 ⊢
  obtain ⟨dq0, dq1, dq2, dq3⟩ := cells4 Bq_4.out
  have HLq_4 := Aside0.mk (HF.out _ (keep_of_upd HU_4.out))
  have HO := Aside0.mk (@tkopen_any w1.heap.size kb ab pb cb 0 [⟨0, 604800⟩] [] A3 c3 [⟨10, 0⟩, ⟨20, 1⟩] 0 2 5 0 7 0 0 0 10 10 0 7 0 1 0 0 0 10 10 0 0 w4 HC_4.out (by omega) HLq_4.out (by omega) (by omega) l16_1 rfl)
  simp only [List.length_cons, List.length_nil, Nat.zero_add, Nat.reduceAdd] at HO
  go_upto_region 4 with (go_at_call 23; with_reducible refine (HO.out).mono ?_; rintro e w5 ⟨rfl, q1, q2⟩; clear HO; clear dq0 dq1 dq2 dq3; have HC_5 := Aside0.mk q1; have HU_5 := Aside0.mk (HU_4.out.trans q2); have hs_5 : w4.heap.size ≤ w5.heap.size := q2.size; have Bq_5 := Aside0.mk (q2.blk Bq_4.out (by omega)); clear q1 q2; obtain ⟨dq0, dq1, dq2, dq3⟩ := cells4 Bq_5.out; have HLq_5 := Aside0.mk (HF.out _ (keep_of_upd HU_5.out)))
  have hb : Below w5.heap.size w5 (w5.alloc (.cells #[.int .u64 7, .int .i64 0, .int .i64 1, .int .i64 0, .int .u64 0, .int .i64 0, .int .i64 10, .int .i64 10, .int .i64 0] 24)) := below_alloc (Below.refl _ _) _
  clear dq0 dq1 dq2 dq3
  have HC_6 := Aside0.mk (HC_5.out.below hb)
  have HU_6 := Aside0.mk (HU_5.out.then hb)
  have hs_6 : w5.heap.size ≤ (w5.alloc (.cells #[.int .u64 7, .int .i64 0, .int .i64 1, .int .i64 0, .int .u64 0, .int .i64 0, .int .i64 10, .int .i64 10, .int .i64 0] 24)).heap.size := hb.size
  have Bq_6 := Aside0.mk (blk_below Bq_5.out hb)
  clear hb
  have Bt_6 := Aside0.mk (blk_new w5 (.cells #[.int .u64 7, .int .i64 0, .int .i64 1, .int .i64 0, .int .u64 0, .int .i64 0, .int .i64 10, .int .i64 10, .int .i64 0] 24))
  have hz_6 : w5.heap.size < (w5.alloc (.cells #[.int .u64 7, .int .i64 0, .int .i64 1, .int .i64 0, .int .u64 0, .int .i64 0, .int .i64 10, .int .i64 10, .int .i64 0] 24)).heap.size := blk_lt Bt_6.out
  generalize (w5.alloc (.cells #[.int .u64 7, .int .i64 0, .int .i64 1, .int .i64 0, .int .u64 0, .int .i64 0, .int .i64 10, .int .i64 10, .int .i64 0] 24)) = w6 at HC_6 HU_6 hs_6 Bq_6 Bt_6 hz_6 ⊢
  obtain ⟨dq0, dq1, dq2, dq3⟩ := cells4 Bq_6.out
  obtain ⟨dt0, dt1, dt2, dt3, dt4, dt5, dt6, dt7, dt8⟩ := cells9 Bt_6.out
  have HLq_6 := Aside0.mk (HF.out _ (keep_of_upd HU_6.out))
  have HO := Aside0.mk (@tkfire_more w1.heap.size kb ab pb cb 0 [⟨0, 604800⟩] [] A3 c3 [⟨10, 0⟩, ⟨20, 1⟩] 0 2 5 12 7 0 0 0 0 10 10 0 1 12 20 32 0 w6 HC_6.out (by omega) HLq_6.out l16_6 (by omega) (by show (0 : Int) < 2; omega) (by omega) l16_2 l16_3 (by omega) (by omega))
  simp only [List.length_cons, List.length_nil, Nat.zero_add, Nat.reduceAdd] at HO
  go_upto_region 5 with (go_at_call 27; with_reducible refine (HO.out).mono ?_; rintro e w7 ⟨rfl, q1, q2⟩; clear HO; rw [show (0 : Int) + 1 = 1 from rfl]; clear dq0 dq1 dq2 dq3 dt0 dt1 dt2 dt3 dt4 dt5 dt6 dt7 dt8; have HC_7 := Aside0.mk q1; have HU_7 := Aside0.mk (HU_6.out.trans q2); have hs_7 : w6.heap.size ≤ w7.heap.size := q2.size; have Bq_7 := Aside0.mk (q2.blk Bq_6.out (by omega)); have Bt_7 := Aside0.mk (q2.blk Bt_6.out (by omega)); clear q1 q2; obtain ⟨dq0, dq1, dq2, dq3⟩ := cells4 Bq_7.out; obtain ⟨dt0, dt1, dt2, dt3, dt4, dt5, dt6, dt7, dt8⟩ := cells9 Bt_7.out; have HLq_7 := Aside0.mk (HF.out _ (keep_of_upd HU_7.out)))
  have hb : Below w7.heap.size w7 (w7.alloc (.cells #[.int .u64 7, .int .i64 0, .int .i64 1, .int .i64 1, .int .u64 0, .int .i64 12, .int .i64 20, .int .i64 32, .int .i64 1] 24)) := below_alloc (Below.refl _ _) _
  clear dq0 dq1 dq2 dq3 dt0 dt1 dt2 dt3 dt4 dt5 dt6 dt7 dt8
  have HC_8 := Aside0.mk (HC_7.out.below hb)
  have HU_8 := Aside0.mk (HU_7.out.then hb)
  have hs_8 : w7.heap.size ≤ (w7.alloc (.cells #[.int .u64 7, .int .i64 0, .int .i64 1, .int .i64 1, .int .u64 0, .int .i64 12, .int .i64 20, .int .i64 32, .int .i64 1] 24)).heap.size := hb.size
  have Bq_8 := Aside0.mk (blk_below Bq_7.out hb)
  have Bt_8 := Aside0.mk (blk_below Bt_7.out hb)
  clear hb
  have Bu_8 := Aside0.mk (blk_new w7 (.cells #[.int .u64 7, .int .i64 0, .int .i64 1, .int .i64 1, .int .u64 0, .int .i64 12, .int .i64 20, .int .i64 32, .int .i64 1] 24))
  have hz_8 : w7.heap.size < (w7.alloc (.cells #[.int .u64 7, .int .i64 0, .int .i64 1, .int .i64 1, .int .u64 0, .int .i64 12, .int .i64 20, .int .i64 32, .int .i64 1] 24)).heap.size := blk_lt Bu_8.out
  generalize (w7.alloc (.cells #[.int .u64 7, .int .i64 0, .int .i64 1, .int .i64 1, .int .u64 0, .int .i64 12, .int .i64 20, .int .i64 32, .int .i64 1] 24)) = w8 at HC_8 HU_8 hs_8 Bq_8 Bt_8 Bu_8 hz_8 ⊢
  obtain ⟨dq0, dq1, dq2, dq3⟩ := cells4 Bq_8.out
  obtain ⟨dt0, dt1, dt2, dt3, dt4, dt5, dt6, dt7, dt8⟩ := cells9 Bt_8.out
  obtain ⟨du0, du1, du2, du3, du4, du5, du6, du7, du8⟩ := cells9 Bu_8.out
  have HLq_8 := Aside0.mk (HF.out _ (keep_of_upd HU_8.out))
  have HO := Aside0.mk (@tkfire_last w1.heap.size kb ab pb cb 0 [⟨0, 604800⟩] [] A3 c3 [⟨10, 0⟩, ⟨20, 1⟩] 0 2 5 32 7 0 1 0 12 20 32 1 0 0 0 0 0 w8 HC_8.out (by omega) HLq_8.out l16_6 (by omega) (by show (1 : Int) < 2; omega) (by omega) l16_4 l16_5 (by omega) (by omega))
  simp only [List.length_cons, List.length_nil, Nat.zero_add, Nat.reduceAdd] at HO
  go_upto_region 6 with (go_at_call 27; with_reducible refine (HO.out).mono ?_; rintro e w9 ⟨rfl, q1, q2⟩; clear HO; rw [show (1 : Int) + 1 = 2 from rfl]; clear dq0 dq1 dq2 dq3 dt0 dt1 dt2 dt3 dt4 dt5 dt6 dt7 dt8 du0 du1 du2 du3 du4 du5 du6 du7 du8; have HC_9 := Aside0.mk q1; have HU_9 := Aside0.mk (HU_8.out.trans q2); have hs_9 : w8.heap.size ≤ w9.heap.size := q2.size; have Bq_9 := Aside0.mk (q2.blk Bq_8.out (by omega)); have Bt_9 := Aside0.mk (q2.blk Bt_8.out (by omega)); have Bu_9 := Aside0.mk (q2.blk Bu_8.out (by omega)); clear q1 q2; obtain ⟨dq0, dq1, dq2, dq3⟩ := cells4 Bq_9.out; obtain ⟨dt0, dt1, dt2, dt3, dt4, dt5, dt6, dt7, dt8⟩ := cells9 Bt_9.out; obtain ⟨du0, du1, du2, du3, du4, du5, du6, du7, du8⟩ := cells9 Bu_9.out; have HLq_9 := Aside0.mk (HF.out _ (keep_of_upd HU_9.out)))
  have hb : Below w9.heap.size w9 (w9.alloc (.cells #[.int .u64 7, .int .i64 0, .int .i64 3, .int .i64 1, .int .u64 0, .int .i64 0, .int .i64 0, .int .i64 0, .int .i64 2] 24)) := below_alloc (Below.refl _ _) _
  clear dq0 dq1 dq2 dq3 dt0 dt1 dt2 dt3 dt4 dt5 dt6 dt7 dt8 du0 du1 du2 du3 du4 du5 du6 du7 du8
  have HC_10 := Aside0.mk (HC_9.out.below hb)
  have HU_10 := Aside0.mk (HU_9.out.then hb)
  have hs_10 : w9.heap.size ≤ (w9.alloc (.cells #[.int .u64 7, .int .i64 0, .int .i64 3, .int .i64 1, .int .u64 0, .int .i64 0, .int .i64 0, .int .i64 0, .int .i64 2] 24)).heap.size := hb.size
  have Bq_10 := Aside0.mk (blk_below Bq_9.out hb)
  have Bt_10 := Aside0.mk (blk_below Bt_9.out hb)
  have Bu_10 := Aside0.mk (blk_below Bu_9.out hb)
  clear hb
  have Bv_10 := Aside0.mk (blk_new w9 (.cells #[.int .u64 7, .int .i64 0, .int .i64 3, .int .i64 1, .int .u64 0, .int .i64 0, .int .i64 0, .int .i64 0, .int .i64 2] 24))
  have hz_10 : w9.heap.size < (w9.alloc (.cells #[.int .u64 7, .int .i64 0, .int .i64 3, .int .i64 1, .int .u64 0, .int .i64 0, .int .i64 0, .int .i64 0, .int .i64 2] 24)).heap.size := blk_lt Bv_10.out
  generalize (w9.alloc (.cells #[.int .u64 7, .int .i64 0, .int .i64 3, .int .i64 1, .int .u64 0, .int .i64 0, .int .i64 0, .int .i64 0, .int .i64 2] 24)) = w10 at HC_10 HU_10 hs_10 Bq_10 Bt_10 Bu_10 Bv_10 hz_10 ⊢
  obtain ⟨dq0, dq1, dq2, dq3⟩ := cells4 Bq_10.out
  obtain ⟨dt0, dt1, dt2, dt3, dt4, dt5, dt6, dt7, dt8⟩ := cells9 Bt_10.out
  obtain ⟨du0, du1, du2, du3, du4, du5, du6, du7, du8⟩ := cells9 Bu_10.out
  obtain ⟨dv0, dv1, dv2, dv3, dv4, dv5, dv6, dv7, dv8⟩ := cells9 Bv_10.out
  have HLq_10 := Aside0.mk (HF.out _ (keep_of_upd HU_10.out))
  go_wp2
  go_ret
  exact ⟨rfl, upd_below16 (below_step (below_step HB1.out HB2.out) HB3.out) HU_10.out (by omega) (by omega)⟩
end Go.Proofs.Ytepldlnmeenlbaa.Own
namespace Go.Proofs.Ytepldlnmeenlbaa.Own
open Go.RowKit Go.Proofs Go.Proofs.YtepldlnmeenlbaaW.PrintWords Go.Proofs.YtepldlnmeenlbaaW.PrintLast Go.Proofs.YtepldlnmeenlbaaW.PrintMore Go.Proofs.Ytepldlnmeenlbaa.Base
variable {t : TypeId} {m rb c : Nat} {w w' : World} {A : Option Addr} {s : List Int × Bool}
theorem RdAt.lt (h : RdAt t m w rb s) : rb < w.heap.size := by obtain ⟨A, c, h⟩ := h; exact blk_lt h.blk
theorem RdAt.byte (h : RdAt t m w rb s) : ∀ x, x ∈ s.1 → 0 ≤ x ∧ x ≤ 255 := by obtain ⟨A, c, h⟩ := h; exact h.byte
end Go.Proofs.Ytepldlnmeenlbaa.Own
namespace Go.Proofs.Ytepldlnmeenlbaa.Own
open Go.RowKit Go.Proofs Go.Proofs.YtepldlnmeenlbaaW.PrintWords Go.Proofs.YtepldlnmeenlbaaW.PrintLast Go.Proofs.YtepldlnmeenlbaaW.PrintMore Go.Proofs.Ytepldlnmeenlbaa.Base
theorem WrAt.lt {w : World} {n wb : Nat} {bs : List Int} (h : WrAt w n wb bs) : wb < w.heap.size := blk_lt h.choose_spec.blk
end Go.Proofs.Ytepldlnmeenlbaa.Own
namespace Go.Proofs.Ytepldlnmeenlbaa.Own
open Go.RowKit Go.Proofs Go.Proofs.YtepldlnmeenlbaaW.PrintWords Go.Proofs.YtepldlnmeenlbaaW.PrintLast Go.Proofs.YtepldlnmeenlbaaW.PrintMore Go.Proofs.Ytepldlnmeenlbaa.Base
theorem rright_eq (a b : Int) : curfewref07_Right.f a b = some (decide (0 ≤ a ∧ a < b ∧ b ≤ 1125899906842624)) := by
  unfold curfewref07_Right.f
  by_cases h1 : 0 ≤ a
  · rw [if_pos h1]
    by_cases h2 : a < b
    · rw [if_pos h2]; simp [h1, h2]
    · rw [if_neg h2]; simp [h2]
  · rw [if_neg h1]; simp [h1]
theorem rrow_l0 (l : List S143) (hl : l.length ≤ 1000000) : ∀ (d k i : Nat) (lo : Int), i + d = l.length → d < k → (i = 0 ∧ lo = 0 ∨ 0 < i ∧ lo = (rd_T143 l ((i : Int) - 1)).f1) → curfewref07_Row.l0 k l (i : Int) = some (if okRow lo (l.drop i) then 0 else 2) := by
  intro d
  induction d with
  | zero =>
    intro k i lo hi hk _
    obtain ⟨k, rfl⟩ : ∃ m, k = m + 1 := ⟨k - 1, by omega⟩
    rw [List.drop_eq_nil_of_le (by omega)]
    simp only [curfewref07_Row.l0]
    rw [if_neg (by omega)]
    rfl
  | succ d ih =>
    intro k i lo hi hk hlo
    obtain ⟨k, rfl⟩ : ∃ m, k = m + 1 := ⟨k - 1, by omega⟩
    have hlt : i < l.length := by omega
    rw [drop_at hlt]
    simp only [curfewref07_Row.l0]
    rw [if_pos (by omega), if_pos (by omega), rright_eq, wrap_id (x := (i : Int) + 1) (by omega) (by omega), wrap_id (x := (i : Int) - 1) (by omega) (by omega)]
    simp only [Option.bind_some, decide_eq_true_eq]
    have ih' := ih k (i + 1) (rd_T143 l i).f1 (by omega) (by omega) (.inr ⟨by omega, by rw [show ((i + 1 : Nat) : Int) - 1 = (i : Int) by omega]⟩)
    rw [show ((i + 1 : Nat) : Int) = (i : Int) + 1 by omega] at ih'
    by_cases h : 0 ≤ (rd_T143 l i).f0 ∧ (rd_T143 l i).f0 < (rd_T143 l i).f1 ∧ (rd_T143 l i).f1 ≤ 1125899906842624
    · rw [if_pos h]
      have e0 : okRow lo (rd_T143 l i :: l.drop (i + 1)) = (decide (lo ≤ (rd_T143 l i).f0) && okRow (rd_T143 l i).f1 (l.drop (i + 1))) := by
        conv => lhs; unfold okRow
        congr 1
        simp [h.1, h.2.1, h.2.2]
      rw [e0]
      rcases hlo with ⟨rfl, rfl⟩ | ⟨h0, rfl⟩
      · rw [if_neg (by omega), ih', decide_eq_true h.1, Bool.true_and]
      · rw [if_pos (by omega), if_pos (by omega), if_pos (by omega)]
        by_cases h2 : (rd_T143 l i).f0 < (rd_T143 l ((i : Int) - 1)).f1
        · rw [if_pos h2, decide_eq_false (by omega)]; rfl
        · rw [if_neg h2, ih', decide_eq_true (by omega), Bool.true_and]
    · rw [if_neg h]
      have e : okRow lo (rd_T143 l i :: l.drop (i + 1)) = false := by unfold okRow; rw [decide_eq_false (by omega)]; rfl
      rw [e]; rfl
theorem rrow_eq (l : List S143) (k : Nat) (hk : 33 < k) : curfewref07_Row.f k l = some (rowErr l) := by
  unfold curfewref07_Row.f rowErr
  by_cases h : 32 < l.length
  · rw [if_pos (by omega), if_pos h]
  · rw [if_neg (by omega), if_neg h]
    exact rrow_l0 l (by omega) l.length k 0 0 (by omega) (by omega) (.inl ⟨rfl, rfl⟩)
theorem wrong_l0 (l : List S143) (hl : l.length ≤ 1000000) : ∀ (d k i : Nat), i + d = l.length → d < k → curfewref08_Wrong.l0 k l (i : Int) = some (if ∃ s, s ∈ l.drop i ∧ 604800 < s.f1 then 2 else 0) := by
  intro d
  induction d with
  | zero =>
    intro k i hi hk
    obtain ⟨k, rfl⟩ : ∃ m, k = m + 1 := ⟨k - 1, by omega⟩
    rw [List.drop_eq_nil_of_le (by omega)]
    simp only [curfewref08_Wrong.l0]
    rw [if_neg (by omega), if_neg (by simp)]
  | succ d ih =>
    intro k i hi hk
    obtain ⟨k, rfl⟩ : ∃ m, k = m + 1 := ⟨k - 1, by omega⟩
    have hlt : i < l.length := by omega
    rw [drop_at hlt]
    simp only [curfewref08_Wrong.l0]
    rw [if_pos (by omega), if_pos (by omega), wrap_id (x := (i : Int) + 1) (by omega) (by omega)]
    have ih' := ih k (i + 1) (by omega) (by omega)
    rw [show ((i + 1 : Nat) : Int) = (i : Int) + 1 by omega] at ih'
    by_cases h : (rd_T143 l i).f1 > 604800
    · rw [if_pos h, if_pos ⟨_, List.mem_cons_self, h⟩]
    · rw [if_neg h, ih']
      congr 1
      by_cases h2 : ∃ s, s ∈ l.drop (i + 1) ∧ 604800 < s.f1
      · obtain ⟨s, a, b⟩ := h2
        rw [if_pos ⟨s, a, b⟩, if_pos ⟨s, List.mem_cons_of_mem _ a, b⟩]
      · rw [if_neg h2, if_neg]
        rintro ⟨s, a, b⟩
        rcases List.mem_cons.1 a with rfl | a
        · omega
        · exact h2 ⟨s, a, b⟩
theorem wrong_eq (l : List S143) (k : Nat) (hk : 33 < k) : curfewref08_Wrong.f k l = some (weekErr l) := by
  unfold curfewref08_Wrong.f weekErr
  rw [rrow_eq l k hk, Option.bind_some]
  by_cases h : rowErr l = 0
  · rw [if_pos h, if_pos h]
    have hok := rowErr_ok h
    rw [show (0 : Int) = ((0 : Nat) : Int) from rfl, wrong_l0 l (by have := hok.len; omega) l.length k 0 (by omega) (by have := hok.len; omega), List.drop_zero]
    congr 1
    by_cases h2 : 604800 < lastEnd l
    · have hex : ∃ s, s ∈ l ∧ 604800 < s.f1 := by
        cases hl : l.getLast? with
        | none => unfold lastEnd at h2; rw [hl] at h2; simp only at h2; omega
        | some s => unfold lastEnd at h2; rw [hl] at h2; exact ⟨s, List.mem_of_getLast? hl, h2⟩
      rw [if_pos h2, if_pos hex]
    · have hex : ¬ ∃ s, s ∈ l ∧ 604800 < s.f1 := by
        rintro ⟨s, a, b⟩
        have := hok.row.le_last s a
        omega
      rw [if_neg h2, if_neg hex]; rfl
  · rw [if_neg h, if_neg h]
theorem check_eq (off : Int) (week closed : List S143) (k : Nat) (hk : 34 < k) : curfewref10_Check.f k off week closed = some (calErr off week closed) := by
  obtain ⟨k, rfl⟩ : ∃ m, k = m + 1 := ⟨k - 1, by omega⟩
  unfold curfewref10_Check.f calErr
  by_cases h1 : off < 0
  · rw [if_pos h1, if_pos (.inl h1)]
    simp only [curfewref10_Check.j0, if_true]
  · rw [if_neg h1]
    simp only [curfewref10_Check.j0, decide_eq_true_eq]
    by_cases h2 : off ≥ 604800
    · rw [if_pos h2, if_pos (.inr h2)]
    · rw [if_neg h2, if_neg (by omega), wrong_eq week k (by omega), Option.bind_some]
      by_cases h3 : weekErr week = 0
      · rw [if_pos h3, if_pos h3, rrow_eq closed k (by omega), Option.bind_some]
      · rw [if_neg h3, if_neg h3]
end Go.Proofs.Ytepldlnmeenlbaa.Own
namespace Go.Proofs.Ytepldlnmeenlbaa.Own
open Go.RowKit Go.Proofs Go.Proofs.YtepldlnmeenlbaaW.PrintWords Go.Proofs.YtepldlnmeenlbaaW.PrintLast Go.Proofs.YtepldlnmeenlbaaW.PrintMore Go.Proofs.Ytepldlnmeenlbaa.Base
section
variable {α : Type} {d : Kd α} {e : Nat} {w w' : World} {base : Nat} {ok : Nat → Prop} {v : Value} {xs : List α} {t m rb c : Nat} {s : List Int × Bool}
theorem RdAt.grown (h : RdAt t m w rb s) {row : Option Nat} (hg : w.grownBy w' row) (hne : some rb ≠ row) (hlo : ∀ k, row = some k → m ≤ k) : RdAt t m w' rb s := by
  obtain ⟨A, c, h⟩ := h
  exact ⟨A, c, blk_grown h.blk hg hne, h.cap, C_blocks h.row (fun ad e => by
    have h1 := h.far ad e
    have h2 := blk_lt h.blk
    have h3 := h.mrb
    exact hg.block ad.block (by omega) (fun e' => by have := hlo _ e'.symm; omega)), h.far, h.mrb, h.byte⟩
end
theorem refcheck_q {off : Int} {A1 A2 : Option Addr} {c1 c2 : Nat} {week closed : List S143} (w : World) (h1 : Kd.C k143 w A1 week.length week ∧ week.length ≤ c1) (h2 : Kd.C k143 w A2 closed.length closed ∧ closed.length ≤ c2) :
    Calls Try.prog 20 #[.agg #[.int .i64 off, .slice A1 week.length c1, .slice A2 closed.length c2]] w fun e w' => e = .returned (.int .i64 (calErr off week closed)) ∧ Below w.heap.size w w' :=
  curfewref10_Check.calls 40 off A1 c1 week A2 c2 closed _ w h1.1 h1.2 h2.1 h2.2 (check_eq off week closed 40 (by omega))
variable {t m rb c : Nat} {w w' : World} {A : Option Addr} {s : List Int × Bool}
end Go.Proofs.Ytepldlnmeenlbaa.Own
