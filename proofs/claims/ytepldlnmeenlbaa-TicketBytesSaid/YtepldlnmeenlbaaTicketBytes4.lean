/- TicketBytes, part 4: what the claim needs of Tk, Tk2, Tk3, Tkr, Tk4, Base2. -/
import Derived.Test.YtepldlnmeenlbaaTicketBytes3
import Derived.Test.YtepldlnmeenlbaaProg
import Derived.Below
import Derived.Deep.Draws
import Derived.Deep.AppendLies
import Derived.Maps.AppendAt
import Derived.OwnWalk
import Derived.Laws.BytesArg
import Derived.Laws.MakeOwn
import Derived.Laws.OwnMore
import Derived.Deep.OwnRows
import Derived.Tactics
import Derived.Lib.ConvBytes
import Derived.Laws.Slices
import Derived.WalkKit
import Derived.KernelRfl
import Derived.RowKit3
import Derived.Deep.LoopGhost
import Derived.Deep.QuietTactic
import Derived.BigQuiet
import Derived.WideLaws
import Derived.Deep.DeepCutAuto
import Derived.Deep.CutBlock
import Derived.Deep.RegionHeld3
import Derived.Laws.Rows
import Derived.Lib.AppendStr
import Derived.ArgAppend
import Derived.Laws.IdiomCopy
import Derived.OrdersHeld
import Derived.Laws.BitsLemmas
import Derived.RowKit
import Derived.Laws.StructEq
import Derived.Tactics2
import Derived.Defers
import Derived.Laws.Pointers
import Derived.Laws.LoneSync
import Derived.Laws.NewBlocks
import Derived.RegionTactic
import Derived.RegionCalls
import Derived.ChangeAlike
import Derived.StillTailTactics
import Derived.Outline
import Derived.Handy
import Derived.SizedLaws
import Derived.ChangeSlices
import Derived.Laws.EntriesVeiled
set_option linter.unusedVariables false
set_option linter.unusedSimpArgs false
namespace Go.Proofs.Ytepldlnmeenlbaa.Own
open Go.RowKit Go.Proofs Go.Proofs.YtepldlnmeenlbaaW.PrintWords Go.Proofs.YtepldlnmeenlbaaW.PrintLast Go.Proofs.YtepldlnmeenlbaaW.PrintMore Go.Proofs.Ytepldlnmeenlbaa.Base
structure Tk where
  id : Int
  co : Int
  st : Int
  lv : Int
  gn : Int
  fr : Int
  lf : Int
  du : Int
  tl : Int
structure TkOk (t : Tk) : Prop where
  id : 0 ≤ t.id ∧ t.id < 18446744073709551616
  co : -9223372036854775808 ≤ t.co ∧ t.co ≤ 9223372036854775807
  st : -9223372036854775808 ≤ t.st ∧ t.st ≤ 9223372036854775807
  lv : -9223372036854775808 ≤ t.lv ∧ t.lv ≤ 9223372036854775807
  gn : 0 ≤ t.gn ∧ t.gn < 18446744073709551616
  fr : -9223372036854775808 ≤ t.fr ∧ t.fr ≤ 9223372036854775807
  lf : -9223372036854775808 ≤ t.lf ∧ t.lf ≤ 9223372036854775807
  du : -9223372036854775808 ≤ t.du ∧ t.du ≤ 9223372036854775807
  tl : -9223372036854775808 ≤ t.tl ∧ t.tl ≤ 9223372036854775807
def tkS (t : Tk) : Prop :=
  (0 ≤ t.co ∧ t.co ≤ 15 ∧ 0 ≤ t.lv ∧ t.lv ≤ 5 ∧ 0 ≤ t.tl ∧ t.tl ≤ 2147483648 ∧ t.gn ≤ 1152921504606846976) ∧
  (t.st = 1 ∧ t.gn ≠ 0 ∧ 1 ≤ t.lf ∧ 0 ≤ t.fr ∧ t.du ≤ 1125899906842624 ∧ t.fr ≤ t.du ∧ t.lf ≤ t.du - t.fr ∨
   t.st = 2 ∧ t.gn = 0 ∧ t.du = 0 ∧ 1 ≤ t.lf ∧ t.lf ≤ 1125899906842624 ∧ 0 ≤ t.fr ∧ t.fr ≤ 1125899906842624 ∨
   (t.st = 3 ∨ t.st = 4) ∧ t.gn = 0 ∧ t.fr = 0 ∧ t.lf = 0 ∧ t.du = 0)
instance instTk (t : Tk) : Decidable (tkS t) := by unfold tkS; exact inferInstance
def tkB (t : Tk) : Bool := decide (tkS t)
theorem tk_yes {t : Tk} (h : tkS t) : tkB t = true := decide_eq_true h
theorem tk_no {t : Tk} (h : ¬ tkS t) : tkB t = false := decide_eq_false h
set_option maxHeartbeats 4000000 in
set_option maxRecDepth 100000 in
theorem tksound_1 {id co st lv gn fr lf du tl : Int} (w : World) (h : TkOk ⟨id, co, st, lv, gn, fr, lf, du, tl⟩) (x0 : co < 0) : Calls Try.prog 9 #[.agg #[.int .u64 id, .int .i64 co, .int .i64 st, .int .i64 lv, .int .u64 gn, .int .i64 fr, .int .i64 lf, .int .i64 du, .int .i64 tl]] w fun e w' => e = .returned (.bool (tkB ⟨id, co, st, lv, gn, fr, lf, du, tl⟩)) ∧ Below w.heap.size w w' := by
  obtain ⟨⟨i0, i1⟩, ⟨a0, a1⟩, ⟨b0, b1⟩, ⟨c0, c1⟩, ⟨d0, d1⟩, ⟨e0, e1⟩, ⟨f0, f1⟩, ⟨g0, g1⟩, ⟨h0, h1⟩⟩ := h
  simp only at i0 i1 a0 a1 b0 b1 c0 c1 d0 d1 e0 e1 f0 f1 g0 g1 h0 h1
  have HF := Aside0.mk (tk_no (t := ⟨id, co, st, lv, gn, fr, lf, du, tl⟩) (by unfold tkS; simp only; omega))
  generalize tkB _ = R at HF ⊢
  have y0 : decide (co < 0) = true := decide_eq_true x0
  have u0 : decide (0 ≤ co) = false := decide_eq_false (by omega)
  go_enter Try.func9, Try.ntmps9
  go_wp2
  go_ret
  exact ⟨by rw [HF.out]; rfl, by repeat (first | exact below_alloc (Below.refl _ _) _ | refine below_set ?_ (Nat.le_refl _))⟩
set_option maxHeartbeats 4000000 in
set_option maxRecDepth 100000 in
theorem tksound_2 {id co st lv gn fr lf du tl : Int} (w : World) (h : TkOk ⟨id, co, st, lv, gn, fr, lf, du, tl⟩) (x0 : ¬ (co < 0)) (x1 : 16 ≤ co) : Calls Try.prog 9 #[.agg #[.int .u64 id, .int .i64 co, .int .i64 st, .int .i64 lv, .int .u64 gn, .int .i64 fr, .int .i64 lf, .int .i64 du, .int .i64 tl]] w fun e w' => e = .returned (.bool (tkB ⟨id, co, st, lv, gn, fr, lf, du, tl⟩)) ∧ Below w.heap.size w w' := by
  obtain ⟨⟨i0, i1⟩, ⟨a0, a1⟩, ⟨b0, b1⟩, ⟨c0, c1⟩, ⟨d0, d1⟩, ⟨e0, e1⟩, ⟨f0, f1⟩, ⟨g0, g1⟩, ⟨h0, h1⟩⟩ := h
  simp only at i0 i1 a0 a1 b0 b1 c0 c1 d0 d1 e0 e1 f0 f1 g0 g1 h0 h1
  have HF := Aside0.mk (tk_no (t := ⟨id, co, st, lv, gn, fr, lf, du, tl⟩) (by unfold tkS; simp only; omega))
  generalize tkB _ = R at HF ⊢
  have y0 : decide (co < 0) = false := decide_eq_false x0
  have u0 : decide (0 ≤ co) = true := decide_eq_true (by omega)
  have y1 : decide (16 ≤ co) = true := decide_eq_true x1
  go_enter Try.func9, Try.ntmps9
  go_wp2
  go_ret
  exact ⟨by rw [HF.out]; rfl, by repeat (first | exact below_alloc (Below.refl _ _) _ | refine below_set ?_ (Nat.le_refl _))⟩
set_option maxHeartbeats 4000000 in
set_option maxRecDepth 100000 in
theorem tksound_3 {id co st lv gn fr lf du tl : Int} (w : World) (h : TkOk ⟨id, co, st, lv, gn, fr, lf, du, tl⟩) (x0 : ¬ (co < 0)) (x1 : ¬ (16 ≤ co)) (x2 : lv < 0) : Calls Try.prog 9 #[.agg #[.int .u64 id, .int .i64 co, .int .i64 st, .int .i64 lv, .int .u64 gn, .int .i64 fr, .int .i64 lf, .int .i64 du, .int .i64 tl]] w fun e w' => e = .returned (.bool (tkB ⟨id, co, st, lv, gn, fr, lf, du, tl⟩)) ∧ Below w.heap.size w w' := by
  obtain ⟨⟨i0, i1⟩, ⟨a0, a1⟩, ⟨b0, b1⟩, ⟨c0, c1⟩, ⟨d0, d1⟩, ⟨e0, e1⟩, ⟨f0, f1⟩, ⟨g0, g1⟩, ⟨h0, h1⟩⟩ := h
  simp only at i0 i1 a0 a1 b0 b1 c0 c1 d0 d1 e0 e1 f0 f1 g0 g1 h0 h1
  have HF := Aside0.mk (tk_no (t := ⟨id, co, st, lv, gn, fr, lf, du, tl⟩) (by unfold tkS; simp only; omega))
  generalize tkB _ = R at HF ⊢
  have y0 : decide (co < 0) = false := decide_eq_false x0
  have u0 : decide (0 ≤ co) = true := decide_eq_true (by omega)
  have y1 : decide (16 ≤ co) = false := decide_eq_false x1
  have y2 : decide (lv < 0) = true := decide_eq_true x2
  have u2 : decide (0 ≤ lv) = false := decide_eq_false (by omega)
  go_enter Try.func9, Try.ntmps9
  go_wp2
  go_ret
  exact ⟨by rw [HF.out]; rfl, by repeat (first | exact below_alloc (Below.refl _ _) _ | refine below_set ?_ (Nat.le_refl _))⟩
set_option maxHeartbeats 4000000 in
set_option maxRecDepth 100000 in
theorem tksound_4 {id co st lv gn fr lf du tl : Int} (w : World) (h : TkOk ⟨id, co, st, lv, gn, fr, lf, du, tl⟩) (x0 : ¬ (co < 0)) (x1 : ¬ (16 ≤ co)) (x2 : ¬ (lv < 0)) (x3 : 6 ≤ lv) : Calls Try.prog 9 #[.agg #[.int .u64 id, .int .i64 co, .int .i64 st, .int .i64 lv, .int .u64 gn, .int .i64 fr, .int .i64 lf, .int .i64 du, .int .i64 tl]] w fun e w' => e = .returned (.bool (tkB ⟨id, co, st, lv, gn, fr, lf, du, tl⟩)) ∧ Below w.heap.size w w' := by
  obtain ⟨⟨i0, i1⟩, ⟨a0, a1⟩, ⟨b0, b1⟩, ⟨c0, c1⟩, ⟨d0, d1⟩, ⟨e0, e1⟩, ⟨f0, f1⟩, ⟨g0, g1⟩, ⟨h0, h1⟩⟩ := h
  simp only at i0 i1 a0 a1 b0 b1 c0 c1 d0 d1 e0 e1 f0 f1 g0 g1 h0 h1
  have HF := Aside0.mk (tk_no (t := ⟨id, co, st, lv, gn, fr, lf, du, tl⟩) (by unfold tkS; simp only; omega))
  generalize tkB _ = R at HF ⊢
  have y0 : decide (co < 0) = false := decide_eq_false x0
  have u0 : decide (0 ≤ co) = true := decide_eq_true (by omega)
  have y1 : decide (16 ≤ co) = false := decide_eq_false x1
  have y2 : decide (lv < 0) = false := decide_eq_false x2
  have u2 : decide (0 ≤ lv) = true := decide_eq_true (by omega)
  have y3 : decide (6 ≤ lv) = true := decide_eq_true x3
  go_enter Try.func9, Try.ntmps9
  go_wp2
  go_ret
  exact ⟨by rw [HF.out]; rfl, by repeat (first | exact below_alloc (Below.refl _ _) _ | refine below_set ?_ (Nat.le_refl _))⟩
set_option maxHeartbeats 4000000 in
set_option maxRecDepth 100000 in
theorem tksound_5 {id co st lv gn fr lf du tl : Int} (w : World) (h : TkOk ⟨id, co, st, lv, gn, fr, lf, du, tl⟩) (x0 : ¬ (co < 0)) (x1 : ¬ (16 ≤ co)) (x2 : ¬ (lv < 0)) (x3 : ¬ (6 ≤ lv)) (x4 : tl < 0) : Calls Try.prog 9 #[.agg #[.int .u64 id, .int .i64 co, .int .i64 st, .int .i64 lv, .int .u64 gn, .int .i64 fr, .int .i64 lf, .int .i64 du, .int .i64 tl]] w fun e w' => e = .returned (.bool (tkB ⟨id, co, st, lv, gn, fr, lf, du, tl⟩)) ∧ Below w.heap.size w w' := by
  obtain ⟨⟨i0, i1⟩, ⟨a0, a1⟩, ⟨b0, b1⟩, ⟨c0, c1⟩, ⟨d0, d1⟩, ⟨e0, e1⟩, ⟨f0, f1⟩, ⟨g0, g1⟩, ⟨h0, h1⟩⟩ := h
  simp only at i0 i1 a0 a1 b0 b1 c0 c1 d0 d1 e0 e1 f0 f1 g0 g1 h0 h1
  have HF := Aside0.mk (tk_no (t := ⟨id, co, st, lv, gn, fr, lf, du, tl⟩) (by unfold tkS; simp only; omega))
  generalize tkB _ = R at HF ⊢
  have y0 : decide (co < 0) = false := decide_eq_false x0
  have u0 : decide (0 ≤ co) = true := decide_eq_true (by omega)
  have y1 : decide (16 ≤ co) = false := decide_eq_false x1
  have y2 : decide (lv < 0) = false := decide_eq_false x2
  have u2 : decide (0 ≤ lv) = true := decide_eq_true (by omega)
  have y3 : decide (6 ≤ lv) = false := decide_eq_false x3
  have y4 : decide (tl < 0) = true := decide_eq_true x4
  have u4 : decide (0 ≤ tl) = false := decide_eq_false (by omega)
  go_enter Try.func9, Try.ntmps9
  go_wp2
  go_ret
  exact ⟨by rw [HF.out]; rfl, by repeat (first | exact below_alloc (Below.refl _ _) _ | refine below_set ?_ (Nat.le_refl _))⟩
set_option maxHeartbeats 4000000 in
set_option maxRecDepth 100000 in
theorem tksound_6 {id co st lv gn fr lf du tl : Int} (w : World) (h : TkOk ⟨id, co, st, lv, gn, fr, lf, du, tl⟩) (x0 : ¬ (co < 0)) (x1 : ¬ (16 ≤ co)) (x2 : ¬ (lv < 0)) (x3 : ¬ (6 ≤ lv)) (x4 : ¬ (tl < 0)) (x5 : 2147483648 < tl) : Calls Try.prog 9 #[.agg #[.int .u64 id, .int .i64 co, .int .i64 st, .int .i64 lv, .int .u64 gn, .int .i64 fr, .int .i64 lf, .int .i64 du, .int .i64 tl]] w fun e w' => e = .returned (.bool (tkB ⟨id, co, st, lv, gn, fr, lf, du, tl⟩)) ∧ Below w.heap.size w w' := by
  obtain ⟨⟨i0, i1⟩, ⟨a0, a1⟩, ⟨b0, b1⟩, ⟨c0, c1⟩, ⟨d0, d1⟩, ⟨e0, e1⟩, ⟨f0, f1⟩, ⟨g0, g1⟩, ⟨h0, h1⟩⟩ := h
  simp only at i0 i1 a0 a1 b0 b1 c0 c1 d0 d1 e0 e1 f0 f1 g0 g1 h0 h1
  have HF := Aside0.mk (tk_no (t := ⟨id, co, st, lv, gn, fr, lf, du, tl⟩) (by unfold tkS; simp only; omega))
  generalize tkB _ = R at HF ⊢
  have y0 : decide (co < 0) = false := decide_eq_false x0
  have u0 : decide (0 ≤ co) = true := decide_eq_true (by omega)
  have y1 : decide (16 ≤ co) = false := decide_eq_false x1
  have y2 : decide (lv < 0) = false := decide_eq_false x2
  have u2 : decide (0 ≤ lv) = true := decide_eq_true (by omega)
  have y3 : decide (6 ≤ lv) = false := decide_eq_false x3
  have y4 : decide (tl < 0) = false := decide_eq_false x4
  have u4 : decide (0 ≤ tl) = true := decide_eq_true (by omega)
  have y5 : decide (2147483648 < tl) = true := decide_eq_true x5
  have u5 : decide (tl ≤ 2147483648) = false := decide_eq_false (by omega)
  go_enter Try.func9, Try.ntmps9
  go_wp2
  go_ret
  exact ⟨by rw [HF.out]; rfl, by repeat (first | exact below_alloc (Below.refl _ _) _ | refine below_set ?_ (Nat.le_refl _))⟩
set_option maxHeartbeats 4000000 in
set_option maxRecDepth 100000 in
theorem tksound_7 {id co st lv gn fr lf du tl : Int} (w : World) (h : TkOk ⟨id, co, st, lv, gn, fr, lf, du, tl⟩) (x0 : ¬ (co < 0)) (x1 : ¬ (16 ≤ co)) (x2 : ¬ (lv < 0)) (x3 : ¬ (6 ≤ lv)) (x4 : ¬ (tl < 0)) (x5 : ¬ (2147483648 < tl)) (x6 : 1152921504606846976 < gn) : Calls Try.prog 9 #[.agg #[.int .u64 id, .int .i64 co, .int .i64 st, .int .i64 lv, .int .u64 gn, .int .i64 fr, .int .i64 lf, .int .i64 du, .int .i64 tl]] w fun e w' => e = .returned (.bool (tkB ⟨id, co, st, lv, gn, fr, lf, du, tl⟩)) ∧ Below w.heap.size w w' := by
  obtain ⟨⟨i0, i1⟩, ⟨a0, a1⟩, ⟨b0, b1⟩, ⟨c0, c1⟩, ⟨d0, d1⟩, ⟨e0, e1⟩, ⟨f0, f1⟩, ⟨g0, g1⟩, ⟨h0, h1⟩⟩ := h
  simp only at i0 i1 a0 a1 b0 b1 c0 c1 d0 d1 e0 e1 f0 f1 g0 g1 h0 h1
  have HF := Aside0.mk (tk_no (t := ⟨id, co, st, lv, gn, fr, lf, du, tl⟩) (by unfold tkS; simp only; omega))
  generalize tkB _ = R at HF ⊢
  have y0 : decide (co < 0) = false := decide_eq_false x0
  have u0 : decide (0 ≤ co) = true := decide_eq_true (by omega)
  have y1 : decide (16 ≤ co) = false := decide_eq_false x1
  have y2 : decide (lv < 0) = false := decide_eq_false x2
  have u2 : decide (0 ≤ lv) = true := decide_eq_true (by omega)
  have y3 : decide (6 ≤ lv) = false := decide_eq_false x3
  have y4 : decide (tl < 0) = false := decide_eq_false x4
  have u4 : decide (0 ≤ tl) = true := decide_eq_true (by omega)
  have y5 : decide (2147483648 < tl) = false := decide_eq_false x5
  have u5 : decide (tl ≤ 2147483648) = true := decide_eq_true (by omega)
  have y6 : decide (1152921504606846976 < gn) = true := decide_eq_true x6
  have u6 : decide (gn ≤ 1152921504606846976) = false := decide_eq_false (by omega)
  go_enter Try.func9, Try.ntmps9
  go_wp2
  go_ret
  exact ⟨by rw [HF.out]; rfl, by repeat (first | exact below_alloc (Below.refl _ _) _ | refine below_set ?_ (Nat.le_refl _))⟩
set_option maxHeartbeats 4000000 in
set_option maxRecDepth 100000 in
theorem tksound_8 {id co st lv gn fr lf du tl : Int} (w : World) (h : TkOk ⟨id, co, st, lv, gn, fr, lf, du, tl⟩) (x0 : ¬ (co < 0)) (x1 : ¬ (16 ≤ co)) (x2 : ¬ (lv < 0)) (x3 : ¬ (6 ≤ lv)) (x4 : ¬ (tl < 0)) (x5 : ¬ (2147483648 < tl)) (x6 : ¬ (1152921504606846976 < gn)) (x7 : st = 1) (x8 : gn = 0) : Calls Try.prog 9 #[.agg #[.int .u64 id, .int .i64 co, .int .i64 st, .int .i64 lv, .int .u64 gn, .int .i64 fr, .int .i64 lf, .int .i64 du, .int .i64 tl]] w fun e w' => e = .returned (.bool (tkB ⟨id, co, st, lv, gn, fr, lf, du, tl⟩)) ∧ Below w.heap.size w w' := by
  obtain ⟨⟨i0, i1⟩, ⟨a0, a1⟩, ⟨b0, b1⟩, ⟨c0, c1⟩, ⟨d0, d1⟩, ⟨e0, e1⟩, ⟨f0, f1⟩, ⟨g0, g1⟩, ⟨h0, h1⟩⟩ := h
  simp only at i0 i1 a0 a1 b0 b1 c0 c1 d0 d1 e0 e1 f0 f1 g0 g1 h0 h1
  have HF := Aside0.mk (tk_no (t := ⟨id, co, st, lv, gn, fr, lf, du, tl⟩) (by unfold tkS; simp only; omega))
  generalize tkB _ = R at HF ⊢
  have y0 : decide (co < 0) = false := decide_eq_false x0
  have u0 : decide (0 ≤ co) = true := decide_eq_true (by omega)
  have y1 : decide (16 ≤ co) = false := decide_eq_false x1
  have y2 : decide (lv < 0) = false := decide_eq_false x2
  have u2 : decide (0 ≤ lv) = true := decide_eq_true (by omega)
  have y3 : decide (6 ≤ lv) = false := decide_eq_false x3
  have y4 : decide (tl < 0) = false := decide_eq_false x4
  have u4 : decide (0 ≤ tl) = true := decide_eq_true (by omega)
  have y5 : decide (2147483648 < tl) = false := decide_eq_false x5
  have u5 : decide (tl ≤ 2147483648) = true := decide_eq_true (by omega)
  have y6 : decide (1152921504606846976 < gn) = false := decide_eq_false x6
  have u6 : decide (gn ≤ 1152921504606846976) = true := decide_eq_true (by omega)
  have y7 : (st == 1) = true := by simpa using x7
  have z7 : (st != 1) = false := by simpa using x7
  have y8 : (gn == 0) = true := by simpa using x8
  have z8 : (gn != 0) = false := by simpa using x8
  go_enter Try.func9, Try.ntmps9
  go_wp2
  go_ret
  exact ⟨by rw [HF.out]; rfl, by repeat (first | exact below_alloc (Below.refl _ _) _ | refine below_set ?_ (Nat.le_refl _))⟩
set_option maxHeartbeats 4000000 in
set_option maxRecDepth 100000 in
theorem tksound_9 {id co st lv gn fr lf du tl : Int} (w : World) (h : TkOk ⟨id, co, st, lv, gn, fr, lf, du, tl⟩) (x0 : ¬ (co < 0)) (x1 : ¬ (16 ≤ co)) (x2 : ¬ (lv < 0)) (x3 : ¬ (6 ≤ lv)) (x4 : ¬ (tl < 0)) (x5 : ¬ (2147483648 < tl)) (x6 : ¬ (1152921504606846976 < gn)) (x7 : st = 1) (x8 : ¬ (gn = 0)) (x9 : fr < 0) : Calls Try.prog 9 #[.agg #[.int .u64 id, .int .i64 co, .int .i64 st, .int .i64 lv, .int .u64 gn, .int .i64 fr, .int .i64 lf, .int .i64 du, .int .i64 tl]] w fun e w' => e = .returned (.bool (tkB ⟨id, co, st, lv, gn, fr, lf, du, tl⟩)) ∧ Below w.heap.size w w' := by
  obtain ⟨⟨i0, i1⟩, ⟨a0, a1⟩, ⟨b0, b1⟩, ⟨c0, c1⟩, ⟨d0, d1⟩, ⟨e0, e1⟩, ⟨f0, f1⟩, ⟨g0, g1⟩, ⟨h0, h1⟩⟩ := h
  simp only at i0 i1 a0 a1 b0 b1 c0 c1 d0 d1 e0 e1 f0 f1 g0 g1 h0 h1
  have HF := Aside0.mk (tk_no (t := ⟨id, co, st, lv, gn, fr, lf, du, tl⟩) (by unfold tkS; simp only; omega))
  generalize tkB _ = R at HF ⊢
  have y0 : decide (co < 0) = false := decide_eq_false x0
  have u0 : decide (0 ≤ co) = true := decide_eq_true (by omega)
  have y1 : decide (16 ≤ co) = false := decide_eq_false x1
  have y2 : decide (lv < 0) = false := decide_eq_false x2
  have u2 : decide (0 ≤ lv) = true := decide_eq_true (by omega)
  have y3 : decide (6 ≤ lv) = false := decide_eq_false x3
  have y4 : decide (tl < 0) = false := decide_eq_false x4
  have u4 : decide (0 ≤ tl) = true := decide_eq_true (by omega)
  have y5 : decide (2147483648 < tl) = false := decide_eq_false x5
  have u5 : decide (tl ≤ 2147483648) = true := decide_eq_true (by omega)
  have y6 : decide (1152921504606846976 < gn) = false := decide_eq_false x6
  have u6 : decide (gn ≤ 1152921504606846976) = true := decide_eq_true (by omega)
  have y7 : (st == 1) = true := by simpa using x7
  have z7 : (st != 1) = false := by simpa using x7
  have y8 : (gn == 0) = false := by simpa using x8
  have z8 : (gn != 0) = true := by simpa using x8
  have y9 : decide (fr < 0) = true := decide_eq_true x9
  have u9 : decide (0 ≤ fr) = false := decide_eq_false (by omega)
  go_enter Try.func9, Try.ntmps9
  go_wp2
  go_ret
  exact ⟨by rw [HF.out]; rfl, by repeat (first | exact below_alloc (Below.refl _ _) _ | refine below_set ?_ (Nat.le_refl _))⟩
set_option maxHeartbeats 4000000 in
set_option maxRecDepth 100000 in
theorem tksound_10 {id co st lv gn fr lf du tl : Int} (w : World) (h : TkOk ⟨id, co, st, lv, gn, fr, lf, du, tl⟩) (x0 : ¬ (co < 0)) (x1 : ¬ (16 ≤ co)) (x2 : ¬ (lv < 0)) (x3 : ¬ (6 ≤ lv)) (x4 : ¬ (tl < 0)) (x5 : ¬ (2147483648 < tl)) (x6 : ¬ (1152921504606846976 < gn)) (x7 : st = 1) (x8 : ¬ (gn = 0)) (x9 : ¬ (fr < 0)) (x10 : 1125899906842624 < fr) : Calls Try.prog 9 #[.agg #[.int .u64 id, .int .i64 co, .int .i64 st, .int .i64 lv, .int .u64 gn, .int .i64 fr, .int .i64 lf, .int .i64 du, .int .i64 tl]] w fun e w' => e = .returned (.bool (tkB ⟨id, co, st, lv, gn, fr, lf, du, tl⟩)) ∧ Below w.heap.size w w' := by
  obtain ⟨⟨i0, i1⟩, ⟨a0, a1⟩, ⟨b0, b1⟩, ⟨c0, c1⟩, ⟨d0, d1⟩, ⟨e0, e1⟩, ⟨f0, f1⟩, ⟨g0, g1⟩, ⟨h0, h1⟩⟩ := h
  simp only at i0 i1 a0 a1 b0 b1 c0 c1 d0 d1 e0 e1 f0 f1 g0 g1 h0 h1
  have HF := Aside0.mk (tk_no (t := ⟨id, co, st, lv, gn, fr, lf, du, tl⟩) (by unfold tkS; simp only; omega))
  generalize tkB _ = R at HF ⊢
  have y0 : decide (co < 0) = false := decide_eq_false x0
  have u0 : decide (0 ≤ co) = true := decide_eq_true (by omega)
  have y1 : decide (16 ≤ co) = false := decide_eq_false x1
  have y2 : decide (lv < 0) = false := decide_eq_false x2
  have u2 : decide (0 ≤ lv) = true := decide_eq_true (by omega)
  have y3 : decide (6 ≤ lv) = false := decide_eq_false x3
  have y4 : decide (tl < 0) = false := decide_eq_false x4
  have u4 : decide (0 ≤ tl) = true := decide_eq_true (by omega)
  have y5 : decide (2147483648 < tl) = false := decide_eq_false x5
  have u5 : decide (tl ≤ 2147483648) = true := decide_eq_true (by omega)
  have y6 : decide (1152921504606846976 < gn) = false := decide_eq_false x6
  have u6 : decide (gn ≤ 1152921504606846976) = true := decide_eq_true (by omega)
  have y7 : (st == 1) = true := by simpa using x7
  have z7 : (st != 1) = false := by simpa using x7
  have y8 : (gn == 0) = false := by simpa using x8
  have z8 : (gn != 0) = true := by simpa using x8
  have y9 : decide (fr < 0) = false := decide_eq_false x9
  have u9 : decide (0 ≤ fr) = true := decide_eq_true (by omega)
  have y10 : decide (1125899906842624 < fr) = true := decide_eq_true x10
  have u10 : decide (fr ≤ 1125899906842624) = false := decide_eq_false (by omega)
  go_enter Try.func9, Try.ntmps9
  go_wp2
  go_ret
  exact ⟨by rw [HF.out]; rfl, by repeat (first | exact below_alloc (Below.refl _ _) _ | refine below_set ?_ (Nat.le_refl _))⟩
set_option maxHeartbeats 4000000 in
set_option maxRecDepth 100000 in
theorem tksound_11 {id co st lv gn fr lf du tl : Int} (w : World) (h : TkOk ⟨id, co, st, lv, gn, fr, lf, du, tl⟩) (x0 : ¬ (co < 0)) (x1 : ¬ (16 ≤ co)) (x2 : ¬ (lv < 0)) (x3 : ¬ (6 ≤ lv)) (x4 : ¬ (tl < 0)) (x5 : ¬ (2147483648 < tl)) (x6 : ¬ (1152921504606846976 < gn)) (x7 : st = 1) (x8 : ¬ (gn = 0)) (x9 : ¬ (fr < 0)) (x10 : ¬ (1125899906842624 < fr)) (x11 : du < 0) : Calls Try.prog 9 #[.agg #[.int .u64 id, .int .i64 co, .int .i64 st, .int .i64 lv, .int .u64 gn, .int .i64 fr, .int .i64 lf, .int .i64 du, .int .i64 tl]] w fun e w' => e = .returned (.bool (tkB ⟨id, co, st, lv, gn, fr, lf, du, tl⟩)) ∧ Below w.heap.size w w' := by
  obtain ⟨⟨i0, i1⟩, ⟨a0, a1⟩, ⟨b0, b1⟩, ⟨c0, c1⟩, ⟨d0, d1⟩, ⟨e0, e1⟩, ⟨f0, f1⟩, ⟨g0, g1⟩, ⟨h0, h1⟩⟩ := h
  simp only at i0 i1 a0 a1 b0 b1 c0 c1 d0 d1 e0 e1 f0 f1 g0 g1 h0 h1
  have HF := Aside0.mk (tk_no (t := ⟨id, co, st, lv, gn, fr, lf, du, tl⟩) (by unfold tkS; simp only; omega))
  generalize tkB _ = R at HF ⊢
  have y0 : decide (co < 0) = false := decide_eq_false x0
  have u0 : decide (0 ≤ co) = true := decide_eq_true (by omega)
  have y1 : decide (16 ≤ co) = false := decide_eq_false x1
  have y2 : decide (lv < 0) = false := decide_eq_false x2
  have u2 : decide (0 ≤ lv) = true := decide_eq_true (by omega)
  have y3 : decide (6 ≤ lv) = false := decide_eq_false x3
  have y4 : decide (tl < 0) = false := decide_eq_false x4
  have u4 : decide (0 ≤ tl) = true := decide_eq_true (by omega)
  have y5 : decide (2147483648 < tl) = false := decide_eq_false x5
  have u5 : decide (tl ≤ 2147483648) = true := decide_eq_true (by omega)
  have y6 : decide (1152921504606846976 < gn) = false := decide_eq_false x6
  have u6 : decide (gn ≤ 1152921504606846976) = true := decide_eq_true (by omega)
  have y7 : (st == 1) = true := by simpa using x7
  have z7 : (st != 1) = false := by simpa using x7
  have y8 : (gn == 0) = false := by simpa using x8
  have z8 : (gn != 0) = true := by simpa using x8
  have y9 : decide (fr < 0) = false := decide_eq_false x9
  have u9 : decide (0 ≤ fr) = true := decide_eq_true (by omega)
  have y10 : decide (1125899906842624 < fr) = false := decide_eq_false x10
  have u10 : decide (fr ≤ 1125899906842624) = true := decide_eq_true (by omega)
  have y11 : decide (du < 0) = true := decide_eq_true x11
  have u11 : decide (0 ≤ du) = false := decide_eq_false (by omega)
  go_enter Try.func9, Try.ntmps9
  go_wp2
  go_ret
  exact ⟨by rw [HF.out]; rfl, by repeat (first | exact below_alloc (Below.refl _ _) _ | refine below_set ?_ (Nat.le_refl _))⟩
set_option maxHeartbeats 4000000 in
set_option maxRecDepth 100000 in
theorem tksound_12 {id co st lv gn fr lf du tl : Int} (w : World) (h : TkOk ⟨id, co, st, lv, gn, fr, lf, du, tl⟩) (x0 : ¬ (co < 0)) (x1 : ¬ (16 ≤ co)) (x2 : ¬ (lv < 0)) (x3 : ¬ (6 ≤ lv)) (x4 : ¬ (tl < 0)) (x5 : ¬ (2147483648 < tl)) (x6 : ¬ (1152921504606846976 < gn)) (x7 : st = 1) (x8 : ¬ (gn = 0)) (x9 : ¬ (fr < 0)) (x10 : ¬ (1125899906842624 < fr)) (x11 : ¬ (du < 0)) (x12 : 1125899906842624 < du) : Calls Try.prog 9 #[.agg #[.int .u64 id, .int .i64 co, .int .i64 st, .int .i64 lv, .int .u64 gn, .int .i64 fr, .int .i64 lf, .int .i64 du, .int .i64 tl]] w fun e w' => e = .returned (.bool (tkB ⟨id, co, st, lv, gn, fr, lf, du, tl⟩)) ∧ Below w.heap.size w w' := by
  obtain ⟨⟨i0, i1⟩, ⟨a0, a1⟩, ⟨b0, b1⟩, ⟨c0, c1⟩, ⟨d0, d1⟩, ⟨e0, e1⟩, ⟨f0, f1⟩, ⟨g0, g1⟩, ⟨h0, h1⟩⟩ := h
  simp only at i0 i1 a0 a1 b0 b1 c0 c1 d0 d1 e0 e1 f0 f1 g0 g1 h0 h1
  have HF := Aside0.mk (tk_no (t := ⟨id, co, st, lv, gn, fr, lf, du, tl⟩) (by unfold tkS; simp only; omega))
  generalize tkB _ = R at HF ⊢
  have y0 : decide (co < 0) = false := decide_eq_false x0
  have u0 : decide (0 ≤ co) = true := decide_eq_true (by omega)
  have y1 : decide (16 ≤ co) = false := decide_eq_false x1
  have y2 : decide (lv < 0) = false := decide_eq_false x2
  have u2 : decide (0 ≤ lv) = true := decide_eq_true (by omega)
  have y3 : decide (6 ≤ lv) = false := decide_eq_false x3
  have y4 : decide (tl < 0) = false := decide_eq_false x4
  have u4 : decide (0 ≤ tl) = true := decide_eq_true (by omega)
  have y5 : decide (2147483648 < tl) = false := decide_eq_false x5
  have u5 : decide (tl ≤ 2147483648) = true := decide_eq_true (by omega)
  have y6 : decide (1152921504606846976 < gn) = false := decide_eq_false x6
  have u6 : decide (gn ≤ 1152921504606846976) = true := decide_eq_true (by omega)
  have y7 : (st == 1) = true := by simpa using x7
  have z7 : (st != 1) = false := by simpa using x7
  have y8 : (gn == 0) = false := by simpa using x8
  have z8 : (gn != 0) = true := by simpa using x8
  have y9 : decide (fr < 0) = false := decide_eq_false x9
  have u9 : decide (0 ≤ fr) = true := decide_eq_true (by omega)
  have y10 : decide (1125899906842624 < fr) = false := decide_eq_false x10
  have u10 : decide (fr ≤ 1125899906842624) = true := decide_eq_true (by omega)
  have y11 : decide (du < 0) = false := decide_eq_false x11
  have u11 : decide (0 ≤ du) = true := decide_eq_true (by omega)
  have y12 : decide (1125899906842624 < du) = true := decide_eq_true x12
  have u12 : decide (du ≤ 1125899906842624) = false := decide_eq_false (by omega)
  go_enter Try.func9, Try.ntmps9
  go_wp2
  go_ret
  exact ⟨by rw [HF.out]; rfl, by repeat (first | exact below_alloc (Below.refl _ _) _ | refine below_set ?_ (Nat.le_refl _))⟩
set_option maxHeartbeats 4000000 in
set_option maxRecDepth 100000 in
theorem tksound_13 {id co st lv gn fr lf du tl : Int} (w : World) (h : TkOk ⟨id, co, st, lv, gn, fr, lf, du, tl⟩) (x0 : ¬ (co < 0)) (x1 : ¬ (16 ≤ co)) (x2 : ¬ (lv < 0)) (x3 : ¬ (6 ≤ lv)) (x4 : ¬ (tl < 0)) (x5 : ¬ (2147483648 < tl)) (x6 : ¬ (1152921504606846976 < gn)) (x7 : st = 1) (x8 : ¬ (gn = 0)) (x9 : ¬ (fr < 0)) (x10 : ¬ (1125899906842624 < fr)) (x11 : ¬ (du < 0)) (x12 : ¬ (1125899906842624 < du)) (x13 : lf < 1) : Calls Try.prog 9 #[.agg #[.int .u64 id, .int .i64 co, .int .i64 st, .int .i64 lv, .int .u64 gn, .int .i64 fr, .int .i64 lf, .int .i64 du, .int .i64 tl]] w fun e w' => e = .returned (.bool (tkB ⟨id, co, st, lv, gn, fr, lf, du, tl⟩)) ∧ Below w.heap.size w w' := by
  obtain ⟨⟨i0, i1⟩, ⟨a0, a1⟩, ⟨b0, b1⟩, ⟨c0, c1⟩, ⟨d0, d1⟩, ⟨e0, e1⟩, ⟨f0, f1⟩, ⟨g0, g1⟩, ⟨h0, h1⟩⟩ := h
  simp only at i0 i1 a0 a1 b0 b1 c0 c1 d0 d1 e0 e1 f0 f1 g0 g1 h0 h1
  have HF := Aside0.mk (tk_no (t := ⟨id, co, st, lv, gn, fr, lf, du, tl⟩) (by unfold tkS; simp only; omega))
  generalize tkB _ = R at HF ⊢
  have y0 : decide (co < 0) = false := decide_eq_false x0
  have u0 : decide (0 ≤ co) = true := decide_eq_true (by omega)
  have y1 : decide (16 ≤ co) = false := decide_eq_false x1
  have y2 : decide (lv < 0) = false := decide_eq_false x2
  have u2 : decide (0 ≤ lv) = true := decide_eq_true (by omega)
  have y3 : decide (6 ≤ lv) = false := decide_eq_false x3
  have y4 : decide (tl < 0) = false := decide_eq_false x4
  have u4 : decide (0 ≤ tl) = true := decide_eq_true (by omega)
  have y5 : decide (2147483648 < tl) = false := decide_eq_false x5
  have u5 : decide (tl ≤ 2147483648) = true := decide_eq_true (by omega)
  have y6 : decide (1152921504606846976 < gn) = false := decide_eq_false x6
  have u6 : decide (gn ≤ 1152921504606846976) = true := decide_eq_true (by omega)
  have y7 : (st == 1) = true := by simpa using x7
  have z7 : (st != 1) = false := by simpa using x7
  have y8 : (gn == 0) = false := by simpa using x8
  have z8 : (gn != 0) = true := by simpa using x8
  have y9 : decide (fr < 0) = false := decide_eq_false x9
  have u9 : decide (0 ≤ fr) = true := decide_eq_true (by omega)
  have y10 : decide (1125899906842624 < fr) = false := decide_eq_false x10
  have u10 : decide (fr ≤ 1125899906842624) = true := decide_eq_true (by omega)
  have y11 : decide (du < 0) = false := decide_eq_false x11
  have u11 : decide (0 ≤ du) = true := decide_eq_true (by omega)
  have y12 : decide (1125899906842624 < du) = false := decide_eq_false x12
  have u12 : decide (du ≤ 1125899906842624) = true := decide_eq_true (by omega)
  have y13 : decide (lf < 1) = true := decide_eq_true x13
  have u13 : decide (1 ≤ lf) = false := decide_eq_false (by omega)
  go_enter Try.func9, Try.ntmps9
  go_wp2
  go_ret
  exact ⟨by rw [HF.out]; rfl, by repeat (first | exact below_alloc (Below.refl _ _) _ | refine below_set ?_ (Nat.le_refl _))⟩
set_option maxHeartbeats 4000000 in
set_option maxRecDepth 100000 in
theorem tksound_14 {id co st lv gn fr lf du tl : Int} (w : World) (h : TkOk ⟨id, co, st, lv, gn, fr, lf, du, tl⟩) (x0 : ¬ (co < 0)) (x1 : ¬ (16 ≤ co)) (x2 : ¬ (lv < 0)) (x3 : ¬ (6 ≤ lv)) (x4 : ¬ (tl < 0)) (x5 : ¬ (2147483648 < tl)) (x6 : ¬ (1152921504606846976 < gn)) (x7 : st = 1) (x8 : ¬ (gn = 0)) (x9 : ¬ (fr < 0)) (x10 : ¬ (1125899906842624 < fr)) (x11 : ¬ (du < 0)) (x12 : ¬ (1125899906842624 < du)) (x13 : ¬ (lf < 1)) (x14 : ¬ (lf ≤ du - fr)) : Calls Try.prog 9 #[.agg #[.int .u64 id, .int .i64 co, .int .i64 st, .int .i64 lv, .int .u64 gn, .int .i64 fr, .int .i64 lf, .int .i64 du, .int .i64 tl]] w fun e w' => e = .returned (.bool (tkB ⟨id, co, st, lv, gn, fr, lf, du, tl⟩)) ∧ Below w.heap.size w w' := by
  obtain ⟨⟨i0, i1⟩, ⟨a0, a1⟩, ⟨b0, b1⟩, ⟨c0, c1⟩, ⟨d0, d1⟩, ⟨e0, e1⟩, ⟨f0, f1⟩, ⟨g0, g1⟩, ⟨h0, h1⟩⟩ := h
  simp only at i0 i1 a0 a1 b0 b1 c0 c1 d0 d1 e0 e1 f0 f1 g0 g1 h0 h1
  have HF := Aside0.mk (tk_no (t := ⟨id, co, st, lv, gn, fr, lf, du, tl⟩) (by unfold tkS; simp only; omega))
  generalize tkB _ = R at HF ⊢
  have y0 : decide (co < 0) = false := decide_eq_false x0
  have u0 : decide (0 ≤ co) = true := decide_eq_true (by omega)
  have y1 : decide (16 ≤ co) = false := decide_eq_false x1
  have y2 : decide (lv < 0) = false := decide_eq_false x2
  have u2 : decide (0 ≤ lv) = true := decide_eq_true (by omega)
  have y3 : decide (6 ≤ lv) = false := decide_eq_false x3
  have y4 : decide (tl < 0) = false := decide_eq_false x4
  have u4 : decide (0 ≤ tl) = true := decide_eq_true (by omega)
  have y5 : decide (2147483648 < tl) = false := decide_eq_false x5
  have u5 : decide (tl ≤ 2147483648) = true := decide_eq_true (by omega)
  have y6 : decide (1152921504606846976 < gn) = false := decide_eq_false x6
  have u6 : decide (gn ≤ 1152921504606846976) = true := decide_eq_true (by omega)
  have y7 : (st == 1) = true := by simpa using x7
  have z7 : (st != 1) = false := by simpa using x7
  have y8 : (gn == 0) = false := by simpa using x8
  have z8 : (gn != 0) = true := by simpa using x8
  have y9 : decide (fr < 0) = false := decide_eq_false x9
  have u9 : decide (0 ≤ fr) = true := decide_eq_true (by omega)
  have y10 : decide (1125899906842624 < fr) = false := decide_eq_false x10
  have u10 : decide (fr ≤ 1125899906842624) = true := decide_eq_true (by omega)
  have y11 : decide (du < 0) = false := decide_eq_false x11
  have u11 : decide (0 ≤ du) = true := decide_eq_true (by omega)
  have y12 : decide (1125899906842624 < du) = false := decide_eq_false x12
  have u12 : decide (du ≤ 1125899906842624) = true := decide_eq_true (by omega)
  have y13 : decide (lf < 1) = false := decide_eq_false x13
  have u13 : decide (1 ≤ lf) = true := decide_eq_true (by omega)
  have y14 : decide (lf ≤ du - fr) = false := decide_eq_false x14
  go_enter Try.func9, Try.ntmps9
  go_wp2
  go_ret
  exact ⟨by rw [HF.out]; rfl, by repeat (first | exact below_alloc (Below.refl _ _) _ | refine below_set ?_ (Nat.le_refl _))⟩
set_option maxHeartbeats 4000000 in
set_option maxRecDepth 100000 in
theorem tksound_15 {id co st lv gn fr lf du tl : Int} (w : World) (h : TkOk ⟨id, co, st, lv, gn, fr, lf, du, tl⟩) (x0 : ¬ (co < 0)) (x1 : ¬ (16 ≤ co)) (x2 : ¬ (lv < 0)) (x3 : ¬ (6 ≤ lv)) (x4 : ¬ (tl < 0)) (x5 : ¬ (2147483648 < tl)) (x6 : ¬ (1152921504606846976 < gn)) (x7 : st = 1) (x8 : ¬ (gn = 0)) (x9 : ¬ (fr < 0)) (x10 : ¬ (1125899906842624 < fr)) (x11 : ¬ (du < 0)) (x12 : ¬ (1125899906842624 < du)) (x13 : ¬ (lf < 1)) (x14 : lf ≤ du - fr) : Calls Try.prog 9 #[.agg #[.int .u64 id, .int .i64 co, .int .i64 st, .int .i64 lv, .int .u64 gn, .int .i64 fr, .int .i64 lf, .int .i64 du, .int .i64 tl]] w fun e w' => e = .returned (.bool (tkB ⟨id, co, st, lv, gn, fr, lf, du, tl⟩)) ∧ Below w.heap.size w w' := by
  obtain ⟨⟨i0, i1⟩, ⟨a0, a1⟩, ⟨b0, b1⟩, ⟨c0, c1⟩, ⟨d0, d1⟩, ⟨e0, e1⟩, ⟨f0, f1⟩, ⟨g0, g1⟩, ⟨h0, h1⟩⟩ := h
  simp only at i0 i1 a0 a1 b0 b1 c0 c1 d0 d1 e0 e1 f0 f1 g0 g1 h0 h1
  have HF := Aside0.mk (tk_yes (t := ⟨id, co, st, lv, gn, fr, lf, du, tl⟩) (by unfold tkS; simp only; omega))
  generalize tkB _ = R at HF ⊢
  have y0 : decide (co < 0) = false := decide_eq_false x0
  have u0 : decide (0 ≤ co) = true := decide_eq_true (by omega)
  have y1 : decide (16 ≤ co) = false := decide_eq_false x1
  have y2 : decide (lv < 0) = false := decide_eq_false x2
  have u2 : decide (0 ≤ lv) = true := decide_eq_true (by omega)
  have y3 : decide (6 ≤ lv) = false := decide_eq_false x3
  have y4 : decide (tl < 0) = false := decide_eq_false x4
  have u4 : decide (0 ≤ tl) = true := decide_eq_true (by omega)
  have y5 : decide (2147483648 < tl) = false := decide_eq_false x5
  have u5 : decide (tl ≤ 2147483648) = true := decide_eq_true (by omega)
  have y6 : decide (1152921504606846976 < gn) = false := decide_eq_false x6
  have u6 : decide (gn ≤ 1152921504606846976) = true := decide_eq_true (by omega)
  have y7 : (st == 1) = true := by simpa using x7
  have z7 : (st != 1) = false := by simpa using x7
  have y8 : (gn == 0) = false := by simpa using x8
  have z8 : (gn != 0) = true := by simpa using x8
  have y9 : decide (fr < 0) = false := decide_eq_false x9
  have u9 : decide (0 ≤ fr) = true := decide_eq_true (by omega)
  have y10 : decide (1125899906842624 < fr) = false := decide_eq_false x10
  have u10 : decide (fr ≤ 1125899906842624) = true := decide_eq_true (by omega)
  have y11 : decide (du < 0) = false := decide_eq_false x11
  have u11 : decide (0 ≤ du) = true := decide_eq_true (by omega)
  have y12 : decide (1125899906842624 < du) = false := decide_eq_false x12
  have u12 : decide (du ≤ 1125899906842624) = true := decide_eq_true (by omega)
  have y13 : decide (lf < 1) = false := decide_eq_false x13
  have u13 : decide (1 ≤ lf) = true := decide_eq_true (by omega)
  have y14 : decide (lf ≤ du - fr) = true := decide_eq_true x14
  go_enter Try.func9, Try.ntmps9
  go_wp2
  go_ret
  exact ⟨by rw [HF.out]; rfl, by repeat (first | exact below_alloc (Below.refl _ _) _ | refine below_set ?_ (Nat.le_refl _))⟩
set_option maxHeartbeats 4000000 in
set_option maxRecDepth 100000 in
theorem tksound_16 {id co st lv gn fr lf du tl : Int} (w : World) (h : TkOk ⟨id, co, st, lv, gn, fr, lf, du, tl⟩) (x0 : ¬ (co < 0)) (x1 : ¬ (16 ≤ co)) (x2 : ¬ (lv < 0)) (x3 : ¬ (6 ≤ lv)) (x4 : ¬ (tl < 0)) (x5 : ¬ (2147483648 < tl)) (x6 : ¬ (1152921504606846976 < gn)) (x7 : ¬ (st = 1)) (x8 : st = 2) (x9 : lf < 1) : Calls Try.prog 9 #[.agg #[.int .u64 id, .int .i64 co, .int .i64 st, .int .i64 lv, .int .u64 gn, .int .i64 fr, .int .i64 lf, .int .i64 du, .int .i64 tl]] w fun e w' => e = .returned (.bool (tkB ⟨id, co, st, lv, gn, fr, lf, du, tl⟩)) ∧ Below w.heap.size w w' := by
  obtain ⟨⟨i0, i1⟩, ⟨a0, a1⟩, ⟨b0, b1⟩, ⟨c0, c1⟩, ⟨d0, d1⟩, ⟨e0, e1⟩, ⟨f0, f1⟩, ⟨g0, g1⟩, ⟨h0, h1⟩⟩ := h
  simp only at i0 i1 a0 a1 b0 b1 c0 c1 d0 d1 e0 e1 f0 f1 g0 g1 h0 h1
  have HF := Aside0.mk (tk_no (t := ⟨id, co, st, lv, gn, fr, lf, du, tl⟩) (by unfold tkS; simp only; omega))
  generalize tkB _ = R at HF ⊢
  have y0 : decide (co < 0) = false := decide_eq_false x0
  have u0 : decide (0 ≤ co) = true := decide_eq_true (by omega)
  have y1 : decide (16 ≤ co) = false := decide_eq_false x1
  have y2 : decide (lv < 0) = false := decide_eq_false x2
  have u2 : decide (0 ≤ lv) = true := decide_eq_true (by omega)
  have y3 : decide (6 ≤ lv) = false := decide_eq_false x3
  have y4 : decide (tl < 0) = false := decide_eq_false x4
  have u4 : decide (0 ≤ tl) = true := decide_eq_true (by omega)
  have y5 : decide (2147483648 < tl) = false := decide_eq_false x5
  have u5 : decide (tl ≤ 2147483648) = true := decide_eq_true (by omega)
  have y6 : decide (1152921504606846976 < gn) = false := decide_eq_false x6
  have u6 : decide (gn ≤ 1152921504606846976) = true := decide_eq_true (by omega)
  have y7 : (st == 1) = false := by simpa using x7
  have z7 : (st != 1) = true := by simpa using x7
  have y8 : (st == 2) = true := by simpa using x8
  have z8 : (st != 2) = false := by simpa using x8
  have y9 : decide (lf < 1) = true := decide_eq_true x9
  have u9 : decide (1 ≤ lf) = false := decide_eq_false (by omega)
  go_enter Try.func9, Try.ntmps9
  go_wp2
  go_ret
  exact ⟨by rw [HF.out]; rfl, by repeat (first | exact below_alloc (Below.refl _ _) _ | refine below_set ?_ (Nat.le_refl _))⟩
set_option maxHeartbeats 4000000 in
set_option maxRecDepth 100000 in
theorem tksound_17 {id co st lv gn fr lf du tl : Int} (w : World) (h : TkOk ⟨id, co, st, lv, gn, fr, lf, du, tl⟩) (x0 : ¬ (co < 0)) (x1 : ¬ (16 ≤ co)) (x2 : ¬ (lv < 0)) (x3 : ¬ (6 ≤ lv)) (x4 : ¬ (tl < 0)) (x5 : ¬ (2147483648 < tl)) (x6 : ¬ (1152921504606846976 < gn)) (x7 : ¬ (st = 1)) (x8 : st = 2) (x9 : ¬ (lf < 1)) (x10 : 1125899906842624 < lf) : Calls Try.prog 9 #[.agg #[.int .u64 id, .int .i64 co, .int .i64 st, .int .i64 lv, .int .u64 gn, .int .i64 fr, .int .i64 lf, .int .i64 du, .int .i64 tl]] w fun e w' => e = .returned (.bool (tkB ⟨id, co, st, lv, gn, fr, lf, du, tl⟩)) ∧ Below w.heap.size w w' := by
  obtain ⟨⟨i0, i1⟩, ⟨a0, a1⟩, ⟨b0, b1⟩, ⟨c0, c1⟩, ⟨d0, d1⟩, ⟨e0, e1⟩, ⟨f0, f1⟩, ⟨g0, g1⟩, ⟨h0, h1⟩⟩ := h
  simp only at i0 i1 a0 a1 b0 b1 c0 c1 d0 d1 e0 e1 f0 f1 g0 g1 h0 h1
  have HF := Aside0.mk (tk_no (t := ⟨id, co, st, lv, gn, fr, lf, du, tl⟩) (by unfold tkS; simp only; omega))
  generalize tkB _ = R at HF ⊢
  have y0 : decide (co < 0) = false := decide_eq_false x0
  have u0 : decide (0 ≤ co) = true := decide_eq_true (by omega)
  have y1 : decide (16 ≤ co) = false := decide_eq_false x1
  have y2 : decide (lv < 0) = false := decide_eq_false x2
  have u2 : decide (0 ≤ lv) = true := decide_eq_true (by omega)
  have y3 : decide (6 ≤ lv) = false := decide_eq_false x3
  have y4 : decide (tl < 0) = false := decide_eq_false x4
  have u4 : decide (0 ≤ tl) = true := decide_eq_true (by omega)
  have y5 : decide (2147483648 < tl) = false := decide_eq_false x5
  have u5 : decide (tl ≤ 2147483648) = true := decide_eq_true (by omega)
  have y6 : decide (1152921504606846976 < gn) = false := decide_eq_false x6
  have u6 : decide (gn ≤ 1152921504606846976) = true := decide_eq_true (by omega)
  have y7 : (st == 1) = false := by simpa using x7
  have z7 : (st != 1) = true := by simpa using x7
  have y8 : (st == 2) = true := by simpa using x8
  have z8 : (st != 2) = false := by simpa using x8
  have y9 : decide (lf < 1) = false := decide_eq_false x9
  have u9 : decide (1 ≤ lf) = true := decide_eq_true (by omega)
  have y10 : decide (1125899906842624 < lf) = true := decide_eq_true x10
  have u10 : decide (lf ≤ 1125899906842624) = false := decide_eq_false (by omega)
  go_enter Try.func9, Try.ntmps9
  go_wp2
  go_ret
  exact ⟨by rw [HF.out]; rfl, by repeat (first | exact below_alloc (Below.refl _ _) _ | refine below_set ?_ (Nat.le_refl _))⟩
set_option maxHeartbeats 4000000 in
set_option maxRecDepth 100000 in
theorem tksound_18 {id co st lv gn fr lf du tl : Int} (w : World) (h : TkOk ⟨id, co, st, lv, gn, fr, lf, du, tl⟩) (x0 : ¬ (co < 0)) (x1 : ¬ (16 ≤ co)) (x2 : ¬ (lv < 0)) (x3 : ¬ (6 ≤ lv)) (x4 : ¬ (tl < 0)) (x5 : ¬ (2147483648 < tl)) (x6 : ¬ (1152921504606846976 < gn)) (x7 : ¬ (st = 1)) (x8 : st = 2) (x9 : ¬ (lf < 1)) (x10 : ¬ (1125899906842624 < lf)) (x11 : fr < 0) : Calls Try.prog 9 #[.agg #[.int .u64 id, .int .i64 co, .int .i64 st, .int .i64 lv, .int .u64 gn, .int .i64 fr, .int .i64 lf, .int .i64 du, .int .i64 tl]] w fun e w' => e = .returned (.bool (tkB ⟨id, co, st, lv, gn, fr, lf, du, tl⟩)) ∧ Below w.heap.size w w' := by
  obtain ⟨⟨i0, i1⟩, ⟨a0, a1⟩, ⟨b0, b1⟩, ⟨c0, c1⟩, ⟨d0, d1⟩, ⟨e0, e1⟩, ⟨f0, f1⟩, ⟨g0, g1⟩, ⟨h0, h1⟩⟩ := h
  simp only at i0 i1 a0 a1 b0 b1 c0 c1 d0 d1 e0 e1 f0 f1 g0 g1 h0 h1
  have HF := Aside0.mk (tk_no (t := ⟨id, co, st, lv, gn, fr, lf, du, tl⟩) (by unfold tkS; simp only; omega))
  generalize tkB _ = R at HF ⊢
  have y0 : decide (co < 0) = false := decide_eq_false x0
  have u0 : decide (0 ≤ co) = true := decide_eq_true (by omega)
  have y1 : decide (16 ≤ co) = false := decide_eq_false x1
  have y2 : decide (lv < 0) = false := decide_eq_false x2
  have u2 : decide (0 ≤ lv) = true := decide_eq_true (by omega)
  have y3 : decide (6 ≤ lv) = false := decide_eq_false x3
  have y4 : decide (tl < 0) = false := decide_eq_false x4
  have u4 : decide (0 ≤ tl) = true := decide_eq_true (by omega)
  have y5 : decide (2147483648 < tl) = false := decide_eq_false x5
  have u5 : decide (tl ≤ 2147483648) = true := decide_eq_true (by omega)
  have y6 : decide (1152921504606846976 < gn) = false := decide_eq_false x6
  have u6 : decide (gn ≤ 1152921504606846976) = true := decide_eq_true (by omega)
  have y7 : (st == 1) = false := by simpa using x7
  have z7 : (st != 1) = true := by simpa using x7
  have y8 : (st == 2) = true := by simpa using x8
  have z8 : (st != 2) = false := by simpa using x8
  have y9 : decide (lf < 1) = false := decide_eq_false x9
  have u9 : decide (1 ≤ lf) = true := decide_eq_true (by omega)
  have y10 : decide (1125899906842624 < lf) = false := decide_eq_false x10
  have u10 : decide (lf ≤ 1125899906842624) = true := decide_eq_true (by omega)
  have y11 : decide (fr < 0) = true := decide_eq_true x11
  have u11 : decide (0 ≤ fr) = false := decide_eq_false (by omega)
  go_enter Try.func9, Try.ntmps9
  go_wp2
  go_ret
  exact ⟨by rw [HF.out]; rfl, by repeat (first | exact below_alloc (Below.refl _ _) _ | refine below_set ?_ (Nat.le_refl _))⟩
set_option maxHeartbeats 4000000 in
set_option maxRecDepth 100000 in
theorem tksound_19 {id co st lv gn fr lf du tl : Int} (w : World) (h : TkOk ⟨id, co, st, lv, gn, fr, lf, du, tl⟩) (x0 : ¬ (co < 0)) (x1 : ¬ (16 ≤ co)) (x2 : ¬ (lv < 0)) (x3 : ¬ (6 ≤ lv)) (x4 : ¬ (tl < 0)) (x5 : ¬ (2147483648 < tl)) (x6 : ¬ (1152921504606846976 < gn)) (x7 : ¬ (st = 1)) (x8 : st = 2) (x9 : ¬ (lf < 1)) (x10 : ¬ (1125899906842624 < lf)) (x11 : ¬ (fr < 0)) (x12 : 1125899906842624 < fr) : Calls Try.prog 9 #[.agg #[.int .u64 id, .int .i64 co, .int .i64 st, .int .i64 lv, .int .u64 gn, .int .i64 fr, .int .i64 lf, .int .i64 du, .int .i64 tl]] w fun e w' => e = .returned (.bool (tkB ⟨id, co, st, lv, gn, fr, lf, du, tl⟩)) ∧ Below w.heap.size w w' := by
  obtain ⟨⟨i0, i1⟩, ⟨a0, a1⟩, ⟨b0, b1⟩, ⟨c0, c1⟩, ⟨d0, d1⟩, ⟨e0, e1⟩, ⟨f0, f1⟩, ⟨g0, g1⟩, ⟨h0, h1⟩⟩ := h
  simp only at i0 i1 a0 a1 b0 b1 c0 c1 d0 d1 e0 e1 f0 f1 g0 g1 h0 h1
  have HF := Aside0.mk (tk_no (t := ⟨id, co, st, lv, gn, fr, lf, du, tl⟩) (by unfold tkS; simp only; omega))
  generalize tkB _ = R at HF ⊢
  have y0 : decide (co < 0) = false := decide_eq_false x0
  have u0 : decide (0 ≤ co) = true := decide_eq_true (by omega)
  have y1 : decide (16 ≤ co) = false := decide_eq_false x1
  have y2 : decide (lv < 0) = false := decide_eq_false x2
  have u2 : decide (0 ≤ lv) = true := decide_eq_true (by omega)
  have y3 : decide (6 ≤ lv) = false := decide_eq_false x3
  have y4 : decide (tl < 0) = false := decide_eq_false x4
  have u4 : decide (0 ≤ tl) = true := decide_eq_true (by omega)
  have y5 : decide (2147483648 < tl) = false := decide_eq_false x5
  have u5 : decide (tl ≤ 2147483648) = true := decide_eq_true (by omega)
  have y6 : decide (1152921504606846976 < gn) = false := decide_eq_false x6
  have u6 : decide (gn ≤ 1152921504606846976) = true := decide_eq_true (by omega)
  have y7 : (st == 1) = false := by simpa using x7
  have z7 : (st != 1) = true := by simpa using x7
  have y8 : (st == 2) = true := by simpa using x8
  have z8 : (st != 2) = false := by simpa using x8
  have y9 : decide (lf < 1) = false := decide_eq_false x9
  have u9 : decide (1 ≤ lf) = true := decide_eq_true (by omega)
  have y10 : decide (1125899906842624 < lf) = false := decide_eq_false x10
  have u10 : decide (lf ≤ 1125899906842624) = true := decide_eq_true (by omega)
  have y11 : decide (fr < 0) = false := decide_eq_false x11
  have u11 : decide (0 ≤ fr) = true := decide_eq_true (by omega)
  have y12 : decide (1125899906842624 < fr) = true := decide_eq_true x12
  have u12 : decide (fr ≤ 1125899906842624) = false := decide_eq_false (by omega)
  go_enter Try.func9, Try.ntmps9
  go_wp2
  go_ret
  exact ⟨by rw [HF.out]; rfl, by repeat (first | exact below_alloc (Below.refl _ _) _ | refine below_set ?_ (Nat.le_refl _))⟩
set_option maxHeartbeats 4000000 in
set_option maxRecDepth 100000 in
theorem tksound_20 {id co st lv gn fr lf du tl : Int} (w : World) (h : TkOk ⟨id, co, st, lv, gn, fr, lf, du, tl⟩) (x0 : ¬ (co < 0)) (x1 : ¬ (16 ≤ co)) (x2 : ¬ (lv < 0)) (x3 : ¬ (6 ≤ lv)) (x4 : ¬ (tl < 0)) (x5 : ¬ (2147483648 < tl)) (x6 : ¬ (1152921504606846976 < gn)) (x7 : ¬ (st = 1)) (x8 : st = 2) (x9 : ¬ (lf < 1)) (x10 : ¬ (1125899906842624 < lf)) (x11 : ¬ (fr < 0)) (x12 : ¬ (1125899906842624 < fr)) (x13 : ¬ (gn = 0)) : Calls Try.prog 9 #[.agg #[.int .u64 id, .int .i64 co, .int .i64 st, .int .i64 lv, .int .u64 gn, .int .i64 fr, .int .i64 lf, .int .i64 du, .int .i64 tl]] w fun e w' => e = .returned (.bool (tkB ⟨id, co, st, lv, gn, fr, lf, du, tl⟩)) ∧ Below w.heap.size w w' := by
  obtain ⟨⟨i0, i1⟩, ⟨a0, a1⟩, ⟨b0, b1⟩, ⟨c0, c1⟩, ⟨d0, d1⟩, ⟨e0, e1⟩, ⟨f0, f1⟩, ⟨g0, g1⟩, ⟨h0, h1⟩⟩ := h
  simp only at i0 i1 a0 a1 b0 b1 c0 c1 d0 d1 e0 e1 f0 f1 g0 g1 h0 h1
  have HF := Aside0.mk (tk_no (t := ⟨id, co, st, lv, gn, fr, lf, du, tl⟩) (by unfold tkS; simp only; omega))
  generalize tkB _ = R at HF ⊢
  have y0 : decide (co < 0) = false := decide_eq_false x0
  have u0 : decide (0 ≤ co) = true := decide_eq_true (by omega)
  have y1 : decide (16 ≤ co) = false := decide_eq_false x1
  have y2 : decide (lv < 0) = false := decide_eq_false x2
  have u2 : decide (0 ≤ lv) = true := decide_eq_true (by omega)
  have y3 : decide (6 ≤ lv) = false := decide_eq_false x3
  have y4 : decide (tl < 0) = false := decide_eq_false x4
  have u4 : decide (0 ≤ tl) = true := decide_eq_true (by omega)
  have y5 : decide (2147483648 < tl) = false := decide_eq_false x5
  have u5 : decide (tl ≤ 2147483648) = true := decide_eq_true (by omega)
  have y6 : decide (1152921504606846976 < gn) = false := decide_eq_false x6
  have u6 : decide (gn ≤ 1152921504606846976) = true := decide_eq_true (by omega)
  have y7 : (st == 1) = false := by simpa using x7
  have z7 : (st != 1) = true := by simpa using x7
  have y8 : (st == 2) = true := by simpa using x8
  have z8 : (st != 2) = false := by simpa using x8
  have y9 : decide (lf < 1) = false := decide_eq_false x9
  have u9 : decide (1 ≤ lf) = true := decide_eq_true (by omega)
  have y10 : decide (1125899906842624 < lf) = false := decide_eq_false x10
  have u10 : decide (lf ≤ 1125899906842624) = true := decide_eq_true (by omega)
  have y11 : decide (fr < 0) = false := decide_eq_false x11
  have u11 : decide (0 ≤ fr) = true := decide_eq_true (by omega)
  have y12 : decide (1125899906842624 < fr) = false := decide_eq_false x12
  have u12 : decide (fr ≤ 1125899906842624) = true := decide_eq_true (by omega)
  have y13 : (gn == 0) = false := by simpa using x13
  have z13 : (gn != 0) = true := by simpa using x13
  go_enter Try.func9, Try.ntmps9
  go_wp2
  go_ret
  exact ⟨by rw [HF.out]; rfl, by repeat (first | exact below_alloc (Below.refl _ _) _ | refine below_set ?_ (Nat.le_refl _))⟩
set_option maxHeartbeats 4000000 in
set_option maxRecDepth 100000 in
theorem tksound_21 {id co st lv gn fr lf du tl : Int} (w : World) (h : TkOk ⟨id, co, st, lv, gn, fr, lf, du, tl⟩) (x0 : ¬ (co < 0)) (x1 : ¬ (16 ≤ co)) (x2 : ¬ (lv < 0)) (x3 : ¬ (6 ≤ lv)) (x4 : ¬ (tl < 0)) (x5 : ¬ (2147483648 < tl)) (x6 : ¬ (1152921504606846976 < gn)) (x7 : ¬ (st = 1)) (x8 : st = 2) (x9 : ¬ (lf < 1)) (x10 : ¬ (1125899906842624 < lf)) (x11 : ¬ (fr < 0)) (x12 : ¬ (1125899906842624 < fr)) (x13 : gn = 0) (x14 : ¬ (du = 0)) : Calls Try.prog 9 #[.agg #[.int .u64 id, .int .i64 co, .int .i64 st, .int .i64 lv, .int .u64 gn, .int .i64 fr, .int .i64 lf, .int .i64 du, .int .i64 tl]] w fun e w' => e = .returned (.bool (tkB ⟨id, co, st, lv, gn, fr, lf, du, tl⟩)) ∧ Below w.heap.size w w' := by
  obtain ⟨⟨i0, i1⟩, ⟨a0, a1⟩, ⟨b0, b1⟩, ⟨c0, c1⟩, ⟨d0, d1⟩, ⟨e0, e1⟩, ⟨f0, f1⟩, ⟨g0, g1⟩, ⟨h0, h1⟩⟩ := h
  simp only at i0 i1 a0 a1 b0 b1 c0 c1 d0 d1 e0 e1 f0 f1 g0 g1 h0 h1
  have HF := Aside0.mk (tk_no (t := ⟨id, co, st, lv, gn, fr, lf, du, tl⟩) (by unfold tkS; simp only; omega))
  generalize tkB _ = R at HF ⊢
  have y0 : decide (co < 0) = false := decide_eq_false x0
  have u0 : decide (0 ≤ co) = true := decide_eq_true (by omega)
  have y1 : decide (16 ≤ co) = false := decide_eq_false x1
  have y2 : decide (lv < 0) = false := decide_eq_false x2
  have u2 : decide (0 ≤ lv) = true := decide_eq_true (by omega)
  have y3 : decide (6 ≤ lv) = false := decide_eq_false x3
  have y4 : decide (tl < 0) = false := decide_eq_false x4
  have u4 : decide (0 ≤ tl) = true := decide_eq_true (by omega)
  have y5 : decide (2147483648 < tl) = false := decide_eq_false x5
  have u5 : decide (tl ≤ 2147483648) = true := decide_eq_true (by omega)
  have y6 : decide (1152921504606846976 < gn) = false := decide_eq_false x6
  have u6 : decide (gn ≤ 1152921504606846976) = true := decide_eq_true (by omega)
  have y7 : (st == 1) = false := by simpa using x7
  have z7 : (st != 1) = true := by simpa using x7
  have y8 : (st == 2) = true := by simpa using x8
  have z8 : (st != 2) = false := by simpa using x8
  have y9 : decide (lf < 1) = false := decide_eq_false x9
  have u9 : decide (1 ≤ lf) = true := decide_eq_true (by omega)
  have y10 : decide (1125899906842624 < lf) = false := decide_eq_false x10
  have u10 : decide (lf ≤ 1125899906842624) = true := decide_eq_true (by omega)
  have y11 : decide (fr < 0) = false := decide_eq_false x11
  have u11 : decide (0 ≤ fr) = true := decide_eq_true (by omega)
  have y12 : decide (1125899906842624 < fr) = false := decide_eq_false x12
  have u12 : decide (fr ≤ 1125899906842624) = true := decide_eq_true (by omega)
  have y13 : (gn == 0) = true := by simpa using x13
  have z13 : (gn != 0) = false := by simpa using x13
  have y14 : (du == 0) = false := by simpa using x14
  have z14 : (du != 0) = true := by simpa using x14
  go_enter Try.func9, Try.ntmps9
  go_wp2
  go_ret
  exact ⟨by rw [HF.out]; rfl, by repeat (first | exact below_alloc (Below.refl _ _) _ | refine below_set ?_ (Nat.le_refl _))⟩
set_option maxHeartbeats 4000000 in
set_option maxRecDepth 100000 in
theorem tksound_22 {id co st lv gn fr lf du tl : Int} (w : World) (h : TkOk ⟨id, co, st, lv, gn, fr, lf, du, tl⟩) (x0 : ¬ (co < 0)) (x1 : ¬ (16 ≤ co)) (x2 : ¬ (lv < 0)) (x3 : ¬ (6 ≤ lv)) (x4 : ¬ (tl < 0)) (x5 : ¬ (2147483648 < tl)) (x6 : ¬ (1152921504606846976 < gn)) (x7 : ¬ (st = 1)) (x8 : st = 2) (x9 : ¬ (lf < 1)) (x10 : ¬ (1125899906842624 < lf)) (x11 : ¬ (fr < 0)) (x12 : ¬ (1125899906842624 < fr)) (x13 : gn = 0) (x14 : du = 0) : Calls Try.prog 9 #[.agg #[.int .u64 id, .int .i64 co, .int .i64 st, .int .i64 lv, .int .u64 gn, .int .i64 fr, .int .i64 lf, .int .i64 du, .int .i64 tl]] w fun e w' => e = .returned (.bool (tkB ⟨id, co, st, lv, gn, fr, lf, du, tl⟩)) ∧ Below w.heap.size w w' := by
  obtain ⟨⟨i0, i1⟩, ⟨a0, a1⟩, ⟨b0, b1⟩, ⟨c0, c1⟩, ⟨d0, d1⟩, ⟨e0, e1⟩, ⟨f0, f1⟩, ⟨g0, g1⟩, ⟨h0, h1⟩⟩ := h
  simp only at i0 i1 a0 a1 b0 b1 c0 c1 d0 d1 e0 e1 f0 f1 g0 g1 h0 h1
  have HF := Aside0.mk (tk_yes (t := ⟨id, co, st, lv, gn, fr, lf, du, tl⟩) (by unfold tkS; simp only; omega))
  generalize tkB _ = R at HF ⊢
  have y0 : decide (co < 0) = false := decide_eq_false x0
  have u0 : decide (0 ≤ co) = true := decide_eq_true (by omega)
  have y1 : decide (16 ≤ co) = false := decide_eq_false x1
  have y2 : decide (lv < 0) = false := decide_eq_false x2
  have u2 : decide (0 ≤ lv) = true := decide_eq_true (by omega)
  have y3 : decide (6 ≤ lv) = false := decide_eq_false x3
  have y4 : decide (tl < 0) = false := decide_eq_false x4
  have u4 : decide (0 ≤ tl) = true := decide_eq_true (by omega)
  have y5 : decide (2147483648 < tl) = false := decide_eq_false x5
  have u5 : decide (tl ≤ 2147483648) = true := decide_eq_true (by omega)
  have y6 : decide (1152921504606846976 < gn) = false := decide_eq_false x6
  have u6 : decide (gn ≤ 1152921504606846976) = true := decide_eq_true (by omega)
  have y7 : (st == 1) = false := by simpa using x7
  have z7 : (st != 1) = true := by simpa using x7
  have y8 : (st == 2) = true := by simpa using x8
  have z8 : (st != 2) = false := by simpa using x8
  have y9 : decide (lf < 1) = false := decide_eq_false x9
  have u9 : decide (1 ≤ lf) = true := decide_eq_true (by omega)
  have y10 : decide (1125899906842624 < lf) = false := decide_eq_false x10
  have u10 : decide (lf ≤ 1125899906842624) = true := decide_eq_true (by omega)
  have y11 : decide (fr < 0) = false := decide_eq_false x11
  have u11 : decide (0 ≤ fr) = true := decide_eq_true (by omega)
  have y12 : decide (1125899906842624 < fr) = false := decide_eq_false x12
  have u12 : decide (fr ≤ 1125899906842624) = true := decide_eq_true (by omega)
  have y13 : (gn == 0) = true := by simpa using x13
  have z13 : (gn != 0) = false := by simpa using x13
  have y14 : (du == 0) = true := by simpa using x14
  have z14 : (du != 0) = false := by simpa using x14
  go_enter Try.func9, Try.ntmps9
  go_wp2
  go_ret
  exact ⟨by rw [HF.out]; rfl, by repeat (first | exact below_alloc (Below.refl _ _) _ | refine below_set ?_ (Nat.le_refl _))⟩
set_option maxHeartbeats 4000000 in
set_option maxRecDepth 100000 in
theorem tksound_23 {id co st lv gn fr lf du tl : Int} (w : World) (h : TkOk ⟨id, co, st, lv, gn, fr, lf, du, tl⟩) (x0 : ¬ (co < 0)) (x1 : ¬ (16 ≤ co)) (x2 : ¬ (lv < 0)) (x3 : ¬ (6 ≤ lv)) (x4 : ¬ (tl < 0)) (x5 : ¬ (2147483648 < tl)) (x6 : ¬ (1152921504606846976 < gn)) (x7 : ¬ (st = 1)) (x8 : ¬ (st = 2)) (x9 : st = 3) (x10 : ¬ (gn = 0)) : Calls Try.prog 9 #[.agg #[.int .u64 id, .int .i64 co, .int .i64 st, .int .i64 lv, .int .u64 gn, .int .i64 fr, .int .i64 lf, .int .i64 du, .int .i64 tl]] w fun e w' => e = .returned (.bool (tkB ⟨id, co, st, lv, gn, fr, lf, du, tl⟩)) ∧ Below w.heap.size w w' := by
  obtain ⟨⟨i0, i1⟩, ⟨a0, a1⟩, ⟨b0, b1⟩, ⟨c0, c1⟩, ⟨d0, d1⟩, ⟨e0, e1⟩, ⟨f0, f1⟩, ⟨g0, g1⟩, ⟨h0, h1⟩⟩ := h
  simp only at i0 i1 a0 a1 b0 b1 c0 c1 d0 d1 e0 e1 f0 f1 g0 g1 h0 h1
  have HF := Aside0.mk (tk_no (t := ⟨id, co, st, lv, gn, fr, lf, du, tl⟩) (by unfold tkS; simp only; omega))
  generalize tkB _ = R at HF ⊢
  have y0 : decide (co < 0) = false := decide_eq_false x0
  have u0 : decide (0 ≤ co) = true := decide_eq_true (by omega)
  have y1 : decide (16 ≤ co) = false := decide_eq_false x1
  have y2 : decide (lv < 0) = false := decide_eq_false x2
  have u2 : decide (0 ≤ lv) = true := decide_eq_true (by omega)
  have y3 : decide (6 ≤ lv) = false := decide_eq_false x3
  have y4 : decide (tl < 0) = false := decide_eq_false x4
  have u4 : decide (0 ≤ tl) = true := decide_eq_true (by omega)
  have y5 : decide (2147483648 < tl) = false := decide_eq_false x5
  have u5 : decide (tl ≤ 2147483648) = true := decide_eq_true (by omega)
  have y6 : decide (1152921504606846976 < gn) = false := decide_eq_false x6
  have u6 : decide (gn ≤ 1152921504606846976) = true := decide_eq_true (by omega)
  have y7 : (st == 1) = false := by simpa using x7
  have z7 : (st != 1) = true := by simpa using x7
  have y8 : (st == 2) = false := by simpa using x8
  have z8 : (st != 2) = true := by simpa using x8
  have y9 : (st == 3) = true := by simpa using x9
  have z9 : (st != 3) = false := by simpa using x9
  have y10 : (gn == 0) = false := by simpa using x10
  have z10 : (gn != 0) = true := by simpa using x10
  go_enter Try.func9, Try.ntmps9
  go_wp2
  go_ret
  exact ⟨by rw [HF.out]; rfl, by repeat (first | exact below_alloc (Below.refl _ _) _ | refine below_set ?_ (Nat.le_refl _))⟩
set_option maxHeartbeats 4000000 in
set_option maxRecDepth 100000 in
theorem tksound_24 {id co st lv gn fr lf du tl : Int} (w : World) (h : TkOk ⟨id, co, st, lv, gn, fr, lf, du, tl⟩) (x0 : ¬ (co < 0)) (x1 : ¬ (16 ≤ co)) (x2 : ¬ (lv < 0)) (x3 : ¬ (6 ≤ lv)) (x4 : ¬ (tl < 0)) (x5 : ¬ (2147483648 < tl)) (x6 : ¬ (1152921504606846976 < gn)) (x7 : ¬ (st = 1)) (x8 : ¬ (st = 2)) (x9 : st = 3) (x10 : gn = 0) (x11 : ¬ (fr = 0)) : Calls Try.prog 9 #[.agg #[.int .u64 id, .int .i64 co, .int .i64 st, .int .i64 lv, .int .u64 gn, .int .i64 fr, .int .i64 lf, .int .i64 du, .int .i64 tl]] w fun e w' => e = .returned (.bool (tkB ⟨id, co, st, lv, gn, fr, lf, du, tl⟩)) ∧ Below w.heap.size w w' := by
  obtain ⟨⟨i0, i1⟩, ⟨a0, a1⟩, ⟨b0, b1⟩, ⟨c0, c1⟩, ⟨d0, d1⟩, ⟨e0, e1⟩, ⟨f0, f1⟩, ⟨g0, g1⟩, ⟨h0, h1⟩⟩ := h
  simp only at i0 i1 a0 a1 b0 b1 c0 c1 d0 d1 e0 e1 f0 f1 g0 g1 h0 h1
  have HF := Aside0.mk (tk_no (t := ⟨id, co, st, lv, gn, fr, lf, du, tl⟩) (by unfold tkS; simp only; omega))
  generalize tkB _ = R at HF ⊢
  have y0 : decide (co < 0) = false := decide_eq_false x0
  have u0 : decide (0 ≤ co) = true := decide_eq_true (by omega)
  have y1 : decide (16 ≤ co) = false := decide_eq_false x1
  have y2 : decide (lv < 0) = false := decide_eq_false x2
  have u2 : decide (0 ≤ lv) = true := decide_eq_true (by omega)
  have y3 : decide (6 ≤ lv) = false := decide_eq_false x3
  have y4 : decide (tl < 0) = false := decide_eq_false x4
  have u4 : decide (0 ≤ tl) = true := decide_eq_true (by omega)
  have y5 : decide (2147483648 < tl) = false := decide_eq_false x5
  have u5 : decide (tl ≤ 2147483648) = true := decide_eq_true (by omega)
  have y6 : decide (1152921504606846976 < gn) = false := decide_eq_false x6
  have u6 : decide (gn ≤ 1152921504606846976) = true := decide_eq_true (by omega)
  have y7 : (st == 1) = false := by simpa using x7
  have z7 : (st != 1) = true := by simpa using x7
  have y8 : (st == 2) = false := by simpa using x8
  have z8 : (st != 2) = true := by simpa using x8
  have y9 : (st == 3) = true := by simpa using x9
  have z9 : (st != 3) = false := by simpa using x9
  have y10 : (gn == 0) = true := by simpa using x10
  have z10 : (gn != 0) = false := by simpa using x10
  have y11 : (fr == 0) = false := by simpa using x11
  have z11 : (fr != 0) = true := by simpa using x11
  go_enter Try.func9, Try.ntmps9
  go_wp2
  go_ret
  exact ⟨by rw [HF.out]; rfl, by repeat (first | exact below_alloc (Below.refl _ _) _ | refine below_set ?_ (Nat.le_refl _))⟩
set_option maxHeartbeats 4000000 in
set_option maxRecDepth 100000 in
theorem tksound_25 {id co st lv gn fr lf du tl : Int} (w : World) (h : TkOk ⟨id, co, st, lv, gn, fr, lf, du, tl⟩) (x0 : ¬ (co < 0)) (x1 : ¬ (16 ≤ co)) (x2 : ¬ (lv < 0)) (x3 : ¬ (6 ≤ lv)) (x4 : ¬ (tl < 0)) (x5 : ¬ (2147483648 < tl)) (x6 : ¬ (1152921504606846976 < gn)) (x7 : ¬ (st = 1)) (x8 : ¬ (st = 2)) (x9 : st = 3) (x10 : gn = 0) (x11 : fr = 0) (x12 : ¬ (lf = 0)) : Calls Try.prog 9 #[.agg #[.int .u64 id, .int .i64 co, .int .i64 st, .int .i64 lv, .int .u64 gn, .int .i64 fr, .int .i64 lf, .int .i64 du, .int .i64 tl]] w fun e w' => e = .returned (.bool (tkB ⟨id, co, st, lv, gn, fr, lf, du, tl⟩)) ∧ Below w.heap.size w w' := by
  obtain ⟨⟨i0, i1⟩, ⟨a0, a1⟩, ⟨b0, b1⟩, ⟨c0, c1⟩, ⟨d0, d1⟩, ⟨e0, e1⟩, ⟨f0, f1⟩, ⟨g0, g1⟩, ⟨h0, h1⟩⟩ := h
  simp only at i0 i1 a0 a1 b0 b1 c0 c1 d0 d1 e0 e1 f0 f1 g0 g1 h0 h1
  have HF := Aside0.mk (tk_no (t := ⟨id, co, st, lv, gn, fr, lf, du, tl⟩) (by unfold tkS; simp only; omega))
  generalize tkB _ = R at HF ⊢
  have y0 : decide (co < 0) = false := decide_eq_false x0
  have u0 : decide (0 ≤ co) = true := decide_eq_true (by omega)
  have y1 : decide (16 ≤ co) = false := decide_eq_false x1
  have y2 : decide (lv < 0) = false := decide_eq_false x2
  have u2 : decide (0 ≤ lv) = true := decide_eq_true (by omega)
  have y3 : decide (6 ≤ lv) = false := decide_eq_false x3
  have y4 : decide (tl < 0) = false := decide_eq_false x4
  have u4 : decide (0 ≤ tl) = true := decide_eq_true (by omega)
  have y5 : decide (2147483648 < tl) = false := decide_eq_false x5
  have u5 : decide (tl ≤ 2147483648) = true := decide_eq_true (by omega)
  have y6 : decide (1152921504606846976 < gn) = false := decide_eq_false x6
  have u6 : decide (gn ≤ 1152921504606846976) = true := decide_eq_true (by omega)
  have y7 : (st == 1) = false := by simpa using x7
  have z7 : (st != 1) = true := by simpa using x7
  have y8 : (st == 2) = false := by simpa using x8
  have z8 : (st != 2) = true := by simpa using x8
  have y9 : (st == 3) = true := by simpa using x9
  have z9 : (st != 3) = false := by simpa using x9
  have y10 : (gn == 0) = true := by simpa using x10
  have z10 : (gn != 0) = false := by simpa using x10
  have y11 : (fr == 0) = true := by simpa using x11
  have z11 : (fr != 0) = false := by simpa using x11
  have y12 : (lf == 0) = false := by simpa using x12
  have z12 : (lf != 0) = true := by simpa using x12
  go_enter Try.func9, Try.ntmps9
  go_wp2
  go_ret
  exact ⟨by rw [HF.out]; rfl, by repeat (first | exact below_alloc (Below.refl _ _) _ | refine below_set ?_ (Nat.le_refl _))⟩
set_option maxHeartbeats 4000000 in
set_option maxRecDepth 100000 in
theorem tksound_26 {id co st lv gn fr lf du tl : Int} (w : World) (h : TkOk ⟨id, co, st, lv, gn, fr, lf, du, tl⟩) (x0 : ¬ (co < 0)) (x1 : ¬ (16 ≤ co)) (x2 : ¬ (lv < 0)) (x3 : ¬ (6 ≤ lv)) (x4 : ¬ (tl < 0)) (x5 : ¬ (2147483648 < tl)) (x6 : ¬ (1152921504606846976 < gn)) (x7 : ¬ (st = 1)) (x8 : ¬ (st = 2)) (x9 : st = 3) (x10 : gn = 0) (x11 : fr = 0) (x12 : lf = 0) (x13 : ¬ (du = 0)) : Calls Try.prog 9 #[.agg #[.int .u64 id, .int .i64 co, .int .i64 st, .int .i64 lv, .int .u64 gn, .int .i64 fr, .int .i64 lf, .int .i64 du, .int .i64 tl]] w fun e w' => e = .returned (.bool (tkB ⟨id, co, st, lv, gn, fr, lf, du, tl⟩)) ∧ Below w.heap.size w w' := by
  obtain ⟨⟨i0, i1⟩, ⟨a0, a1⟩, ⟨b0, b1⟩, ⟨c0, c1⟩, ⟨d0, d1⟩, ⟨e0, e1⟩, ⟨f0, f1⟩, ⟨g0, g1⟩, ⟨h0, h1⟩⟩ := h
  simp only at i0 i1 a0 a1 b0 b1 c0 c1 d0 d1 e0 e1 f0 f1 g0 g1 h0 h1
  have HF := Aside0.mk (tk_no (t := ⟨id, co, st, lv, gn, fr, lf, du, tl⟩) (by unfold tkS; simp only; omega))
  generalize tkB _ = R at HF ⊢
  have y0 : decide (co < 0) = false := decide_eq_false x0
  have u0 : decide (0 ≤ co) = true := decide_eq_true (by omega)
  have y1 : decide (16 ≤ co) = false := decide_eq_false x1
  have y2 : decide (lv < 0) = false := decide_eq_false x2
  have u2 : decide (0 ≤ lv) = true := decide_eq_true (by omega)
  have y3 : decide (6 ≤ lv) = false := decide_eq_false x3
  have y4 : decide (tl < 0) = false := decide_eq_false x4
  have u4 : decide (0 ≤ tl) = true := decide_eq_true (by omega)
  have y5 : decide (2147483648 < tl) = false := decide_eq_false x5
  have u5 : decide (tl ≤ 2147483648) = true := decide_eq_true (by omega)
  have y6 : decide (1152921504606846976 < gn) = false := decide_eq_false x6
  have u6 : decide (gn ≤ 1152921504606846976) = true := decide_eq_true (by omega)
  have y7 : (st == 1) = false := by simpa using x7
  have z7 : (st != 1) = true := by simpa using x7
  have y8 : (st == 2) = false := by simpa using x8
  have z8 : (st != 2) = true := by simpa using x8
  have y9 : (st == 3) = true := by simpa using x9
  have z9 : (st != 3) = false := by simpa using x9
  have y10 : (gn == 0) = true := by simpa using x10
  have z10 : (gn != 0) = false := by simpa using x10
  have y11 : (fr == 0) = true := by simpa using x11
  have z11 : (fr != 0) = false := by simpa using x11
  have y12 : (lf == 0) = true := by simpa using x12
  have z12 : (lf != 0) = false := by simpa using x12
  have y13 : (du == 0) = false := by simpa using x13
  have z13 : (du != 0) = true := by simpa using x13
  go_enter Try.func9, Try.ntmps9
  go_wp2
  go_ret
  exact ⟨by rw [HF.out]; rfl, by repeat (first | exact below_alloc (Below.refl _ _) _ | refine below_set ?_ (Nat.le_refl _))⟩
set_option maxHeartbeats 4000000 in
set_option maxRecDepth 100000 in
theorem tksound_27 {id co st lv gn fr lf du tl : Int} (w : World) (h : TkOk ⟨id, co, st, lv, gn, fr, lf, du, tl⟩) (x0 : ¬ (co < 0)) (x1 : ¬ (16 ≤ co)) (x2 : ¬ (lv < 0)) (x3 : ¬ (6 ≤ lv)) (x4 : ¬ (tl < 0)) (x5 : ¬ (2147483648 < tl)) (x6 : ¬ (1152921504606846976 < gn)) (x7 : ¬ (st = 1)) (x8 : ¬ (st = 2)) (x9 : st = 3) (x10 : gn = 0) (x11 : fr = 0) (x12 : lf = 0) (x13 : du = 0) : Calls Try.prog 9 #[.agg #[.int .u64 id, .int .i64 co, .int .i64 st, .int .i64 lv, .int .u64 gn, .int .i64 fr, .int .i64 lf, .int .i64 du, .int .i64 tl]] w fun e w' => e = .returned (.bool (tkB ⟨id, co, st, lv, gn, fr, lf, du, tl⟩)) ∧ Below w.heap.size w w' := by
  obtain ⟨⟨i0, i1⟩, ⟨a0, a1⟩, ⟨b0, b1⟩, ⟨c0, c1⟩, ⟨d0, d1⟩, ⟨e0, e1⟩, ⟨f0, f1⟩, ⟨g0, g1⟩, ⟨h0, h1⟩⟩ := h
  simp only at i0 i1 a0 a1 b0 b1 c0 c1 d0 d1 e0 e1 f0 f1 g0 g1 h0 h1
  have HF := Aside0.mk (tk_yes (t := ⟨id, co, st, lv, gn, fr, lf, du, tl⟩) (by unfold tkS; simp only; omega))
  generalize tkB _ = R at HF ⊢
  have y0 : decide (co < 0) = false := decide_eq_false x0
  have u0 : decide (0 ≤ co) = true := decide_eq_true (by omega)
  have y1 : decide (16 ≤ co) = false := decide_eq_false x1
  have y2 : decide (lv < 0) = false := decide_eq_false x2
  have u2 : decide (0 ≤ lv) = true := decide_eq_true (by omega)
  have y3 : decide (6 ≤ lv) = false := decide_eq_false x3
  have y4 : decide (tl < 0) = false := decide_eq_false x4
  have u4 : decide (0 ≤ tl) = true := decide_eq_true (by omega)
  have y5 : decide (2147483648 < tl) = false := decide_eq_false x5
  have u5 : decide (tl ≤ 2147483648) = true := decide_eq_true (by omega)
  have y6 : decide (1152921504606846976 < gn) = false := decide_eq_false x6
  have u6 : decide (gn ≤ 1152921504606846976) = true := decide_eq_true (by omega)
  have y7 : (st == 1) = false := by simpa using x7
  have z7 : (st != 1) = true := by simpa using x7
  have y8 : (st == 2) = false := by simpa using x8
  have z8 : (st != 2) = true := by simpa using x8
  have y9 : (st == 3) = true := by simpa using x9
  have z9 : (st != 3) = false := by simpa using x9
  have y10 : (gn == 0) = true := by simpa using x10
  have z10 : (gn != 0) = false := by simpa using x10
  have y11 : (fr == 0) = true := by simpa using x11
  have z11 : (fr != 0) = false := by simpa using x11
  have y12 : (lf == 0) = true := by simpa using x12
  have z12 : (lf != 0) = false := by simpa using x12
  have y13 : (du == 0) = true := by simpa using x13
  have z13 : (du != 0) = false := by simpa using x13
  go_enter Try.func9, Try.ntmps9
  go_wp2
  go_ret
  exact ⟨by rw [HF.out]; rfl, by repeat (first | exact below_alloc (Below.refl _ _) _ | refine below_set ?_ (Nat.le_refl _))⟩
set_option maxHeartbeats 4000000 in
set_option maxRecDepth 100000 in
theorem tksound_28 {id co st lv gn fr lf du tl : Int} (w : World) (h : TkOk ⟨id, co, st, lv, gn, fr, lf, du, tl⟩) (x0 : ¬ (co < 0)) (x1 : ¬ (16 ≤ co)) (x2 : ¬ (lv < 0)) (x3 : ¬ (6 ≤ lv)) (x4 : ¬ (tl < 0)) (x5 : ¬ (2147483648 < tl)) (x6 : ¬ (1152921504606846976 < gn)) (x7 : ¬ (st = 1)) (x8 : ¬ (st = 2)) (x9 : ¬ (st = 3)) (x10 : st = 4) (x11 : ¬ (gn = 0)) : Calls Try.prog 9 #[.agg #[.int .u64 id, .int .i64 co, .int .i64 st, .int .i64 lv, .int .u64 gn, .int .i64 fr, .int .i64 lf, .int .i64 du, .int .i64 tl]] w fun e w' => e = .returned (.bool (tkB ⟨id, co, st, lv, gn, fr, lf, du, tl⟩)) ∧ Below w.heap.size w w' := by
  obtain ⟨⟨i0, i1⟩, ⟨a0, a1⟩, ⟨b0, b1⟩, ⟨c0, c1⟩, ⟨d0, d1⟩, ⟨e0, e1⟩, ⟨f0, f1⟩, ⟨g0, g1⟩, ⟨h0, h1⟩⟩ := h
  simp only at i0 i1 a0 a1 b0 b1 c0 c1 d0 d1 e0 e1 f0 f1 g0 g1 h0 h1
  have HF := Aside0.mk (tk_no (t := ⟨id, co, st, lv, gn, fr, lf, du, tl⟩) (by unfold tkS; simp only; omega))
  generalize tkB _ = R at HF ⊢
  have y0 : decide (co < 0) = false := decide_eq_false x0
  have u0 : decide (0 ≤ co) = true := decide_eq_true (by omega)
  have y1 : decide (16 ≤ co) = false := decide_eq_false x1
  have y2 : decide (lv < 0) = false := decide_eq_false x2
  have u2 : decide (0 ≤ lv) = true := decide_eq_true (by omega)
  have y3 : decide (6 ≤ lv) = false := decide_eq_false x3
  have y4 : decide (tl < 0) = false := decide_eq_false x4
  have u4 : decide (0 ≤ tl) = true := decide_eq_true (by omega)
  have y5 : decide (2147483648 < tl) = false := decide_eq_false x5
  have u5 : decide (tl ≤ 2147483648) = true := decide_eq_true (by omega)
  have y6 : decide (1152921504606846976 < gn) = false := decide_eq_false x6
  have u6 : decide (gn ≤ 1152921504606846976) = true := decide_eq_true (by omega)
  have y7 : (st == 1) = false := by simpa using x7
  have z7 : (st != 1) = true := by simpa using x7
  have y8 : (st == 2) = false := by simpa using x8
  have z8 : (st != 2) = true := by simpa using x8
  have y9 : (st == 3) = false := by simpa using x9
  have z9 : (st != 3) = true := by simpa using x9
  have y10 : (st == 4) = true := by simpa using x10
  have z10 : (st != 4) = false := by simpa using x10
  have y11 : (gn == 0) = false := by simpa using x11
  have z11 : (gn != 0) = true := by simpa using x11
  go_enter Try.func9, Try.ntmps9
  go_wp2
  go_ret
  exact ⟨by rw [HF.out]; rfl, by repeat (first | exact below_alloc (Below.refl _ _) _ | refine below_set ?_ (Nat.le_refl _))⟩
set_option maxHeartbeats 4000000 in
set_option maxRecDepth 100000 in
theorem tksound_29 {id co st lv gn fr lf du tl : Int} (w : World) (h : TkOk ⟨id, co, st, lv, gn, fr, lf, du, tl⟩) (x0 : ¬ (co < 0)) (x1 : ¬ (16 ≤ co)) (x2 : ¬ (lv < 0)) (x3 : ¬ (6 ≤ lv)) (x4 : ¬ (tl < 0)) (x5 : ¬ (2147483648 < tl)) (x6 : ¬ (1152921504606846976 < gn)) (x7 : ¬ (st = 1)) (x8 : ¬ (st = 2)) (x9 : ¬ (st = 3)) (x10 : st = 4) (x11 : gn = 0) (x12 : ¬ (fr = 0)) : Calls Try.prog 9 #[.agg #[.int .u64 id, .int .i64 co, .int .i64 st, .int .i64 lv, .int .u64 gn, .int .i64 fr, .int .i64 lf, .int .i64 du, .int .i64 tl]] w fun e w' => e = .returned (.bool (tkB ⟨id, co, st, lv, gn, fr, lf, du, tl⟩)) ∧ Below w.heap.size w w' := by
  obtain ⟨⟨i0, i1⟩, ⟨a0, a1⟩, ⟨b0, b1⟩, ⟨c0, c1⟩, ⟨d0, d1⟩, ⟨e0, e1⟩, ⟨f0, f1⟩, ⟨g0, g1⟩, ⟨h0, h1⟩⟩ := h
  simp only at i0 i1 a0 a1 b0 b1 c0 c1 d0 d1 e0 e1 f0 f1 g0 g1 h0 h1
  have HF := Aside0.mk (tk_no (t := ⟨id, co, st, lv, gn, fr, lf, du, tl⟩) (by unfold tkS; simp only; omega))
  generalize tkB _ = R at HF ⊢
  have y0 : decide (co < 0) = false := decide_eq_false x0
  have u0 : decide (0 ≤ co) = true := decide_eq_true (by omega)
  have y1 : decide (16 ≤ co) = false := decide_eq_false x1
  have y2 : decide (lv < 0) = false := decide_eq_false x2
  have u2 : decide (0 ≤ lv) = true := decide_eq_true (by omega)
  have y3 : decide (6 ≤ lv) = false := decide_eq_false x3
  have y4 : decide (tl < 0) = false := decide_eq_false x4
  have u4 : decide (0 ≤ tl) = true := decide_eq_true (by omega)
  have y5 : decide (2147483648 < tl) = false := decide_eq_false x5
  have u5 : decide (tl ≤ 2147483648) = true := decide_eq_true (by omega)
  have y6 : decide (1152921504606846976 < gn) = false := decide_eq_false x6
  have u6 : decide (gn ≤ 1152921504606846976) = true := decide_eq_true (by omega)
  have y7 : (st == 1) = false := by simpa using x7
  have z7 : (st != 1) = true := by simpa using x7
  have y8 : (st == 2) = false := by simpa using x8
  have z8 : (st != 2) = true := by simpa using x8
  have y9 : (st == 3) = false := by simpa using x9
  have z9 : (st != 3) = true := by simpa using x9
  have y10 : (st == 4) = true := by simpa using x10
  have z10 : (st != 4) = false := by simpa using x10
  have y11 : (gn == 0) = true := by simpa using x11
  have z11 : (gn != 0) = false := by simpa using x11
  have y12 : (fr == 0) = false := by simpa using x12
  have z12 : (fr != 0) = true := by simpa using x12
  go_enter Try.func9, Try.ntmps9
  go_wp2
  go_ret
  exact ⟨by rw [HF.out]; rfl, by repeat (first | exact below_alloc (Below.refl _ _) _ | refine below_set ?_ (Nat.le_refl _))⟩
set_option maxHeartbeats 4000000 in
set_option maxRecDepth 100000 in
theorem tksound_30 {id co st lv gn fr lf du tl : Int} (w : World) (h : TkOk ⟨id, co, st, lv, gn, fr, lf, du, tl⟩) (x0 : ¬ (co < 0)) (x1 : ¬ (16 ≤ co)) (x2 : ¬ (lv < 0)) (x3 : ¬ (6 ≤ lv)) (x4 : ¬ (tl < 0)) (x5 : ¬ (2147483648 < tl)) (x6 : ¬ (1152921504606846976 < gn)) (x7 : ¬ (st = 1)) (x8 : ¬ (st = 2)) (x9 : ¬ (st = 3)) (x10 : st = 4) (x11 : gn = 0) (x12 : fr = 0) (x13 : ¬ (lf = 0)) : Calls Try.prog 9 #[.agg #[.int .u64 id, .int .i64 co, .int .i64 st, .int .i64 lv, .int .u64 gn, .int .i64 fr, .int .i64 lf, .int .i64 du, .int .i64 tl]] w fun e w' => e = .returned (.bool (tkB ⟨id, co, st, lv, gn, fr, lf, du, tl⟩)) ∧ Below w.heap.size w w' := by
  obtain ⟨⟨i0, i1⟩, ⟨a0, a1⟩, ⟨b0, b1⟩, ⟨c0, c1⟩, ⟨d0, d1⟩, ⟨e0, e1⟩, ⟨f0, f1⟩, ⟨g0, g1⟩, ⟨h0, h1⟩⟩ := h
  simp only at i0 i1 a0 a1 b0 b1 c0 c1 d0 d1 e0 e1 f0 f1 g0 g1 h0 h1
  have HF := Aside0.mk (tk_no (t := ⟨id, co, st, lv, gn, fr, lf, du, tl⟩) (by unfold tkS; simp only; omega))
  generalize tkB _ = R at HF ⊢
  have y0 : decide (co < 0) = false := decide_eq_false x0
  have u0 : decide (0 ≤ co) = true := decide_eq_true (by omega)
  have y1 : decide (16 ≤ co) = false := decide_eq_false x1
  have y2 : decide (lv < 0) = false := decide_eq_false x2
  have u2 : decide (0 ≤ lv) = true := decide_eq_true (by omega)
  have y3 : decide (6 ≤ lv) = false := decide_eq_false x3
  have y4 : decide (tl < 0) = false := decide_eq_false x4
  have u4 : decide (0 ≤ tl) = true := decide_eq_true (by omega)
  have y5 : decide (2147483648 < tl) = false := decide_eq_false x5
  have u5 : decide (tl ≤ 2147483648) = true := decide_eq_true (by omega)
  have y6 : decide (1152921504606846976 < gn) = false := decide_eq_false x6
  have u6 : decide (gn ≤ 1152921504606846976) = true := decide_eq_true (by omega)
  have y7 : (st == 1) = false := by simpa using x7
  have z7 : (st != 1) = true := by simpa using x7
  have y8 : (st == 2) = false := by simpa using x8
  have z8 : (st != 2) = true := by simpa using x8
  have y9 : (st == 3) = false := by simpa using x9
  have z9 : (st != 3) = true := by simpa using x9
  have y10 : (st == 4) = true := by simpa using x10
  have z10 : (st != 4) = false := by simpa using x10
  have y11 : (gn == 0) = true := by simpa using x11
  have z11 : (gn != 0) = false := by simpa using x11
  have y12 : (fr == 0) = true := by simpa using x12
  have z12 : (fr != 0) = false := by simpa using x12
  have y13 : (lf == 0) = false := by simpa using x13
  have z13 : (lf != 0) = true := by simpa using x13
  go_enter Try.func9, Try.ntmps9
  go_wp2
  go_ret
  exact ⟨by rw [HF.out]; rfl, by repeat (first | exact below_alloc (Below.refl _ _) _ | refine below_set ?_ (Nat.le_refl _))⟩
set_option maxHeartbeats 4000000 in
set_option maxRecDepth 100000 in
theorem tksound_31 {id co st lv gn fr lf du tl : Int} (w : World) (h : TkOk ⟨id, co, st, lv, gn, fr, lf, du, tl⟩) (x0 : ¬ (co < 0)) (x1 : ¬ (16 ≤ co)) (x2 : ¬ (lv < 0)) (x3 : ¬ (6 ≤ lv)) (x4 : ¬ (tl < 0)) (x5 : ¬ (2147483648 < tl)) (x6 : ¬ (1152921504606846976 < gn)) (x7 : ¬ (st = 1)) (x8 : ¬ (st = 2)) (x9 : ¬ (st = 3)) (x10 : st = 4) (x11 : gn = 0) (x12 : fr = 0) (x13 : lf = 0) (x14 : ¬ (du = 0)) : Calls Try.prog 9 #[.agg #[.int .u64 id, .int .i64 co, .int .i64 st, .int .i64 lv, .int .u64 gn, .int .i64 fr, .int .i64 lf, .int .i64 du, .int .i64 tl]] w fun e w' => e = .returned (.bool (tkB ⟨id, co, st, lv, gn, fr, lf, du, tl⟩)) ∧ Below w.heap.size w w' := by
  obtain ⟨⟨i0, i1⟩, ⟨a0, a1⟩, ⟨b0, b1⟩, ⟨c0, c1⟩, ⟨d0, d1⟩, ⟨e0, e1⟩, ⟨f0, f1⟩, ⟨g0, g1⟩, ⟨h0, h1⟩⟩ := h
  simp only at i0 i1 a0 a1 b0 b1 c0 c1 d0 d1 e0 e1 f0 f1 g0 g1 h0 h1
  have HF := Aside0.mk (tk_no (t := ⟨id, co, st, lv, gn, fr, lf, du, tl⟩) (by unfold tkS; simp only; omega))
  generalize tkB _ = R at HF ⊢
  have y0 : decide (co < 0) = false := decide_eq_false x0
  have u0 : decide (0 ≤ co) = true := decide_eq_true (by omega)
  have y1 : decide (16 ≤ co) = false := decide_eq_false x1
  have y2 : decide (lv < 0) = false := decide_eq_false x2
  have u2 : decide (0 ≤ lv) = true := decide_eq_true (by omega)
  have y3 : decide (6 ≤ lv) = false := decide_eq_false x3
  have y4 : decide (tl < 0) = false := decide_eq_false x4
  have u4 : decide (0 ≤ tl) = true := decide_eq_true (by omega)
  have y5 : decide (2147483648 < tl) = false := decide_eq_false x5
  have u5 : decide (tl ≤ 2147483648) = true := decide_eq_true (by omega)
  have y6 : decide (1152921504606846976 < gn) = false := decide_eq_false x6
  have u6 : decide (gn ≤ 1152921504606846976) = true := decide_eq_true (by omega)
  have y7 : (st == 1) = false := by simpa using x7
  have z7 : (st != 1) = true := by simpa using x7
  have y8 : (st == 2) = false := by simpa using x8
  have z8 : (st != 2) = true := by simpa using x8
  have y9 : (st == 3) = false := by simpa using x9
  have z9 : (st != 3) = true := by simpa using x9
  have y10 : (st == 4) = true := by simpa using x10
  have z10 : (st != 4) = false := by simpa using x10
  have y11 : (gn == 0) = true := by simpa using x11
  have z11 : (gn != 0) = false := by simpa using x11
  have y12 : (fr == 0) = true := by simpa using x12
  have z12 : (fr != 0) = false := by simpa using x12
  have y13 : (lf == 0) = true := by simpa using x13
  have z13 : (lf != 0) = false := by simpa using x13
  have y14 : (du == 0) = false := by simpa using x14
  have z14 : (du != 0) = true := by simpa using x14
  go_enter Try.func9, Try.ntmps9
  go_wp2
  go_ret
  exact ⟨by rw [HF.out]; rfl, by repeat (first | exact below_alloc (Below.refl _ _) _ | refine below_set ?_ (Nat.le_refl _))⟩
set_option maxHeartbeats 4000000 in
set_option maxRecDepth 100000 in
theorem tksound_32 {id co st lv gn fr lf du tl : Int} (w : World) (h : TkOk ⟨id, co, st, lv, gn, fr, lf, du, tl⟩) (x0 : ¬ (co < 0)) (x1 : ¬ (16 ≤ co)) (x2 : ¬ (lv < 0)) (x3 : ¬ (6 ≤ lv)) (x4 : ¬ (tl < 0)) (x5 : ¬ (2147483648 < tl)) (x6 : ¬ (1152921504606846976 < gn)) (x7 : ¬ (st = 1)) (x8 : ¬ (st = 2)) (x9 : ¬ (st = 3)) (x10 : st = 4) (x11 : gn = 0) (x12 : fr = 0) (x13 : lf = 0) (x14 : du = 0) : Calls Try.prog 9 #[.agg #[.int .u64 id, .int .i64 co, .int .i64 st, .int .i64 lv, .int .u64 gn, .int .i64 fr, .int .i64 lf, .int .i64 du, .int .i64 tl]] w fun e w' => e = .returned (.bool (tkB ⟨id, co, st, lv, gn, fr, lf, du, tl⟩)) ∧ Below w.heap.size w w' := by
  obtain ⟨⟨i0, i1⟩, ⟨a0, a1⟩, ⟨b0, b1⟩, ⟨c0, c1⟩, ⟨d0, d1⟩, ⟨e0, e1⟩, ⟨f0, f1⟩, ⟨g0, g1⟩, ⟨h0, h1⟩⟩ := h
  simp only at i0 i1 a0 a1 b0 b1 c0 c1 d0 d1 e0 e1 f0 f1 g0 g1 h0 h1
  have HF := Aside0.mk (tk_yes (t := ⟨id, co, st, lv, gn, fr, lf, du, tl⟩) (by unfold tkS; simp only; omega))
  generalize tkB _ = R at HF ⊢
  have y0 : decide (co < 0) = false := decide_eq_false x0
  have u0 : decide (0 ≤ co) = true := decide_eq_true (by omega)
  have y1 : decide (16 ≤ co) = false := decide_eq_false x1
  have y2 : decide (lv < 0) = false := decide_eq_false x2
  have u2 : decide (0 ≤ lv) = true := decide_eq_true (by omega)
  have y3 : decide (6 ≤ lv) = false := decide_eq_false x3
  have y4 : decide (tl < 0) = false := decide_eq_false x4
  have u4 : decide (0 ≤ tl) = true := decide_eq_true (by omega)
  have y5 : decide (2147483648 < tl) = false := decide_eq_false x5
  have u5 : decide (tl ≤ 2147483648) = true := decide_eq_true (by omega)
  have y6 : decide (1152921504606846976 < gn) = false := decide_eq_false x6
  have u6 : decide (gn ≤ 1152921504606846976) = true := decide_eq_true (by omega)
  have y7 : (st == 1) = false := by simpa using x7
  have z7 : (st != 1) = true := by simpa using x7
  have y8 : (st == 2) = false := by simpa using x8
  have z8 : (st != 2) = true := by simpa using x8
  have y9 : (st == 3) = false := by simpa using x9
  have z9 : (st != 3) = true := by simpa using x9
  have y10 : (st == 4) = true := by simpa using x10
  have z10 : (st != 4) = false := by simpa using x10
  have y11 : (gn == 0) = true := by simpa using x11
  have z11 : (gn != 0) = false := by simpa using x11
  have y12 : (fr == 0) = true := by simpa using x12
  have z12 : (fr != 0) = false := by simpa using x12
  have y13 : (lf == 0) = true := by simpa using x13
  have z13 : (lf != 0) = false := by simpa using x13
  have y14 : (du == 0) = true := by simpa using x14
  have z14 : (du != 0) = false := by simpa using x14
  go_enter Try.func9, Try.ntmps9
  go_wp2
  go_ret
  exact ⟨by rw [HF.out]; rfl, by repeat (first | exact below_alloc (Below.refl _ _) _ | refine below_set ?_ (Nat.le_refl _))⟩
set_option maxHeartbeats 4000000 in
set_option maxRecDepth 100000 in
theorem tksound_33 {id co st lv gn fr lf du tl : Int} (w : World) (h : TkOk ⟨id, co, st, lv, gn, fr, lf, du, tl⟩) (x0 : ¬ (co < 0)) (x1 : ¬ (16 ≤ co)) (x2 : ¬ (lv < 0)) (x3 : ¬ (6 ≤ lv)) (x4 : ¬ (tl < 0)) (x5 : ¬ (2147483648 < tl)) (x6 : ¬ (1152921504606846976 < gn)) (x7 : ¬ (st = 1)) (x8 : ¬ (st = 2)) (x9 : ¬ (st = 3)) (x10 : ¬ (st = 4)) : Calls Try.prog 9 #[.agg #[.int .u64 id, .int .i64 co, .int .i64 st, .int .i64 lv, .int .u64 gn, .int .i64 fr, .int .i64 lf, .int .i64 du, .int .i64 tl]] w fun e w' => e = .returned (.bool (tkB ⟨id, co, st, lv, gn, fr, lf, du, tl⟩)) ∧ Below w.heap.size w w' := by
  obtain ⟨⟨i0, i1⟩, ⟨a0, a1⟩, ⟨b0, b1⟩, ⟨c0, c1⟩, ⟨d0, d1⟩, ⟨e0, e1⟩, ⟨f0, f1⟩, ⟨g0, g1⟩, ⟨h0, h1⟩⟩ := h
  simp only at i0 i1 a0 a1 b0 b1 c0 c1 d0 d1 e0 e1 f0 f1 g0 g1 h0 h1
  have HF := Aside0.mk (tk_no (t := ⟨id, co, st, lv, gn, fr, lf, du, tl⟩) (by unfold tkS; simp only; omega))
  generalize tkB _ = R at HF ⊢
  have y0 : decide (co < 0) = false := decide_eq_false x0
  have u0 : decide (0 ≤ co) = true := decide_eq_true (by omega)
  have y1 : decide (16 ≤ co) = false := decide_eq_false x1
  have y2 : decide (lv < 0) = false := decide_eq_false x2
  have u2 : decide (0 ≤ lv) = true := decide_eq_true (by omega)
  have y3 : decide (6 ≤ lv) = false := decide_eq_false x3
  have y4 : decide (tl < 0) = false := decide_eq_false x4
  have u4 : decide (0 ≤ tl) = true := decide_eq_true (by omega)
  have y5 : decide (2147483648 < tl) = false := decide_eq_false x5
  have u5 : decide (tl ≤ 2147483648) = true := decide_eq_true (by omega)
  have y6 : decide (1152921504606846976 < gn) = false := decide_eq_false x6
  have u6 : decide (gn ≤ 1152921504606846976) = true := decide_eq_true (by omega)
  have y7 : (st == 1) = false := by simpa using x7
  have z7 : (st != 1) = true := by simpa using x7
  have y8 : (st == 2) = false := by simpa using x8
  have z8 : (st != 2) = true := by simpa using x8
  have y9 : (st == 3) = false := by simpa using x9
  have z9 : (st != 3) = true := by simpa using x9
  have y10 : (st == 4) = false := by simpa using x10
  have z10 : (st != 4) = true := by simpa using x10
  go_enter Try.func9, Try.ntmps9
  go_wp2
  go_ret
  exact ⟨by rw [HF.out]; rfl, by repeat (first | exact below_alloc (Below.refl _ _) _ | refine below_set ?_ (Nat.le_refl _))⟩
theorem tksound_any (t : Tk) (w : World) (h : TkOk t) : Calls Try.prog 9 #[.agg #[.int .u64 t.id, .int .i64 t.co, .int .i64 t.st, .int .i64 t.lv, .int .u64 t.gn, .int .i64 t.fr, .int .i64 t.lf, .int .i64 t.du, .int .i64 t.tl]] w fun e w' => e = .returned (.bool (tkB t)) ∧ Below w.heap.size w w' := by
  obtain ⟨id, co, st, lv, gn, fr, lf, du, tl⟩ := t
  by_cases x0 : co < 0
  · exact tksound_1 w h x0
  by_cases x1 : 16 ≤ co
  · exact tksound_2 w h x0 x1
  by_cases x2 : lv < 0
  · exact tksound_3 w h x0 x1 x2
  by_cases x3 : 6 ≤ lv
  · exact tksound_4 w h x0 x1 x2 x3
  by_cases x4 : tl < 0
  · exact tksound_5 w h x0 x1 x2 x3 x4
  by_cases x5 : 2147483648 < tl
  · exact tksound_6 w h x0 x1 x2 x3 x4 x5
  by_cases x6 : 1152921504606846976 < gn
  · exact tksound_7 w h x0 x1 x2 x3 x4 x5 x6
  by_cases x7 : st = 1
  · skip
    by_cases x8 : gn = 0
    · exact tksound_8 w h x0 x1 x2 x3 x4 x5 x6 x7 x8
    by_cases x9 : fr < 0
    · exact tksound_9 w h x0 x1 x2 x3 x4 x5 x6 x7 x8 x9
    by_cases x10 : 1125899906842624 < fr
    · exact tksound_10 w h x0 x1 x2 x3 x4 x5 x6 x7 x8 x9 x10
    by_cases x11 : du < 0
    · exact tksound_11 w h x0 x1 x2 x3 x4 x5 x6 x7 x8 x9 x10 x11
    by_cases x12 : 1125899906842624 < du
    · exact tksound_12 w h x0 x1 x2 x3 x4 x5 x6 x7 x8 x9 x10 x11 x12
    by_cases x13 : lf < 1
    · exact tksound_13 w h x0 x1 x2 x3 x4 x5 x6 x7 x8 x9 x10 x11 x12 x13
    by_cases x14 : lf ≤ du - fr
    rotate_left
    · exact tksound_14 w h x0 x1 x2 x3 x4 x5 x6 x7 x8 x9 x10 x11 x12 x13 x14
    exact tksound_15 w h x0 x1 x2 x3 x4 x5 x6 x7 x8 x9 x10 x11 x12 x13 x14
  by_cases x8 : st = 2
  · skip
    by_cases x9 : lf < 1
    · exact tksound_16 w h x0 x1 x2 x3 x4 x5 x6 x7 x8 x9
    by_cases x10 : 1125899906842624 < lf
    · exact tksound_17 w h x0 x1 x2 x3 x4 x5 x6 x7 x8 x9 x10
    by_cases x11 : fr < 0
    · exact tksound_18 w h x0 x1 x2 x3 x4 x5 x6 x7 x8 x9 x10 x11
    by_cases x12 : 1125899906842624 < fr
    · exact tksound_19 w h x0 x1 x2 x3 x4 x5 x6 x7 x8 x9 x10 x11 x12
    by_cases x13 : gn = 0
    rotate_left
    · exact tksound_20 w h x0 x1 x2 x3 x4 x5 x6 x7 x8 x9 x10 x11 x12 x13
    by_cases x14 : du = 0
    rotate_left
    · exact tksound_21 w h x0 x1 x2 x3 x4 x5 x6 x7 x8 x9 x10 x11 x12 x13 x14
    exact tksound_22 w h x0 x1 x2 x3 x4 x5 x6 x7 x8 x9 x10 x11 x12 x13 x14
  by_cases x9 : st = 3
  · skip
    by_cases x10 : gn = 0
    rotate_left
    · exact tksound_23 w h x0 x1 x2 x3 x4 x5 x6 x7 x8 x9 x10
    by_cases x11 : fr = 0
    rotate_left
    · exact tksound_24 w h x0 x1 x2 x3 x4 x5 x6 x7 x8 x9 x10 x11
    by_cases x12 : lf = 0
    rotate_left
    · exact tksound_25 w h x0 x1 x2 x3 x4 x5 x6 x7 x8 x9 x10 x11 x12
    by_cases x13 : du = 0
    rotate_left
    · exact tksound_26 w h x0 x1 x2 x3 x4 x5 x6 x7 x8 x9 x10 x11 x12 x13
    exact tksound_27 w h x0 x1 x2 x3 x4 x5 x6 x7 x8 x9 x10 x11 x12 x13
  by_cases x10 : st = 4
  · skip
    by_cases x11 : gn = 0
    rotate_left
    · exact tksound_28 w h x0 x1 x2 x3 x4 x5 x6 x7 x8 x9 x10 x11
    by_cases x12 : fr = 0
    rotate_left
    · exact tksound_29 w h x0 x1 x2 x3 x4 x5 x6 x7 x8 x9 x10 x11 x12
    by_cases x13 : lf = 0
    rotate_left
    · exact tksound_30 w h x0 x1 x2 x3 x4 x5 x6 x7 x8 x9 x10 x11 x12 x13
    by_cases x14 : du = 0
    rotate_left
    · exact tksound_31 w h x0 x1 x2 x3 x4 x5 x6 x7 x8 x9 x10 x11 x12 x13 x14
    exact tksound_32 w h x0 x1 x2 x3 x4 x5 x6 x7 x8 x9 x10 x11 x12 x13 x14
  exact tksound_33 w h x0 x1 x2 x3 x4 x5 x6 x7 x8 x9 x10
end Go.Proofs.Ytepldlnmeenlbaa.Own
namespace Go.Proofs.Ytepldlnmeenlbaa.Own
open Go.RowKit Go.Proofs Go.Proofs.YtepldlnmeenlbaaW.PrintWords Go.Proofs.YtepldlnmeenlbaaW.PrintLast Go.Proofs.YtepldlnmeenlbaaW.PrintMore Go.Proofs.Ytepldlnmeenlbaa.Base
def tkL (t : Tk) : List Int := [t.id, t.co, t.st, t.lv, t.gn, t.fr, t.lf, t.du, t.tl]
def tkW (t : Tk) : List Int := numsB (tkL t)
theorem tkS_range {t : Tk} (h : tkS t) (hk : TkOk t) : (0 ≤ t.co ∧ t.co ≤ 15) ∧ (0 ≤ t.st ∧ t.st ≤ 4) ∧ (0 ≤ t.lv ∧ t.lv ≤ 5) ∧ (0 ≤ t.gn ∧ t.gn ≤ 1152921504606846976) ∧ (0 ≤ t.fr ∧ t.fr ≤ 1125899906842624) ∧ (0 ≤ t.lf ∧ t.lf ≤ 1125899906842624) ∧ (0 ≤ t.du ∧ t.du ≤ 1125899906842624) ∧ (0 ≤ t.tl ∧ t.tl ≤ 2147483648) := by
  unfold tkS at h
  have := hk.gn
  omega
set_option maxHeartbeats 4000000 in
set_option maxRecDepth 100000 in
theorem tkput_any (n wb : Nat) (bs : List Int) (t : Tk) (w : World) (h : WrAt w n wb bs) (hk : TkOk t) (hs : tkS t) (hl : bs.length + 81 ≤ 140737488355328) :
    Calls Try.prog 11 #[.pointer (some ⟨wb, 0, none⟩), .agg #[.int .u64 t.id, .int .i64 t.co, .int .i64 t.st, .int .i64 t.lv, .int .u64 t.gn, .int .i64 t.fr, .int .i64 t.lf, .int .i64 t.du, .int .i64 t.tl]] w fun e w' => e = .returned (.tuple #[]) ∧ WrAt w' n wb (bs ++ tkW t) ∧ WUpd n wb w w' := by
  obtain ⟨⟨a0, a1⟩, ⟨b0, b1⟩, ⟨c0, c1⟩, ⟨d0, d1⟩, ⟨e0, e1⟩, ⟨f0, f1⟩, ⟨g0, g1⟩, ⟨h0, h1⟩⟩ := tkS_range hs hk
  obtain ⟨i0, i1⟩ := hk.id
  have HT : Aside0 (tkW t = numsB [t.id, t.co, t.st, t.lv, t.gn, t.fr, t.lf, t.du, t.tl]) := ⟨rfl⟩
  clear hs hk
  generalize tkW t = TW at HT ⊢
  obtain ⟨id, co, st, lv, gn, fr, lf, du, tl⟩ := t
  simp only at a0 a1 b0 b1 c0 c1 d0 d1 e0 e1 f0 f1 g0 g1 h0 h1 i0 i1 HT ⊢
  have HB := below_alloc (Below.refl w.heap.size w) (.cells #[.int .u64 id, .int .i64 co, .int .i64 st, .int .i64 lv, .int .u64 gn, .int .i64 fr, .int .i64 lf, .int .i64 du, .int .i64 tl] 24)
  have HA := Aside0.mk (h.below HB)
  have HU : Aside0 (WUpd n wb w _) := ⟨WUpd.of_below HB⟩
  have HR : Aside0 (∀ x, x ∈ [id, co, st, lv, gn, fr, lf, du, tl] → 0 ≤ x ∧ x < 18446744073709551616) := ⟨by simp only [List.forall_mem_cons]; refine ⟨by omega, by omega, by omega, by omega, by omega, by omega, by omega, by omega, by omega, by simp⟩⟩
  have HL := Aside0.mk hl
  clear h HB i0 i1 hl
  go_enter Try.func11, Try.ntmps11
  go_wp2_with (go_at_call 44; refine (wnum9 n wb bs id co st lv gn fr lf du tl _ _ HA.out (by simp) HR.out HL.out).mono ?_; rintro e w2 ⟨rfl, q1, q2⟩; have H1 := Aside0.mk q1; have H2 := Aside0.mk (HU.out.trans q2); clear q1 q2)
  go_end0
  exact ⟨rfl, by rw [HT.out]; exact H1.out, H2.out⟩
end Go.Proofs.Ytepldlnmeenlbaa.Own
namespace Go.Proofs.Ytepldlnmeenlbaa.Own
open Go.RowKit Go.Proofs Go.Proofs.YtepldlnmeenlbaaW.PrintWords Go.Proofs.YtepldlnmeenlbaaW.PrintLast Go.Proofs.YtepldlnmeenlbaaW.PrintMore Go.Proofs.Ytepldlnmeenlbaa.Base
variable {t : TypeId} {m rb pb c : Nat} {w w' : World} {A : Option Addr} {s : List Int × Bool}
set_option maxHeartbeats 1600000 in
set_option maxRecDepth 100000 in
theorem tknum_any (most : Int) (w : World) (h : RdAt 92 m w rb s) (hp : w.heap[pb]? = some (.cells #[.pointer (some ⟨rb, 0, none⟩)] 34 (0, 0))) (m0 : 0 ≤ most) (m1 : most ≤ 9223372036854775807) :
    Calls Try.prog 45 #[.int .u64 most, .pointer (some ⟨pb, 0, none⟩)] w fun e w' => e = .returned (.int .i64 (rdNum most s).1) ∧ RdAt 92 m w' rb (rdNum most s).2 ∧ Upd rb w w' := by
  have c0 : w.cell? ⟨pb, 0, none⟩ = some (.pointer (some ⟨rb, 0, none⟩)) := (blk_cell hp 0).trans rfl
  obtain ⟨⟨x, s'⟩, hx⟩ : ∃ p, rdNum most s = p := ⟨_, rfl⟩
  obtain ⟨⟨x0, x1⟩, _⟩ := rdNum_range h.byte m0 hx
  have HN := Aside0.mk (rnum_any most w h m0 (by omega))
  rw [hx] at HN ⊢
  clear h hx
  go_enter Try.func45, Try.ntmps45
  go_wp2_with (go_at_call 46; refine HN.out.mono ?_; rintro e w2 ⟨rfl, q1, q2⟩; have H1 := Aside0.mk q1; have H2 := Aside0.mk q2; clear q1 q2)
  go_ret
  exact ⟨rfl, H1.out, H2.out⟩
def tkRd (s : List Int × Bool) : Tk × (List Int × Bool) :=
  let a := rdNum 18446744073709551615 s
  let b := rdNum 15 a.2
  let c := rdNum 4 b.2
  let d := rdNum 5 c.2
  let e := rdNum 1152921504606846976 d.2
  let f := rdNum 1125899906842624 e.2
  let g := rdNum 1125899906842624 f.2
  let h := rdNum 1125899906842624 g.2
  let i := rdNum 2147483648 h.2
  (⟨a.1, b.1, c.1, d.1, e.1, f.1, g.1, h.1, i.1⟩, i.2)
def tkZ : Tk := ⟨0, 0, 0, 0, 0, 0, 0, 0, 0⟩
def tkRead (s : List Int × Bool) : (Tk × Bool) × (List Int × Bool) := if (tkRd s).2.2 = false ∧ tkS (tkRd s).1 then (((tkRd s).1, true), (tkRd s).2) else ((tkZ, false), ([], true))
set_option maxHeartbeats 8000000 in
set_option maxRecDepth 100000 in
theorem tkr_all (x1 x2 x3 x4 x5 x6 x7 x8 x9 : Int) (s1 s2 s3 s4 s5 s6 s7 s8 : List Int × Bool) (l : List Int) (g : Bool) (P : Ending → World → Prop) (w : World) (h : RdAt 92 m w rb s) (e1 : rdNum 18446744073709551615 s = (x1, s1)) (e2 : rdNum 15 s1 = (x2, s2)) (e3 : rdNum 4 s2 = (x3, s3)) (e4 : rdNum 5 s3 = (x4, s4)) (e5 : rdNum 1152921504606846976 s4 = (x5, s5)) (e6 : rdNum 1125899906842624 s5 = (x6, s6)) (e7 : rdNum 1125899906842624 s6 = (x7, s7)) (e8 : rdNum 1125899906842624 s7 = (x8, s8)) (e9 : rdNum 2147483648 s8 = (x9, (l, g))) (htk : TkOk ⟨x1, x2, x3, x4, x5, x6, x7, x8, x9⟩)
    (hP1 : g = true ∨ tkB ⟨x1, x2, x3, x4, x5, x6, x7, x8, x9⟩ = false → ∀ w', RdAt 92 m w' rb ([], true) → Upd rb w w' → P (.returned (.tuple #[.agg #[.int .u64 0, .int .i64 0, .int .i64 0, .int .i64 0, .int .u64 0, .int .i64 0, .int .i64 0, .int .i64 0, .int .i64 0], .bool false])) w')
    (hP2 : g = false → tkB ⟨x1, x2, x3, x4, x5, x6, x7, x8, x9⟩ = true → ∀ w', RdAt 92 m w' rb (l, g) → Upd rb w w' → P (.returned (.tuple #[.agg #[.int .u64 x1, .int .i64 x2, .int .i64 x3, .int .i64 x4, .int .u64 x5, .int .i64 x6, .int .i64 x7, .int .i64 x8, .int .i64 x9], .bool true])) w') :
    Calls Try.prog 12 #[.pointer (some ⟨rb, 0, none⟩)] w P := by
  have HTK := Aside0.mk htk
  have HP1 := Aside0.mk hP1
  have HP2 := Aside0.mk hP2
  clear htk hP1 hP2
  have hb0 := h.byte
  obtain ⟨⟨p1, q1⟩, hb1⟩ := rdNum_range hb0 (by omega) e1
  obtain ⟨⟨p2, q2⟩, hb2⟩ := rdNum_range hb1 (by omega) e2
  obtain ⟨⟨p3, q3⟩, hb3⟩ := rdNum_range hb2 (by omega) e3
  obtain ⟨⟨p4, q4⟩, hb4⟩ := rdNum_range hb3 (by omega) e4
  obtain ⟨⟨p5, q5⟩, hb5⟩ := rdNum_range hb4 (by omega) e5
  obtain ⟨⟨p6, q6⟩, hb6⟩ := rdNum_range hb5 (by omega) e6
  obtain ⟨⟨p7, q7⟩, hb7⟩ := rdNum_range hb6 (by omega) e7
  obtain ⟨⟨p8, q8⟩, hb8⟩ := rdNum_range hb7 (by omega) e8
  obtain ⟨⟨p9, q9⟩, hb9⟩ := rdNum_range hb8 (by omega) e9
  clear hb0 hb1 hb2 hb3 hb4 hb5 hb6 hb7 hb8 hb9
  have E1 := Aside0.mk e1
  have E2 := Aside0.mk e2
  have E3 := Aside0.mk e3
  have E4 := Aside0.mk e4
  have E5 := Aside0.mk e5
  have E6 := Aside0.mk e6
  have E7 := Aside0.mk e7
  have E8 := Aside0.mk e8
  have E9 := Aside0.mk e9
  clear e1 e2 e3 e4 e5 e6 e7 e8 e9
  have hnot : ∀ (x : Bool) (w : World), (Op.unary .not (.bool x)).run Try.prog w = .ok (.bool (!x)) w := fun _ _ => rfl
  have hmf : ∀ (fn : Fn) (first cap : Array Value) (w : World), (Instr.makeFunc fn first cap).run Try.prog w = .ok (.func fn first cap) w := fun _ _ _ _ => rfl
  clear p1 q1 p2 q2 p3 q3 p4 q4 p5 q5 p6 q6 p7 q7 p8 q8 p9 q9
  have HB0 : Below w.heap.size w ((w.alloc (.cells #[.pointer (some ⟨rb, 0, none⟩)] 34)).alloc (.cells #[.int .u64 0, .int .i64 0, .int .i64 0, .int .i64 0, .int .u64 0, .int .i64 0, .int .i64 0, .int .i64 0, .int .i64 0] 24)) := (below_alloc (below_alloc (Below.refl w.heap.size w) (.cells #[.pointer (some ⟨rb, 0, none⟩)] 34)) (.cells #[.int .u64 0, .int .i64 0, .int .i64 0, .int .i64 0, .int .u64 0, .int .i64 0, .int .i64 0, .int .i64 0, .int .i64 0] 24))
  have HR_1 := Aside0.mk (h.below HB0)
  have HU_1 := Aside0.mk (Upd.of_below (b := rb) HB0)
  have hs_1 : w.heap.size ≤ ((w.alloc (.cells #[.pointer (some ⟨rb, 0, none⟩)] 34)).alloc (.cells #[.int .u64 0, .int .i64 0, .int .i64 0, .int .i64 0, .int .u64 0, .int .i64 0, .int .i64 0, .int .i64 0, .int .i64 0] 24)).heap.size := HB0.size
  have Bp_1 : Aside0 (((w.alloc (.cells #[.pointer (some ⟨rb, 0, none⟩)] 34)).alloc (.cells #[.int .u64 0, .int .i64 0, .int .i64 0, .int .i64 0, .int .u64 0, .int .i64 0, .int .i64 0, .int .i64 0, .int .i64 0] 24)).heap[w.heap.size]? = some (.cells #[.pointer (some ⟨rb, 0, none⟩)] 34 (0, 0))) := ⟨(blk_alloc (blk_new w _) _)⟩
  have Bz_1 : Aside0 (((w.alloc (.cells #[.pointer (some ⟨rb, 0, none⟩)] 34)).alloc (.cells #[.int .u64 0, .int .i64 0, .int .i64 0, .int .i64 0, .int .u64 0, .int .i64 0, .int .i64 0, .int .i64 0, .int .i64 0] 24)).heap[w.heap.size + 1]? = some (.cells #[.int .u64 0, .int .i64 0, .int .i64 0, .int .i64 0, .int .u64 0, .int .i64 0, .int .i64 0, .int .i64 0, .int .i64 0] 24 (0, 0))) := ⟨(by simpa using blk_new (w.alloc (.cells #[.pointer (some ⟨rb, 0, none⟩)] 34)) (.cells #[.int .u64 0, .int .i64 0, .int .i64 0, .int .i64 0, .int .u64 0, .int .i64 0, .int .i64 0, .int .i64 0, .int .i64 0] 24))⟩
  have hz_1 : w.heap.size + 1 < ((w.alloc (.cells #[.pointer (some ⟨rb, 0, none⟩)] 34)).alloc (.cells #[.int .u64 0, .int .i64 0, .int .i64 0, .int .i64 0, .int .u64 0, .int .i64 0, .int .i64 0, .int .i64 0, .int .i64 0] 24)).heap.size := blk_lt Bz_1.out
  have hrb := h.lt
  have hmr := h.mle
  clear h HB0
  go_enter Try.func12, Try.ntmps12
  go_wp2_with fail
  generalize ((w.alloc (.cells #[.pointer (some ⟨rb, 0, none⟩)] 34)).alloc (.cells #[.int .u64 0, .int .i64 0, .int .i64 0, .int .i64 0, .int .u64 0, .int .i64 0, .int .i64 0, .int .i64 0, .int .i64 0] 24)) = w1 at HR_1 HU_1 hs_1 Bp_1 Bz_1 hz_1 ⊢
  have dp0 : w1.cell? ⟨w.heap.size, 0, none⟩ = some (.pointer (some ⟨rb, 0, none⟩)) := (blk_cell Bp_1.out 0).trans rfl
  go_upto_region 3 with (first | (go_at_call 46; with_reducible refine (rnum_any 18446744073709551615 w1 HR_1.out (by omega) (by omega)).mono ?_; rintro e w2 ⟨rfl, q1, q2⟩; rw [E1.out] at q1; rw [E1.out]; clear dp0; have HR_2 := Aside0.mk q1; have HU_2 := Aside0.mk (HU_1.out.trans q2); have hs_2 : w1.heap.size ≤ w2.heap.size := q2.size; have Bp_2 := Aside0.mk (q2.blk Bp_1.out (by omega)); have Bz_2 := Aside0.mk (q2.blk Bz_1.out (by omega)); clear q1 q2; have dp0 : w2.cell? ⟨w.heap.size, 0, none⟩ = some (.pointer (some ⟨rb, 0, none⟩)) := (blk_cell Bp_2.out 0).trans rfl))
  clear dp0
  have hb : Below w2.heap.size w2 (w2.alloc (.cells #[.int .u64 x1, .int .i64 0, .int .i64 0, .int .i64 0, .int .u64 0, .int .i64 0, .int .i64 0, .int .i64 0, .int .i64 0] 24)) := below_alloc (Below.refl _ _) _
  have Bt_3 := Aside0.mk (blk_new w2 (.cells #[.int .u64 x1, .int .i64 0, .int .i64 0, .int .i64 0, .int .u64 0, .int .i64 0, .int .i64 0, .int .i64 0, .int .i64 0] 24))
  have Bp_3 := Aside0.mk (blk_below Bp_2.out hb)
  have Bz_3 := Aside0.mk (blk_below Bz_2.out hb)
  have HR_3 := Aside0.mk (HR_2.out.below hb)
  have HU_3 := Aside0.mk (HU_2.out.then hb)
  have hs_3 : w2.heap.size ≤ (w2.alloc (.cells #[.int .u64 x1, .int .i64 0, .int .i64 0, .int .i64 0, .int .u64 0, .int .i64 0, .int .i64 0, .int .i64 0, .int .i64 0] 24)).heap.size := hb.size
  have hz_3 : w2.heap.size < (w2.alloc (.cells #[.int .u64 x1, .int .i64 0, .int .i64 0, .int .i64 0, .int .u64 0, .int .i64 0, .int .i64 0, .int .i64 0, .int .i64 0] 24)).heap.size := blk_lt Bt_3.out
  clear hb
  generalize (w2.alloc (.cells #[.int .u64 x1, .int .i64 0, .int .i64 0, .int .i64 0, .int .u64 0, .int .i64 0, .int .i64 0, .int .i64 0, .int .i64 0] 24)) = w3 at Bt_3 Bp_3 Bz_3 HR_3 HU_3 hs_3 hz_3 ⊢
  have dp0 : w3.cell? ⟨w.heap.size, 0, none⟩ = some (.pointer (some ⟨rb, 0, none⟩)) := (blk_cell Bp_3.out 0).trans rfl
  go_upto_region 4 with (go_at_call 45; with_reducible refine (tknum_any 15 w3 HR_3.out Bp_3.out (by omega) (by omega)).mono ?_; rintro e w4 ⟨rfl, q1, q2⟩; rw [E2.out] at q1; rw [E2.out]; clear dp0; have HR_4 := Aside0.mk q1; have HU_4 := Aside0.mk (HU_3.out.trans q2); have hs_4 : w3.heap.size ≤ w4.heap.size := q2.size; have Bp_4 := Aside0.mk (q2.blk Bp_3.out (by omega)); have Bz_4 := Aside0.mk (q2.blk Bz_3.out (by omega)); have Bt_4 := Aside0.mk (q2.blk Bt_3.out (by omega)); clear q1 q2; have dp0 : w4.cell? ⟨w.heap.size, 0, none⟩ = some (.pointer (some ⟨rb, 0, none⟩)) := (blk_cell Bp_4.out 0).trans rfl)
  go_upto_region 4 with (go_at_call 45; with_reducible refine (tknum_any 4 w4 HR_4.out Bp_4.out (by omega) (by omega)).mono ?_; rintro e w5 ⟨rfl, q1, q2⟩; rw [E3.out] at q1; rw [E3.out]; clear dp0; have HR_5 := Aside0.mk q1; have HU_5 := Aside0.mk (HU_4.out.trans q2); have hs_5 : w4.heap.size ≤ w5.heap.size := q2.size; have Bp_5 := Aside0.mk (q2.blk Bp_4.out (by omega)); have Bz_5 := Aside0.mk (q2.blk Bz_4.out (by omega)); have Bt_5 := Aside0.mk (q2.blk Bt_4.out (by omega)); clear q1 q2; have dp0 : w5.cell? ⟨w.heap.size, 0, none⟩ = some (.pointer (some ⟨rb, 0, none⟩)) := (blk_cell Bp_5.out 0).trans rfl)
  go_upto_region 4 with (go_at_call 45; with_reducible refine (tknum_any 5 w5 HR_5.out Bp_5.out (by omega) (by omega)).mono ?_; rintro e w6 ⟨rfl, q1, q2⟩; rw [E4.out] at q1; rw [E4.out]; clear dp0; have HR_6 := Aside0.mk q1; have HU_6 := Aside0.mk (HU_5.out.trans q2); have hs_6 : w5.heap.size ≤ w6.heap.size := q2.size; have Bp_6 := Aside0.mk (q2.blk Bp_5.out (by omega)); have Bz_6 := Aside0.mk (q2.blk Bz_5.out (by omega)); have Bt_6 := Aside0.mk (q2.blk Bt_5.out (by omega)); clear q1 q2; have dp0 : w6.cell? ⟨w.heap.size, 0, none⟩ = some (.pointer (some ⟨rb, 0, none⟩)) := (blk_cell Bp_6.out 0).trans rfl; have dt1 : w6.cell? ⟨w2.heap.size, 1, none⟩ = some (.int .i64 0) := (blk_cell Bt_6.out 1).trans rfl; have ft1 : w6.frozen? ⟨w2.heap.size, 1, none⟩ = false := blk_frozen Bt_6.out 1; have dt2 : w6.cell? ⟨w2.heap.size, 2, none⟩ = some (.int .i64 0) := (blk_cell Bt_6.out 2).trans rfl; have ft2 : w6.frozen? ⟨w2.heap.size, 2, none⟩ = false := blk_frozen Bt_6.out 2; have dt3 : w6.cell? ⟨w2.heap.size, 3, none⟩ = some (.int .i64 0) := (blk_cell Bt_6.out 3).trans rfl; have ft3 : w6.frozen? ⟨w2.heap.size, 3, none⟩ = false := blk_frozen Bt_6.out 3)
  clear dp0 dt1 ft1 dt2 ft2 dt3 ft3
  have Bt_7 := Aside0.mk (blk_put (cs' := #[.int .u64 x1, .int .i64 x2, .int .i64 x3, .int .i64 x4, .int .u64 0, .int .i64 0, .int .i64 0, .int .i64 0, .int .i64 0]) (blk_put (cs' := #[.int .u64 x1, .int .i64 x2, .int .i64 x3, .int .i64 0, .int .u64 0, .int .i64 0, .int .i64 0, .int .i64 0, .int .i64 0]) (blk_put (cs' := #[.int .u64 x1, .int .i64 x2, .int .i64 0, .int .i64 0, .int .u64 0, .int .i64 0, .int .i64 0, .int .i64 0, .int .i64 0]) Bt_6.out 1 (.int .i64 x2) rfl) 2 (.int .i64 x3) rfl) 3 (.int .i64 x4) rfl)
  have HR_7 := Aside0.mk (RdAt.seti (RdAt.seti (RdAt.seti HR_6.out (b := w2.heap.size) 1 (.int .i64 x2) (by omega) (by omega)) (b := w2.heap.size) 2 (.int .i64 x3) (by omega) (by omega)) (b := w2.heap.size) 3 (.int .i64 x4) (by omega) (by omega))
  have HU_7 := Aside0.mk (Upd.seti (Upd.seti (Upd.seti HU_6.out (b := w2.heap.size) (by omega) 1 (.int .i64 x2)) (b := w2.heap.size) (by omega) 2 (.int .i64 x3)) (b := w2.heap.size) (by omega) 3 (.int .i64 x4))
  have hs_7 : w6.heap.size ≤ (((w6.setCell ⟨w2.heap.size, 1, none⟩ (.int .i64 x2)).setCell ⟨w2.heap.size, 2, none⟩ (.int .i64 x3)).setCell ⟨w2.heap.size, 3, none⟩ (.int .i64 x4)).heap.size := by simp
  have Bp_7 : Aside0 ((((w6.setCell ⟨w2.heap.size, 1, none⟩ (.int .i64 x2)).setCell ⟨w2.heap.size, 2, none⟩ (.int .i64 x3)).setCell ⟨w2.heap.size, 3, none⟩ (.int .i64 x4)).heap[w.heap.size]? = _) := ⟨((Below.heap_setCell _ _ _ _ (by show w.heap.size ≠ w2.heap.size; omega)).trans ((Below.heap_setCell _ _ _ _ (by show w.heap.size ≠ w2.heap.size; omega)).trans ((Below.heap_setCell _ _ _ _ (by show w.heap.size ≠ w2.heap.size; omega)).trans Bp_6.out)))⟩
  have Bz_7 : Aside0 ((((w6.setCell ⟨w2.heap.size, 1, none⟩ (.int .i64 x2)).setCell ⟨w2.heap.size, 2, none⟩ (.int .i64 x3)).setCell ⟨w2.heap.size, 3, none⟩ (.int .i64 x4)).heap[w.heap.size + 1]? = _) := ⟨((Below.heap_setCell _ _ _ _ (by show w.heap.size + 1 ≠ w2.heap.size; omega)).trans ((Below.heap_setCell _ _ _ _ (by show w.heap.size + 1 ≠ w2.heap.size; omega)).trans ((Below.heap_setCell _ _ _ _ (by show w.heap.size + 1 ≠ w2.heap.size; omega)).trans Bz_6.out)))⟩
  generalize (((w6.setCell ⟨w2.heap.size, 1, none⟩ (.int .i64 x2)).setCell ⟨w2.heap.size, 2, none⟩ (.int .i64 x3)).setCell ⟨w2.heap.size, 3, none⟩ (.int .i64 x4)) = w7 at Bt_7 HR_7 HU_7 hs_7 Bp_7 Bz_7 ⊢
  have dp0 : w7.cell? ⟨w.heap.size, 0, none⟩ = some (.pointer (some ⟨rb, 0, none⟩)) := (blk_cell Bp_7.out 0).trans rfl
  have dt1 : w7.cell? ⟨w2.heap.size, 1, none⟩ = some (.int .i64 x2) := (blk_cell Bt_7.out 1).trans rfl
  have ft1 : w7.frozen? ⟨w2.heap.size, 1, none⟩ = false := blk_frozen Bt_7.out 1
  have dt2 : w7.cell? ⟨w2.heap.size, 2, none⟩ = some (.int .i64 x3) := (blk_cell Bt_7.out 2).trans rfl
  have ft2 : w7.frozen? ⟨w2.heap.size, 2, none⟩ = false := blk_frozen Bt_7.out 2
  have dt3 : w7.cell? ⟨w2.heap.size, 3, none⟩ = some (.int .i64 x4) := (blk_cell Bt_7.out 3).trans rfl
  have ft3 : w7.frozen? ⟨w2.heap.size, 3, none⟩ = false := blk_frozen Bt_7.out 3
  clear dp0 dt1 ft1 dt2 ft2 dt3 ft3
  have dp0 : w7.cell? ⟨w.heap.size, 0, none⟩ = some (.pointer (some ⟨rb, 0, none⟩)) := (blk_cell Bp_7.out 0).trans rfl
  have dt4 : w7.cell? ⟨w2.heap.size, 4, none⟩ = some (.int .u64 0) := (blk_cell Bt_7.out 4).trans rfl
  have ft4 : w7.frozen? ⟨w2.heap.size, 4, none⟩ = false := blk_frozen Bt_7.out 4
  go_upto_region 5 with (first | (go_at_call 46; with_reducible refine (rnum_any 1152921504606846976 w7 HR_7.out (by omega) (by omega)).mono ?_; rintro e w8 ⟨rfl, q1, q2⟩; rw [E5.out] at q1; rw [E5.out]; clear dp0 dt4 ft4; have HR_8 := Aside0.mk q1; have HU_8 := Aside0.mk (HU_7.out.trans q2); have hs_8 : w7.heap.size ≤ w8.heap.size := q2.size; have Bp_8 := Aside0.mk (q2.blk Bp_7.out (by omega)); have Bz_8 := Aside0.mk (q2.blk Bz_7.out (by omega)); have Bt_8 := Aside0.mk (q2.blk Bt_7.out (by omega)); clear q1 q2; have dp0 : w8.cell? ⟨w.heap.size, 0, none⟩ = some (.pointer (some ⟨rb, 0, none⟩)) := (blk_cell Bp_8.out 0).trans rfl; have dt4 : w8.cell? ⟨w2.heap.size, 4, none⟩ = some (.int .u64 0) := (blk_cell Bt_8.out 4).trans rfl; have ft4 : w8.frozen? ⟨w2.heap.size, 4, none⟩ = false := blk_frozen Bt_8.out 4))
  clear dp0 dt4 ft4
  have Bt_9 := Aside0.mk (blk_put (cs' := #[.int .u64 x1, .int .i64 x2, .int .i64 x3, .int .i64 x4, .int .u64 x5, .int .i64 0, .int .i64 0, .int .i64 0, .int .i64 0]) Bt_8.out 4 (.int .u64 x5) rfl)
  have HR_9 := Aside0.mk (RdAt.seti HR_8.out (b := w2.heap.size) 4 (.int .u64 x5) (by omega) (by omega))
  have HU_9 := Aside0.mk (Upd.seti HU_8.out (b := w2.heap.size) (by omega) 4 (.int .u64 x5))
  have hs_9 : w8.heap.size ≤ (w8.setCell ⟨w2.heap.size, 4, none⟩ (.int .u64 x5)).heap.size := by simp
  have Bp_9 : Aside0 ((w8.setCell ⟨w2.heap.size, 4, none⟩ (.int .u64 x5)).heap[w.heap.size]? = _) := ⟨((Below.heap_setCell _ _ _ _ (by show w.heap.size ≠ w2.heap.size; omega)).trans Bp_8.out)⟩
  have Bz_9 : Aside0 ((w8.setCell ⟨w2.heap.size, 4, none⟩ (.int .u64 x5)).heap[w.heap.size + 1]? = _) := ⟨((Below.heap_setCell _ _ _ _ (by show w.heap.size + 1 ≠ w2.heap.size; omega)).trans Bz_8.out)⟩
  generalize (w8.setCell ⟨w2.heap.size, 4, none⟩ (.int .u64 x5)) = w9 at Bt_9 HR_9 HU_9 hs_9 Bp_9 Bz_9 ⊢
  have dp0 : w9.cell? ⟨w.heap.size, 0, none⟩ = some (.pointer (some ⟨rb, 0, none⟩)) := (blk_cell Bp_9.out 0).trans rfl
  have dt4 : w9.cell? ⟨w2.heap.size, 4, none⟩ = some (.int .u64 x5) := (blk_cell Bt_9.out 4).trans rfl
  have ft4 : w9.frozen? ⟨w2.heap.size, 4, none⟩ = false := blk_frozen Bt_9.out 4
  clear dp0 dt4 ft4
  have dp0 : w9.cell? ⟨w.heap.size, 0, none⟩ = some (.pointer (some ⟨rb, 0, none⟩)) := (blk_cell Bp_9.out 0).trans rfl
  go_upto_region 6 with (go_at_call 45; with_reducible refine (tknum_any 1125899906842624 w9 HR_9.out Bp_9.out (by omega) (by omega)).mono ?_; rintro e w10 ⟨rfl, q1, q2⟩; rw [E6.out] at q1; rw [E6.out]; clear dp0; have HR_10 := Aside0.mk q1; have HU_10 := Aside0.mk (HU_9.out.trans q2); have hs_10 : w9.heap.size ≤ w10.heap.size := q2.size; have Bp_10 := Aside0.mk (q2.blk Bp_9.out (by omega)); have Bz_10 := Aside0.mk (q2.blk Bz_9.out (by omega)); have Bt_10 := Aside0.mk (q2.blk Bt_9.out (by omega)); clear q1 q2; have dp0 : w10.cell? ⟨w.heap.size, 0, none⟩ = some (.pointer (some ⟨rb, 0, none⟩)) := (blk_cell Bp_10.out 0).trans rfl)
  go_upto_region 6 with (go_at_call 45; with_reducible refine (tknum_any 1125899906842624 w10 HR_10.out Bp_10.out (by omega) (by omega)).mono ?_; rintro e w11 ⟨rfl, q1, q2⟩; rw [E7.out] at q1; rw [E7.out]; clear dp0; have HR_11 := Aside0.mk q1; have HU_11 := Aside0.mk (HU_10.out.trans q2); have hs_11 : w10.heap.size ≤ w11.heap.size := q2.size; have Bp_11 := Aside0.mk (q2.blk Bp_10.out (by omega)); have Bz_11 := Aside0.mk (q2.blk Bz_10.out (by omega)); have Bt_11 := Aside0.mk (q2.blk Bt_10.out (by omega)); clear q1 q2; have dp0 : w11.cell? ⟨w.heap.size, 0, none⟩ = some (.pointer (some ⟨rb, 0, none⟩)) := (blk_cell Bp_11.out 0).trans rfl)
  go_upto_region 6 with (go_at_call 45; with_reducible refine (tknum_any 1125899906842624 w11 HR_11.out Bp_11.out (by omega) (by omega)).mono ?_; rintro e w12 ⟨rfl, q1, q2⟩; rw [E8.out] at q1; rw [E8.out]; clear dp0; have HR_12 := Aside0.mk q1; have HU_12 := Aside0.mk (HU_11.out.trans q2); have hs_12 : w11.heap.size ≤ w12.heap.size := q2.size; have Bp_12 := Aside0.mk (q2.blk Bp_11.out (by omega)); have Bz_12 := Aside0.mk (q2.blk Bz_11.out (by omega)); have Bt_12 := Aside0.mk (q2.blk Bt_11.out (by omega)); clear q1 q2; have dp0 : w12.cell? ⟨w.heap.size, 0, none⟩ = some (.pointer (some ⟨rb, 0, none⟩)) := (blk_cell Bp_12.out 0).trans rfl; have dt5 : w12.cell? ⟨w2.heap.size, 5, none⟩ = some (.int .i64 0) := (blk_cell Bt_12.out 5).trans rfl; have ft5 : w12.frozen? ⟨w2.heap.size, 5, none⟩ = false := blk_frozen Bt_12.out 5; have dt6 : w12.cell? ⟨w2.heap.size, 6, none⟩ = some (.int .i64 0) := (blk_cell Bt_12.out 6).trans rfl; have ft6 : w12.frozen? ⟨w2.heap.size, 6, none⟩ = false := blk_frozen Bt_12.out 6; have dt7 : w12.cell? ⟨w2.heap.size, 7, none⟩ = some (.int .i64 0) := (blk_cell Bt_12.out 7).trans rfl; have ft7 : w12.frozen? ⟨w2.heap.size, 7, none⟩ = false := blk_frozen Bt_12.out 7)
  clear dp0 dt5 ft5 dt6 ft6 dt7 ft7
  have Bt_13 := Aside0.mk (blk_put (cs' := #[.int .u64 x1, .int .i64 x2, .int .i64 x3, .int .i64 x4, .int .u64 x5, .int .i64 x6, .int .i64 x7, .int .i64 x8, .int .i64 0]) (blk_put (cs' := #[.int .u64 x1, .int .i64 x2, .int .i64 x3, .int .i64 x4, .int .u64 x5, .int .i64 x6, .int .i64 x7, .int .i64 0, .int .i64 0]) (blk_put (cs' := #[.int .u64 x1, .int .i64 x2, .int .i64 x3, .int .i64 x4, .int .u64 x5, .int .i64 x6, .int .i64 0, .int .i64 0, .int .i64 0]) Bt_12.out 5 (.int .i64 x6) rfl) 6 (.int .i64 x7) rfl) 7 (.int .i64 x8) rfl)
  have HR_13 := Aside0.mk (RdAt.seti (RdAt.seti (RdAt.seti HR_12.out (b := w2.heap.size) 5 (.int .i64 x6) (by omega) (by omega)) (b := w2.heap.size) 6 (.int .i64 x7) (by omega) (by omega)) (b := w2.heap.size) 7 (.int .i64 x8) (by omega) (by omega))
  have HU_13 := Aside0.mk (Upd.seti (Upd.seti (Upd.seti HU_12.out (b := w2.heap.size) (by omega) 5 (.int .i64 x6)) (b := w2.heap.size) (by omega) 6 (.int .i64 x7)) (b := w2.heap.size) (by omega) 7 (.int .i64 x8))
  have hs_13 : w12.heap.size ≤ (((w12.setCell ⟨w2.heap.size, 5, none⟩ (.int .i64 x6)).setCell ⟨w2.heap.size, 6, none⟩ (.int .i64 x7)).setCell ⟨w2.heap.size, 7, none⟩ (.int .i64 x8)).heap.size := by simp
  have Bp_13 : Aside0 ((((w12.setCell ⟨w2.heap.size, 5, none⟩ (.int .i64 x6)).setCell ⟨w2.heap.size, 6, none⟩ (.int .i64 x7)).setCell ⟨w2.heap.size, 7, none⟩ (.int .i64 x8)).heap[w.heap.size]? = _) := ⟨((Below.heap_setCell _ _ _ _ (by show w.heap.size ≠ w2.heap.size; omega)).trans ((Below.heap_setCell _ _ _ _ (by show w.heap.size ≠ w2.heap.size; omega)).trans ((Below.heap_setCell _ _ _ _ (by show w.heap.size ≠ w2.heap.size; omega)).trans Bp_12.out)))⟩
  have Bz_13 : Aside0 ((((w12.setCell ⟨w2.heap.size, 5, none⟩ (.int .i64 x6)).setCell ⟨w2.heap.size, 6, none⟩ (.int .i64 x7)).setCell ⟨w2.heap.size, 7, none⟩ (.int .i64 x8)).heap[w.heap.size + 1]? = _) := ⟨((Below.heap_setCell _ _ _ _ (by show w.heap.size + 1 ≠ w2.heap.size; omega)).trans ((Below.heap_setCell _ _ _ _ (by show w.heap.size + 1 ≠ w2.heap.size; omega)).trans ((Below.heap_setCell _ _ _ _ (by show w.heap.size + 1 ≠ w2.heap.size; omega)).trans Bz_12.out)))⟩
  generalize (((w12.setCell ⟨w2.heap.size, 5, none⟩ (.int .i64 x6)).setCell ⟨w2.heap.size, 6, none⟩ (.int .i64 x7)).setCell ⟨w2.heap.size, 7, none⟩ (.int .i64 x8)) = w13 at Bt_13 HR_13 HU_13 hs_13 Bp_13 Bz_13 ⊢
  have dp0 : w13.cell? ⟨w.heap.size, 0, none⟩ = some (.pointer (some ⟨rb, 0, none⟩)) := (blk_cell Bp_13.out 0).trans rfl
  have dt5 : w13.cell? ⟨w2.heap.size, 5, none⟩ = some (.int .i64 x6) := (blk_cell Bt_13.out 5).trans rfl
  have ft5 : w13.frozen? ⟨w2.heap.size, 5, none⟩ = false := blk_frozen Bt_13.out 5
  have dt6 : w13.cell? ⟨w2.heap.size, 6, none⟩ = some (.int .i64 x7) := (blk_cell Bt_13.out 6).trans rfl
  have ft6 : w13.frozen? ⟨w2.heap.size, 6, none⟩ = false := blk_frozen Bt_13.out 6
  have dt7 : w13.cell? ⟨w2.heap.size, 7, none⟩ = some (.int .i64 x8) := (blk_cell Bt_13.out 7).trans rfl
  have ft7 : w13.frozen? ⟨w2.heap.size, 7, none⟩ = false := blk_frozen Bt_13.out 7
  clear dp0 dt5 ft5 dt6 ft6 dt7 ft7
  have dp0 : w13.cell? ⟨w.heap.size, 0, none⟩ = some (.pointer (some ⟨rb, 0, none⟩)) := (blk_cell Bp_13.out 0).trans rfl
  have dt8 : w13.cell? ⟨w2.heap.size, 8, none⟩ = some (.int .i64 0) := (blk_cell Bt_13.out 8).trans rfl
  have ft8 : w13.frozen? ⟨w2.heap.size, 8, none⟩ = false := blk_frozen Bt_13.out 8
  go_upto_region 7 with (first | (go_at_call 45; with_reducible refine (tknum_any 2147483648 w13 HR_13.out Bp_13.out (by omega) (by omega)).mono ?_; rintro e w14 ⟨rfl, q1, q2⟩; rw [E9.out] at q1; rw [E9.out]; clear dp0 dt8 ft8; have HR_14 := Aside0.mk q1; have HU_14 := Aside0.mk (HU_13.out.trans q2); have hs_14 : w13.heap.size ≤ w14.heap.size := q2.size; have Bp_14 := Aside0.mk (q2.blk Bp_13.out (by omega)); have Bz_14 := Aside0.mk (q2.blk Bz_13.out (by omega)); have Bt_14 := Aside0.mk (q2.blk Bt_13.out (by omega)); clear q1 q2; have dp0 : w14.cell? ⟨w.heap.size, 0, none⟩ = some (.pointer (some ⟨rb, 0, none⟩)) := (blk_cell Bp_14.out 0).trans rfl; have dt8 : w14.cell? ⟨w2.heap.size, 8, none⟩ = some (.int .i64 0) := (blk_cell Bt_14.out 8).trans rfl; have ft8 : w14.frozen? ⟨w2.heap.size, 8, none⟩ = false := blk_frozen Bt_14.out 8))
  clear dp0 dt8 ft8
  have Bt_15 := Aside0.mk (blk_put (cs' := #[.int .u64 x1, .int .i64 x2, .int .i64 x3, .int .i64 x4, .int .u64 x5, .int .i64 x6, .int .i64 x7, .int .i64 x8, .int .i64 x9]) Bt_14.out 8 (.int .i64 x9) rfl)
  have HR_15 := Aside0.mk (RdAt.seti HR_14.out (b := w2.heap.size) 8 (.int .i64 x9) (by omega) (by omega))
  have HU_15 := Aside0.mk (Upd.seti HU_14.out (b := w2.heap.size) (by omega) 8 (.int .i64 x9))
  have hs_15 : w14.heap.size ≤ (w14.setCell ⟨w2.heap.size, 8, none⟩ (.int .i64 x9)).heap.size := by simp
  have Bp_15 : Aside0 ((w14.setCell ⟨w2.heap.size, 8, none⟩ (.int .i64 x9)).heap[w.heap.size]? = _) := ⟨((Below.heap_setCell _ _ _ _ (by show w.heap.size ≠ w2.heap.size; omega)).trans Bp_14.out)⟩
  have Bz_15 : Aside0 ((w14.setCell ⟨w2.heap.size, 8, none⟩ (.int .i64 x9)).heap[w.heap.size + 1]? = _) := ⟨((Below.heap_setCell _ _ _ _ (by show w.heap.size + 1 ≠ w2.heap.size; omega)).trans Bz_14.out)⟩
  generalize (w14.setCell ⟨w2.heap.size, 8, none⟩ (.int .i64 x9)) = w15 at Bt_15 HR_15 HU_15 hs_15 Bp_15 Bz_15 ⊢
  have dp0 : w15.cell? ⟨w.heap.size, 0, none⟩ = some (.pointer (some ⟨rb, 0, none⟩)) := (blk_cell Bp_15.out 0).trans rfl
  have dt8 : w15.cell? ⟨w2.heap.size, 8, none⟩ = some (.int .i64 x9) := (blk_cell Bt_15.out 8).trans rfl
  have ft8 : w15.frozen? ⟨w2.heap.size, 8, none⟩ = false := blk_frozen Bt_15.out 8
  clear dp0 dt8 ft8
  have dp0 : w15.cell? ⟨w.heap.size, 0, none⟩ = some (.pointer (some ⟨rb, 0, none⟩)) := (blk_cell Bp_15.out 0).trans rfl
  have dz0 : w15.cell? ⟨w.heap.size + 1, 0, none⟩ = some (.int .u64 0) := (blk_cell Bz_15.out 0).trans rfl
  have fz0 : w15.frozen? ⟨w.heap.size + 1, 0, none⟩ = false := blk_frozen Bz_15.out 0
  have dz1 : w15.cell? ⟨w.heap.size + 1, 1, none⟩ = some (.int .i64 0) := (blk_cell Bz_15.out 1).trans rfl
  have fz1 : w15.frozen? ⟨w.heap.size + 1, 1, none⟩ = false := blk_frozen Bz_15.out 1
  have dz2 : w15.cell? ⟨w.heap.size + 1, 2, none⟩ = some (.int .i64 0) := (blk_cell Bz_15.out 2).trans rfl
  have fz2 : w15.frozen? ⟨w.heap.size + 1, 2, none⟩ = false := blk_frozen Bz_15.out 2
  have dz3 : w15.cell? ⟨w.heap.size + 1, 3, none⟩ = some (.int .i64 0) := (blk_cell Bz_15.out 3).trans rfl
  have fz3 : w15.frozen? ⟨w.heap.size + 1, 3, none⟩ = false := blk_frozen Bz_15.out 3
  have dz4 : w15.cell? ⟨w.heap.size + 1, 4, none⟩ = some (.int .u64 0) := (blk_cell Bz_15.out 4).trans rfl
  have fz4 : w15.frozen? ⟨w.heap.size + 1, 4, none⟩ = false := blk_frozen Bz_15.out 4
  have dz5 : w15.cell? ⟨w.heap.size + 1, 5, none⟩ = some (.int .i64 0) := (blk_cell Bz_15.out 5).trans rfl
  have fz5 : w15.frozen? ⟨w.heap.size + 1, 5, none⟩ = false := blk_frozen Bz_15.out 5
  have dz6 : w15.cell? ⟨w.heap.size + 1, 6, none⟩ = some (.int .i64 0) := (blk_cell Bz_15.out 6).trans rfl
  have fz6 : w15.frozen? ⟨w.heap.size + 1, 6, none⟩ = false := blk_frozen Bz_15.out 6
  have dz7 : w15.cell? ⟨w.heap.size + 1, 7, none⟩ = some (.int .i64 0) := (blk_cell Bz_15.out 7).trans rfl
  have fz7 : w15.frozen? ⟨w.heap.size + 1, 7, none⟩ = false := blk_frozen Bz_15.out 7
  have dz8 : w15.cell? ⟨w.heap.size + 1, 8, none⟩ = some (.int .i64 0) := (blk_cell Bz_15.out 8).trans rfl
  have fz8 : w15.frozen? ⟨w.heap.size + 1, 8, none⟩ = false := blk_frozen Bz_15.out 8
  have dt0 : w15.cell? ⟨w2.heap.size, 0, none⟩ = some (.int .u64 x1) := (blk_cell Bt_15.out 0).trans rfl
  have ft0 : w15.frozen? ⟨w2.heap.size, 0, none⟩ = false := blk_frozen Bt_15.out 0
  have dt1 : w15.cell? ⟨w2.heap.size, 1, none⟩ = some (.int .i64 x2) := (blk_cell Bt_15.out 1).trans rfl
  have ft1 : w15.frozen? ⟨w2.heap.size, 1, none⟩ = false := blk_frozen Bt_15.out 1
  have dt2 : w15.cell? ⟨w2.heap.size, 2, none⟩ = some (.int .i64 x3) := (blk_cell Bt_15.out 2).trans rfl
  have ft2 : w15.frozen? ⟨w2.heap.size, 2, none⟩ = false := blk_frozen Bt_15.out 2
  have dt3 : w15.cell? ⟨w2.heap.size, 3, none⟩ = some (.int .i64 x4) := (blk_cell Bt_15.out 3).trans rfl
  have ft3 : w15.frozen? ⟨w2.heap.size, 3, none⟩ = false := blk_frozen Bt_15.out 3
  have dt4 : w15.cell? ⟨w2.heap.size, 4, none⟩ = some (.int .u64 x5) := (blk_cell Bt_15.out 4).trans rfl
  have ft4 : w15.frozen? ⟨w2.heap.size, 4, none⟩ = false := blk_frozen Bt_15.out 4
  have dt5 : w15.cell? ⟨w2.heap.size, 5, none⟩ = some (.int .i64 x6) := (blk_cell Bt_15.out 5).trans rfl
  have ft5 : w15.frozen? ⟨w2.heap.size, 5, none⟩ = false := blk_frozen Bt_15.out 5
  have dt6 : w15.cell? ⟨w2.heap.size, 6, none⟩ = some (.int .i64 x7) := (blk_cell Bt_15.out 6).trans rfl
  have ft6 : w15.frozen? ⟨w2.heap.size, 6, none⟩ = false := blk_frozen Bt_15.out 6
  have dt7 : w15.cell? ⟨w2.heap.size, 7, none⟩ = some (.int .i64 x8) := (blk_cell Bt_15.out 7).trans rfl
  have ft7 : w15.frozen? ⟨w2.heap.size, 7, none⟩ = false := blk_frozen Bt_15.out 7
  have dt8 : w15.cell? ⟨w2.heap.size, 8, none⟩ = some (.int .i64 x9) := (blk_cell Bt_15.out 8).trans rfl
  have ft8 : w15.frozen? ⟨w2.heap.size, 8, none⟩ = false := blk_frozen Bt_15.out 8
  cases g with
  | true =>
    go_wp2_with (first | (go_at_call 18; refine (rbad_any w15 HR_15.out).mono ?_; rintro e wx ⟨rfl, rfl⟩) | (go_at_call 47; with_reducible refine (rfail_any w15 HR_15.out).mono ?_; rintro e w16 ⟨rfl, q1, q2⟩; clear dp0 dz0 fz0 dz1 fz1 dz2 fz2 dz3 fz3 dz4 fz4 dz5 fz5 dz6 fz6 dz7 fz7 dz8 fz8 dt0 ft0 dt1 ft1 dt2 ft2 dt3 ft3 dt4 ft4 dt5 ft5 dt6 ft6 dt7 ft7 dt8 ft8; have HR_16 := Aside0.mk q1; have HU_16 := Aside0.mk (HU_15.out.trans q2); have hs_16 : w15.heap.size ≤ w16.heap.size := q2.size; have Bp_16 := Aside0.mk (q2.blk Bp_15.out (by omega)); have Bz_16 := Aside0.mk (q2.blk Bz_15.out (by omega)); have Bt_16 := Aside0.mk (q2.blk Bt_15.out (by omega)); clear q1 q2; have dp0 : w16.cell? ⟨w.heap.size, 0, none⟩ = some (.pointer (some ⟨rb, 0, none⟩)) := (blk_cell Bp_16.out 0).trans rfl; have dz0 : w16.cell? ⟨w.heap.size + 1, 0, none⟩ = some (.int .u64 0) := (blk_cell Bz_16.out 0).trans rfl; have fz0 : w16.frozen? ⟨w.heap.size + 1, 0, none⟩ = false := blk_frozen Bz_16.out 0; have dz1 : w16.cell? ⟨w.heap.size + 1, 1, none⟩ = some (.int .i64 0) := (blk_cell Bz_16.out 1).trans rfl; have fz1 : w16.frozen? ⟨w.heap.size + 1, 1, none⟩ = false := blk_frozen Bz_16.out 1; have dz2 : w16.cell? ⟨w.heap.size + 1, 2, none⟩ = some (.int .i64 0) := (blk_cell Bz_16.out 2).trans rfl; have fz2 : w16.frozen? ⟨w.heap.size + 1, 2, none⟩ = false := blk_frozen Bz_16.out 2; have dz3 : w16.cell? ⟨w.heap.size + 1, 3, none⟩ = some (.int .i64 0) := (blk_cell Bz_16.out 3).trans rfl; have fz3 : w16.frozen? ⟨w.heap.size + 1, 3, none⟩ = false := blk_frozen Bz_16.out 3; have dz4 : w16.cell? ⟨w.heap.size + 1, 4, none⟩ = some (.int .u64 0) := (blk_cell Bz_16.out 4).trans rfl; have fz4 : w16.frozen? ⟨w.heap.size + 1, 4, none⟩ = false := blk_frozen Bz_16.out 4; have dz5 : w16.cell? ⟨w.heap.size + 1, 5, none⟩ = some (.int .i64 0) := (blk_cell Bz_16.out 5).trans rfl; have fz5 : w16.frozen? ⟨w.heap.size + 1, 5, none⟩ = false := blk_frozen Bz_16.out 5; have dz6 : w16.cell? ⟨w.heap.size + 1, 6, none⟩ = some (.int .i64 0) := (blk_cell Bz_16.out 6).trans rfl; have fz6 : w16.frozen? ⟨w.heap.size + 1, 6, none⟩ = false := blk_frozen Bz_16.out 6; have dz7 : w16.cell? ⟨w.heap.size + 1, 7, none⟩ = some (.int .i64 0) := (blk_cell Bz_16.out 7).trans rfl; have fz7 : w16.frozen? ⟨w.heap.size + 1, 7, none⟩ = false := blk_frozen Bz_16.out 7; have dz8 : w16.cell? ⟨w.heap.size + 1, 8, none⟩ = some (.int .i64 0) := (blk_cell Bz_16.out 8).trans rfl; have fz8 : w16.frozen? ⟨w.heap.size + 1, 8, none⟩ = false := blk_frozen Bz_16.out 8; have dt0 : w16.cell? ⟨w2.heap.size, 0, none⟩ = some (.int .u64 x1) := (blk_cell Bt_16.out 0).trans rfl; have ft0 : w16.frozen? ⟨w2.heap.size, 0, none⟩ = false := blk_frozen Bt_16.out 0; have dt1 : w16.cell? ⟨w2.heap.size, 1, none⟩ = some (.int .i64 x2) := (blk_cell Bt_16.out 1).trans rfl; have ft1 : w16.frozen? ⟨w2.heap.size, 1, none⟩ = false := blk_frozen Bt_16.out 1; have dt2 : w16.cell? ⟨w2.heap.size, 2, none⟩ = some (.int .i64 x3) := (blk_cell Bt_16.out 2).trans rfl; have ft2 : w16.frozen? ⟨w2.heap.size, 2, none⟩ = false := blk_frozen Bt_16.out 2; have dt3 : w16.cell? ⟨w2.heap.size, 3, none⟩ = some (.int .i64 x4) := (blk_cell Bt_16.out 3).trans rfl; have ft3 : w16.frozen? ⟨w2.heap.size, 3, none⟩ = false := blk_frozen Bt_16.out 3; have dt4 : w16.cell? ⟨w2.heap.size, 4, none⟩ = some (.int .u64 x5) := (blk_cell Bt_16.out 4).trans rfl; have ft4 : w16.frozen? ⟨w2.heap.size, 4, none⟩ = false := blk_frozen Bt_16.out 4; have dt5 : w16.cell? ⟨w2.heap.size, 5, none⟩ = some (.int .i64 x6) := (blk_cell Bt_16.out 5).trans rfl; have ft5 : w16.frozen? ⟨w2.heap.size, 5, none⟩ = false := blk_frozen Bt_16.out 5; have dt6 : w16.cell? ⟨w2.heap.size, 6, none⟩ = some (.int .i64 x7) := (blk_cell Bt_16.out 6).trans rfl; have ft6 : w16.frozen? ⟨w2.heap.size, 6, none⟩ = false := blk_frozen Bt_16.out 6; have dt7 : w16.cell? ⟨w2.heap.size, 7, none⟩ = some (.int .i64 x8) := (blk_cell Bt_16.out 7).trans rfl; have ft7 : w16.frozen? ⟨w2.heap.size, 7, none⟩ = false := blk_frozen Bt_16.out 7; have dt8 : w16.cell? ⟨w2.heap.size, 8, none⟩ = some (.int .i64 x9) := (blk_cell Bt_16.out 8).trans rfl; have ft8 : w16.frozen? ⟨w2.heap.size, 8, none⟩ = false := blk_frozen Bt_16.out 8))
    clear dp0 dz0 fz0 dz1 fz1 dz2 fz2 dz3 fz3 dz4 fz4 dz5 fz5 dz6 fz6 dz7 fz7 dz8 fz8 dt0 ft0 dt1 ft1 dt2 ft2 dt3 ft3 dt4 ft4 dt5 ft5 dt6 ft6 dt7 ft7 dt8 ft8
    have Bz_17 := Aside0.mk (blk_put (cs' := #[.int .u64 0, .int .i64 0, .int .i64 0, .int .i64 0, .int .u64 0, .int .i64 0, .int .i64 0, .int .i64 0, .int .i64 0]) (blk_put (cs' := #[.int .u64 0, .int .i64 0, .int .i64 0, .int .i64 0, .int .u64 0, .int .i64 0, .int .i64 0, .int .i64 0, .int .i64 0]) (blk_put (cs' := #[.int .u64 0, .int .i64 0, .int .i64 0, .int .i64 0, .int .u64 0, .int .i64 0, .int .i64 0, .int .i64 0, .int .i64 0]) (blk_put (cs' := #[.int .u64 0, .int .i64 0, .int .i64 0, .int .i64 0, .int .u64 0, .int .i64 0, .int .i64 0, .int .i64 0, .int .i64 0]) (blk_put (cs' := #[.int .u64 0, .int .i64 0, .int .i64 0, .int .i64 0, .int .u64 0, .int .i64 0, .int .i64 0, .int .i64 0, .int .i64 0]) (blk_put (cs' := #[.int .u64 0, .int .i64 0, .int .i64 0, .int .i64 0, .int .u64 0, .int .i64 0, .int .i64 0, .int .i64 0, .int .i64 0]) (blk_put (cs' := #[.int .u64 0, .int .i64 0, .int .i64 0, .int .i64 0, .int .u64 0, .int .i64 0, .int .i64 0, .int .i64 0, .int .i64 0]) (blk_put (cs' := #[.int .u64 0, .int .i64 0, .int .i64 0, .int .i64 0, .int .u64 0, .int .i64 0, .int .i64 0, .int .i64 0, .int .i64 0]) (blk_put (cs' := #[.int .u64 0, .int .i64 0, .int .i64 0, .int .i64 0, .int .u64 0, .int .i64 0, .int .i64 0, .int .i64 0, .int .i64 0]) Bz_16.out 0 (.int .u64 0) rfl) 1 (.int .i64 0) rfl) 2 (.int .i64 0) rfl) 3 (.int .i64 0) rfl) 4 (.int .u64 0) rfl) 5 (.int .i64 0) rfl) 6 (.int .i64 0) rfl) 7 (.int .i64 0) rfl) 8 (.int .i64 0) rfl)
    have HR_17 := Aside0.mk (RdAt.seti (RdAt.seti (RdAt.seti (RdAt.seti (RdAt.seti (RdAt.seti (RdAt.seti (RdAt.seti (RdAt.seti HR_16.out (b := w.heap.size + 1) 0 (.int .u64 0) (by omega) (by omega)) (b := w.heap.size + 1) 1 (.int .i64 0) (by omega) (by omega)) (b := w.heap.size + 1) 2 (.int .i64 0) (by omega) (by omega)) (b := w.heap.size + 1) 3 (.int .i64 0) (by omega) (by omega)) (b := w.heap.size + 1) 4 (.int .u64 0) (by omega) (by omega)) (b := w.heap.size + 1) 5 (.int .i64 0) (by omega) (by omega)) (b := w.heap.size + 1) 6 (.int .i64 0) (by omega) (by omega)) (b := w.heap.size + 1) 7 (.int .i64 0) (by omega) (by omega)) (b := w.heap.size + 1) 8 (.int .i64 0) (by omega) (by omega))
    have HU_17 := Aside0.mk (Upd.seti (Upd.seti (Upd.seti (Upd.seti (Upd.seti (Upd.seti (Upd.seti (Upd.seti (Upd.seti HU_16.out (b := w.heap.size + 1) (by omega) 0 (.int .u64 0)) (b := w.heap.size + 1) (by omega) 1 (.int .i64 0)) (b := w.heap.size + 1) (by omega) 2 (.int .i64 0)) (b := w.heap.size + 1) (by omega) 3 (.int .i64 0)) (b := w.heap.size + 1) (by omega) 4 (.int .u64 0)) (b := w.heap.size + 1) (by omega) 5 (.int .i64 0)) (b := w.heap.size + 1) (by omega) 6 (.int .i64 0)) (b := w.heap.size + 1) (by omega) 7 (.int .i64 0)) (b := w.heap.size + 1) (by omega) 8 (.int .i64 0))
    have hs_17 : w16.heap.size ≤ (((((((((w16.setCell ⟨w.heap.size + 1, 0, none⟩ (.int .u64 0)).setCell ⟨w.heap.size + 1, 1, none⟩ (.int .i64 0)).setCell ⟨w.heap.size + 1, 2, none⟩ (.int .i64 0)).setCell ⟨w.heap.size + 1, 3, none⟩ (.int .i64 0)).setCell ⟨w.heap.size + 1, 4, none⟩ (.int .u64 0)).setCell ⟨w.heap.size + 1, 5, none⟩ (.int .i64 0)).setCell ⟨w.heap.size + 1, 6, none⟩ (.int .i64 0)).setCell ⟨w.heap.size + 1, 7, none⟩ (.int .i64 0)).setCell ⟨w.heap.size + 1, 8, none⟩ (.int .i64 0)).heap.size := by simp
    have Bp_17 : Aside0 ((((((((((w16.setCell ⟨w.heap.size + 1, 0, none⟩ (.int .u64 0)).setCell ⟨w.heap.size + 1, 1, none⟩ (.int .i64 0)).setCell ⟨w.heap.size + 1, 2, none⟩ (.int .i64 0)).setCell ⟨w.heap.size + 1, 3, none⟩ (.int .i64 0)).setCell ⟨w.heap.size + 1, 4, none⟩ (.int .u64 0)).setCell ⟨w.heap.size + 1, 5, none⟩ (.int .i64 0)).setCell ⟨w.heap.size + 1, 6, none⟩ (.int .i64 0)).setCell ⟨w.heap.size + 1, 7, none⟩ (.int .i64 0)).setCell ⟨w.heap.size + 1, 8, none⟩ (.int .i64 0)).heap[w.heap.size]? = _) := ⟨((Below.heap_setCell _ _ _ _ (by show w.heap.size ≠ w.heap.size + 1; omega)).trans ((Below.heap_setCell _ _ _ _ (by show w.heap.size ≠ w.heap.size + 1; omega)).trans ((Below.heap_setCell _ _ _ _ (by show w.heap.size ≠ w.heap.size + 1; omega)).trans ((Below.heap_setCell _ _ _ _ (by show w.heap.size ≠ w.heap.size + 1; omega)).trans ((Below.heap_setCell _ _ _ _ (by show w.heap.size ≠ w.heap.size + 1; omega)).trans ((Below.heap_setCell _ _ _ _ (by show w.heap.size ≠ w.heap.size + 1; omega)).trans ((Below.heap_setCell _ _ _ _ (by show w.heap.size ≠ w.heap.size + 1; omega)).trans ((Below.heap_setCell _ _ _ _ (by show w.heap.size ≠ w.heap.size + 1; omega)).trans ((Below.heap_setCell _ _ _ _ (by show w.heap.size ≠ w.heap.size + 1; omega)).trans Bp_16.out)))))))))⟩
    have Bt_17 : Aside0 ((((((((((w16.setCell ⟨w.heap.size + 1, 0, none⟩ (.int .u64 0)).setCell ⟨w.heap.size + 1, 1, none⟩ (.int .i64 0)).setCell ⟨w.heap.size + 1, 2, none⟩ (.int .i64 0)).setCell ⟨w.heap.size + 1, 3, none⟩ (.int .i64 0)).setCell ⟨w.heap.size + 1, 4, none⟩ (.int .u64 0)).setCell ⟨w.heap.size + 1, 5, none⟩ (.int .i64 0)).setCell ⟨w.heap.size + 1, 6, none⟩ (.int .i64 0)).setCell ⟨w.heap.size + 1, 7, none⟩ (.int .i64 0)).setCell ⟨w.heap.size + 1, 8, none⟩ (.int .i64 0)).heap[w2.heap.size]? = _) := ⟨((Below.heap_setCell _ _ _ _ (by show w2.heap.size ≠ w.heap.size + 1; omega)).trans ((Below.heap_setCell _ _ _ _ (by show w2.heap.size ≠ w.heap.size + 1; omega)).trans ((Below.heap_setCell _ _ _ _ (by show w2.heap.size ≠ w.heap.size + 1; omega)).trans ((Below.heap_setCell _ _ _ _ (by show w2.heap.size ≠ w.heap.size + 1; omega)).trans ((Below.heap_setCell _ _ _ _ (by show w2.heap.size ≠ w.heap.size + 1; omega)).trans ((Below.heap_setCell _ _ _ _ (by show w2.heap.size ≠ w.heap.size + 1; omega)).trans ((Below.heap_setCell _ _ _ _ (by show w2.heap.size ≠ w.heap.size + 1; omega)).trans ((Below.heap_setCell _ _ _ _ (by show w2.heap.size ≠ w.heap.size + 1; omega)).trans ((Below.heap_setCell _ _ _ _ (by show w2.heap.size ≠ w.heap.size + 1; omega)).trans Bt_16.out)))))))))⟩
    generalize (((((((((w16.setCell ⟨w.heap.size + 1, 0, none⟩ (.int .u64 0)).setCell ⟨w.heap.size + 1, 1, none⟩ (.int .i64 0)).setCell ⟨w.heap.size + 1, 2, none⟩ (.int .i64 0)).setCell ⟨w.heap.size + 1, 3, none⟩ (.int .i64 0)).setCell ⟨w.heap.size + 1, 4, none⟩ (.int .u64 0)).setCell ⟨w.heap.size + 1, 5, none⟩ (.int .i64 0)).setCell ⟨w.heap.size + 1, 6, none⟩ (.int .i64 0)).setCell ⟨w.heap.size + 1, 7, none⟩ (.int .i64 0)).setCell ⟨w.heap.size + 1, 8, none⟩ (.int .i64 0)) = w17 at Bz_17 HR_17 HU_17 hs_17 Bp_17 Bt_17 ⊢
    have dp0 : w17.cell? ⟨w.heap.size, 0, none⟩ = some (.pointer (some ⟨rb, 0, none⟩)) := (blk_cell Bp_17.out 0).trans rfl
    have dz0 : w17.cell? ⟨w.heap.size + 1, 0, none⟩ = some (.int .u64 0) := (blk_cell Bz_17.out 0).trans rfl
    have fz0 : w17.frozen? ⟨w.heap.size + 1, 0, none⟩ = false := blk_frozen Bz_17.out 0
    have dz1 : w17.cell? ⟨w.heap.size + 1, 1, none⟩ = some (.int .i64 0) := (blk_cell Bz_17.out 1).trans rfl
    have fz1 : w17.frozen? ⟨w.heap.size + 1, 1, none⟩ = false := blk_frozen Bz_17.out 1
    have dz2 : w17.cell? ⟨w.heap.size + 1, 2, none⟩ = some (.int .i64 0) := (blk_cell Bz_17.out 2).trans rfl
    have fz2 : w17.frozen? ⟨w.heap.size + 1, 2, none⟩ = false := blk_frozen Bz_17.out 2
    have dz3 : w17.cell? ⟨w.heap.size + 1, 3, none⟩ = some (.int .i64 0) := (blk_cell Bz_17.out 3).trans rfl
    have fz3 : w17.frozen? ⟨w.heap.size + 1, 3, none⟩ = false := blk_frozen Bz_17.out 3
    have dz4 : w17.cell? ⟨w.heap.size + 1, 4, none⟩ = some (.int .u64 0) := (blk_cell Bz_17.out 4).trans rfl
    have fz4 : w17.frozen? ⟨w.heap.size + 1, 4, none⟩ = false := blk_frozen Bz_17.out 4
    have dz5 : w17.cell? ⟨w.heap.size + 1, 5, none⟩ = some (.int .i64 0) := (blk_cell Bz_17.out 5).trans rfl
    have fz5 : w17.frozen? ⟨w.heap.size + 1, 5, none⟩ = false := blk_frozen Bz_17.out 5
    have dz6 : w17.cell? ⟨w.heap.size + 1, 6, none⟩ = some (.int .i64 0) := (blk_cell Bz_17.out 6).trans rfl
    have fz6 : w17.frozen? ⟨w.heap.size + 1, 6, none⟩ = false := blk_frozen Bz_17.out 6
    have dz7 : w17.cell? ⟨w.heap.size + 1, 7, none⟩ = some (.int .i64 0) := (blk_cell Bz_17.out 7).trans rfl
    have fz7 : w17.frozen? ⟨w.heap.size + 1, 7, none⟩ = false := blk_frozen Bz_17.out 7
    have dz8 : w17.cell? ⟨w.heap.size + 1, 8, none⟩ = some (.int .i64 0) := (blk_cell Bz_17.out 8).trans rfl
    have fz8 : w17.frozen? ⟨w.heap.size + 1, 8, none⟩ = false := blk_frozen Bz_17.out 8
    have dt0 : w17.cell? ⟨w2.heap.size, 0, none⟩ = some (.int .u64 x1) := (blk_cell Bt_17.out 0).trans rfl
    have ft0 : w17.frozen? ⟨w2.heap.size, 0, none⟩ = false := blk_frozen Bt_17.out 0
    have dt1 : w17.cell? ⟨w2.heap.size, 1, none⟩ = some (.int .i64 x2) := (blk_cell Bt_17.out 1).trans rfl
    have ft1 : w17.frozen? ⟨w2.heap.size, 1, none⟩ = false := blk_frozen Bt_17.out 1
    have dt2 : w17.cell? ⟨w2.heap.size, 2, none⟩ = some (.int .i64 x3) := (blk_cell Bt_17.out 2).trans rfl
    have ft2 : w17.frozen? ⟨w2.heap.size, 2, none⟩ = false := blk_frozen Bt_17.out 2
    have dt3 : w17.cell? ⟨w2.heap.size, 3, none⟩ = some (.int .i64 x4) := (blk_cell Bt_17.out 3).trans rfl
    have ft3 : w17.frozen? ⟨w2.heap.size, 3, none⟩ = false := blk_frozen Bt_17.out 3
    have dt4 : w17.cell? ⟨w2.heap.size, 4, none⟩ = some (.int .u64 x5) := (blk_cell Bt_17.out 4).trans rfl
    have ft4 : w17.frozen? ⟨w2.heap.size, 4, none⟩ = false := blk_frozen Bt_17.out 4
    have dt5 : w17.cell? ⟨w2.heap.size, 5, none⟩ = some (.int .i64 x6) := (blk_cell Bt_17.out 5).trans rfl
    have ft5 : w17.frozen? ⟨w2.heap.size, 5, none⟩ = false := blk_frozen Bt_17.out 5
    have dt6 : w17.cell? ⟨w2.heap.size, 6, none⟩ = some (.int .i64 x7) := (blk_cell Bt_17.out 6).trans rfl
    have ft6 : w17.frozen? ⟨w2.heap.size, 6, none⟩ = false := blk_frozen Bt_17.out 6
    have dt7 : w17.cell? ⟨w2.heap.size, 7, none⟩ = some (.int .i64 x8) := (blk_cell Bt_17.out 7).trans rfl
    have ft7 : w17.frozen? ⟨w2.heap.size, 7, none⟩ = false := blk_frozen Bt_17.out 7
    have dt8 : w17.cell? ⟨w2.heap.size, 8, none⟩ = some (.int .i64 x9) := (blk_cell Bt_17.out 8).trans rfl
    have ft8 : w17.frozen? ⟨w2.heap.size, 8, none⟩ = false := blk_frozen Bt_17.out 8
    refine bodyPost_ret (v := .tuple #[.agg #[.int .u64 0, .int .i64 0, .int .i64 0, .int .i64 0, .int .u64 0, .int .i64 0, .int .i64 0, .int .i64 0, .int .i64 0], .bool false]) (by simp [results, Try.results12, go_sem, dz0, dz1, dz2, dz3, dz4, dz5, dz6, dz7, dz8]) rfl (HP1.out (.inl (by first | rfl | trivial)) _ HR_17.out HU_17.out)
  | false =>
    cases hs : tkB ⟨x1, x2, x3, x4, x5, x6, x7, x8, x9⟩ with
    | false =>
      have HS := Aside0.mk hs
      clear hs
      go_wp2_with (first | (go_at_call 18; refine (rbad_any w15 HR_15.out).mono ?_; rintro e wx ⟨rfl, rfl⟩) | (go_at_call 9; with_reducible refine (tksound_any ⟨x1, x2, x3, x4, x5, x6, x7, x8, x9⟩ w15 HTK.out).mono ?_; rintro e w16 ⟨rfl, q1⟩; rw [HS.out]; clear dp0 dz0 fz0 dz1 fz1 dz2 fz2 dz3 fz3 dz4 fz4 dz5 fz5 dz6 fz6 dz7 fz7 dz8 fz8 dt0 ft0 dt1 ft1 dt2 ft2 dt3 ft3 dt4 ft4 dt5 ft5 dt6 ft6 dt7 ft7 dt8 ft8; have HR_16 := Aside0.mk (HR_15.out.below q1); have HU_16 := Aside0.mk (HU_15.out.then q1); have hs_16 : w15.heap.size ≤ w16.heap.size := q1.size; have Bp_16 := Aside0.mk (blk_below Bp_15.out q1); have Bz_16 := Aside0.mk (blk_below Bz_15.out q1); have Bt_16 := Aside0.mk (blk_below Bt_15.out q1); clear q1; have dp0 : w16.cell? ⟨w.heap.size, 0, none⟩ = some (.pointer (some ⟨rb, 0, none⟩)) := (blk_cell Bp_16.out 0).trans rfl; have dz0 : w16.cell? ⟨w.heap.size + 1, 0, none⟩ = some (.int .u64 0) := (blk_cell Bz_16.out 0).trans rfl; have fz0 : w16.frozen? ⟨w.heap.size + 1, 0, none⟩ = false := blk_frozen Bz_16.out 0; have dz1 : w16.cell? ⟨w.heap.size + 1, 1, none⟩ = some (.int .i64 0) := (blk_cell Bz_16.out 1).trans rfl; have fz1 : w16.frozen? ⟨w.heap.size + 1, 1, none⟩ = false := blk_frozen Bz_16.out 1; have dz2 : w16.cell? ⟨w.heap.size + 1, 2, none⟩ = some (.int .i64 0) := (blk_cell Bz_16.out 2).trans rfl; have fz2 : w16.frozen? ⟨w.heap.size + 1, 2, none⟩ = false := blk_frozen Bz_16.out 2; have dz3 : w16.cell? ⟨w.heap.size + 1, 3, none⟩ = some (.int .i64 0) := (blk_cell Bz_16.out 3).trans rfl; have fz3 : w16.frozen? ⟨w.heap.size + 1, 3, none⟩ = false := blk_frozen Bz_16.out 3; have dz4 : w16.cell? ⟨w.heap.size + 1, 4, none⟩ = some (.int .u64 0) := (blk_cell Bz_16.out 4).trans rfl; have fz4 : w16.frozen? ⟨w.heap.size + 1, 4, none⟩ = false := blk_frozen Bz_16.out 4; have dz5 : w16.cell? ⟨w.heap.size + 1, 5, none⟩ = some (.int .i64 0) := (blk_cell Bz_16.out 5).trans rfl; have fz5 : w16.frozen? ⟨w.heap.size + 1, 5, none⟩ = false := blk_frozen Bz_16.out 5; have dz6 : w16.cell? ⟨w.heap.size + 1, 6, none⟩ = some (.int .i64 0) := (blk_cell Bz_16.out 6).trans rfl; have fz6 : w16.frozen? ⟨w.heap.size + 1, 6, none⟩ = false := blk_frozen Bz_16.out 6; have dz7 : w16.cell? ⟨w.heap.size + 1, 7, none⟩ = some (.int .i64 0) := (blk_cell Bz_16.out 7).trans rfl; have fz7 : w16.frozen? ⟨w.heap.size + 1, 7, none⟩ = false := blk_frozen Bz_16.out 7; have dz8 : w16.cell? ⟨w.heap.size + 1, 8, none⟩ = some (.int .i64 0) := (blk_cell Bz_16.out 8).trans rfl; have fz8 : w16.frozen? ⟨w.heap.size + 1, 8, none⟩ = false := blk_frozen Bz_16.out 8; have dt0 : w16.cell? ⟨w2.heap.size, 0, none⟩ = some (.int .u64 x1) := (blk_cell Bt_16.out 0).trans rfl; have ft0 : w16.frozen? ⟨w2.heap.size, 0, none⟩ = false := blk_frozen Bt_16.out 0; have dt1 : w16.cell? ⟨w2.heap.size, 1, none⟩ = some (.int .i64 x2) := (blk_cell Bt_16.out 1).trans rfl; have ft1 : w16.frozen? ⟨w2.heap.size, 1, none⟩ = false := blk_frozen Bt_16.out 1; have dt2 : w16.cell? ⟨w2.heap.size, 2, none⟩ = some (.int .i64 x3) := (blk_cell Bt_16.out 2).trans rfl; have ft2 : w16.frozen? ⟨w2.heap.size, 2, none⟩ = false := blk_frozen Bt_16.out 2; have dt3 : w16.cell? ⟨w2.heap.size, 3, none⟩ = some (.int .i64 x4) := (blk_cell Bt_16.out 3).trans rfl; have ft3 : w16.frozen? ⟨w2.heap.size, 3, none⟩ = false := blk_frozen Bt_16.out 3; have dt4 : w16.cell? ⟨w2.heap.size, 4, none⟩ = some (.int .u64 x5) := (blk_cell Bt_16.out 4).trans rfl; have ft4 : w16.frozen? ⟨w2.heap.size, 4, none⟩ = false := blk_frozen Bt_16.out 4; have dt5 : w16.cell? ⟨w2.heap.size, 5, none⟩ = some (.int .i64 x6) := (blk_cell Bt_16.out 5).trans rfl; have ft5 : w16.frozen? ⟨w2.heap.size, 5, none⟩ = false := blk_frozen Bt_16.out 5; have dt6 : w16.cell? ⟨w2.heap.size, 6, none⟩ = some (.int .i64 x7) := (blk_cell Bt_16.out 6).trans rfl; have ft6 : w16.frozen? ⟨w2.heap.size, 6, none⟩ = false := blk_frozen Bt_16.out 6; have dt7 : w16.cell? ⟨w2.heap.size, 7, none⟩ = some (.int .i64 x8) := (blk_cell Bt_16.out 7).trans rfl; have ft7 : w16.frozen? ⟨w2.heap.size, 7, none⟩ = false := blk_frozen Bt_16.out 7; have dt8 : w16.cell? ⟨w2.heap.size, 8, none⟩ = some (.int .i64 x9) := (blk_cell Bt_16.out 8).trans rfl; have ft8 : w16.frozen? ⟨w2.heap.size, 8, none⟩ = false := blk_frozen Bt_16.out 8) | (go_at_call 47; with_reducible refine (rfail_any w16 HR_16.out).mono ?_; rintro e w17 ⟨rfl, q1, q2⟩; clear dp0 dz0 fz0 dz1 fz1 dz2 fz2 dz3 fz3 dz4 fz4 dz5 fz5 dz6 fz6 dz7 fz7 dz8 fz8 dt0 ft0 dt1 ft1 dt2 ft2 dt3 ft3 dt4 ft4 dt5 ft5 dt6 ft6 dt7 ft7 dt8 ft8; have HR_17 := Aside0.mk q1; have HU_17 := Aside0.mk (HU_16.out.trans q2); have hs_17 : w16.heap.size ≤ w17.heap.size := q2.size; have Bp_17 := Aside0.mk (q2.blk Bp_16.out (by omega)); have Bz_17 := Aside0.mk (q2.blk Bz_16.out (by omega)); have Bt_17 := Aside0.mk (q2.blk Bt_16.out (by omega)); clear q1 q2; have dp0 : w17.cell? ⟨w.heap.size, 0, none⟩ = some (.pointer (some ⟨rb, 0, none⟩)) := (blk_cell Bp_17.out 0).trans rfl; have dz0 : w17.cell? ⟨w.heap.size + 1, 0, none⟩ = some (.int .u64 0) := (blk_cell Bz_17.out 0).trans rfl; have fz0 : w17.frozen? ⟨w.heap.size + 1, 0, none⟩ = false := blk_frozen Bz_17.out 0; have dz1 : w17.cell? ⟨w.heap.size + 1, 1, none⟩ = some (.int .i64 0) := (blk_cell Bz_17.out 1).trans rfl; have fz1 : w17.frozen? ⟨w.heap.size + 1, 1, none⟩ = false := blk_frozen Bz_17.out 1; have dz2 : w17.cell? ⟨w.heap.size + 1, 2, none⟩ = some (.int .i64 0) := (blk_cell Bz_17.out 2).trans rfl; have fz2 : w17.frozen? ⟨w.heap.size + 1, 2, none⟩ = false := blk_frozen Bz_17.out 2; have dz3 : w17.cell? ⟨w.heap.size + 1, 3, none⟩ = some (.int .i64 0) := (blk_cell Bz_17.out 3).trans rfl; have fz3 : w17.frozen? ⟨w.heap.size + 1, 3, none⟩ = false := blk_frozen Bz_17.out 3; have dz4 : w17.cell? ⟨w.heap.size + 1, 4, none⟩ = some (.int .u64 0) := (blk_cell Bz_17.out 4).trans rfl; have fz4 : w17.frozen? ⟨w.heap.size + 1, 4, none⟩ = false := blk_frozen Bz_17.out 4; have dz5 : w17.cell? ⟨w.heap.size + 1, 5, none⟩ = some (.int .i64 0) := (blk_cell Bz_17.out 5).trans rfl; have fz5 : w17.frozen? ⟨w.heap.size + 1, 5, none⟩ = false := blk_frozen Bz_17.out 5; have dz6 : w17.cell? ⟨w.heap.size + 1, 6, none⟩ = some (.int .i64 0) := (blk_cell Bz_17.out 6).trans rfl; have fz6 : w17.frozen? ⟨w.heap.size + 1, 6, none⟩ = false := blk_frozen Bz_17.out 6; have dz7 : w17.cell? ⟨w.heap.size + 1, 7, none⟩ = some (.int .i64 0) := (blk_cell Bz_17.out 7).trans rfl; have fz7 : w17.frozen? ⟨w.heap.size + 1, 7, none⟩ = false := blk_frozen Bz_17.out 7; have dz8 : w17.cell? ⟨w.heap.size + 1, 8, none⟩ = some (.int .i64 0) := (blk_cell Bz_17.out 8).trans rfl; have fz8 : w17.frozen? ⟨w.heap.size + 1, 8, none⟩ = false := blk_frozen Bz_17.out 8; have dt0 : w17.cell? ⟨w2.heap.size, 0, none⟩ = some (.int .u64 x1) := (blk_cell Bt_17.out 0).trans rfl; have ft0 : w17.frozen? ⟨w2.heap.size, 0, none⟩ = false := blk_frozen Bt_17.out 0; have dt1 : w17.cell? ⟨w2.heap.size, 1, none⟩ = some (.int .i64 x2) := (blk_cell Bt_17.out 1).trans rfl; have ft1 : w17.frozen? ⟨w2.heap.size, 1, none⟩ = false := blk_frozen Bt_17.out 1; have dt2 : w17.cell? ⟨w2.heap.size, 2, none⟩ = some (.int .i64 x3) := (blk_cell Bt_17.out 2).trans rfl; have ft2 : w17.frozen? ⟨w2.heap.size, 2, none⟩ = false := blk_frozen Bt_17.out 2; have dt3 : w17.cell? ⟨w2.heap.size, 3, none⟩ = some (.int .i64 x4) := (blk_cell Bt_17.out 3).trans rfl; have ft3 : w17.frozen? ⟨w2.heap.size, 3, none⟩ = false := blk_frozen Bt_17.out 3; have dt4 : w17.cell? ⟨w2.heap.size, 4, none⟩ = some (.int .u64 x5) := (blk_cell Bt_17.out 4).trans rfl; have ft4 : w17.frozen? ⟨w2.heap.size, 4, none⟩ = false := blk_frozen Bt_17.out 4; have dt5 : w17.cell? ⟨w2.heap.size, 5, none⟩ = some (.int .i64 x6) := (blk_cell Bt_17.out 5).trans rfl; have ft5 : w17.frozen? ⟨w2.heap.size, 5, none⟩ = false := blk_frozen Bt_17.out 5; have dt6 : w17.cell? ⟨w2.heap.size, 6, none⟩ = some (.int .i64 x7) := (blk_cell Bt_17.out 6).trans rfl; have ft6 : w17.frozen? ⟨w2.heap.size, 6, none⟩ = false := blk_frozen Bt_17.out 6; have dt7 : w17.cell? ⟨w2.heap.size, 7, none⟩ = some (.int .i64 x8) := (blk_cell Bt_17.out 7).trans rfl; have ft7 : w17.frozen? ⟨w2.heap.size, 7, none⟩ = false := blk_frozen Bt_17.out 7; have dt8 : w17.cell? ⟨w2.heap.size, 8, none⟩ = some (.int .i64 x9) := (blk_cell Bt_17.out 8).trans rfl; have ft8 : w17.frozen? ⟨w2.heap.size, 8, none⟩ = false := blk_frozen Bt_17.out 8))
      clear dp0 dz0 fz0 dz1 fz1 dz2 fz2 dz3 fz3 dz4 fz4 dz5 fz5 dz6 fz6 dz7 fz7 dz8 fz8 dt0 ft0 dt1 ft1 dt2 ft2 dt3 ft3 dt4 ft4 dt5 ft5 dt6 ft6 dt7 ft7 dt8 ft8
      have Bz_18 := Aside0.mk (blk_put (cs' := #[.int .u64 0, .int .i64 0, .int .i64 0, .int .i64 0, .int .u64 0, .int .i64 0, .int .i64 0, .int .i64 0, .int .i64 0]) (blk_put (cs' := #[.int .u64 0, .int .i64 0, .int .i64 0, .int .i64 0, .int .u64 0, .int .i64 0, .int .i64 0, .int .i64 0, .int .i64 0]) (blk_put (cs' := #[.int .u64 0, .int .i64 0, .int .i64 0, .int .i64 0, .int .u64 0, .int .i64 0, .int .i64 0, .int .i64 0, .int .i64 0]) (blk_put (cs' := #[.int .u64 0, .int .i64 0, .int .i64 0, .int .i64 0, .int .u64 0, .int .i64 0, .int .i64 0, .int .i64 0, .int .i64 0]) (blk_put (cs' := #[.int .u64 0, .int .i64 0, .int .i64 0, .int .i64 0, .int .u64 0, .int .i64 0, .int .i64 0, .int .i64 0, .int .i64 0]) (blk_put (cs' := #[.int .u64 0, .int .i64 0, .int .i64 0, .int .i64 0, .int .u64 0, .int .i64 0, .int .i64 0, .int .i64 0, .int .i64 0]) (blk_put (cs' := #[.int .u64 0, .int .i64 0, .int .i64 0, .int .i64 0, .int .u64 0, .int .i64 0, .int .i64 0, .int .i64 0, .int .i64 0]) (blk_put (cs' := #[.int .u64 0, .int .i64 0, .int .i64 0, .int .i64 0, .int .u64 0, .int .i64 0, .int .i64 0, .int .i64 0, .int .i64 0]) (blk_put (cs' := #[.int .u64 0, .int .i64 0, .int .i64 0, .int .i64 0, .int .u64 0, .int .i64 0, .int .i64 0, .int .i64 0, .int .i64 0]) Bz_17.out 0 (.int .u64 0) rfl) 1 (.int .i64 0) rfl) 2 (.int .i64 0) rfl) 3 (.int .i64 0) rfl) 4 (.int .u64 0) rfl) 5 (.int .i64 0) rfl) 6 (.int .i64 0) rfl) 7 (.int .i64 0) rfl) 8 (.int .i64 0) rfl)
      have HR_18 := Aside0.mk (RdAt.seti (RdAt.seti (RdAt.seti (RdAt.seti (RdAt.seti (RdAt.seti (RdAt.seti (RdAt.seti (RdAt.seti HR_17.out (b := w.heap.size + 1) 0 (.int .u64 0) (by omega) (by omega)) (b := w.heap.size + 1) 1 (.int .i64 0) (by omega) (by omega)) (b := w.heap.size + 1) 2 (.int .i64 0) (by omega) (by omega)) (b := w.heap.size + 1) 3 (.int .i64 0) (by omega) (by omega)) (b := w.heap.size + 1) 4 (.int .u64 0) (by omega) (by omega)) (b := w.heap.size + 1) 5 (.int .i64 0) (by omega) (by omega)) (b := w.heap.size + 1) 6 (.int .i64 0) (by omega) (by omega)) (b := w.heap.size + 1) 7 (.int .i64 0) (by omega) (by omega)) (b := w.heap.size + 1) 8 (.int .i64 0) (by omega) (by omega))
      have HU_18 := Aside0.mk (Upd.seti (Upd.seti (Upd.seti (Upd.seti (Upd.seti (Upd.seti (Upd.seti (Upd.seti (Upd.seti HU_17.out (b := w.heap.size + 1) (by omega) 0 (.int .u64 0)) (b := w.heap.size + 1) (by omega) 1 (.int .i64 0)) (b := w.heap.size + 1) (by omega) 2 (.int .i64 0)) (b := w.heap.size + 1) (by omega) 3 (.int .i64 0)) (b := w.heap.size + 1) (by omega) 4 (.int .u64 0)) (b := w.heap.size + 1) (by omega) 5 (.int .i64 0)) (b := w.heap.size + 1) (by omega) 6 (.int .i64 0)) (b := w.heap.size + 1) (by omega) 7 (.int .i64 0)) (b := w.heap.size + 1) (by omega) 8 (.int .i64 0))
      have hs_18 : w17.heap.size ≤ (((((((((w17.setCell ⟨w.heap.size + 1, 0, none⟩ (.int .u64 0)).setCell ⟨w.heap.size + 1, 1, none⟩ (.int .i64 0)).setCell ⟨w.heap.size + 1, 2, none⟩ (.int .i64 0)).setCell ⟨w.heap.size + 1, 3, none⟩ (.int .i64 0)).setCell ⟨w.heap.size + 1, 4, none⟩ (.int .u64 0)).setCell ⟨w.heap.size + 1, 5, none⟩ (.int .i64 0)).setCell ⟨w.heap.size + 1, 6, none⟩ (.int .i64 0)).setCell ⟨w.heap.size + 1, 7, none⟩ (.int .i64 0)).setCell ⟨w.heap.size + 1, 8, none⟩ (.int .i64 0)).heap.size := by simp
      have Bp_18 : Aside0 ((((((((((w17.setCell ⟨w.heap.size + 1, 0, none⟩ (.int .u64 0)).setCell ⟨w.heap.size + 1, 1, none⟩ (.int .i64 0)).setCell ⟨w.heap.size + 1, 2, none⟩ (.int .i64 0)).setCell ⟨w.heap.size + 1, 3, none⟩ (.int .i64 0)).setCell ⟨w.heap.size + 1, 4, none⟩ (.int .u64 0)).setCell ⟨w.heap.size + 1, 5, none⟩ (.int .i64 0)).setCell ⟨w.heap.size + 1, 6, none⟩ (.int .i64 0)).setCell ⟨w.heap.size + 1, 7, none⟩ (.int .i64 0)).setCell ⟨w.heap.size + 1, 8, none⟩ (.int .i64 0)).heap[w.heap.size]? = _) := ⟨((Below.heap_setCell _ _ _ _ (by show w.heap.size ≠ w.heap.size + 1; omega)).trans ((Below.heap_setCell _ _ _ _ (by show w.heap.size ≠ w.heap.size + 1; omega)).trans ((Below.heap_setCell _ _ _ _ (by show w.heap.size ≠ w.heap.size + 1; omega)).trans ((Below.heap_setCell _ _ _ _ (by show w.heap.size ≠ w.heap.size + 1; omega)).trans ((Below.heap_setCell _ _ _ _ (by show w.heap.size ≠ w.heap.size + 1; omega)).trans ((Below.heap_setCell _ _ _ _ (by show w.heap.size ≠ w.heap.size + 1; omega)).trans ((Below.heap_setCell _ _ _ _ (by show w.heap.size ≠ w.heap.size + 1; omega)).trans ((Below.heap_setCell _ _ _ _ (by show w.heap.size ≠ w.heap.size + 1; omega)).trans ((Below.heap_setCell _ _ _ _ (by show w.heap.size ≠ w.heap.size + 1; omega)).trans Bp_17.out)))))))))⟩
      have Bt_18 : Aside0 ((((((((((w17.setCell ⟨w.heap.size + 1, 0, none⟩ (.int .u64 0)).setCell ⟨w.heap.size + 1, 1, none⟩ (.int .i64 0)).setCell ⟨w.heap.size + 1, 2, none⟩ (.int .i64 0)).setCell ⟨w.heap.size + 1, 3, none⟩ (.int .i64 0)).setCell ⟨w.heap.size + 1, 4, none⟩ (.int .u64 0)).setCell ⟨w.heap.size + 1, 5, none⟩ (.int .i64 0)).setCell ⟨w.heap.size + 1, 6, none⟩ (.int .i64 0)).setCell ⟨w.heap.size + 1, 7, none⟩ (.int .i64 0)).setCell ⟨w.heap.size + 1, 8, none⟩ (.int .i64 0)).heap[w2.heap.size]? = _) := ⟨((Below.heap_setCell _ _ _ _ (by show w2.heap.size ≠ w.heap.size + 1; omega)).trans ((Below.heap_setCell _ _ _ _ (by show w2.heap.size ≠ w.heap.size + 1; omega)).trans ((Below.heap_setCell _ _ _ _ (by show w2.heap.size ≠ w.heap.size + 1; omega)).trans ((Below.heap_setCell _ _ _ _ (by show w2.heap.size ≠ w.heap.size + 1; omega)).trans ((Below.heap_setCell _ _ _ _ (by show w2.heap.size ≠ w.heap.size + 1; omega)).trans ((Below.heap_setCell _ _ _ _ (by show w2.heap.size ≠ w.heap.size + 1; omega)).trans ((Below.heap_setCell _ _ _ _ (by show w2.heap.size ≠ w.heap.size + 1; omega)).trans ((Below.heap_setCell _ _ _ _ (by show w2.heap.size ≠ w.heap.size + 1; omega)).trans ((Below.heap_setCell _ _ _ _ (by show w2.heap.size ≠ w.heap.size + 1; omega)).trans Bt_17.out)))))))))⟩
      generalize (((((((((w17.setCell ⟨w.heap.size + 1, 0, none⟩ (.int .u64 0)).setCell ⟨w.heap.size + 1, 1, none⟩ (.int .i64 0)).setCell ⟨w.heap.size + 1, 2, none⟩ (.int .i64 0)).setCell ⟨w.heap.size + 1, 3, none⟩ (.int .i64 0)).setCell ⟨w.heap.size + 1, 4, none⟩ (.int .u64 0)).setCell ⟨w.heap.size + 1, 5, none⟩ (.int .i64 0)).setCell ⟨w.heap.size + 1, 6, none⟩ (.int .i64 0)).setCell ⟨w.heap.size + 1, 7, none⟩ (.int .i64 0)).setCell ⟨w.heap.size + 1, 8, none⟩ (.int .i64 0)) = w18 at Bz_18 HR_18 HU_18 hs_18 Bp_18 Bt_18 ⊢
      have dp0 : w18.cell? ⟨w.heap.size, 0, none⟩ = some (.pointer (some ⟨rb, 0, none⟩)) := (blk_cell Bp_18.out 0).trans rfl
      have dz0 : w18.cell? ⟨w.heap.size + 1, 0, none⟩ = some (.int .u64 0) := (blk_cell Bz_18.out 0).trans rfl
      have fz0 : w18.frozen? ⟨w.heap.size + 1, 0, none⟩ = false := blk_frozen Bz_18.out 0
      have dz1 : w18.cell? ⟨w.heap.size + 1, 1, none⟩ = some (.int .i64 0) := (blk_cell Bz_18.out 1).trans rfl
      have fz1 : w18.frozen? ⟨w.heap.size + 1, 1, none⟩ = false := blk_frozen Bz_18.out 1
      have dz2 : w18.cell? ⟨w.heap.size + 1, 2, none⟩ = some (.int .i64 0) := (blk_cell Bz_18.out 2).trans rfl
      have fz2 : w18.frozen? ⟨w.heap.size + 1, 2, none⟩ = false := blk_frozen Bz_18.out 2
      have dz3 : w18.cell? ⟨w.heap.size + 1, 3, none⟩ = some (.int .i64 0) := (blk_cell Bz_18.out 3).trans rfl
      have fz3 : w18.frozen? ⟨w.heap.size + 1, 3, none⟩ = false := blk_frozen Bz_18.out 3
      have dz4 : w18.cell? ⟨w.heap.size + 1, 4, none⟩ = some (.int .u64 0) := (blk_cell Bz_18.out 4).trans rfl
      have fz4 : w18.frozen? ⟨w.heap.size + 1, 4, none⟩ = false := blk_frozen Bz_18.out 4
      have dz5 : w18.cell? ⟨w.heap.size + 1, 5, none⟩ = some (.int .i64 0) := (blk_cell Bz_18.out 5).trans rfl
      have fz5 : w18.frozen? ⟨w.heap.size + 1, 5, none⟩ = false := blk_frozen Bz_18.out 5
      have dz6 : w18.cell? ⟨w.heap.size + 1, 6, none⟩ = some (.int .i64 0) := (blk_cell Bz_18.out 6).trans rfl
      have fz6 : w18.frozen? ⟨w.heap.size + 1, 6, none⟩ = false := blk_frozen Bz_18.out 6
      have dz7 : w18.cell? ⟨w.heap.size + 1, 7, none⟩ = some (.int .i64 0) := (blk_cell Bz_18.out 7).trans rfl
      have fz7 : w18.frozen? ⟨w.heap.size + 1, 7, none⟩ = false := blk_frozen Bz_18.out 7
      have dz8 : w18.cell? ⟨w.heap.size + 1, 8, none⟩ = some (.int .i64 0) := (blk_cell Bz_18.out 8).trans rfl
      have fz8 : w18.frozen? ⟨w.heap.size + 1, 8, none⟩ = false := blk_frozen Bz_18.out 8
      have dt0 : w18.cell? ⟨w2.heap.size, 0, none⟩ = some (.int .u64 x1) := (blk_cell Bt_18.out 0).trans rfl
      have ft0 : w18.frozen? ⟨w2.heap.size, 0, none⟩ = false := blk_frozen Bt_18.out 0
      have dt1 : w18.cell? ⟨w2.heap.size, 1, none⟩ = some (.int .i64 x2) := (blk_cell Bt_18.out 1).trans rfl
      have ft1 : w18.frozen? ⟨w2.heap.size, 1, none⟩ = false := blk_frozen Bt_18.out 1
      have dt2 : w18.cell? ⟨w2.heap.size, 2, none⟩ = some (.int .i64 x3) := (blk_cell Bt_18.out 2).trans rfl
      have ft2 : w18.frozen? ⟨w2.heap.size, 2, none⟩ = false := blk_frozen Bt_18.out 2
      have dt3 : w18.cell? ⟨w2.heap.size, 3, none⟩ = some (.int .i64 x4) := (blk_cell Bt_18.out 3).trans rfl
      have ft3 : w18.frozen? ⟨w2.heap.size, 3, none⟩ = false := blk_frozen Bt_18.out 3
      have dt4 : w18.cell? ⟨w2.heap.size, 4, none⟩ = some (.int .u64 x5) := (blk_cell Bt_18.out 4).trans rfl
      have ft4 : w18.frozen? ⟨w2.heap.size, 4, none⟩ = false := blk_frozen Bt_18.out 4
      have dt5 : w18.cell? ⟨w2.heap.size, 5, none⟩ = some (.int .i64 x6) := (blk_cell Bt_18.out 5).trans rfl
      have ft5 : w18.frozen? ⟨w2.heap.size, 5, none⟩ = false := blk_frozen Bt_18.out 5
      have dt6 : w18.cell? ⟨w2.heap.size, 6, none⟩ = some (.int .i64 x7) := (blk_cell Bt_18.out 6).trans rfl
      have ft6 : w18.frozen? ⟨w2.heap.size, 6, none⟩ = false := blk_frozen Bt_18.out 6
      have dt7 : w18.cell? ⟨w2.heap.size, 7, none⟩ = some (.int .i64 x8) := (blk_cell Bt_18.out 7).trans rfl
      have ft7 : w18.frozen? ⟨w2.heap.size, 7, none⟩ = false := blk_frozen Bt_18.out 7
      have dt8 : w18.cell? ⟨w2.heap.size, 8, none⟩ = some (.int .i64 x9) := (blk_cell Bt_18.out 8).trans rfl
      have ft8 : w18.frozen? ⟨w2.heap.size, 8, none⟩ = false := blk_frozen Bt_18.out 8
      refine bodyPost_ret (v := .tuple #[.agg #[.int .u64 0, .int .i64 0, .int .i64 0, .int .i64 0, .int .u64 0, .int .i64 0, .int .i64 0, .int .i64 0, .int .i64 0], .bool false]) (by simp [results, Try.results12, go_sem, dz0, dz1, dz2, dz3, dz4, dz5, dz6, dz7, dz8]) rfl (HP1.out (.inr HS.out) _ HR_18.out HU_18.out)
    | true =>
      have HS := Aside0.mk hs
      clear hs
      go_wp2_with (first | (go_at_call 18; refine (rbad_any w15 HR_15.out).mono ?_; rintro e wx ⟨rfl, rfl⟩) | (go_at_call 9; with_reducible refine (tksound_any ⟨x1, x2, x3, x4, x5, x6, x7, x8, x9⟩ w15 HTK.out).mono ?_; rintro e w16 ⟨rfl, q1⟩; rw [HS.out]; clear dp0 dz0 fz0 dz1 fz1 dz2 fz2 dz3 fz3 dz4 fz4 dz5 fz5 dz6 fz6 dz7 fz7 dz8 fz8 dt0 ft0 dt1 ft1 dt2 ft2 dt3 ft3 dt4 ft4 dt5 ft5 dt6 ft6 dt7 ft7 dt8 ft8; have HR_16 := Aside0.mk (HR_15.out.below q1); have HU_16 := Aside0.mk (HU_15.out.then q1); have hs_16 : w15.heap.size ≤ w16.heap.size := q1.size; have Bp_16 := Aside0.mk (blk_below Bp_15.out q1); have Bz_16 := Aside0.mk (blk_below Bz_15.out q1); have Bt_16 := Aside0.mk (blk_below Bt_15.out q1); clear q1; have dp0 : w16.cell? ⟨w.heap.size, 0, none⟩ = some (.pointer (some ⟨rb, 0, none⟩)) := (blk_cell Bp_16.out 0).trans rfl; have dz0 : w16.cell? ⟨w.heap.size + 1, 0, none⟩ = some (.int .u64 0) := (blk_cell Bz_16.out 0).trans rfl; have fz0 : w16.frozen? ⟨w.heap.size + 1, 0, none⟩ = false := blk_frozen Bz_16.out 0; have dz1 : w16.cell? ⟨w.heap.size + 1, 1, none⟩ = some (.int .i64 0) := (blk_cell Bz_16.out 1).trans rfl; have fz1 : w16.frozen? ⟨w.heap.size + 1, 1, none⟩ = false := blk_frozen Bz_16.out 1; have dz2 : w16.cell? ⟨w.heap.size + 1, 2, none⟩ = some (.int .i64 0) := (blk_cell Bz_16.out 2).trans rfl; have fz2 : w16.frozen? ⟨w.heap.size + 1, 2, none⟩ = false := blk_frozen Bz_16.out 2; have dz3 : w16.cell? ⟨w.heap.size + 1, 3, none⟩ = some (.int .i64 0) := (blk_cell Bz_16.out 3).trans rfl; have fz3 : w16.frozen? ⟨w.heap.size + 1, 3, none⟩ = false := blk_frozen Bz_16.out 3; have dz4 : w16.cell? ⟨w.heap.size + 1, 4, none⟩ = some (.int .u64 0) := (blk_cell Bz_16.out 4).trans rfl; have fz4 : w16.frozen? ⟨w.heap.size + 1, 4, none⟩ = false := blk_frozen Bz_16.out 4; have dz5 : w16.cell? ⟨w.heap.size + 1, 5, none⟩ = some (.int .i64 0) := (blk_cell Bz_16.out 5).trans rfl; have fz5 : w16.frozen? ⟨w.heap.size + 1, 5, none⟩ = false := blk_frozen Bz_16.out 5; have dz6 : w16.cell? ⟨w.heap.size + 1, 6, none⟩ = some (.int .i64 0) := (blk_cell Bz_16.out 6).trans rfl; have fz6 : w16.frozen? ⟨w.heap.size + 1, 6, none⟩ = false := blk_frozen Bz_16.out 6; have dz7 : w16.cell? ⟨w.heap.size + 1, 7, none⟩ = some (.int .i64 0) := (blk_cell Bz_16.out 7).trans rfl; have fz7 : w16.frozen? ⟨w.heap.size + 1, 7, none⟩ = false := blk_frozen Bz_16.out 7; have dz8 : w16.cell? ⟨w.heap.size + 1, 8, none⟩ = some (.int .i64 0) := (blk_cell Bz_16.out 8).trans rfl; have fz8 : w16.frozen? ⟨w.heap.size + 1, 8, none⟩ = false := blk_frozen Bz_16.out 8; have dt0 : w16.cell? ⟨w2.heap.size, 0, none⟩ = some (.int .u64 x1) := (blk_cell Bt_16.out 0).trans rfl; have ft0 : w16.frozen? ⟨w2.heap.size, 0, none⟩ = false := blk_frozen Bt_16.out 0; have dt1 : w16.cell? ⟨w2.heap.size, 1, none⟩ = some (.int .i64 x2) := (blk_cell Bt_16.out 1).trans rfl; have ft1 : w16.frozen? ⟨w2.heap.size, 1, none⟩ = false := blk_frozen Bt_16.out 1; have dt2 : w16.cell? ⟨w2.heap.size, 2, none⟩ = some (.int .i64 x3) := (blk_cell Bt_16.out 2).trans rfl; have ft2 : w16.frozen? ⟨w2.heap.size, 2, none⟩ = false := blk_frozen Bt_16.out 2; have dt3 : w16.cell? ⟨w2.heap.size, 3, none⟩ = some (.int .i64 x4) := (blk_cell Bt_16.out 3).trans rfl; have ft3 : w16.frozen? ⟨w2.heap.size, 3, none⟩ = false := blk_frozen Bt_16.out 3; have dt4 : w16.cell? ⟨w2.heap.size, 4, none⟩ = some (.int .u64 x5) := (blk_cell Bt_16.out 4).trans rfl; have ft4 : w16.frozen? ⟨w2.heap.size, 4, none⟩ = false := blk_frozen Bt_16.out 4; have dt5 : w16.cell? ⟨w2.heap.size, 5, none⟩ = some (.int .i64 x6) := (blk_cell Bt_16.out 5).trans rfl; have ft5 : w16.frozen? ⟨w2.heap.size, 5, none⟩ = false := blk_frozen Bt_16.out 5; have dt6 : w16.cell? ⟨w2.heap.size, 6, none⟩ = some (.int .i64 x7) := (blk_cell Bt_16.out 6).trans rfl; have ft6 : w16.frozen? ⟨w2.heap.size, 6, none⟩ = false := blk_frozen Bt_16.out 6; have dt7 : w16.cell? ⟨w2.heap.size, 7, none⟩ = some (.int .i64 x8) := (blk_cell Bt_16.out 7).trans rfl; have ft7 : w16.frozen? ⟨w2.heap.size, 7, none⟩ = false := blk_frozen Bt_16.out 7; have dt8 : w16.cell? ⟨w2.heap.size, 8, none⟩ = some (.int .i64 x9) := (blk_cell Bt_16.out 8).trans rfl; have ft8 : w16.frozen? ⟨w2.heap.size, 8, none⟩ = false := blk_frozen Bt_16.out 8))
      clear dp0 dz0 fz0 dz1 fz1 dz2 fz2 dz3 fz3 dz4 fz4 dz5 fz5 dz6 fz6 dz7 fz7 dz8 fz8 dt0 ft0 dt1 ft1 dt2 ft2 dt3 ft3 dt4 ft4 dt5 ft5 dt6 ft6 dt7 ft7 dt8 ft8
      have Bz_17 := Aside0.mk (blk_put (cs' := #[.int .u64 x1, .int .i64 x2, .int .i64 x3, .int .i64 x4, .int .u64 x5, .int .i64 x6, .int .i64 x7, .int .i64 x8, .int .i64 x9]) (blk_put (cs' := #[.int .u64 x1, .int .i64 x2, .int .i64 x3, .int .i64 x4, .int .u64 x5, .int .i64 x6, .int .i64 x7, .int .i64 x8, .int .i64 0]) (blk_put (cs' := #[.int .u64 x1, .int .i64 x2, .int .i64 x3, .int .i64 x4, .int .u64 x5, .int .i64 x6, .int .i64 x7, .int .i64 0, .int .i64 0]) (blk_put (cs' := #[.int .u64 x1, .int .i64 x2, .int .i64 x3, .int .i64 x4, .int .u64 x5, .int .i64 x6, .int .i64 0, .int .i64 0, .int .i64 0]) (blk_put (cs' := #[.int .u64 x1, .int .i64 x2, .int .i64 x3, .int .i64 x4, .int .u64 x5, .int .i64 0, .int .i64 0, .int .i64 0, .int .i64 0]) (blk_put (cs' := #[.int .u64 x1, .int .i64 x2, .int .i64 x3, .int .i64 x4, .int .u64 0, .int .i64 0, .int .i64 0, .int .i64 0, .int .i64 0]) (blk_put (cs' := #[.int .u64 x1, .int .i64 x2, .int .i64 x3, .int .i64 0, .int .u64 0, .int .i64 0, .int .i64 0, .int .i64 0, .int .i64 0]) (blk_put (cs' := #[.int .u64 x1, .int .i64 x2, .int .i64 0, .int .i64 0, .int .u64 0, .int .i64 0, .int .i64 0, .int .i64 0, .int .i64 0]) (blk_put (cs' := #[.int .u64 x1, .int .i64 0, .int .i64 0, .int .i64 0, .int .u64 0, .int .i64 0, .int .i64 0, .int .i64 0, .int .i64 0]) Bz_16.out 0 (.int .u64 x1) rfl) 1 (.int .i64 x2) rfl) 2 (.int .i64 x3) rfl) 3 (.int .i64 x4) rfl) 4 (.int .u64 x5) rfl) 5 (.int .i64 x6) rfl) 6 (.int .i64 x7) rfl) 7 (.int .i64 x8) rfl) 8 (.int .i64 x9) rfl)
      have HR_17 := Aside0.mk (RdAt.seti (RdAt.seti (RdAt.seti (RdAt.seti (RdAt.seti (RdAt.seti (RdAt.seti (RdAt.seti (RdAt.seti HR_16.out (b := w.heap.size + 1) 0 (.int .u64 x1) (by omega) (by omega)) (b := w.heap.size + 1) 1 (.int .i64 x2) (by omega) (by omega)) (b := w.heap.size + 1) 2 (.int .i64 x3) (by omega) (by omega)) (b := w.heap.size + 1) 3 (.int .i64 x4) (by omega) (by omega)) (b := w.heap.size + 1) 4 (.int .u64 x5) (by omega) (by omega)) (b := w.heap.size + 1) 5 (.int .i64 x6) (by omega) (by omega)) (b := w.heap.size + 1) 6 (.int .i64 x7) (by omega) (by omega)) (b := w.heap.size + 1) 7 (.int .i64 x8) (by omega) (by omega)) (b := w.heap.size + 1) 8 (.int .i64 x9) (by omega) (by omega))
      have HU_17 := Aside0.mk (Upd.seti (Upd.seti (Upd.seti (Upd.seti (Upd.seti (Upd.seti (Upd.seti (Upd.seti (Upd.seti HU_16.out (b := w.heap.size + 1) (by omega) 0 (.int .u64 x1)) (b := w.heap.size + 1) (by omega) 1 (.int .i64 x2)) (b := w.heap.size + 1) (by omega) 2 (.int .i64 x3)) (b := w.heap.size + 1) (by omega) 3 (.int .i64 x4)) (b := w.heap.size + 1) (by omega) 4 (.int .u64 x5)) (b := w.heap.size + 1) (by omega) 5 (.int .i64 x6)) (b := w.heap.size + 1) (by omega) 6 (.int .i64 x7)) (b := w.heap.size + 1) (by omega) 7 (.int .i64 x8)) (b := w.heap.size + 1) (by omega) 8 (.int .i64 x9))
      have hs_17 : w16.heap.size ≤ (((((((((w16.setCell ⟨w.heap.size + 1, 0, none⟩ (.int .u64 x1)).setCell ⟨w.heap.size + 1, 1, none⟩ (.int .i64 x2)).setCell ⟨w.heap.size + 1, 2, none⟩ (.int .i64 x3)).setCell ⟨w.heap.size + 1, 3, none⟩ (.int .i64 x4)).setCell ⟨w.heap.size + 1, 4, none⟩ (.int .u64 x5)).setCell ⟨w.heap.size + 1, 5, none⟩ (.int .i64 x6)).setCell ⟨w.heap.size + 1, 6, none⟩ (.int .i64 x7)).setCell ⟨w.heap.size + 1, 7, none⟩ (.int .i64 x8)).setCell ⟨w.heap.size + 1, 8, none⟩ (.int .i64 x9)).heap.size := by simp
      have Bp_17 : Aside0 ((((((((((w16.setCell ⟨w.heap.size + 1, 0, none⟩ (.int .u64 x1)).setCell ⟨w.heap.size + 1, 1, none⟩ (.int .i64 x2)).setCell ⟨w.heap.size + 1, 2, none⟩ (.int .i64 x3)).setCell ⟨w.heap.size + 1, 3, none⟩ (.int .i64 x4)).setCell ⟨w.heap.size + 1, 4, none⟩ (.int .u64 x5)).setCell ⟨w.heap.size + 1, 5, none⟩ (.int .i64 x6)).setCell ⟨w.heap.size + 1, 6, none⟩ (.int .i64 x7)).setCell ⟨w.heap.size + 1, 7, none⟩ (.int .i64 x8)).setCell ⟨w.heap.size + 1, 8, none⟩ (.int .i64 x9)).heap[w.heap.size]? = _) := ⟨((Below.heap_setCell _ _ _ _ (by show w.heap.size ≠ w.heap.size + 1; omega)).trans ((Below.heap_setCell _ _ _ _ (by show w.heap.size ≠ w.heap.size + 1; omega)).trans ((Below.heap_setCell _ _ _ _ (by show w.heap.size ≠ w.heap.size + 1; omega)).trans ((Below.heap_setCell _ _ _ _ (by show w.heap.size ≠ w.heap.size + 1; omega)).trans ((Below.heap_setCell _ _ _ _ (by show w.heap.size ≠ w.heap.size + 1; omega)).trans ((Below.heap_setCell _ _ _ _ (by show w.heap.size ≠ w.heap.size + 1; omega)).trans ((Below.heap_setCell _ _ _ _ (by show w.heap.size ≠ w.heap.size + 1; omega)).trans ((Below.heap_setCell _ _ _ _ (by show w.heap.size ≠ w.heap.size + 1; omega)).trans ((Below.heap_setCell _ _ _ _ (by show w.heap.size ≠ w.heap.size + 1; omega)).trans Bp_16.out)))))))))⟩
      have Bt_17 : Aside0 ((((((((((w16.setCell ⟨w.heap.size + 1, 0, none⟩ (.int .u64 x1)).setCell ⟨w.heap.size + 1, 1, none⟩ (.int .i64 x2)).setCell ⟨w.heap.size + 1, 2, none⟩ (.int .i64 x3)).setCell ⟨w.heap.size + 1, 3, none⟩ (.int .i64 x4)).setCell ⟨w.heap.size + 1, 4, none⟩ (.int .u64 x5)).setCell ⟨w.heap.size + 1, 5, none⟩ (.int .i64 x6)).setCell ⟨w.heap.size + 1, 6, none⟩ (.int .i64 x7)).setCell ⟨w.heap.size + 1, 7, none⟩ (.int .i64 x8)).setCell ⟨w.heap.size + 1, 8, none⟩ (.int .i64 x9)).heap[w2.heap.size]? = _) := ⟨((Below.heap_setCell _ _ _ _ (by show w2.heap.size ≠ w.heap.size + 1; omega)).trans ((Below.heap_setCell _ _ _ _ (by show w2.heap.size ≠ w.heap.size + 1; omega)).trans ((Below.heap_setCell _ _ _ _ (by show w2.heap.size ≠ w.heap.size + 1; omega)).trans ((Below.heap_setCell _ _ _ _ (by show w2.heap.size ≠ w.heap.size + 1; omega)).trans ((Below.heap_setCell _ _ _ _ (by show w2.heap.size ≠ w.heap.size + 1; omega)).trans ((Below.heap_setCell _ _ _ _ (by show w2.heap.size ≠ w.heap.size + 1; omega)).trans ((Below.heap_setCell _ _ _ _ (by show w2.heap.size ≠ w.heap.size + 1; omega)).trans ((Below.heap_setCell _ _ _ _ (by show w2.heap.size ≠ w.heap.size + 1; omega)).trans ((Below.heap_setCell _ _ _ _ (by show w2.heap.size ≠ w.heap.size + 1; omega)).trans Bt_16.out)))))))))⟩
      generalize (((((((((w16.setCell ⟨w.heap.size + 1, 0, none⟩ (.int .u64 x1)).setCell ⟨w.heap.size + 1, 1, none⟩ (.int .i64 x2)).setCell ⟨w.heap.size + 1, 2, none⟩ (.int .i64 x3)).setCell ⟨w.heap.size + 1, 3, none⟩ (.int .i64 x4)).setCell ⟨w.heap.size + 1, 4, none⟩ (.int .u64 x5)).setCell ⟨w.heap.size + 1, 5, none⟩ (.int .i64 x6)).setCell ⟨w.heap.size + 1, 6, none⟩ (.int .i64 x7)).setCell ⟨w.heap.size + 1, 7, none⟩ (.int .i64 x8)).setCell ⟨w.heap.size + 1, 8, none⟩ (.int .i64 x9)) = w17 at Bz_17 HR_17 HU_17 hs_17 Bp_17 Bt_17 ⊢
      have dp0 : w17.cell? ⟨w.heap.size, 0, none⟩ = some (.pointer (some ⟨rb, 0, none⟩)) := (blk_cell Bp_17.out 0).trans rfl
      have dz0 : w17.cell? ⟨w.heap.size + 1, 0, none⟩ = some (.int .u64 x1) := (blk_cell Bz_17.out 0).trans rfl
      have fz0 : w17.frozen? ⟨w.heap.size + 1, 0, none⟩ = false := blk_frozen Bz_17.out 0
      have dz1 : w17.cell? ⟨w.heap.size + 1, 1, none⟩ = some (.int .i64 x2) := (blk_cell Bz_17.out 1).trans rfl
      have fz1 : w17.frozen? ⟨w.heap.size + 1, 1, none⟩ = false := blk_frozen Bz_17.out 1
      have dz2 : w17.cell? ⟨w.heap.size + 1, 2, none⟩ = some (.int .i64 x3) := (blk_cell Bz_17.out 2).trans rfl
      have fz2 : w17.frozen? ⟨w.heap.size + 1, 2, none⟩ = false := blk_frozen Bz_17.out 2
      have dz3 : w17.cell? ⟨w.heap.size + 1, 3, none⟩ = some (.int .i64 x4) := (blk_cell Bz_17.out 3).trans rfl
      have fz3 : w17.frozen? ⟨w.heap.size + 1, 3, none⟩ = false := blk_frozen Bz_17.out 3
      have dz4 : w17.cell? ⟨w.heap.size + 1, 4, none⟩ = some (.int .u64 x5) := (blk_cell Bz_17.out 4).trans rfl
      have fz4 : w17.frozen? ⟨w.heap.size + 1, 4, none⟩ = false := blk_frozen Bz_17.out 4
      have dz5 : w17.cell? ⟨w.heap.size + 1, 5, none⟩ = some (.int .i64 x6) := (blk_cell Bz_17.out 5).trans rfl
      have fz5 : w17.frozen? ⟨w.heap.size + 1, 5, none⟩ = false := blk_frozen Bz_17.out 5
      have dz6 : w17.cell? ⟨w.heap.size + 1, 6, none⟩ = some (.int .i64 x7) := (blk_cell Bz_17.out 6).trans rfl
      have fz6 : w17.frozen? ⟨w.heap.size + 1, 6, none⟩ = false := blk_frozen Bz_17.out 6
      have dz7 : w17.cell? ⟨w.heap.size + 1, 7, none⟩ = some (.int .i64 x8) := (blk_cell Bz_17.out 7).trans rfl
      have fz7 : w17.frozen? ⟨w.heap.size + 1, 7, none⟩ = false := blk_frozen Bz_17.out 7
      have dz8 : w17.cell? ⟨w.heap.size + 1, 8, none⟩ = some (.int .i64 x9) := (blk_cell Bz_17.out 8).trans rfl
      have fz8 : w17.frozen? ⟨w.heap.size + 1, 8, none⟩ = false := blk_frozen Bz_17.out 8
      have dt0 : w17.cell? ⟨w2.heap.size, 0, none⟩ = some (.int .u64 x1) := (blk_cell Bt_17.out 0).trans rfl
      have ft0 : w17.frozen? ⟨w2.heap.size, 0, none⟩ = false := blk_frozen Bt_17.out 0
      have dt1 : w17.cell? ⟨w2.heap.size, 1, none⟩ = some (.int .i64 x2) := (blk_cell Bt_17.out 1).trans rfl
      have ft1 : w17.frozen? ⟨w2.heap.size, 1, none⟩ = false := blk_frozen Bt_17.out 1
      have dt2 : w17.cell? ⟨w2.heap.size, 2, none⟩ = some (.int .i64 x3) := (blk_cell Bt_17.out 2).trans rfl
      have ft2 : w17.frozen? ⟨w2.heap.size, 2, none⟩ = false := blk_frozen Bt_17.out 2
      have dt3 : w17.cell? ⟨w2.heap.size, 3, none⟩ = some (.int .i64 x4) := (blk_cell Bt_17.out 3).trans rfl
      have ft3 : w17.frozen? ⟨w2.heap.size, 3, none⟩ = false := blk_frozen Bt_17.out 3
      have dt4 : w17.cell? ⟨w2.heap.size, 4, none⟩ = some (.int .u64 x5) := (blk_cell Bt_17.out 4).trans rfl
      have ft4 : w17.frozen? ⟨w2.heap.size, 4, none⟩ = false := blk_frozen Bt_17.out 4
      have dt5 : w17.cell? ⟨w2.heap.size, 5, none⟩ = some (.int .i64 x6) := (blk_cell Bt_17.out 5).trans rfl
      have ft5 : w17.frozen? ⟨w2.heap.size, 5, none⟩ = false := blk_frozen Bt_17.out 5
      have dt6 : w17.cell? ⟨w2.heap.size, 6, none⟩ = some (.int .i64 x7) := (blk_cell Bt_17.out 6).trans rfl
      have ft6 : w17.frozen? ⟨w2.heap.size, 6, none⟩ = false := blk_frozen Bt_17.out 6
      have dt7 : w17.cell? ⟨w2.heap.size, 7, none⟩ = some (.int .i64 x8) := (blk_cell Bt_17.out 7).trans rfl
      have ft7 : w17.frozen? ⟨w2.heap.size, 7, none⟩ = false := blk_frozen Bt_17.out 7
      have dt8 : w17.cell? ⟨w2.heap.size, 8, none⟩ = some (.int .i64 x9) := (blk_cell Bt_17.out 8).trans rfl
      have ft8 : w17.frozen? ⟨w2.heap.size, 8, none⟩ = false := blk_frozen Bt_17.out 8
      refine bodyPost_ret (v := .tuple #[.agg #[.int .u64 x1, .int .i64 x2, .int .i64 x3, .int .i64 x4, .int .u64 x5, .int .i64 x6, .int .i64 x7, .int .i64 x8, .int .i64 x9], .bool true]) (by simp [results, Try.results12, go_sem, dz0, dz1, dz2, dz3, dz4, dz5, dz6, dz7, dz8]) rfl (HP2.out (by first | rfl | trivial) HS.out _ HR_17.out HU_17.out)
end Go.Proofs.Ytepldlnmeenlbaa.Own
namespace Go.Proofs.Ytepldlnmeenlbaa.Own
open Go.RowKit Go.Proofs Go.Proofs.YtepldlnmeenlbaaW.PrintWords Go.Proofs.YtepldlnmeenlbaaW.PrintLast Go.Proofs.YtepldlnmeenlbaaW.PrintMore Go.Proofs.Ytepldlnmeenlbaa.Base
theorem ite_ok {α : Type} {r : α} {c : Prop} [Decidable c] {a b : α} (h1 : c → a = r) (h2 : ¬ c → b = r) : (if c then a else b) = r := by
  by_cases h : c
  · rw [if_pos h]; exact h1 h
  · rw [if_neg h]; exact h2 h
set_option maxHeartbeats 4000000 in
theorem tkref_eq (id co st lv gn fr lf du tl : Int) : curfewref16_Sound.f 5 id co st lv gn fr lf du tl = some (tkB ⟨id, co, st, lv, gn, fr, lf, du, tl⟩) := by
  unfold curfewref16_Sound.f
  simp only [curfewref16_Sound.j0, if_true, decide_eq_true_eq, ge_iff_le, gt_iff_lt]
  repeat' (refine ite_ok (fun _ => ?_) (fun _ => ?_))
  all_goals first
    | (rw [tk_no (by unfold tkS; simp only; omega)]; done)
    | (rw [wrap_id (by omega) (by omega)]; by_cases hx : lf ≤ du - fr
       · rw [tk_yes (by unfold tkS; simp only; omega), decide_eq_true hx]
       · rw [tk_no (by unfold tkS; simp only; omega), decide_eq_false hx])
    | (by_cases hx : fr ≤ 1125899906842624
       · rw [tk_yes (by unfold tkS; simp only; omega), decide_eq_true hx]
       · rw [tk_no (by unfold tkS; simp only; omega), decide_eq_false hx])
    | (by_cases hx : du = 0
       · rw [tk_yes (by unfold tkS; simp only; omega), beq_iff_eq.2 hx]
       · rw [tk_no (by unfold tkS; simp only; omega), beq_eq_false_iff_ne.2 hx])
theorem tkref_any (t : Tk) (w : World) : Calls Try.prog 10 #[.agg #[.int .u64 t.id, .int .i64 t.co, .int .i64 t.st, .int .i64 t.lv, .int .u64 t.gn, .int .i64 t.fr, .int .i64 t.lf, .int .i64 t.du, .int .i64 t.tl]] w fun e w' => e = .returned (.bool (tkB t)) ∧ Below w.heap.size w w' :=
  curfewref16_Sound.calls 5 t.id t.co t.st t.lv t.gn t.fr t.lf t.du t.tl _ w (tkref_eq _ _ _ _ _ _ _ _ _)
end Go.Proofs.Ytepldlnmeenlbaa.Own
namespace Go.Proofs.Ytepldlnmeenlbaa.Own
open Go.RowKit Go.Proofs Go.Proofs.YtepldlnmeenlbaaW.PrintWords Go.Proofs.YtepldlnmeenlbaaW.PrintLast Go.Proofs.YtepldlnmeenlbaaW.PrintMore Go.Proofs.Ytepldlnmeenlbaa.Base
variable {t : TypeId} {m rb pb c : Nat} {w w' : World} {A : Option Addr} {s : List Int × Bool}
set_option maxHeartbeats 8000000 in
set_option maxRecDepth 100000 in
theorem tkd_all (x1 x2 x3 x4 x5 x6 x7 x8 x9 : Int) (s1 s2 s3 s4 s5 s6 s7 s8 : List Int × Bool) (l : List Int) (g : Bool) (P : Ending → World → Prop) (w : World) (h : RdAt 40 m w rb s) (e1 : rdNum 18446744073709551615 s = (x1, s1)) (e2 : rdNum 15 s1 = (x2, s2)) (e3 : rdNum 4 s2 = (x3, s3)) (e4 : rdNum 5 s3 = (x4, s4)) (e5 : rdNum 1152921504606846976 s4 = (x5, s5)) (e6 : rdNum 1125899906842624 s5 = (x6, s6)) (e7 : rdNum 1125899906842624 s6 = (x7, s7)) (e8 : rdNum 1125899906842624 s7 = (x8, s8)) (e9 : rdNum 2147483648 s8 = (x9, (l, g))) (htk : TkOk ⟨x1, x2, x3, x4, x5, x6, x7, x8, x9⟩)
    (hP1 : g = true ∨ tkB ⟨x1, x2, x3, x4, x5, x6, x7, x8, x9⟩ = false → ∀ w', RdAt 40 m w' rb ([], true) → Upd rb w w' → P (.returned (.tuple #[.agg #[.int .u64 0, .int .i64 0, .int .i64 0, .int .i64 0, .int .u64 0, .int .i64 0, .int .i64 0, .int .i64 0, .int .i64 0], .bool false])) w')
    (hP2 : g = false → tkB ⟨x1, x2, x3, x4, x5, x6, x7, x8, x9⟩ = true → ∀ w', RdAt 40 m w' rb (l, g) → Upd rb w w' → P (.returned (.tuple #[.agg #[.int .u64 x1, .int .i64 x2, .int .i64 x3, .int .i64 x4, .int .u64 x5, .int .i64 x6, .int .i64 x7, .int .i64 x8, .int .i64 x9], .bool true])) w') :
    Calls Try.prog 16 #[.pointer (some ⟨rb, 0, none⟩)] w P := by
  have HTK := Aside0.mk htk
  have HP1 := Aside0.mk hP1
  have HP2 := Aside0.mk hP2
  clear htk hP1 hP2
  have hb0 := h.byte
  obtain ⟨⟨p1, q1⟩, hb1⟩ := rdNum_range hb0 (by omega) e1
  obtain ⟨⟨p2, q2⟩, hb2⟩ := rdNum_range hb1 (by omega) e2
  obtain ⟨⟨p3, q3⟩, hb3⟩ := rdNum_range hb2 (by omega) e3
  obtain ⟨⟨p4, q4⟩, hb4⟩ := rdNum_range hb3 (by omega) e4
  obtain ⟨⟨p5, q5⟩, hb5⟩ := rdNum_range hb4 (by omega) e5
  obtain ⟨⟨p6, q6⟩, hb6⟩ := rdNum_range hb5 (by omega) e6
  obtain ⟨⟨p7, q7⟩, hb7⟩ := rdNum_range hb6 (by omega) e7
  obtain ⟨⟨p8, q8⟩, hb8⟩ := rdNum_range hb7 (by omega) e8
  obtain ⟨⟨p9, q9⟩, hb9⟩ := rdNum_range hb8 (by omega) e9
  clear hb0 hb1 hb2 hb3 hb4 hb5 hb6 hb7 hb8 hb9
  have E1 := Aside0.mk e1
  have E2 := Aside0.mk e2
  have E3 := Aside0.mk e3
  have E4 := Aside0.mk e4
  have E5 := Aside0.mk e5
  have E6 := Aside0.mk e6
  have E7 := Aside0.mk e7
  have E8 := Aside0.mk e8
  have E9 := Aside0.mk e9
  clear e1 e2 e3 e4 e5 e6 e7 e8 e9
  have hnot : ∀ (x : Bool) (w : World), (Op.unary .not (.bool x)).run Try.prog w = .ok (.bool (!x)) w := fun _ _ => rfl
  have hmf : ∀ (fn : Fn) (first cap : Array Value) (w : World), (Instr.makeFunc fn first cap).run Try.prog w = .ok (.func fn first cap) w := fun _ _ _ _ => rfl
  clear p1 q1 p5 q5
  have HB0 : Below w.heap.size w ((w.alloc (.cells #[.int .u64 0, .int .i64 0, .int .i64 0, .int .i64 0, .int .u64 0, .int .i64 0, .int .i64 0, .int .i64 0, .int .i64 0] 24)).alloc (.cells #[.int .u64 0, .int .i64 0, .int .i64 0, .int .i64 0, .int .u64 0, .int .i64 0, .int .i64 0, .int .i64 0, .int .i64 0] 24)) := (below_alloc (below_alloc (Below.refl w.heap.size w) (.cells #[.int .u64 0, .int .i64 0, .int .i64 0, .int .i64 0, .int .u64 0, .int .i64 0, .int .i64 0, .int .i64 0, .int .i64 0] 24)) (.cells #[.int .u64 0, .int .i64 0, .int .i64 0, .int .i64 0, .int .u64 0, .int .i64 0, .int .i64 0, .int .i64 0, .int .i64 0] 24))
  have HR_1 := Aside0.mk (h.below HB0)
  have HU_1 := Aside0.mk (Upd.of_below (b := rb) HB0)
  have hs_1 : w.heap.size ≤ ((w.alloc (.cells #[.int .u64 0, .int .i64 0, .int .i64 0, .int .i64 0, .int .u64 0, .int .i64 0, .int .i64 0, .int .i64 0, .int .i64 0] 24)).alloc (.cells #[.int .u64 0, .int .i64 0, .int .i64 0, .int .i64 0, .int .u64 0, .int .i64 0, .int .i64 0, .int .i64 0, .int .i64 0] 24)).heap.size := HB0.size
  have Bz_1 : Aside0 (((w.alloc (.cells #[.int .u64 0, .int .i64 0, .int .i64 0, .int .i64 0, .int .u64 0, .int .i64 0, .int .i64 0, .int .i64 0, .int .i64 0] 24)).alloc (.cells #[.int .u64 0, .int .i64 0, .int .i64 0, .int .i64 0, .int .u64 0, .int .i64 0, .int .i64 0, .int .i64 0, .int .i64 0] 24)).heap[w.heap.size]? = some (.cells #[.int .u64 0, .int .i64 0, .int .i64 0, .int .i64 0, .int .u64 0, .int .i64 0, .int .i64 0, .int .i64 0, .int .i64 0] 24 (0, 0))) := ⟨(blk_alloc (blk_new w _) _)⟩
  have Bt_1 : Aside0 (((w.alloc (.cells #[.int .u64 0, .int .i64 0, .int .i64 0, .int .i64 0, .int .u64 0, .int .i64 0, .int .i64 0, .int .i64 0, .int .i64 0] 24)).alloc (.cells #[.int .u64 0, .int .i64 0, .int .i64 0, .int .i64 0, .int .u64 0, .int .i64 0, .int .i64 0, .int .i64 0, .int .i64 0] 24)).heap[w.heap.size + 1]? = some (.cells #[.int .u64 0, .int .i64 0, .int .i64 0, .int .i64 0, .int .u64 0, .int .i64 0, .int .i64 0, .int .i64 0, .int .i64 0] 24 (0, 0))) := ⟨(by simpa using blk_new (w.alloc (.cells #[.int .u64 0, .int .i64 0, .int .i64 0, .int .i64 0, .int .u64 0, .int .i64 0, .int .i64 0, .int .i64 0, .int .i64 0] 24)) (.cells #[.int .u64 0, .int .i64 0, .int .i64 0, .int .i64 0, .int .u64 0, .int .i64 0, .int .i64 0, .int .i64 0, .int .i64 0] 24))⟩
  have hz_1 : w.heap.size + 1 < ((w.alloc (.cells #[.int .u64 0, .int .i64 0, .int .i64 0, .int .i64 0, .int .u64 0, .int .i64 0, .int .i64 0, .int .i64 0, .int .i64 0] 24)).alloc (.cells #[.int .u64 0, .int .i64 0, .int .i64 0, .int .i64 0, .int .u64 0, .int .i64 0, .int .i64 0, .int .i64 0, .int .i64 0] 24)).heap.size := blk_lt Bt_1.out
  have hrb := h.lt
  have hmr := h.mle
  clear h HB0
  go_enter Try.func16, Try.ntmps16
  go_wp2_with fail
  generalize ((w.alloc (.cells #[.int .u64 0, .int .i64 0, .int .i64 0, .int .i64 0, .int .u64 0, .int .i64 0, .int .i64 0, .int .i64 0, .int .i64 0] 24)).alloc (.cells #[.int .u64 0, .int .i64 0, .int .i64 0, .int .i64 0, .int .u64 0, .int .i64 0, .int .i64 0, .int .i64 0, .int .i64 0] 24)) = w1 at HR_1 HU_1 hs_1 Bz_1 Bt_1 hz_1 ⊢
  have dt0 : w1.cell? ⟨w.heap.size + 1, 0, none⟩ = some (.int .u64 0) := (blk_cell Bt_1.out 0).trans rfl
  have ft0 : w1.frozen? ⟨w.heap.size + 1, 0, none⟩ = false := blk_frozen Bt_1.out 0
  go_upto_region 3 with (first | (go_at_call 50; with_reducible refine (dNum_any 18446744073709551615 w1 HR_1.out (by omega) (by omega)).mono ?_; rintro e w2 ⟨rfl, q1, q2⟩; rw [E1.out] at q1; rw [E1.out]; clear dt0 ft0; have HR_2 := Aside0.mk q1; have HU_2 := Aside0.mk (HU_1.out.trans q2); have hs_2 : w1.heap.size ≤ w2.heap.size := q2.size; have Bz_2 := Aside0.mk (q2.blk Bz_1.out (by omega)); have Bt_2 := Aside0.mk (q2.blk Bt_1.out (by omega)); clear q1 q2; have dt0 : w2.cell? ⟨w.heap.size + 1, 0, none⟩ = some (.int .u64 0) := (blk_cell Bt_2.out 0).trans rfl; have ft0 : w2.frozen? ⟨w.heap.size + 1, 0, none⟩ = false := blk_frozen Bt_2.out 0))
  clear dt0 ft0
  have Bt_3 := Aside0.mk (blk_put (cs' := #[.int .u64 x1, .int .i64 0, .int .i64 0, .int .i64 0, .int .u64 0, .int .i64 0, .int .i64 0, .int .i64 0, .int .i64 0]) Bt_2.out 0 (.int .u64 x1) rfl)
  have HR_3 := Aside0.mk (RdAt.seti HR_2.out (b := w.heap.size + 1) 0 (.int .u64 x1) (by omega) (by omega))
  have HU_3 := Aside0.mk (Upd.seti HU_2.out (b := w.heap.size + 1) (by omega) 0 (.int .u64 x1))
  have hs_3 : w2.heap.size ≤ (w2.setCell ⟨w.heap.size + 1, 0, none⟩ (.int .u64 x1)).heap.size := by simp
  have Bz_3 : Aside0 ((w2.setCell ⟨w.heap.size + 1, 0, none⟩ (.int .u64 x1)).heap[w.heap.size]? = _) := ⟨((Below.heap_setCell _ _ _ _ (by show w.heap.size ≠ w.heap.size + 1; omega)).trans Bz_2.out)⟩
  generalize (w2.setCell ⟨w.heap.size + 1, 0, none⟩ (.int .u64 x1)) = w3 at Bt_3 HR_3 HU_3 hs_3 Bz_3 ⊢
  have dt0 : w3.cell? ⟨w.heap.size + 1, 0, none⟩ = some (.int .u64 x1) := (blk_cell Bt_3.out 0).trans rfl
  have ft0 : w3.frozen? ⟨w.heap.size + 1, 0, none⟩ = false := blk_frozen Bt_3.out 0
  clear dt0 ft0
  have dt1 : w3.cell? ⟨w.heap.size + 1, 1, none⟩ = some (.int .i64 0) := (blk_cell Bt_3.out 1).trans rfl
  have ft1 : w3.frozen? ⟨w.heap.size + 1, 1, none⟩ = false := blk_frozen Bt_3.out 1
  go_upto_region 4 with (first | (go_at_call 50; with_reducible refine (dNum_any 15 w3 HR_3.out (by omega) (by omega)).mono ?_; rintro e w4 ⟨rfl, q1, q2⟩; rw [E2.out] at q1; rw [E2.out]; clear dt1 ft1; have HR_4 := Aside0.mk q1; have HU_4 := Aside0.mk (HU_3.out.trans q2); have hs_4 : w3.heap.size ≤ w4.heap.size := q2.size; have Bz_4 := Aside0.mk (q2.blk Bz_3.out (by omega)); have Bt_4 := Aside0.mk (q2.blk Bt_3.out (by omega)); clear q1 q2; have dt1 : w4.cell? ⟨w.heap.size + 1, 1, none⟩ = some (.int .i64 0) := (blk_cell Bt_4.out 1).trans rfl; have ft1 : w4.frozen? ⟨w.heap.size + 1, 1, none⟩ = false := blk_frozen Bt_4.out 1))
  clear dt1 ft1
  have Bt_5 := Aside0.mk (blk_put (cs' := #[.int .u64 x1, .int .i64 x2, .int .i64 0, .int .i64 0, .int .u64 0, .int .i64 0, .int .i64 0, .int .i64 0, .int .i64 0]) Bt_4.out 1 (.int .i64 x2) rfl)
  have HR_5 := Aside0.mk (RdAt.seti HR_4.out (b := w.heap.size + 1) 1 (.int .i64 x2) (by omega) (by omega))
  have HU_5 := Aside0.mk (Upd.seti HU_4.out (b := w.heap.size + 1) (by omega) 1 (.int .i64 x2))
  have hs_5 : w4.heap.size ≤ (w4.setCell ⟨w.heap.size + 1, 1, none⟩ (.int .i64 x2)).heap.size := by simp
  have Bz_5 : Aside0 ((w4.setCell ⟨w.heap.size + 1, 1, none⟩ (.int .i64 x2)).heap[w.heap.size]? = _) := ⟨((Below.heap_setCell _ _ _ _ (by show w.heap.size ≠ w.heap.size + 1; omega)).trans Bz_4.out)⟩
  generalize (w4.setCell ⟨w.heap.size + 1, 1, none⟩ (.int .i64 x2)) = w5 at Bt_5 HR_5 HU_5 hs_5 Bz_5 ⊢
  have dt1 : w5.cell? ⟨w.heap.size + 1, 1, none⟩ = some (.int .i64 x2) := (blk_cell Bt_5.out 1).trans rfl
  have ft1 : w5.frozen? ⟨w.heap.size + 1, 1, none⟩ = false := blk_frozen Bt_5.out 1
  clear dt1 ft1
  have dt2 : w5.cell? ⟨w.heap.size + 1, 2, none⟩ = some (.int .i64 0) := (blk_cell Bt_5.out 2).trans rfl
  have ft2 : w5.frozen? ⟨w.heap.size + 1, 2, none⟩ = false := blk_frozen Bt_5.out 2
  go_upto_region 5 with (first | (go_at_call 50; with_reducible refine (dNum_any 4 w5 HR_5.out (by omega) (by omega)).mono ?_; rintro e w6 ⟨rfl, q1, q2⟩; rw [E3.out] at q1; rw [E3.out]; clear dt2 ft2; have HR_6 := Aside0.mk q1; have HU_6 := Aside0.mk (HU_5.out.trans q2); have hs_6 : w5.heap.size ≤ w6.heap.size := q2.size; have Bz_6 := Aside0.mk (q2.blk Bz_5.out (by omega)); have Bt_6 := Aside0.mk (q2.blk Bt_5.out (by omega)); clear q1 q2; have dt2 : w6.cell? ⟨w.heap.size + 1, 2, none⟩ = some (.int .i64 0) := (blk_cell Bt_6.out 2).trans rfl; have ft2 : w6.frozen? ⟨w.heap.size + 1, 2, none⟩ = false := blk_frozen Bt_6.out 2))
  clear dt2 ft2
  have Bt_7 := Aside0.mk (blk_put (cs' := #[.int .u64 x1, .int .i64 x2, .int .i64 x3, .int .i64 0, .int .u64 0, .int .i64 0, .int .i64 0, .int .i64 0, .int .i64 0]) Bt_6.out 2 (.int .i64 x3) rfl)
  have HR_7 := Aside0.mk (RdAt.seti HR_6.out (b := w.heap.size + 1) 2 (.int .i64 x3) (by omega) (by omega))
  have HU_7 := Aside0.mk (Upd.seti HU_6.out (b := w.heap.size + 1) (by omega) 2 (.int .i64 x3))
  have hs_7 : w6.heap.size ≤ (w6.setCell ⟨w.heap.size + 1, 2, none⟩ (.int .i64 x3)).heap.size := by simp
  have Bz_7 : Aside0 ((w6.setCell ⟨w.heap.size + 1, 2, none⟩ (.int .i64 x3)).heap[w.heap.size]? = _) := ⟨((Below.heap_setCell _ _ _ _ (by show w.heap.size ≠ w.heap.size + 1; omega)).trans Bz_6.out)⟩
  generalize (w6.setCell ⟨w.heap.size + 1, 2, none⟩ (.int .i64 x3)) = w7 at Bt_7 HR_7 HU_7 hs_7 Bz_7 ⊢
  have dt2 : w7.cell? ⟨w.heap.size + 1, 2, none⟩ = some (.int .i64 x3) := (blk_cell Bt_7.out 2).trans rfl
  have ft2 : w7.frozen? ⟨w.heap.size + 1, 2, none⟩ = false := blk_frozen Bt_7.out 2
  clear dt2 ft2
  have dt3 : w7.cell? ⟨w.heap.size + 1, 3, none⟩ = some (.int .i64 0) := (blk_cell Bt_7.out 3).trans rfl
  have ft3 : w7.frozen? ⟨w.heap.size + 1, 3, none⟩ = false := blk_frozen Bt_7.out 3
  go_upto_region 6 with (first | (go_at_call 50; with_reducible refine (dNum_any 5 w7 HR_7.out (by omega) (by omega)).mono ?_; rintro e w8 ⟨rfl, q1, q2⟩; rw [E4.out] at q1; rw [E4.out]; clear dt3 ft3; have HR_8 := Aside0.mk q1; have HU_8 := Aside0.mk (HU_7.out.trans q2); have hs_8 : w7.heap.size ≤ w8.heap.size := q2.size; have Bz_8 := Aside0.mk (q2.blk Bz_7.out (by omega)); have Bt_8 := Aside0.mk (q2.blk Bt_7.out (by omega)); clear q1 q2; have dt3 : w8.cell? ⟨w.heap.size + 1, 3, none⟩ = some (.int .i64 0) := (blk_cell Bt_8.out 3).trans rfl; have ft3 : w8.frozen? ⟨w.heap.size + 1, 3, none⟩ = false := blk_frozen Bt_8.out 3))
  clear dt3 ft3
  have Bt_9 := Aside0.mk (blk_put (cs' := #[.int .u64 x1, .int .i64 x2, .int .i64 x3, .int .i64 x4, .int .u64 0, .int .i64 0, .int .i64 0, .int .i64 0, .int .i64 0]) Bt_8.out 3 (.int .i64 x4) rfl)
  have HR_9 := Aside0.mk (RdAt.seti HR_8.out (b := w.heap.size + 1) 3 (.int .i64 x4) (by omega) (by omega))
  have HU_9 := Aside0.mk (Upd.seti HU_8.out (b := w.heap.size + 1) (by omega) 3 (.int .i64 x4))
  have hs_9 : w8.heap.size ≤ (w8.setCell ⟨w.heap.size + 1, 3, none⟩ (.int .i64 x4)).heap.size := by simp
  have Bz_9 : Aside0 ((w8.setCell ⟨w.heap.size + 1, 3, none⟩ (.int .i64 x4)).heap[w.heap.size]? = _) := ⟨((Below.heap_setCell _ _ _ _ (by show w.heap.size ≠ w.heap.size + 1; omega)).trans Bz_8.out)⟩
  generalize (w8.setCell ⟨w.heap.size + 1, 3, none⟩ (.int .i64 x4)) = w9 at Bt_9 HR_9 HU_9 hs_9 Bz_9 ⊢
  have dt3 : w9.cell? ⟨w.heap.size + 1, 3, none⟩ = some (.int .i64 x4) := (blk_cell Bt_9.out 3).trans rfl
  have ft3 : w9.frozen? ⟨w.heap.size + 1, 3, none⟩ = false := blk_frozen Bt_9.out 3
  clear dt3 ft3
  have dt4 : w9.cell? ⟨w.heap.size + 1, 4, none⟩ = some (.int .u64 0) := (blk_cell Bt_9.out 4).trans rfl
  have ft4 : w9.frozen? ⟨w.heap.size + 1, 4, none⟩ = false := blk_frozen Bt_9.out 4
  go_upto_region 7 with (first | (go_at_call 50; with_reducible refine (dNum_any 1152921504606846976 w9 HR_9.out (by omega) (by omega)).mono ?_; rintro e w10 ⟨rfl, q1, q2⟩; rw [E5.out] at q1; rw [E5.out]; clear dt4 ft4; have HR_10 := Aside0.mk q1; have HU_10 := Aside0.mk (HU_9.out.trans q2); have hs_10 : w9.heap.size ≤ w10.heap.size := q2.size; have Bz_10 := Aside0.mk (q2.blk Bz_9.out (by omega)); have Bt_10 := Aside0.mk (q2.blk Bt_9.out (by omega)); clear q1 q2; have dt4 : w10.cell? ⟨w.heap.size + 1, 4, none⟩ = some (.int .u64 0) := (blk_cell Bt_10.out 4).trans rfl; have ft4 : w10.frozen? ⟨w.heap.size + 1, 4, none⟩ = false := blk_frozen Bt_10.out 4))
  clear dt4 ft4
  have Bt_11 := Aside0.mk (blk_put (cs' := #[.int .u64 x1, .int .i64 x2, .int .i64 x3, .int .i64 x4, .int .u64 x5, .int .i64 0, .int .i64 0, .int .i64 0, .int .i64 0]) Bt_10.out 4 (.int .u64 x5) rfl)
  have HR_11 := Aside0.mk (RdAt.seti HR_10.out (b := w.heap.size + 1) 4 (.int .u64 x5) (by omega) (by omega))
  have HU_11 := Aside0.mk (Upd.seti HU_10.out (b := w.heap.size + 1) (by omega) 4 (.int .u64 x5))
  have hs_11 : w10.heap.size ≤ (w10.setCell ⟨w.heap.size + 1, 4, none⟩ (.int .u64 x5)).heap.size := by simp
  have Bz_11 : Aside0 ((w10.setCell ⟨w.heap.size + 1, 4, none⟩ (.int .u64 x5)).heap[w.heap.size]? = _) := ⟨((Below.heap_setCell _ _ _ _ (by show w.heap.size ≠ w.heap.size + 1; omega)).trans Bz_10.out)⟩
  generalize (w10.setCell ⟨w.heap.size + 1, 4, none⟩ (.int .u64 x5)) = w11 at Bt_11 HR_11 HU_11 hs_11 Bz_11 ⊢
  have dt4 : w11.cell? ⟨w.heap.size + 1, 4, none⟩ = some (.int .u64 x5) := (blk_cell Bt_11.out 4).trans rfl
  have ft4 : w11.frozen? ⟨w.heap.size + 1, 4, none⟩ = false := blk_frozen Bt_11.out 4
  clear dt4 ft4
  have dt5 : w11.cell? ⟨w.heap.size + 1, 5, none⟩ = some (.int .i64 0) := (blk_cell Bt_11.out 5).trans rfl
  have ft5 : w11.frozen? ⟨w.heap.size + 1, 5, none⟩ = false := blk_frozen Bt_11.out 5
  go_upto_region 8 with (first | (go_at_call 50; with_reducible refine (dNum_any 1125899906842624 w11 HR_11.out (by omega) (by omega)).mono ?_; rintro e w12 ⟨rfl, q1, q2⟩; rw [E6.out] at q1; rw [E6.out]; clear dt5 ft5; have HR_12 := Aside0.mk q1; have HU_12 := Aside0.mk (HU_11.out.trans q2); have hs_12 : w11.heap.size ≤ w12.heap.size := q2.size; have Bz_12 := Aside0.mk (q2.blk Bz_11.out (by omega)); have Bt_12 := Aside0.mk (q2.blk Bt_11.out (by omega)); clear q1 q2; have dt5 : w12.cell? ⟨w.heap.size + 1, 5, none⟩ = some (.int .i64 0) := (blk_cell Bt_12.out 5).trans rfl; have ft5 : w12.frozen? ⟨w.heap.size + 1, 5, none⟩ = false := blk_frozen Bt_12.out 5))
  clear dt5 ft5
  have Bt_13 := Aside0.mk (blk_put (cs' := #[.int .u64 x1, .int .i64 x2, .int .i64 x3, .int .i64 x4, .int .u64 x5, .int .i64 x6, .int .i64 0, .int .i64 0, .int .i64 0]) Bt_12.out 5 (.int .i64 x6) rfl)
  have HR_13 := Aside0.mk (RdAt.seti HR_12.out (b := w.heap.size + 1) 5 (.int .i64 x6) (by omega) (by omega))
  have HU_13 := Aside0.mk (Upd.seti HU_12.out (b := w.heap.size + 1) (by omega) 5 (.int .i64 x6))
  have hs_13 : w12.heap.size ≤ (w12.setCell ⟨w.heap.size + 1, 5, none⟩ (.int .i64 x6)).heap.size := by simp
  have Bz_13 : Aside0 ((w12.setCell ⟨w.heap.size + 1, 5, none⟩ (.int .i64 x6)).heap[w.heap.size]? = _) := ⟨((Below.heap_setCell _ _ _ _ (by show w.heap.size ≠ w.heap.size + 1; omega)).trans Bz_12.out)⟩
  generalize (w12.setCell ⟨w.heap.size + 1, 5, none⟩ (.int .i64 x6)) = w13 at Bt_13 HR_13 HU_13 hs_13 Bz_13 ⊢
  have dt5 : w13.cell? ⟨w.heap.size + 1, 5, none⟩ = some (.int .i64 x6) := (blk_cell Bt_13.out 5).trans rfl
  have ft5 : w13.frozen? ⟨w.heap.size + 1, 5, none⟩ = false := blk_frozen Bt_13.out 5
  clear dt5 ft5
  have dt6 : w13.cell? ⟨w.heap.size + 1, 6, none⟩ = some (.int .i64 0) := (blk_cell Bt_13.out 6).trans rfl
  have ft6 : w13.frozen? ⟨w.heap.size + 1, 6, none⟩ = false := blk_frozen Bt_13.out 6
  go_upto_region 9 with (first | (go_at_call 50; with_reducible refine (dNum_any 1125899906842624 w13 HR_13.out (by omega) (by omega)).mono ?_; rintro e w14 ⟨rfl, q1, q2⟩; rw [E7.out] at q1; rw [E7.out]; clear dt6 ft6; have HR_14 := Aside0.mk q1; have HU_14 := Aside0.mk (HU_13.out.trans q2); have hs_14 : w13.heap.size ≤ w14.heap.size := q2.size; have Bz_14 := Aside0.mk (q2.blk Bz_13.out (by omega)); have Bt_14 := Aside0.mk (q2.blk Bt_13.out (by omega)); clear q1 q2; have dt6 : w14.cell? ⟨w.heap.size + 1, 6, none⟩ = some (.int .i64 0) := (blk_cell Bt_14.out 6).trans rfl; have ft6 : w14.frozen? ⟨w.heap.size + 1, 6, none⟩ = false := blk_frozen Bt_14.out 6))
  clear dt6 ft6
  have Bt_15 := Aside0.mk (blk_put (cs' := #[.int .u64 x1, .int .i64 x2, .int .i64 x3, .int .i64 x4, .int .u64 x5, .int .i64 x6, .int .i64 x7, .int .i64 0, .int .i64 0]) Bt_14.out 6 (.int .i64 x7) rfl)
  have HR_15 := Aside0.mk (RdAt.seti HR_14.out (b := w.heap.size + 1) 6 (.int .i64 x7) (by omega) (by omega))
  have HU_15 := Aside0.mk (Upd.seti HU_14.out (b := w.heap.size + 1) (by omega) 6 (.int .i64 x7))
  have hs_15 : w14.heap.size ≤ (w14.setCell ⟨w.heap.size + 1, 6, none⟩ (.int .i64 x7)).heap.size := by simp
  have Bz_15 : Aside0 ((w14.setCell ⟨w.heap.size + 1, 6, none⟩ (.int .i64 x7)).heap[w.heap.size]? = _) := ⟨((Below.heap_setCell _ _ _ _ (by show w.heap.size ≠ w.heap.size + 1; omega)).trans Bz_14.out)⟩
  generalize (w14.setCell ⟨w.heap.size + 1, 6, none⟩ (.int .i64 x7)) = w15 at Bt_15 HR_15 HU_15 hs_15 Bz_15 ⊢
  have dt6 : w15.cell? ⟨w.heap.size + 1, 6, none⟩ = some (.int .i64 x7) := (blk_cell Bt_15.out 6).trans rfl
  have ft6 : w15.frozen? ⟨w.heap.size + 1, 6, none⟩ = false := blk_frozen Bt_15.out 6
  clear dt6 ft6
  have dt7 : w15.cell? ⟨w.heap.size + 1, 7, none⟩ = some (.int .i64 0) := (blk_cell Bt_15.out 7).trans rfl
  have ft7 : w15.frozen? ⟨w.heap.size + 1, 7, none⟩ = false := blk_frozen Bt_15.out 7
  go_upto_region 10 with (first | (go_at_call 50; with_reducible refine (dNum_any 1125899906842624 w15 HR_15.out (by omega) (by omega)).mono ?_; rintro e w16 ⟨rfl, q1, q2⟩; rw [E8.out] at q1; rw [E8.out]; clear dt7 ft7; have HR_16 := Aside0.mk q1; have HU_16 := Aside0.mk (HU_15.out.trans q2); have hs_16 : w15.heap.size ≤ w16.heap.size := q2.size; have Bz_16 := Aside0.mk (q2.blk Bz_15.out (by omega)); have Bt_16 := Aside0.mk (q2.blk Bt_15.out (by omega)); clear q1 q2; have dt7 : w16.cell? ⟨w.heap.size + 1, 7, none⟩ = some (.int .i64 0) := (blk_cell Bt_16.out 7).trans rfl; have ft7 : w16.frozen? ⟨w.heap.size + 1, 7, none⟩ = false := blk_frozen Bt_16.out 7))
  clear dt7 ft7
  have Bt_17 := Aside0.mk (blk_put (cs' := #[.int .u64 x1, .int .i64 x2, .int .i64 x3, .int .i64 x4, .int .u64 x5, .int .i64 x6, .int .i64 x7, .int .i64 x8, .int .i64 0]) Bt_16.out 7 (.int .i64 x8) rfl)
  have HR_17 := Aside0.mk (RdAt.seti HR_16.out (b := w.heap.size + 1) 7 (.int .i64 x8) (by omega) (by omega))
  have HU_17 := Aside0.mk (Upd.seti HU_16.out (b := w.heap.size + 1) (by omega) 7 (.int .i64 x8))
  have hs_17 : w16.heap.size ≤ (w16.setCell ⟨w.heap.size + 1, 7, none⟩ (.int .i64 x8)).heap.size := by simp
  have Bz_17 : Aside0 ((w16.setCell ⟨w.heap.size + 1, 7, none⟩ (.int .i64 x8)).heap[w.heap.size]? = _) := ⟨((Below.heap_setCell _ _ _ _ (by show w.heap.size ≠ w.heap.size + 1; omega)).trans Bz_16.out)⟩
  generalize (w16.setCell ⟨w.heap.size + 1, 7, none⟩ (.int .i64 x8)) = w17 at Bt_17 HR_17 HU_17 hs_17 Bz_17 ⊢
  have dt7 : w17.cell? ⟨w.heap.size + 1, 7, none⟩ = some (.int .i64 x8) := (blk_cell Bt_17.out 7).trans rfl
  have ft7 : w17.frozen? ⟨w.heap.size + 1, 7, none⟩ = false := blk_frozen Bt_17.out 7
  clear dt7 ft7
  have dt8 : w17.cell? ⟨w.heap.size + 1, 8, none⟩ = some (.int .i64 0) := (blk_cell Bt_17.out 8).trans rfl
  have ft8 : w17.frozen? ⟨w.heap.size + 1, 8, none⟩ = false := blk_frozen Bt_17.out 8
  go_upto_region 11 with (first | (go_at_call 50; with_reducible refine (dNum_any 2147483648 w17 HR_17.out (by omega) (by omega)).mono ?_; rintro e w18 ⟨rfl, q1, q2⟩; rw [E9.out] at q1; rw [E9.out]; clear dt8 ft8; have HR_18 := Aside0.mk q1; have HU_18 := Aside0.mk (HU_17.out.trans q2); have hs_18 : w17.heap.size ≤ w18.heap.size := q2.size; have Bz_18 := Aside0.mk (q2.blk Bz_17.out (by omega)); have Bt_18 := Aside0.mk (q2.blk Bt_17.out (by omega)); clear q1 q2; have dt8 : w18.cell? ⟨w.heap.size + 1, 8, none⟩ = some (.int .i64 0) := (blk_cell Bt_18.out 8).trans rfl; have ft8 : w18.frozen? ⟨w.heap.size + 1, 8, none⟩ = false := blk_frozen Bt_18.out 8))
  clear dt8 ft8
  have Bt_19 := Aside0.mk (blk_put (cs' := #[.int .u64 x1, .int .i64 x2, .int .i64 x3, .int .i64 x4, .int .u64 x5, .int .i64 x6, .int .i64 x7, .int .i64 x8, .int .i64 x9]) Bt_18.out 8 (.int .i64 x9) rfl)
  have HR_19 := Aside0.mk (RdAt.seti HR_18.out (b := w.heap.size + 1) 8 (.int .i64 x9) (by omega) (by omega))
  have HU_19 := Aside0.mk (Upd.seti HU_18.out (b := w.heap.size + 1) (by omega) 8 (.int .i64 x9))
  have hs_19 : w18.heap.size ≤ (w18.setCell ⟨w.heap.size + 1, 8, none⟩ (.int .i64 x9)).heap.size := by simp
  have Bz_19 : Aside0 ((w18.setCell ⟨w.heap.size + 1, 8, none⟩ (.int .i64 x9)).heap[w.heap.size]? = _) := ⟨((Below.heap_setCell _ _ _ _ (by show w.heap.size ≠ w.heap.size + 1; omega)).trans Bz_18.out)⟩
  generalize (w18.setCell ⟨w.heap.size + 1, 8, none⟩ (.int .i64 x9)) = w19 at Bt_19 HR_19 HU_19 hs_19 Bz_19 ⊢
  have dt8 : w19.cell? ⟨w.heap.size + 1, 8, none⟩ = some (.int .i64 x9) := (blk_cell Bt_19.out 8).trans rfl
  have ft8 : w19.frozen? ⟨w.heap.size + 1, 8, none⟩ = false := blk_frozen Bt_19.out 8
  clear dt8 ft8
  have dz0 : w19.cell? ⟨w.heap.size, 0, none⟩ = some (.int .u64 0) := (blk_cell Bz_19.out 0).trans rfl
  have fz0 : w19.frozen? ⟨w.heap.size, 0, none⟩ = false := blk_frozen Bz_19.out 0
  have dz1 : w19.cell? ⟨w.heap.size, 1, none⟩ = some (.int .i64 0) := (blk_cell Bz_19.out 1).trans rfl
  have fz1 : w19.frozen? ⟨w.heap.size, 1, none⟩ = false := blk_frozen Bz_19.out 1
  have dz2 : w19.cell? ⟨w.heap.size, 2, none⟩ = some (.int .i64 0) := (blk_cell Bz_19.out 2).trans rfl
  have fz2 : w19.frozen? ⟨w.heap.size, 2, none⟩ = false := blk_frozen Bz_19.out 2
  have dz3 : w19.cell? ⟨w.heap.size, 3, none⟩ = some (.int .i64 0) := (blk_cell Bz_19.out 3).trans rfl
  have fz3 : w19.frozen? ⟨w.heap.size, 3, none⟩ = false := blk_frozen Bz_19.out 3
  have dz4 : w19.cell? ⟨w.heap.size, 4, none⟩ = some (.int .u64 0) := (blk_cell Bz_19.out 4).trans rfl
  have fz4 : w19.frozen? ⟨w.heap.size, 4, none⟩ = false := blk_frozen Bz_19.out 4
  have dz5 : w19.cell? ⟨w.heap.size, 5, none⟩ = some (.int .i64 0) := (blk_cell Bz_19.out 5).trans rfl
  have fz5 : w19.frozen? ⟨w.heap.size, 5, none⟩ = false := blk_frozen Bz_19.out 5
  have dz6 : w19.cell? ⟨w.heap.size, 6, none⟩ = some (.int .i64 0) := (blk_cell Bz_19.out 6).trans rfl
  have fz6 : w19.frozen? ⟨w.heap.size, 6, none⟩ = false := blk_frozen Bz_19.out 6
  have dz7 : w19.cell? ⟨w.heap.size, 7, none⟩ = some (.int .i64 0) := (blk_cell Bz_19.out 7).trans rfl
  have fz7 : w19.frozen? ⟨w.heap.size, 7, none⟩ = false := blk_frozen Bz_19.out 7
  have dz8 : w19.cell? ⟨w.heap.size, 8, none⟩ = some (.int .i64 0) := (blk_cell Bz_19.out 8).trans rfl
  have fz8 : w19.frozen? ⟨w.heap.size, 8, none⟩ = false := blk_frozen Bz_19.out 8
  have dt0 : w19.cell? ⟨w.heap.size + 1, 0, none⟩ = some (.int .u64 x1) := (blk_cell Bt_19.out 0).trans rfl
  have ft0 : w19.frozen? ⟨w.heap.size + 1, 0, none⟩ = false := blk_frozen Bt_19.out 0
  have dt1 : w19.cell? ⟨w.heap.size + 1, 1, none⟩ = some (.int .i64 x2) := (blk_cell Bt_19.out 1).trans rfl
  have ft1 : w19.frozen? ⟨w.heap.size + 1, 1, none⟩ = false := blk_frozen Bt_19.out 1
  have dt2 : w19.cell? ⟨w.heap.size + 1, 2, none⟩ = some (.int .i64 x3) := (blk_cell Bt_19.out 2).trans rfl
  have ft2 : w19.frozen? ⟨w.heap.size + 1, 2, none⟩ = false := blk_frozen Bt_19.out 2
  have dt3 : w19.cell? ⟨w.heap.size + 1, 3, none⟩ = some (.int .i64 x4) := (blk_cell Bt_19.out 3).trans rfl
  have ft3 : w19.frozen? ⟨w.heap.size + 1, 3, none⟩ = false := blk_frozen Bt_19.out 3
  have dt4 : w19.cell? ⟨w.heap.size + 1, 4, none⟩ = some (.int .u64 x5) := (blk_cell Bt_19.out 4).trans rfl
  have ft4 : w19.frozen? ⟨w.heap.size + 1, 4, none⟩ = false := blk_frozen Bt_19.out 4
  have dt5 : w19.cell? ⟨w.heap.size + 1, 5, none⟩ = some (.int .i64 x6) := (blk_cell Bt_19.out 5).trans rfl
  have ft5 : w19.frozen? ⟨w.heap.size + 1, 5, none⟩ = false := blk_frozen Bt_19.out 5
  have dt6 : w19.cell? ⟨w.heap.size + 1, 6, none⟩ = some (.int .i64 x7) := (blk_cell Bt_19.out 6).trans rfl
  have ft6 : w19.frozen? ⟨w.heap.size + 1, 6, none⟩ = false := blk_frozen Bt_19.out 6
  have dt7 : w19.cell? ⟨w.heap.size + 1, 7, none⟩ = some (.int .i64 x8) := (blk_cell Bt_19.out 7).trans rfl
  have ft7 : w19.frozen? ⟨w.heap.size + 1, 7, none⟩ = false := blk_frozen Bt_19.out 7
  have dt8 : w19.cell? ⟨w.heap.size + 1, 8, none⟩ = some (.int .i64 x9) := (blk_cell Bt_19.out 8).trans rfl
  have ft8 : w19.frozen? ⟨w.heap.size + 1, 8, none⟩ = false := blk_frozen Bt_19.out 8
  have g1 : w19.cell? ⟨rb, 1, none⟩ = some (.bool g) := by obtain ⟨Ar, cr, hv⟩ := HR_19.out; exact hv.g1
  cases g with
  | true =>
    go_wp2_with (first | (go_at_call 51; with_reducible refine (dfail_any w19 HR_19.out).mono ?_; rintro e w20 ⟨rfl, q1, q2⟩; clear dz0 fz0 dz1 fz1 dz2 fz2 dz3 fz3 dz4 fz4 dz5 fz5 dz6 fz6 dz7 fz7 dz8 fz8 dt0 ft0 dt1 ft1 dt2 ft2 dt3 ft3 dt4 ft4 dt5 ft5 dt6 ft6 dt7 ft7 dt8 ft8; have HR_20 := Aside0.mk q1; have HU_20 := Aside0.mk (HU_19.out.trans q2); have hs_20 : w19.heap.size ≤ w20.heap.size := q2.size; have Bz_20 := Aside0.mk (q2.blk Bz_19.out (by omega)); have Bt_20 := Aside0.mk (q2.blk Bt_19.out (by omega)); clear q1 q2; have dz0 : w20.cell? ⟨w.heap.size, 0, none⟩ = some (.int .u64 0) := (blk_cell Bz_20.out 0).trans rfl; have fz0 : w20.frozen? ⟨w.heap.size, 0, none⟩ = false := blk_frozen Bz_20.out 0; have dz1 : w20.cell? ⟨w.heap.size, 1, none⟩ = some (.int .i64 0) := (blk_cell Bz_20.out 1).trans rfl; have fz1 : w20.frozen? ⟨w.heap.size, 1, none⟩ = false := blk_frozen Bz_20.out 1; have dz2 : w20.cell? ⟨w.heap.size, 2, none⟩ = some (.int .i64 0) := (blk_cell Bz_20.out 2).trans rfl; have fz2 : w20.frozen? ⟨w.heap.size, 2, none⟩ = false := blk_frozen Bz_20.out 2; have dz3 : w20.cell? ⟨w.heap.size, 3, none⟩ = some (.int .i64 0) := (blk_cell Bz_20.out 3).trans rfl; have fz3 : w20.frozen? ⟨w.heap.size, 3, none⟩ = false := blk_frozen Bz_20.out 3; have dz4 : w20.cell? ⟨w.heap.size, 4, none⟩ = some (.int .u64 0) := (blk_cell Bz_20.out 4).trans rfl; have fz4 : w20.frozen? ⟨w.heap.size, 4, none⟩ = false := blk_frozen Bz_20.out 4; have dz5 : w20.cell? ⟨w.heap.size, 5, none⟩ = some (.int .i64 0) := (blk_cell Bz_20.out 5).trans rfl; have fz5 : w20.frozen? ⟨w.heap.size, 5, none⟩ = false := blk_frozen Bz_20.out 5; have dz6 : w20.cell? ⟨w.heap.size, 6, none⟩ = some (.int .i64 0) := (blk_cell Bz_20.out 6).trans rfl; have fz6 : w20.frozen? ⟨w.heap.size, 6, none⟩ = false := blk_frozen Bz_20.out 6; have dz7 : w20.cell? ⟨w.heap.size, 7, none⟩ = some (.int .i64 0) := (blk_cell Bz_20.out 7).trans rfl; have fz7 : w20.frozen? ⟨w.heap.size, 7, none⟩ = false := blk_frozen Bz_20.out 7; have dz8 : w20.cell? ⟨w.heap.size, 8, none⟩ = some (.int .i64 0) := (blk_cell Bz_20.out 8).trans rfl; have fz8 : w20.frozen? ⟨w.heap.size, 8, none⟩ = false := blk_frozen Bz_20.out 8; have dt0 : w20.cell? ⟨w.heap.size + 1, 0, none⟩ = some (.int .u64 x1) := (blk_cell Bt_20.out 0).trans rfl; have ft0 : w20.frozen? ⟨w.heap.size + 1, 0, none⟩ = false := blk_frozen Bt_20.out 0; have dt1 : w20.cell? ⟨w.heap.size + 1, 1, none⟩ = some (.int .i64 x2) := (blk_cell Bt_20.out 1).trans rfl; have ft1 : w20.frozen? ⟨w.heap.size + 1, 1, none⟩ = false := blk_frozen Bt_20.out 1; have dt2 : w20.cell? ⟨w.heap.size + 1, 2, none⟩ = some (.int .i64 x3) := (blk_cell Bt_20.out 2).trans rfl; have ft2 : w20.frozen? ⟨w.heap.size + 1, 2, none⟩ = false := blk_frozen Bt_20.out 2; have dt3 : w20.cell? ⟨w.heap.size + 1, 3, none⟩ = some (.int .i64 x4) := (blk_cell Bt_20.out 3).trans rfl; have ft3 : w20.frozen? ⟨w.heap.size + 1, 3, none⟩ = false := blk_frozen Bt_20.out 3; have dt4 : w20.cell? ⟨w.heap.size + 1, 4, none⟩ = some (.int .u64 x5) := (blk_cell Bt_20.out 4).trans rfl; have ft4 : w20.frozen? ⟨w.heap.size + 1, 4, none⟩ = false := blk_frozen Bt_20.out 4; have dt5 : w20.cell? ⟨w.heap.size + 1, 5, none⟩ = some (.int .i64 x6) := (blk_cell Bt_20.out 5).trans rfl; have ft5 : w20.frozen? ⟨w.heap.size + 1, 5, none⟩ = false := blk_frozen Bt_20.out 5; have dt6 : w20.cell? ⟨w.heap.size + 1, 6, none⟩ = some (.int .i64 x7) := (blk_cell Bt_20.out 6).trans rfl; have ft6 : w20.frozen? ⟨w.heap.size + 1, 6, none⟩ = false := blk_frozen Bt_20.out 6; have dt7 : w20.cell? ⟨w.heap.size + 1, 7, none⟩ = some (.int .i64 x8) := (blk_cell Bt_20.out 7).trans rfl; have ft7 : w20.frozen? ⟨w.heap.size + 1, 7, none⟩ = false := blk_frozen Bt_20.out 7; have dt8 : w20.cell? ⟨w.heap.size + 1, 8, none⟩ = some (.int .i64 x9) := (blk_cell Bt_20.out 8).trans rfl; have ft8 : w20.frozen? ⟨w.heap.size + 1, 8, none⟩ = false := blk_frozen Bt_20.out 8))
    clear dz0 fz0 dz1 fz1 dz2 fz2 dz3 fz3 dz4 fz4 dz5 fz5 dz6 fz6 dz7 fz7 dz8 fz8 dt0 ft0 dt1 ft1 dt2 ft2 dt3 ft3 dt4 ft4 dt5 ft5 dt6 ft6 dt7 ft7 dt8 ft8
    have Bz_21 := Aside0.mk (blk_put (cs' := #[.int .u64 0, .int .i64 0, .int .i64 0, .int .i64 0, .int .u64 0, .int .i64 0, .int .i64 0, .int .i64 0, .int .i64 0]) (blk_put (cs' := #[.int .u64 0, .int .i64 0, .int .i64 0, .int .i64 0, .int .u64 0, .int .i64 0, .int .i64 0, .int .i64 0, .int .i64 0]) (blk_put (cs' := #[.int .u64 0, .int .i64 0, .int .i64 0, .int .i64 0, .int .u64 0, .int .i64 0, .int .i64 0, .int .i64 0, .int .i64 0]) (blk_put (cs' := #[.int .u64 0, .int .i64 0, .int .i64 0, .int .i64 0, .int .u64 0, .int .i64 0, .int .i64 0, .int .i64 0, .int .i64 0]) (blk_put (cs' := #[.int .u64 0, .int .i64 0, .int .i64 0, .int .i64 0, .int .u64 0, .int .i64 0, .int .i64 0, .int .i64 0, .int .i64 0]) (blk_put (cs' := #[.int .u64 0, .int .i64 0, .int .i64 0, .int .i64 0, .int .u64 0, .int .i64 0, .int .i64 0, .int .i64 0, .int .i64 0]) (blk_put (cs' := #[.int .u64 0, .int .i64 0, .int .i64 0, .int .i64 0, .int .u64 0, .int .i64 0, .int .i64 0, .int .i64 0, .int .i64 0]) (blk_put (cs' := #[.int .u64 0, .int .i64 0, .int .i64 0, .int .i64 0, .int .u64 0, .int .i64 0, .int .i64 0, .int .i64 0, .int .i64 0]) (blk_put (cs' := #[.int .u64 0, .int .i64 0, .int .i64 0, .int .i64 0, .int .u64 0, .int .i64 0, .int .i64 0, .int .i64 0, .int .i64 0]) Bz_20.out 0 (.int .u64 0) rfl) 1 (.int .i64 0) rfl) 2 (.int .i64 0) rfl) 3 (.int .i64 0) rfl) 4 (.int .u64 0) rfl) 5 (.int .i64 0) rfl) 6 (.int .i64 0) rfl) 7 (.int .i64 0) rfl) 8 (.int .i64 0) rfl)
    have HR_21 := Aside0.mk (RdAt.seti (RdAt.seti (RdAt.seti (RdAt.seti (RdAt.seti (RdAt.seti (RdAt.seti (RdAt.seti (RdAt.seti HR_20.out (b := w.heap.size) 0 (.int .u64 0) (by omega) (by omega)) (b := w.heap.size) 1 (.int .i64 0) (by omega) (by omega)) (b := w.heap.size) 2 (.int .i64 0) (by omega) (by omega)) (b := w.heap.size) 3 (.int .i64 0) (by omega) (by omega)) (b := w.heap.size) 4 (.int .u64 0) (by omega) (by omega)) (b := w.heap.size) 5 (.int .i64 0) (by omega) (by omega)) (b := w.heap.size) 6 (.int .i64 0) (by omega) (by omega)) (b := w.heap.size) 7 (.int .i64 0) (by omega) (by omega)) (b := w.heap.size) 8 (.int .i64 0) (by omega) (by omega))
    have HU_21 := Aside0.mk (Upd.seti (Upd.seti (Upd.seti (Upd.seti (Upd.seti (Upd.seti (Upd.seti (Upd.seti (Upd.seti HU_20.out (b := w.heap.size) (by omega) 0 (.int .u64 0)) (b := w.heap.size) (by omega) 1 (.int .i64 0)) (b := w.heap.size) (by omega) 2 (.int .i64 0)) (b := w.heap.size) (by omega) 3 (.int .i64 0)) (b := w.heap.size) (by omega) 4 (.int .u64 0)) (b := w.heap.size) (by omega) 5 (.int .i64 0)) (b := w.heap.size) (by omega) 6 (.int .i64 0)) (b := w.heap.size) (by omega) 7 (.int .i64 0)) (b := w.heap.size) (by omega) 8 (.int .i64 0))
    have hs_21 : w20.heap.size ≤ (((((((((w20.setCell ⟨w.heap.size, 0, none⟩ (.int .u64 0)).setCell ⟨w.heap.size, 1, none⟩ (.int .i64 0)).setCell ⟨w.heap.size, 2, none⟩ (.int .i64 0)).setCell ⟨w.heap.size, 3, none⟩ (.int .i64 0)).setCell ⟨w.heap.size, 4, none⟩ (.int .u64 0)).setCell ⟨w.heap.size, 5, none⟩ (.int .i64 0)).setCell ⟨w.heap.size, 6, none⟩ (.int .i64 0)).setCell ⟨w.heap.size, 7, none⟩ (.int .i64 0)).setCell ⟨w.heap.size, 8, none⟩ (.int .i64 0)).heap.size := by simp
    have Bt_21 : Aside0 ((((((((((w20.setCell ⟨w.heap.size, 0, none⟩ (.int .u64 0)).setCell ⟨w.heap.size, 1, none⟩ (.int .i64 0)).setCell ⟨w.heap.size, 2, none⟩ (.int .i64 0)).setCell ⟨w.heap.size, 3, none⟩ (.int .i64 0)).setCell ⟨w.heap.size, 4, none⟩ (.int .u64 0)).setCell ⟨w.heap.size, 5, none⟩ (.int .i64 0)).setCell ⟨w.heap.size, 6, none⟩ (.int .i64 0)).setCell ⟨w.heap.size, 7, none⟩ (.int .i64 0)).setCell ⟨w.heap.size, 8, none⟩ (.int .i64 0)).heap[w.heap.size + 1]? = _) := ⟨((Below.heap_setCell _ _ _ _ (by show w.heap.size + 1 ≠ w.heap.size; omega)).trans ((Below.heap_setCell _ _ _ _ (by show w.heap.size + 1 ≠ w.heap.size; omega)).trans ((Below.heap_setCell _ _ _ _ (by show w.heap.size + 1 ≠ w.heap.size; omega)).trans ((Below.heap_setCell _ _ _ _ (by show w.heap.size + 1 ≠ w.heap.size; omega)).trans ((Below.heap_setCell _ _ _ _ (by show w.heap.size + 1 ≠ w.heap.size; omega)).trans ((Below.heap_setCell _ _ _ _ (by show w.heap.size + 1 ≠ w.heap.size; omega)).trans ((Below.heap_setCell _ _ _ _ (by show w.heap.size + 1 ≠ w.heap.size; omega)).trans ((Below.heap_setCell _ _ _ _ (by show w.heap.size + 1 ≠ w.heap.size; omega)).trans ((Below.heap_setCell _ _ _ _ (by show w.heap.size + 1 ≠ w.heap.size; omega)).trans Bt_20.out)))))))))⟩
    generalize (((((((((w20.setCell ⟨w.heap.size, 0, none⟩ (.int .u64 0)).setCell ⟨w.heap.size, 1, none⟩ (.int .i64 0)).setCell ⟨w.heap.size, 2, none⟩ (.int .i64 0)).setCell ⟨w.heap.size, 3, none⟩ (.int .i64 0)).setCell ⟨w.heap.size, 4, none⟩ (.int .u64 0)).setCell ⟨w.heap.size, 5, none⟩ (.int .i64 0)).setCell ⟨w.heap.size, 6, none⟩ (.int .i64 0)).setCell ⟨w.heap.size, 7, none⟩ (.int .i64 0)).setCell ⟨w.heap.size, 8, none⟩ (.int .i64 0)) = w21 at Bz_21 HR_21 HU_21 hs_21 Bt_21 ⊢
    have dz0 : w21.cell? ⟨w.heap.size, 0, none⟩ = some (.int .u64 0) := (blk_cell Bz_21.out 0).trans rfl
    have fz0 : w21.frozen? ⟨w.heap.size, 0, none⟩ = false := blk_frozen Bz_21.out 0
    have dz1 : w21.cell? ⟨w.heap.size, 1, none⟩ = some (.int .i64 0) := (blk_cell Bz_21.out 1).trans rfl
    have fz1 : w21.frozen? ⟨w.heap.size, 1, none⟩ = false := blk_frozen Bz_21.out 1
    have dz2 : w21.cell? ⟨w.heap.size, 2, none⟩ = some (.int .i64 0) := (blk_cell Bz_21.out 2).trans rfl
    have fz2 : w21.frozen? ⟨w.heap.size, 2, none⟩ = false := blk_frozen Bz_21.out 2
    have dz3 : w21.cell? ⟨w.heap.size, 3, none⟩ = some (.int .i64 0) := (blk_cell Bz_21.out 3).trans rfl
    have fz3 : w21.frozen? ⟨w.heap.size, 3, none⟩ = false := blk_frozen Bz_21.out 3
    have dz4 : w21.cell? ⟨w.heap.size, 4, none⟩ = some (.int .u64 0) := (blk_cell Bz_21.out 4).trans rfl
    have fz4 : w21.frozen? ⟨w.heap.size, 4, none⟩ = false := blk_frozen Bz_21.out 4
    have dz5 : w21.cell? ⟨w.heap.size, 5, none⟩ = some (.int .i64 0) := (blk_cell Bz_21.out 5).trans rfl
    have fz5 : w21.frozen? ⟨w.heap.size, 5, none⟩ = false := blk_frozen Bz_21.out 5
    have dz6 : w21.cell? ⟨w.heap.size, 6, none⟩ = some (.int .i64 0) := (blk_cell Bz_21.out 6).trans rfl
    have fz6 : w21.frozen? ⟨w.heap.size, 6, none⟩ = false := blk_frozen Bz_21.out 6
    have dz7 : w21.cell? ⟨w.heap.size, 7, none⟩ = some (.int .i64 0) := (blk_cell Bz_21.out 7).trans rfl
    have fz7 : w21.frozen? ⟨w.heap.size, 7, none⟩ = false := blk_frozen Bz_21.out 7
    have dz8 : w21.cell? ⟨w.heap.size, 8, none⟩ = some (.int .i64 0) := (blk_cell Bz_21.out 8).trans rfl
    have fz8 : w21.frozen? ⟨w.heap.size, 8, none⟩ = false := blk_frozen Bz_21.out 8
    have dt0 : w21.cell? ⟨w.heap.size + 1, 0, none⟩ = some (.int .u64 x1) := (blk_cell Bt_21.out 0).trans rfl
    have ft0 : w21.frozen? ⟨w.heap.size + 1, 0, none⟩ = false := blk_frozen Bt_21.out 0
    have dt1 : w21.cell? ⟨w.heap.size + 1, 1, none⟩ = some (.int .i64 x2) := (blk_cell Bt_21.out 1).trans rfl
    have ft1 : w21.frozen? ⟨w.heap.size + 1, 1, none⟩ = false := blk_frozen Bt_21.out 1
    have dt2 : w21.cell? ⟨w.heap.size + 1, 2, none⟩ = some (.int .i64 x3) := (blk_cell Bt_21.out 2).trans rfl
    have ft2 : w21.frozen? ⟨w.heap.size + 1, 2, none⟩ = false := blk_frozen Bt_21.out 2
    have dt3 : w21.cell? ⟨w.heap.size + 1, 3, none⟩ = some (.int .i64 x4) := (blk_cell Bt_21.out 3).trans rfl
    have ft3 : w21.frozen? ⟨w.heap.size + 1, 3, none⟩ = false := blk_frozen Bt_21.out 3
    have dt4 : w21.cell? ⟨w.heap.size + 1, 4, none⟩ = some (.int .u64 x5) := (blk_cell Bt_21.out 4).trans rfl
    have ft4 : w21.frozen? ⟨w.heap.size + 1, 4, none⟩ = false := blk_frozen Bt_21.out 4
    have dt5 : w21.cell? ⟨w.heap.size + 1, 5, none⟩ = some (.int .i64 x6) := (blk_cell Bt_21.out 5).trans rfl
    have ft5 : w21.frozen? ⟨w.heap.size + 1, 5, none⟩ = false := blk_frozen Bt_21.out 5
    have dt6 : w21.cell? ⟨w.heap.size + 1, 6, none⟩ = some (.int .i64 x7) := (blk_cell Bt_21.out 6).trans rfl
    have ft6 : w21.frozen? ⟨w.heap.size + 1, 6, none⟩ = false := blk_frozen Bt_21.out 6
    have dt7 : w21.cell? ⟨w.heap.size + 1, 7, none⟩ = some (.int .i64 x8) := (blk_cell Bt_21.out 7).trans rfl
    have ft7 : w21.frozen? ⟨w.heap.size + 1, 7, none⟩ = false := blk_frozen Bt_21.out 7
    have dt8 : w21.cell? ⟨w.heap.size + 1, 8, none⟩ = some (.int .i64 x9) := (blk_cell Bt_21.out 8).trans rfl
    have ft8 : w21.frozen? ⟨w.heap.size + 1, 8, none⟩ = false := blk_frozen Bt_21.out 8
    refine bodyPost_ret (v := .tuple #[.agg #[.int .u64 0, .int .i64 0, .int .i64 0, .int .i64 0, .int .u64 0, .int .i64 0, .int .i64 0, .int .i64 0, .int .i64 0], .bool false]) (by simp [results, Try.results16, go_sem, dz0, dz1, dz2, dz3, dz4, dz5, dz6, dz7, dz8]) rfl (HP1.out (.inl (by first | rfl | trivial)) _ HR_21.out HU_21.out)
  | false =>
    cases hs : tkB ⟨x1, x2, x3, x4, x5, x6, x7, x8, x9⟩ with
    | false =>
      have HS := Aside0.mk hs
      clear hs
      go_wp2_with (first | (go_at_call 10; with_reducible refine (tkref_any ⟨x1, x2, x3, x4, x5, x6, x7, x8, x9⟩ w19).mono ?_; rintro e w20 ⟨rfl, q1⟩; rw [HS.out]; clear dz0 fz0 dz1 fz1 dz2 fz2 dz3 fz3 dz4 fz4 dz5 fz5 dz6 fz6 dz7 fz7 dz8 fz8 dt0 ft0 dt1 ft1 dt2 ft2 dt3 ft3 dt4 ft4 dt5 ft5 dt6 ft6 dt7 ft7 dt8 ft8; have HR_20 := Aside0.mk (HR_19.out.below q1); have HU_20 := Aside0.mk (HU_19.out.then q1); have hs_20 : w19.heap.size ≤ w20.heap.size := q1.size; have Bz_20 := Aside0.mk (blk_below Bz_19.out q1); have Bt_20 := Aside0.mk (blk_below Bt_19.out q1); clear q1; have dz0 : w20.cell? ⟨w.heap.size, 0, none⟩ = some (.int .u64 0) := (blk_cell Bz_20.out 0).trans rfl; have fz0 : w20.frozen? ⟨w.heap.size, 0, none⟩ = false := blk_frozen Bz_20.out 0; have dz1 : w20.cell? ⟨w.heap.size, 1, none⟩ = some (.int .i64 0) := (blk_cell Bz_20.out 1).trans rfl; have fz1 : w20.frozen? ⟨w.heap.size, 1, none⟩ = false := blk_frozen Bz_20.out 1; have dz2 : w20.cell? ⟨w.heap.size, 2, none⟩ = some (.int .i64 0) := (blk_cell Bz_20.out 2).trans rfl; have fz2 : w20.frozen? ⟨w.heap.size, 2, none⟩ = false := blk_frozen Bz_20.out 2; have dz3 : w20.cell? ⟨w.heap.size, 3, none⟩ = some (.int .i64 0) := (blk_cell Bz_20.out 3).trans rfl; have fz3 : w20.frozen? ⟨w.heap.size, 3, none⟩ = false := blk_frozen Bz_20.out 3; have dz4 : w20.cell? ⟨w.heap.size, 4, none⟩ = some (.int .u64 0) := (blk_cell Bz_20.out 4).trans rfl; have fz4 : w20.frozen? ⟨w.heap.size, 4, none⟩ = false := blk_frozen Bz_20.out 4; have dz5 : w20.cell? ⟨w.heap.size, 5, none⟩ = some (.int .i64 0) := (blk_cell Bz_20.out 5).trans rfl; have fz5 : w20.frozen? ⟨w.heap.size, 5, none⟩ = false := blk_frozen Bz_20.out 5; have dz6 : w20.cell? ⟨w.heap.size, 6, none⟩ = some (.int .i64 0) := (blk_cell Bz_20.out 6).trans rfl; have fz6 : w20.frozen? ⟨w.heap.size, 6, none⟩ = false := blk_frozen Bz_20.out 6; have dz7 : w20.cell? ⟨w.heap.size, 7, none⟩ = some (.int .i64 0) := (blk_cell Bz_20.out 7).trans rfl; have fz7 : w20.frozen? ⟨w.heap.size, 7, none⟩ = false := blk_frozen Bz_20.out 7; have dz8 : w20.cell? ⟨w.heap.size, 8, none⟩ = some (.int .i64 0) := (blk_cell Bz_20.out 8).trans rfl; have fz8 : w20.frozen? ⟨w.heap.size, 8, none⟩ = false := blk_frozen Bz_20.out 8; have dt0 : w20.cell? ⟨w.heap.size + 1, 0, none⟩ = some (.int .u64 x1) := (blk_cell Bt_20.out 0).trans rfl; have ft0 : w20.frozen? ⟨w.heap.size + 1, 0, none⟩ = false := blk_frozen Bt_20.out 0; have dt1 : w20.cell? ⟨w.heap.size + 1, 1, none⟩ = some (.int .i64 x2) := (blk_cell Bt_20.out 1).trans rfl; have ft1 : w20.frozen? ⟨w.heap.size + 1, 1, none⟩ = false := blk_frozen Bt_20.out 1; have dt2 : w20.cell? ⟨w.heap.size + 1, 2, none⟩ = some (.int .i64 x3) := (blk_cell Bt_20.out 2).trans rfl; have ft2 : w20.frozen? ⟨w.heap.size + 1, 2, none⟩ = false := blk_frozen Bt_20.out 2; have dt3 : w20.cell? ⟨w.heap.size + 1, 3, none⟩ = some (.int .i64 x4) := (blk_cell Bt_20.out 3).trans rfl; have ft3 : w20.frozen? ⟨w.heap.size + 1, 3, none⟩ = false := blk_frozen Bt_20.out 3; have dt4 : w20.cell? ⟨w.heap.size + 1, 4, none⟩ = some (.int .u64 x5) := (blk_cell Bt_20.out 4).trans rfl; have ft4 : w20.frozen? ⟨w.heap.size + 1, 4, none⟩ = false := blk_frozen Bt_20.out 4; have dt5 : w20.cell? ⟨w.heap.size + 1, 5, none⟩ = some (.int .i64 x6) := (blk_cell Bt_20.out 5).trans rfl; have ft5 : w20.frozen? ⟨w.heap.size + 1, 5, none⟩ = false := blk_frozen Bt_20.out 5; have dt6 : w20.cell? ⟨w.heap.size + 1, 6, none⟩ = some (.int .i64 x7) := (blk_cell Bt_20.out 6).trans rfl; have ft6 : w20.frozen? ⟨w.heap.size + 1, 6, none⟩ = false := blk_frozen Bt_20.out 6; have dt7 : w20.cell? ⟨w.heap.size + 1, 7, none⟩ = some (.int .i64 x8) := (blk_cell Bt_20.out 7).trans rfl; have ft7 : w20.frozen? ⟨w.heap.size + 1, 7, none⟩ = false := blk_frozen Bt_20.out 7; have dt8 : w20.cell? ⟨w.heap.size + 1, 8, none⟩ = some (.int .i64 x9) := (blk_cell Bt_20.out 8).trans rfl; have ft8 : w20.frozen? ⟨w.heap.size + 1, 8, none⟩ = false := blk_frozen Bt_20.out 8) | (go_at_call 51; with_reducible refine (dfail_any w20 HR_20.out).mono ?_; rintro e w21 ⟨rfl, q1, q2⟩; clear dz0 fz0 dz1 fz1 dz2 fz2 dz3 fz3 dz4 fz4 dz5 fz5 dz6 fz6 dz7 fz7 dz8 fz8 dt0 ft0 dt1 ft1 dt2 ft2 dt3 ft3 dt4 ft4 dt5 ft5 dt6 ft6 dt7 ft7 dt8 ft8; have HR_21 := Aside0.mk q1; have HU_21 := Aside0.mk (HU_20.out.trans q2); have hs_21 : w20.heap.size ≤ w21.heap.size := q2.size; have Bz_21 := Aside0.mk (q2.blk Bz_20.out (by omega)); have Bt_21 := Aside0.mk (q2.blk Bt_20.out (by omega)); clear q1 q2; have dz0 : w21.cell? ⟨w.heap.size, 0, none⟩ = some (.int .u64 0) := (blk_cell Bz_21.out 0).trans rfl; have fz0 : w21.frozen? ⟨w.heap.size, 0, none⟩ = false := blk_frozen Bz_21.out 0; have dz1 : w21.cell? ⟨w.heap.size, 1, none⟩ = some (.int .i64 0) := (blk_cell Bz_21.out 1).trans rfl; have fz1 : w21.frozen? ⟨w.heap.size, 1, none⟩ = false := blk_frozen Bz_21.out 1; have dz2 : w21.cell? ⟨w.heap.size, 2, none⟩ = some (.int .i64 0) := (blk_cell Bz_21.out 2).trans rfl; have fz2 : w21.frozen? ⟨w.heap.size, 2, none⟩ = false := blk_frozen Bz_21.out 2; have dz3 : w21.cell? ⟨w.heap.size, 3, none⟩ = some (.int .i64 0) := (blk_cell Bz_21.out 3).trans rfl; have fz3 : w21.frozen? ⟨w.heap.size, 3, none⟩ = false := blk_frozen Bz_21.out 3; have dz4 : w21.cell? ⟨w.heap.size, 4, none⟩ = some (.int .u64 0) := (blk_cell Bz_21.out 4).trans rfl; have fz4 : w21.frozen? ⟨w.heap.size, 4, none⟩ = false := blk_frozen Bz_21.out 4; have dz5 : w21.cell? ⟨w.heap.size, 5, none⟩ = some (.int .i64 0) := (blk_cell Bz_21.out 5).trans rfl; have fz5 : w21.frozen? ⟨w.heap.size, 5, none⟩ = false := blk_frozen Bz_21.out 5; have dz6 : w21.cell? ⟨w.heap.size, 6, none⟩ = some (.int .i64 0) := (blk_cell Bz_21.out 6).trans rfl; have fz6 : w21.frozen? ⟨w.heap.size, 6, none⟩ = false := blk_frozen Bz_21.out 6; have dz7 : w21.cell? ⟨w.heap.size, 7, none⟩ = some (.int .i64 0) := (blk_cell Bz_21.out 7).trans rfl; have fz7 : w21.frozen? ⟨w.heap.size, 7, none⟩ = false := blk_frozen Bz_21.out 7; have dz8 : w21.cell? ⟨w.heap.size, 8, none⟩ = some (.int .i64 0) := (blk_cell Bz_21.out 8).trans rfl; have fz8 : w21.frozen? ⟨w.heap.size, 8, none⟩ = false := blk_frozen Bz_21.out 8; have dt0 : w21.cell? ⟨w.heap.size + 1, 0, none⟩ = some (.int .u64 x1) := (blk_cell Bt_21.out 0).trans rfl; have ft0 : w21.frozen? ⟨w.heap.size + 1, 0, none⟩ = false := blk_frozen Bt_21.out 0; have dt1 : w21.cell? ⟨w.heap.size + 1, 1, none⟩ = some (.int .i64 x2) := (blk_cell Bt_21.out 1).trans rfl; have ft1 : w21.frozen? ⟨w.heap.size + 1, 1, none⟩ = false := blk_frozen Bt_21.out 1; have dt2 : w21.cell? ⟨w.heap.size + 1, 2, none⟩ = some (.int .i64 x3) := (blk_cell Bt_21.out 2).trans rfl; have ft2 : w21.frozen? ⟨w.heap.size + 1, 2, none⟩ = false := blk_frozen Bt_21.out 2; have dt3 : w21.cell? ⟨w.heap.size + 1, 3, none⟩ = some (.int .i64 x4) := (blk_cell Bt_21.out 3).trans rfl; have ft3 : w21.frozen? ⟨w.heap.size + 1, 3, none⟩ = false := blk_frozen Bt_21.out 3; have dt4 : w21.cell? ⟨w.heap.size + 1, 4, none⟩ = some (.int .u64 x5) := (blk_cell Bt_21.out 4).trans rfl; have ft4 : w21.frozen? ⟨w.heap.size + 1, 4, none⟩ = false := blk_frozen Bt_21.out 4; have dt5 : w21.cell? ⟨w.heap.size + 1, 5, none⟩ = some (.int .i64 x6) := (blk_cell Bt_21.out 5).trans rfl; have ft5 : w21.frozen? ⟨w.heap.size + 1, 5, none⟩ = false := blk_frozen Bt_21.out 5; have dt6 : w21.cell? ⟨w.heap.size + 1, 6, none⟩ = some (.int .i64 x7) := (blk_cell Bt_21.out 6).trans rfl; have ft6 : w21.frozen? ⟨w.heap.size + 1, 6, none⟩ = false := blk_frozen Bt_21.out 6; have dt7 : w21.cell? ⟨w.heap.size + 1, 7, none⟩ = some (.int .i64 x8) := (blk_cell Bt_21.out 7).trans rfl; have ft7 : w21.frozen? ⟨w.heap.size + 1, 7, none⟩ = false := blk_frozen Bt_21.out 7; have dt8 : w21.cell? ⟨w.heap.size + 1, 8, none⟩ = some (.int .i64 x9) := (blk_cell Bt_21.out 8).trans rfl; have ft8 : w21.frozen? ⟨w.heap.size + 1, 8, none⟩ = false := blk_frozen Bt_21.out 8))
      clear dz0 fz0 dz1 fz1 dz2 fz2 dz3 fz3 dz4 fz4 dz5 fz5 dz6 fz6 dz7 fz7 dz8 fz8 dt0 ft0 dt1 ft1 dt2 ft2 dt3 ft3 dt4 ft4 dt5 ft5 dt6 ft6 dt7 ft7 dt8 ft8
      have Bz_22 := Aside0.mk (blk_put (cs' := #[.int .u64 0, .int .i64 0, .int .i64 0, .int .i64 0, .int .u64 0, .int .i64 0, .int .i64 0, .int .i64 0, .int .i64 0]) (blk_put (cs' := #[.int .u64 0, .int .i64 0, .int .i64 0, .int .i64 0, .int .u64 0, .int .i64 0, .int .i64 0, .int .i64 0, .int .i64 0]) (blk_put (cs' := #[.int .u64 0, .int .i64 0, .int .i64 0, .int .i64 0, .int .u64 0, .int .i64 0, .int .i64 0, .int .i64 0, .int .i64 0]) (blk_put (cs' := #[.int .u64 0, .int .i64 0, .int .i64 0, .int .i64 0, .int .u64 0, .int .i64 0, .int .i64 0, .int .i64 0, .int .i64 0]) (blk_put (cs' := #[.int .u64 0, .int .i64 0, .int .i64 0, .int .i64 0, .int .u64 0, .int .i64 0, .int .i64 0, .int .i64 0, .int .i64 0]) (blk_put (cs' := #[.int .u64 0, .int .i64 0, .int .i64 0, .int .i64 0, .int .u64 0, .int .i64 0, .int .i64 0, .int .i64 0, .int .i64 0]) (blk_put (cs' := #[.int .u64 0, .int .i64 0, .int .i64 0, .int .i64 0, .int .u64 0, .int .i64 0, .int .i64 0, .int .i64 0, .int .i64 0]) (blk_put (cs' := #[.int .u64 0, .int .i64 0, .int .i64 0, .int .i64 0, .int .u64 0, .int .i64 0, .int .i64 0, .int .i64 0, .int .i64 0]) (blk_put (cs' := #[.int .u64 0, .int .i64 0, .int .i64 0, .int .i64 0, .int .u64 0, .int .i64 0, .int .i64 0, .int .i64 0, .int .i64 0]) Bz_21.out 0 (.int .u64 0) rfl) 1 (.int .i64 0) rfl) 2 (.int .i64 0) rfl) 3 (.int .i64 0) rfl) 4 (.int .u64 0) rfl) 5 (.int .i64 0) rfl) 6 (.int .i64 0) rfl) 7 (.int .i64 0) rfl) 8 (.int .i64 0) rfl)
      have HR_22 := Aside0.mk (RdAt.seti (RdAt.seti (RdAt.seti (RdAt.seti (RdAt.seti (RdAt.seti (RdAt.seti (RdAt.seti (RdAt.seti HR_21.out (b := w.heap.size) 0 (.int .u64 0) (by omega) (by omega)) (b := w.heap.size) 1 (.int .i64 0) (by omega) (by omega)) (b := w.heap.size) 2 (.int .i64 0) (by omega) (by omega)) (b := w.heap.size) 3 (.int .i64 0) (by omega) (by omega)) (b := w.heap.size) 4 (.int .u64 0) (by omega) (by omega)) (b := w.heap.size) 5 (.int .i64 0) (by omega) (by omega)) (b := w.heap.size) 6 (.int .i64 0) (by omega) (by omega)) (b := w.heap.size) 7 (.int .i64 0) (by omega) (by omega)) (b := w.heap.size) 8 (.int .i64 0) (by omega) (by omega))
      have HU_22 := Aside0.mk (Upd.seti (Upd.seti (Upd.seti (Upd.seti (Upd.seti (Upd.seti (Upd.seti (Upd.seti (Upd.seti HU_21.out (b := w.heap.size) (by omega) 0 (.int .u64 0)) (b := w.heap.size) (by omega) 1 (.int .i64 0)) (b := w.heap.size) (by omega) 2 (.int .i64 0)) (b := w.heap.size) (by omega) 3 (.int .i64 0)) (b := w.heap.size) (by omega) 4 (.int .u64 0)) (b := w.heap.size) (by omega) 5 (.int .i64 0)) (b := w.heap.size) (by omega) 6 (.int .i64 0)) (b := w.heap.size) (by omega) 7 (.int .i64 0)) (b := w.heap.size) (by omega) 8 (.int .i64 0))
      have hs_22 : w21.heap.size ≤ (((((((((w21.setCell ⟨w.heap.size, 0, none⟩ (.int .u64 0)).setCell ⟨w.heap.size, 1, none⟩ (.int .i64 0)).setCell ⟨w.heap.size, 2, none⟩ (.int .i64 0)).setCell ⟨w.heap.size, 3, none⟩ (.int .i64 0)).setCell ⟨w.heap.size, 4, none⟩ (.int .u64 0)).setCell ⟨w.heap.size, 5, none⟩ (.int .i64 0)).setCell ⟨w.heap.size, 6, none⟩ (.int .i64 0)).setCell ⟨w.heap.size, 7, none⟩ (.int .i64 0)).setCell ⟨w.heap.size, 8, none⟩ (.int .i64 0)).heap.size := by simp
      have Bt_22 : Aside0 ((((((((((w21.setCell ⟨w.heap.size, 0, none⟩ (.int .u64 0)).setCell ⟨w.heap.size, 1, none⟩ (.int .i64 0)).setCell ⟨w.heap.size, 2, none⟩ (.int .i64 0)).setCell ⟨w.heap.size, 3, none⟩ (.int .i64 0)).setCell ⟨w.heap.size, 4, none⟩ (.int .u64 0)).setCell ⟨w.heap.size, 5, none⟩ (.int .i64 0)).setCell ⟨w.heap.size, 6, none⟩ (.int .i64 0)).setCell ⟨w.heap.size, 7, none⟩ (.int .i64 0)).setCell ⟨w.heap.size, 8, none⟩ (.int .i64 0)).heap[w.heap.size + 1]? = _) := ⟨((Below.heap_setCell _ _ _ _ (by show w.heap.size + 1 ≠ w.heap.size; omega)).trans ((Below.heap_setCell _ _ _ _ (by show w.heap.size + 1 ≠ w.heap.size; omega)).trans ((Below.heap_setCell _ _ _ _ (by show w.heap.size + 1 ≠ w.heap.size; omega)).trans ((Below.heap_setCell _ _ _ _ (by show w.heap.size + 1 ≠ w.heap.size; omega)).trans ((Below.heap_setCell _ _ _ _ (by show w.heap.size + 1 ≠ w.heap.size; omega)).trans ((Below.heap_setCell _ _ _ _ (by show w.heap.size + 1 ≠ w.heap.size; omega)).trans ((Below.heap_setCell _ _ _ _ (by show w.heap.size + 1 ≠ w.heap.size; omega)).trans ((Below.heap_setCell _ _ _ _ (by show w.heap.size + 1 ≠ w.heap.size; omega)).trans ((Below.heap_setCell _ _ _ _ (by show w.heap.size + 1 ≠ w.heap.size; omega)).trans Bt_21.out)))))))))⟩
      generalize (((((((((w21.setCell ⟨w.heap.size, 0, none⟩ (.int .u64 0)).setCell ⟨w.heap.size, 1, none⟩ (.int .i64 0)).setCell ⟨w.heap.size, 2, none⟩ (.int .i64 0)).setCell ⟨w.heap.size, 3, none⟩ (.int .i64 0)).setCell ⟨w.heap.size, 4, none⟩ (.int .u64 0)).setCell ⟨w.heap.size, 5, none⟩ (.int .i64 0)).setCell ⟨w.heap.size, 6, none⟩ (.int .i64 0)).setCell ⟨w.heap.size, 7, none⟩ (.int .i64 0)).setCell ⟨w.heap.size, 8, none⟩ (.int .i64 0)) = w22 at Bz_22 HR_22 HU_22 hs_22 Bt_22 ⊢
      have dz0 : w22.cell? ⟨w.heap.size, 0, none⟩ = some (.int .u64 0) := (blk_cell Bz_22.out 0).trans rfl
      have fz0 : w22.frozen? ⟨w.heap.size, 0, none⟩ = false := blk_frozen Bz_22.out 0
      have dz1 : w22.cell? ⟨w.heap.size, 1, none⟩ = some (.int .i64 0) := (blk_cell Bz_22.out 1).trans rfl
      have fz1 : w22.frozen? ⟨w.heap.size, 1, none⟩ = false := blk_frozen Bz_22.out 1
      have dz2 : w22.cell? ⟨w.heap.size, 2, none⟩ = some (.int .i64 0) := (blk_cell Bz_22.out 2).trans rfl
      have fz2 : w22.frozen? ⟨w.heap.size, 2, none⟩ = false := blk_frozen Bz_22.out 2
      have dz3 : w22.cell? ⟨w.heap.size, 3, none⟩ = some (.int .i64 0) := (blk_cell Bz_22.out 3).trans rfl
      have fz3 : w22.frozen? ⟨w.heap.size, 3, none⟩ = false := blk_frozen Bz_22.out 3
      have dz4 : w22.cell? ⟨w.heap.size, 4, none⟩ = some (.int .u64 0) := (blk_cell Bz_22.out 4).trans rfl
      have fz4 : w22.frozen? ⟨w.heap.size, 4, none⟩ = false := blk_frozen Bz_22.out 4
      have dz5 : w22.cell? ⟨w.heap.size, 5, none⟩ = some (.int .i64 0) := (blk_cell Bz_22.out 5).trans rfl
      have fz5 : w22.frozen? ⟨w.heap.size, 5, none⟩ = false := blk_frozen Bz_22.out 5
      have dz6 : w22.cell? ⟨w.heap.size, 6, none⟩ = some (.int .i64 0) := (blk_cell Bz_22.out 6).trans rfl
      have fz6 : w22.frozen? ⟨w.heap.size, 6, none⟩ = false := blk_frozen Bz_22.out 6
      have dz7 : w22.cell? ⟨w.heap.size, 7, none⟩ = some (.int .i64 0) := (blk_cell Bz_22.out 7).trans rfl
      have fz7 : w22.frozen? ⟨w.heap.size, 7, none⟩ = false := blk_frozen Bz_22.out 7
      have dz8 : w22.cell? ⟨w.heap.size, 8, none⟩ = some (.int .i64 0) := (blk_cell Bz_22.out 8).trans rfl
      have fz8 : w22.frozen? ⟨w.heap.size, 8, none⟩ = false := blk_frozen Bz_22.out 8
      have dt0 : w22.cell? ⟨w.heap.size + 1, 0, none⟩ = some (.int .u64 x1) := (blk_cell Bt_22.out 0).trans rfl
      have ft0 : w22.frozen? ⟨w.heap.size + 1, 0, none⟩ = false := blk_frozen Bt_22.out 0
      have dt1 : w22.cell? ⟨w.heap.size + 1, 1, none⟩ = some (.int .i64 x2) := (blk_cell Bt_22.out 1).trans rfl
      have ft1 : w22.frozen? ⟨w.heap.size + 1, 1, none⟩ = false := blk_frozen Bt_22.out 1
      have dt2 : w22.cell? ⟨w.heap.size + 1, 2, none⟩ = some (.int .i64 x3) := (blk_cell Bt_22.out 2).trans rfl
      have ft2 : w22.frozen? ⟨w.heap.size + 1, 2, none⟩ = false := blk_frozen Bt_22.out 2
      have dt3 : w22.cell? ⟨w.heap.size + 1, 3, none⟩ = some (.int .i64 x4) := (blk_cell Bt_22.out 3).trans rfl
      have ft3 : w22.frozen? ⟨w.heap.size + 1, 3, none⟩ = false := blk_frozen Bt_22.out 3
      have dt4 : w22.cell? ⟨w.heap.size + 1, 4, none⟩ = some (.int .u64 x5) := (blk_cell Bt_22.out 4).trans rfl
      have ft4 : w22.frozen? ⟨w.heap.size + 1, 4, none⟩ = false := blk_frozen Bt_22.out 4
      have dt5 : w22.cell? ⟨w.heap.size + 1, 5, none⟩ = some (.int .i64 x6) := (blk_cell Bt_22.out 5).trans rfl
      have ft5 : w22.frozen? ⟨w.heap.size + 1, 5, none⟩ = false := blk_frozen Bt_22.out 5
      have dt6 : w22.cell? ⟨w.heap.size + 1, 6, none⟩ = some (.int .i64 x7) := (blk_cell Bt_22.out 6).trans rfl
      have ft6 : w22.frozen? ⟨w.heap.size + 1, 6, none⟩ = false := blk_frozen Bt_22.out 6
      have dt7 : w22.cell? ⟨w.heap.size + 1, 7, none⟩ = some (.int .i64 x8) := (blk_cell Bt_22.out 7).trans rfl
      have ft7 : w22.frozen? ⟨w.heap.size + 1, 7, none⟩ = false := blk_frozen Bt_22.out 7
      have dt8 : w22.cell? ⟨w.heap.size + 1, 8, none⟩ = some (.int .i64 x9) := (blk_cell Bt_22.out 8).trans rfl
      have ft8 : w22.frozen? ⟨w.heap.size + 1, 8, none⟩ = false := blk_frozen Bt_22.out 8
      refine bodyPost_ret (v := .tuple #[.agg #[.int .u64 0, .int .i64 0, .int .i64 0, .int .i64 0, .int .u64 0, .int .i64 0, .int .i64 0, .int .i64 0, .int .i64 0], .bool false]) (by simp [results, Try.results16, go_sem, dz0, dz1, dz2, dz3, dz4, dz5, dz6, dz7, dz8]) rfl (HP1.out (.inr HS.out) _ HR_22.out HU_22.out)
    | true =>
      have HS := Aside0.mk hs
      clear hs
      go_wp2_with (first | (go_at_call 10; with_reducible refine (tkref_any ⟨x1, x2, x3, x4, x5, x6, x7, x8, x9⟩ w19).mono ?_; rintro e w20 ⟨rfl, q1⟩; rw [HS.out]; clear dz0 fz0 dz1 fz1 dz2 fz2 dz3 fz3 dz4 fz4 dz5 fz5 dz6 fz6 dz7 fz7 dz8 fz8 dt0 ft0 dt1 ft1 dt2 ft2 dt3 ft3 dt4 ft4 dt5 ft5 dt6 ft6 dt7 ft7 dt8 ft8; have HR_20 := Aside0.mk (HR_19.out.below q1); have HU_20 := Aside0.mk (HU_19.out.then q1); have hs_20 : w19.heap.size ≤ w20.heap.size := q1.size; have Bz_20 := Aside0.mk (blk_below Bz_19.out q1); have Bt_20 := Aside0.mk (blk_below Bt_19.out q1); clear q1; have dz0 : w20.cell? ⟨w.heap.size, 0, none⟩ = some (.int .u64 0) := (blk_cell Bz_20.out 0).trans rfl; have fz0 : w20.frozen? ⟨w.heap.size, 0, none⟩ = false := blk_frozen Bz_20.out 0; have dz1 : w20.cell? ⟨w.heap.size, 1, none⟩ = some (.int .i64 0) := (blk_cell Bz_20.out 1).trans rfl; have fz1 : w20.frozen? ⟨w.heap.size, 1, none⟩ = false := blk_frozen Bz_20.out 1; have dz2 : w20.cell? ⟨w.heap.size, 2, none⟩ = some (.int .i64 0) := (blk_cell Bz_20.out 2).trans rfl; have fz2 : w20.frozen? ⟨w.heap.size, 2, none⟩ = false := blk_frozen Bz_20.out 2; have dz3 : w20.cell? ⟨w.heap.size, 3, none⟩ = some (.int .i64 0) := (blk_cell Bz_20.out 3).trans rfl; have fz3 : w20.frozen? ⟨w.heap.size, 3, none⟩ = false := blk_frozen Bz_20.out 3; have dz4 : w20.cell? ⟨w.heap.size, 4, none⟩ = some (.int .u64 0) := (blk_cell Bz_20.out 4).trans rfl; have fz4 : w20.frozen? ⟨w.heap.size, 4, none⟩ = false := blk_frozen Bz_20.out 4; have dz5 : w20.cell? ⟨w.heap.size, 5, none⟩ = some (.int .i64 0) := (blk_cell Bz_20.out 5).trans rfl; have fz5 : w20.frozen? ⟨w.heap.size, 5, none⟩ = false := blk_frozen Bz_20.out 5; have dz6 : w20.cell? ⟨w.heap.size, 6, none⟩ = some (.int .i64 0) := (blk_cell Bz_20.out 6).trans rfl; have fz6 : w20.frozen? ⟨w.heap.size, 6, none⟩ = false := blk_frozen Bz_20.out 6; have dz7 : w20.cell? ⟨w.heap.size, 7, none⟩ = some (.int .i64 0) := (blk_cell Bz_20.out 7).trans rfl; have fz7 : w20.frozen? ⟨w.heap.size, 7, none⟩ = false := blk_frozen Bz_20.out 7; have dz8 : w20.cell? ⟨w.heap.size, 8, none⟩ = some (.int .i64 0) := (blk_cell Bz_20.out 8).trans rfl; have fz8 : w20.frozen? ⟨w.heap.size, 8, none⟩ = false := blk_frozen Bz_20.out 8; have dt0 : w20.cell? ⟨w.heap.size + 1, 0, none⟩ = some (.int .u64 x1) := (blk_cell Bt_20.out 0).trans rfl; have ft0 : w20.frozen? ⟨w.heap.size + 1, 0, none⟩ = false := blk_frozen Bt_20.out 0; have dt1 : w20.cell? ⟨w.heap.size + 1, 1, none⟩ = some (.int .i64 x2) := (blk_cell Bt_20.out 1).trans rfl; have ft1 : w20.frozen? ⟨w.heap.size + 1, 1, none⟩ = false := blk_frozen Bt_20.out 1; have dt2 : w20.cell? ⟨w.heap.size + 1, 2, none⟩ = some (.int .i64 x3) := (blk_cell Bt_20.out 2).trans rfl; have ft2 : w20.frozen? ⟨w.heap.size + 1, 2, none⟩ = false := blk_frozen Bt_20.out 2; have dt3 : w20.cell? ⟨w.heap.size + 1, 3, none⟩ = some (.int .i64 x4) := (blk_cell Bt_20.out 3).trans rfl; have ft3 : w20.frozen? ⟨w.heap.size + 1, 3, none⟩ = false := blk_frozen Bt_20.out 3; have dt4 : w20.cell? ⟨w.heap.size + 1, 4, none⟩ = some (.int .u64 x5) := (blk_cell Bt_20.out 4).trans rfl; have ft4 : w20.frozen? ⟨w.heap.size + 1, 4, none⟩ = false := blk_frozen Bt_20.out 4; have dt5 : w20.cell? ⟨w.heap.size + 1, 5, none⟩ = some (.int .i64 x6) := (blk_cell Bt_20.out 5).trans rfl; have ft5 : w20.frozen? ⟨w.heap.size + 1, 5, none⟩ = false := blk_frozen Bt_20.out 5; have dt6 : w20.cell? ⟨w.heap.size + 1, 6, none⟩ = some (.int .i64 x7) := (blk_cell Bt_20.out 6).trans rfl; have ft6 : w20.frozen? ⟨w.heap.size + 1, 6, none⟩ = false := blk_frozen Bt_20.out 6; have dt7 : w20.cell? ⟨w.heap.size + 1, 7, none⟩ = some (.int .i64 x8) := (blk_cell Bt_20.out 7).trans rfl; have ft7 : w20.frozen? ⟨w.heap.size + 1, 7, none⟩ = false := blk_frozen Bt_20.out 7; have dt8 : w20.cell? ⟨w.heap.size + 1, 8, none⟩ = some (.int .i64 x9) := (blk_cell Bt_20.out 8).trans rfl; have ft8 : w20.frozen? ⟨w.heap.size + 1, 8, none⟩ = false := blk_frozen Bt_20.out 8))
      clear dz0 fz0 dz1 fz1 dz2 fz2 dz3 fz3 dz4 fz4 dz5 fz5 dz6 fz6 dz7 fz7 dz8 fz8 dt0 ft0 dt1 ft1 dt2 ft2 dt3 ft3 dt4 ft4 dt5 ft5 dt6 ft6 dt7 ft7 dt8 ft8
      have Bz_21 := Aside0.mk (blk_put (cs' := #[.int .u64 x1, .int .i64 x2, .int .i64 x3, .int .i64 x4, .int .u64 x5, .int .i64 x6, .int .i64 x7, .int .i64 x8, .int .i64 x9]) (blk_put (cs' := #[.int .u64 x1, .int .i64 x2, .int .i64 x3, .int .i64 x4, .int .u64 x5, .int .i64 x6, .int .i64 x7, .int .i64 x8, .int .i64 0]) (blk_put (cs' := #[.int .u64 x1, .int .i64 x2, .int .i64 x3, .int .i64 x4, .int .u64 x5, .int .i64 x6, .int .i64 x7, .int .i64 0, .int .i64 0]) (blk_put (cs' := #[.int .u64 x1, .int .i64 x2, .int .i64 x3, .int .i64 x4, .int .u64 x5, .int .i64 x6, .int .i64 0, .int .i64 0, .int .i64 0]) (blk_put (cs' := #[.int .u64 x1, .int .i64 x2, .int .i64 x3, .int .i64 x4, .int .u64 x5, .int .i64 0, .int .i64 0, .int .i64 0, .int .i64 0]) (blk_put (cs' := #[.int .u64 x1, .int .i64 x2, .int .i64 x3, .int .i64 x4, .int .u64 0, .int .i64 0, .int .i64 0, .int .i64 0, .int .i64 0]) (blk_put (cs' := #[.int .u64 x1, .int .i64 x2, .int .i64 x3, .int .i64 0, .int .u64 0, .int .i64 0, .int .i64 0, .int .i64 0, .int .i64 0]) (blk_put (cs' := #[.int .u64 x1, .int .i64 x2, .int .i64 0, .int .i64 0, .int .u64 0, .int .i64 0, .int .i64 0, .int .i64 0, .int .i64 0]) (blk_put (cs' := #[.int .u64 x1, .int .i64 0, .int .i64 0, .int .i64 0, .int .u64 0, .int .i64 0, .int .i64 0, .int .i64 0, .int .i64 0]) Bz_20.out 0 (.int .u64 x1) rfl) 1 (.int .i64 x2) rfl) 2 (.int .i64 x3) rfl) 3 (.int .i64 x4) rfl) 4 (.int .u64 x5) rfl) 5 (.int .i64 x6) rfl) 6 (.int .i64 x7) rfl) 7 (.int .i64 x8) rfl) 8 (.int .i64 x9) rfl)
      have HR_21 := Aside0.mk (RdAt.seti (RdAt.seti (RdAt.seti (RdAt.seti (RdAt.seti (RdAt.seti (RdAt.seti (RdAt.seti (RdAt.seti HR_20.out (b := w.heap.size) 0 (.int .u64 x1) (by omega) (by omega)) (b := w.heap.size) 1 (.int .i64 x2) (by omega) (by omega)) (b := w.heap.size) 2 (.int .i64 x3) (by omega) (by omega)) (b := w.heap.size) 3 (.int .i64 x4) (by omega) (by omega)) (b := w.heap.size) 4 (.int .u64 x5) (by omega) (by omega)) (b := w.heap.size) 5 (.int .i64 x6) (by omega) (by omega)) (b := w.heap.size) 6 (.int .i64 x7) (by omega) (by omega)) (b := w.heap.size) 7 (.int .i64 x8) (by omega) (by omega)) (b := w.heap.size) 8 (.int .i64 x9) (by omega) (by omega))
      have HU_21 := Aside0.mk (Upd.seti (Upd.seti (Upd.seti (Upd.seti (Upd.seti (Upd.seti (Upd.seti (Upd.seti (Upd.seti HU_20.out (b := w.heap.size) (by omega) 0 (.int .u64 x1)) (b := w.heap.size) (by omega) 1 (.int .i64 x2)) (b := w.heap.size) (by omega) 2 (.int .i64 x3)) (b := w.heap.size) (by omega) 3 (.int .i64 x4)) (b := w.heap.size) (by omega) 4 (.int .u64 x5)) (b := w.heap.size) (by omega) 5 (.int .i64 x6)) (b := w.heap.size) (by omega) 6 (.int .i64 x7)) (b := w.heap.size) (by omega) 7 (.int .i64 x8)) (b := w.heap.size) (by omega) 8 (.int .i64 x9))
      have hs_21 : w20.heap.size ≤ (((((((((w20.setCell ⟨w.heap.size, 0, none⟩ (.int .u64 x1)).setCell ⟨w.heap.size, 1, none⟩ (.int .i64 x2)).setCell ⟨w.heap.size, 2, none⟩ (.int .i64 x3)).setCell ⟨w.heap.size, 3, none⟩ (.int .i64 x4)).setCell ⟨w.heap.size, 4, none⟩ (.int .u64 x5)).setCell ⟨w.heap.size, 5, none⟩ (.int .i64 x6)).setCell ⟨w.heap.size, 6, none⟩ (.int .i64 x7)).setCell ⟨w.heap.size, 7, none⟩ (.int .i64 x8)).setCell ⟨w.heap.size, 8, none⟩ (.int .i64 x9)).heap.size := by simp
      have Bt_21 : Aside0 ((((((((((w20.setCell ⟨w.heap.size, 0, none⟩ (.int .u64 x1)).setCell ⟨w.heap.size, 1, none⟩ (.int .i64 x2)).setCell ⟨w.heap.size, 2, none⟩ (.int .i64 x3)).setCell ⟨w.heap.size, 3, none⟩ (.int .i64 x4)).setCell ⟨w.heap.size, 4, none⟩ (.int .u64 x5)).setCell ⟨w.heap.size, 5, none⟩ (.int .i64 x6)).setCell ⟨w.heap.size, 6, none⟩ (.int .i64 x7)).setCell ⟨w.heap.size, 7, none⟩ (.int .i64 x8)).setCell ⟨w.heap.size, 8, none⟩ (.int .i64 x9)).heap[w.heap.size + 1]? = _) := ⟨((Below.heap_setCell _ _ _ _ (by show w.heap.size + 1 ≠ w.heap.size; omega)).trans ((Below.heap_setCell _ _ _ _ (by show w.heap.size + 1 ≠ w.heap.size; omega)).trans ((Below.heap_setCell _ _ _ _ (by show w.heap.size + 1 ≠ w.heap.size; omega)).trans ((Below.heap_setCell _ _ _ _ (by show w.heap.size + 1 ≠ w.heap.size; omega)).trans ((Below.heap_setCell _ _ _ _ (by show w.heap.size + 1 ≠ w.heap.size; omega)).trans ((Below.heap_setCell _ _ _ _ (by show w.heap.size + 1 ≠ w.heap.size; omega)).trans ((Below.heap_setCell _ _ _ _ (by show w.heap.size + 1 ≠ w.heap.size; omega)).trans ((Below.heap_setCell _ _ _ _ (by show w.heap.size + 1 ≠ w.heap.size; omega)).trans ((Below.heap_setCell _ _ _ _ (by show w.heap.size + 1 ≠ w.heap.size; omega)).trans Bt_20.out)))))))))⟩
      generalize (((((((((w20.setCell ⟨w.heap.size, 0, none⟩ (.int .u64 x1)).setCell ⟨w.heap.size, 1, none⟩ (.int .i64 x2)).setCell ⟨w.heap.size, 2, none⟩ (.int .i64 x3)).setCell ⟨w.heap.size, 3, none⟩ (.int .i64 x4)).setCell ⟨w.heap.size, 4, none⟩ (.int .u64 x5)).setCell ⟨w.heap.size, 5, none⟩ (.int .i64 x6)).setCell ⟨w.heap.size, 6, none⟩ (.int .i64 x7)).setCell ⟨w.heap.size, 7, none⟩ (.int .i64 x8)).setCell ⟨w.heap.size, 8, none⟩ (.int .i64 x9)) = w21 at Bz_21 HR_21 HU_21 hs_21 Bt_21 ⊢
      have dz0 : w21.cell? ⟨w.heap.size, 0, none⟩ = some (.int .u64 x1) := (blk_cell Bz_21.out 0).trans rfl
      have fz0 : w21.frozen? ⟨w.heap.size, 0, none⟩ = false := blk_frozen Bz_21.out 0
      have dz1 : w21.cell? ⟨w.heap.size, 1, none⟩ = some (.int .i64 x2) := (blk_cell Bz_21.out 1).trans rfl
      have fz1 : w21.frozen? ⟨w.heap.size, 1, none⟩ = false := blk_frozen Bz_21.out 1
      have dz2 : w21.cell? ⟨w.heap.size, 2, none⟩ = some (.int .i64 x3) := (blk_cell Bz_21.out 2).trans rfl
      have fz2 : w21.frozen? ⟨w.heap.size, 2, none⟩ = false := blk_frozen Bz_21.out 2
      have dz3 : w21.cell? ⟨w.heap.size, 3, none⟩ = some (.int .i64 x4) := (blk_cell Bz_21.out 3).trans rfl
      have fz3 : w21.frozen? ⟨w.heap.size, 3, none⟩ = false := blk_frozen Bz_21.out 3
      have dz4 : w21.cell? ⟨w.heap.size, 4, none⟩ = some (.int .u64 x5) := (blk_cell Bz_21.out 4).trans rfl
      have fz4 : w21.frozen? ⟨w.heap.size, 4, none⟩ = false := blk_frozen Bz_21.out 4
      have dz5 : w21.cell? ⟨w.heap.size, 5, none⟩ = some (.int .i64 x6) := (blk_cell Bz_21.out 5).trans rfl
      have fz5 : w21.frozen? ⟨w.heap.size, 5, none⟩ = false := blk_frozen Bz_21.out 5
      have dz6 : w21.cell? ⟨w.heap.size, 6, none⟩ = some (.int .i64 x7) := (blk_cell Bz_21.out 6).trans rfl
      have fz6 : w21.frozen? ⟨w.heap.size, 6, none⟩ = false := blk_frozen Bz_21.out 6
      have dz7 : w21.cell? ⟨w.heap.size, 7, none⟩ = some (.int .i64 x8) := (blk_cell Bz_21.out 7).trans rfl
      have fz7 : w21.frozen? ⟨w.heap.size, 7, none⟩ = false := blk_frozen Bz_21.out 7
      have dz8 : w21.cell? ⟨w.heap.size, 8, none⟩ = some (.int .i64 x9) := (blk_cell Bz_21.out 8).trans rfl
      have fz8 : w21.frozen? ⟨w.heap.size, 8, none⟩ = false := blk_frozen Bz_21.out 8
      have dt0 : w21.cell? ⟨w.heap.size + 1, 0, none⟩ = some (.int .u64 x1) := (blk_cell Bt_21.out 0).trans rfl
      have ft0 : w21.frozen? ⟨w.heap.size + 1, 0, none⟩ = false := blk_frozen Bt_21.out 0
      have dt1 : w21.cell? ⟨w.heap.size + 1, 1, none⟩ = some (.int .i64 x2) := (blk_cell Bt_21.out 1).trans rfl
      have ft1 : w21.frozen? ⟨w.heap.size + 1, 1, none⟩ = false := blk_frozen Bt_21.out 1
      have dt2 : w21.cell? ⟨w.heap.size + 1, 2, none⟩ = some (.int .i64 x3) := (blk_cell Bt_21.out 2).trans rfl
      have ft2 : w21.frozen? ⟨w.heap.size + 1, 2, none⟩ = false := blk_frozen Bt_21.out 2
      have dt3 : w21.cell? ⟨w.heap.size + 1, 3, none⟩ = some (.int .i64 x4) := (blk_cell Bt_21.out 3).trans rfl
      have ft3 : w21.frozen? ⟨w.heap.size + 1, 3, none⟩ = false := blk_frozen Bt_21.out 3
      have dt4 : w21.cell? ⟨w.heap.size + 1, 4, none⟩ = some (.int .u64 x5) := (blk_cell Bt_21.out 4).trans rfl
      have ft4 : w21.frozen? ⟨w.heap.size + 1, 4, none⟩ = false := blk_frozen Bt_21.out 4
      have dt5 : w21.cell? ⟨w.heap.size + 1, 5, none⟩ = some (.int .i64 x6) := (blk_cell Bt_21.out 5).trans rfl
      have ft5 : w21.frozen? ⟨w.heap.size + 1, 5, none⟩ = false := blk_frozen Bt_21.out 5
      have dt6 : w21.cell? ⟨w.heap.size + 1, 6, none⟩ = some (.int .i64 x7) := (blk_cell Bt_21.out 6).trans rfl
      have ft6 : w21.frozen? ⟨w.heap.size + 1, 6, none⟩ = false := blk_frozen Bt_21.out 6
      have dt7 : w21.cell? ⟨w.heap.size + 1, 7, none⟩ = some (.int .i64 x8) := (blk_cell Bt_21.out 7).trans rfl
      have ft7 : w21.frozen? ⟨w.heap.size + 1, 7, none⟩ = false := blk_frozen Bt_21.out 7
      have dt8 : w21.cell? ⟨w.heap.size + 1, 8, none⟩ = some (.int .i64 x9) := (blk_cell Bt_21.out 8).trans rfl
      have ft8 : w21.frozen? ⟨w.heap.size + 1, 8, none⟩ = false := blk_frozen Bt_21.out 8
      refine bodyPost_ret (v := .tuple #[.agg #[.int .u64 x1, .int .i64 x2, .int .i64 x3, .int .i64 x4, .int .u64 x5, .int .i64 x6, .int .i64 x7, .int .i64 x8, .int .i64 x9], .bool true]) (by simp [results, Try.results16, go_sem, dz0, dz1, dz2, dz3, dz4, dz5, dz6, dz7, dz8]) rfl (HP2.out (by first | rfl | trivial) HS.out _ HR_21.out HU_21.out)
end Go.Proofs.Ytepldlnmeenlbaa.Own
namespace Go.Proofs.Ytepldlnmeenlbaa.Base
open Go.RowKit Go.Proofs.YtepldlnmeenlbaaW.PrintWords Go.Proofs.YtepldlnmeenlbaaW.PrintLast Go.Proofs.YtepldlnmeenlbaaW.PrintMore
attribute [local go_sem] max2_int min2_int max_two min_two max_three min_three max_four min_four   -- for this text's walks alone
theorem eqA143 (d : Nat) (w : World) (x0 y0 : Int) (x1 y1 : Int) :
    (Op.equalIn (d + 2) 143 (.agg #[.int .i64 x0, .int .i64 x1]) (.agg #[.int .i64 y0, .int .i64 y1])).run Try.prog w = .ok (x0 == y0 && (x1 == y1)) w := by
  refine eqA_of Try.underlying143 (by kernel_rfl) ?_
  refine eqf_cons (by rfl) (by go_simp; rfl) (by go_simp; rfl) (by go_simp) ?_
  exact eqf_last (by rfl) (by go_simp; rfl) (by go_simp; rfl) (by go_simp)
end Go.Proofs.Ytepldlnmeenlbaa.Base
