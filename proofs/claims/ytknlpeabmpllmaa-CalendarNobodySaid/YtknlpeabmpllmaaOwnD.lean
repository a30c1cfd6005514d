/- OwnD: Ref0, Lives, OpenCal, Pure, Walk0, Pure2. -/
import Derived.Test.YtknlpeabmpllmaaOwnB
import Derived.Test.YtknlpeabmpllmaaBase4
import Derived.Test.YtknlpeabmpllmaaOwnC
import Derived.Test.YtknlpeabmpllmaaRows
import Derived.WalkKit
import Derived.ProofKit
import Derived.OpenShut
import Derived.ShutString
import Derived.ChangeOld
import Derived.Below
import Derived.SizedLaws
import Derived.Lib.SmallJoins
import Derived.Deep.SlicePairs
set_option linter.unusedVariables false
set_option linter.unusedSimpArgs false
namespace Go.Proofs.Ytknlpeabmpllmaa.Own
open Go.RowKit Go.Proofs Go.Proofs.YtknlpeabmpllmaaW.PrintWords Go.Proofs.YtknlpeabmpllmaaW.PrintLast Go.Proofs.YtknlpeabmpllmaaW.PrintMore Go.Proofs.Ytknlpeabmpllmaa.Base

theorem rright_eq (a b : Int) : curfewref07_Right.f a b = some (decide (0 ≤ a ∧ a < b ∧ b ≤ 1125899906842624)) := by
  unfold curfewref07_Right.f
  by_cases h1 : 0 ≤ a
  · rw [if_pos h1]
    by_cases h2 : a < b
    · rw [if_pos h2]; simp [h1, h2]
    · rw [if_neg h2]; simp [h2]
  · rw [if_neg h1]; simp [h1]
theorem rrow_l0 (l : List S57) (hl : l.length ≤ 1000000) : ∀ (d k i : Nat) (lo : Int), i + d = l.length → d < k → (i = 0 ∧ lo = 0 ∨ 0 < i ∧ lo = (rd_T57 l ((i : Int) - 1)).f1) → curfewref07_Row.l0 k l (i : Int) = some (if okRow lo (l.drop i) then 0 else 2) := by
  intro d
  induction d with
  | zero =>
    intro k i lo hi hk _
    obtain ⟨k, rfl⟩ : ∃ m, k = m + 1 := ⟨k - 1, by omega⟩
    rw [List.drop_eq_nil_of_le (by omega)]
    simp only [curfewref07_Row.l0]
    rw [if_neg (by omega)]
    rfl
  | succ d ih =>
    intro k i lo hi hk hlo
    obtain ⟨k, rfl⟩ : ∃ m, k = m + 1 := ⟨k - 1, by omega⟩
    have hlt : i < l.length := by omega
    rw [drop_at hlt]
    simp only [curfewref07_Row.l0]
    rw [if_pos (by omega), if_pos (by omega), rright_eq, wrap_id (x := (i : Int) + 1) (by omega) (by omega), wrap_id (x := (i : Int) - 1) (by omega) (by omega)]
    simp only [Option.bind_some, decide_eq_true_eq]
    have ih' := ih k (i + 1) (rd_T57 l i).f1 (by omega) (by omega) (.inr ⟨by omega, by rw [show ((i + 1 : Nat) : Int) - 1 = (i : Int) by omega]⟩)
    rw [show ((i + 1 : Nat) : Int) = (i : Int) + 1 by omega] at ih'
    by_cases h : 0 ≤ (rd_T57 l i).f0 ∧ (rd_T57 l i).f0 < (rd_T57 l i).f1 ∧ (rd_T57 l i).f1 ≤ 1125899906842624
    · rw [if_pos h]
      have e0 : okRow lo (rd_T57 l i :: l.drop (i + 1)) = (decide (lo ≤ (rd_T57 l i).f0) && okRow (rd_T57 l i).f1 (l.drop (i + 1))) := by
        conv => lhs; unfold okRow
        congr 1
        simp [h.1, h.2.1, h.2.2]
      rw [e0]
      rcases hlo with ⟨rfl, rfl⟩ | ⟨h0, rfl⟩
      · rw [if_neg (by omega), ih', decide_eq_true h.1, Bool.true_and]
      · rw [if_pos (by omega), if_pos (by omega), if_pos (by omega)]
        by_cases h2 : (rd_T57 l i).f0 < (rd_T57 l ((i : Int) - 1)).f1
        · rw [if_pos h2, decide_eq_false (by omega)]; rfl
        · rw [if_neg h2, ih', decide_eq_true (by omega), Bool.true_and]
    · rw [if_neg h]
      have e : okRow lo (rd_T57 l i :: l.drop (i + 1)) = false := by unfold okRow; rw [decide_eq_false (by omega)]; rfl
      rw [e]; rfl
theorem rrow_eq (l : List S57) (k : Nat) (hk : 33 < k) : curfewref07_Row.f k l = some (rowErr l) := by
  unfold curfewref07_Row.f rowErr
  by_cases h : 32 < l.length
  · rw [if_pos (by omega), if_pos h]
  · rw [if_neg (by omega), if_neg h]
    exact rrow_l0 l (by omega) l.length k 0 0 (by omega) (by omega) (.inl ⟨rfl, rfl⟩)
theorem wrong_l0 (l : List S57) (hl : l.length ≤ 1000000) : ∀ (d k i : Nat), i + d = l.length → d < k → curfewref08_Wrong.l0 k l (i : Int) = some (if ∃ s, s ∈ l.drop i ∧ 604800 < s.f1 then 2 else 0) := by
  intro d
  induction d with
  | zero =>
    intro k i hi hk
    obtain ⟨k, rfl⟩ : ∃ m, k = m + 1 := ⟨k - 1, by omega⟩
    rw [List.drop_eq_nil_of_le (by omega)]
    simp only [curfewref08_Wrong.l0]
    rw [if_neg (by omega), if_neg (by simp)]
  | succ d ih =>
    intro k i hi hk
    obtain ⟨k, rfl⟩ : ∃ m, k = m + 1 := ⟨k - 1, by omega⟩
    have hlt : i < l.length := by omega
    rw [drop_at hlt]
    simp only [curfewref08_Wrong.l0]
    rw [if_pos (by omega), if_pos (by omega), wrap_id (x := (i : Int) + 1) (by omega) (by omega)]
    have ih' := ih k (i + 1) (by omega) (by omega)
    rw [show ((i + 1 : Nat) : Int) = (i : Int) + 1 by omega] at ih'
    by_cases h : (rd_T57 l i).f1 > 604800
    · rw [if_pos h, if_pos ⟨_, List.mem_cons_self, h⟩]
    · rw [if_neg h, ih']
      congr 1
      by_cases h2 : ∃ s, s ∈ l.drop (i + 1) ∧ 604800 < s.f1
      · obtain ⟨s, a, b⟩ := h2
        rw [if_pos ⟨s, a, b⟩, if_pos ⟨s, List.mem_cons_of_mem _ a, b⟩]
      · rw [if_neg h2, if_neg]
        rintro ⟨s, a, b⟩
        rcases List.mem_cons.1 a with rfl | a
        · omega
        · exact h2 ⟨s, a, b⟩
theorem wrong_eq (l : List S57) (k : Nat) (hk : 33 < k) : curfewref08_Wrong.f k l = some (weekErr l) := by
  unfold curfewref08_Wrong.f weekErr
  rw [rrow_eq l k hk, Option.bind_some]
  by_cases h : rowErr l = 0
  · rw [if_pos h, if_pos h]
    have hok := rowErr_ok h
    rw [show (0 : Int) = ((0 : Nat) : Int) from rfl, wrong_l0 l (by have := hok.len; omega) l.length k 0 (by omega) (by have := hok.len; omega), List.drop_zero]
    congr 1
    by_cases h2 : 604800 < lastEnd l
    · have hex : ∃ s, s ∈ l ∧ 604800 < s.f1 := by
        cases hl : l.getLast? with
        | none => unfold lastEnd at h2; rw [hl] at h2; simp only at h2; omega
        | some s => unfold lastEnd at h2; rw [hl] at h2; exact ⟨s, List.mem_of_getLast? hl, h2⟩
      rw [if_pos h2, if_pos hex]
    · have hex : ¬ ∃ s, s ∈ l ∧ 604800 < s.f1 := by
        rintro ⟨s, a, b⟩
        have := hok.row.le_last s a
        omega
      rw [if_neg h2, if_neg hex]; rfl
  · rw [if_neg h, if_neg h]
/-- The document's check. -/
theorem check_eq (off : Int) (week closed : List S57) (k : Nat) (hk : 34 < k) : curfewref10_Check.f k off week closed = some (calErr off week closed) := by
  obtain ⟨k, rfl⟩ : ∃ m, k = m + 1 := ⟨k - 1, by omega⟩
  unfold curfewref10_Check.f calErr
  by_cases h1 : off < 0
  · rw [if_pos h1, if_pos (.inl h1)]
    simp only [curfewref10_Check.j0, if_true]
  · rw [if_neg h1]
    simp only [curfewref10_Check.j0, decide_eq_true_eq]
    by_cases h2 : off ≥ 604800
    · rw [if_pos h2, if_pos (.inr h2)]
    · rw [if_neg h2, if_neg (by omega), wrong_eq week k (by omega), Option.bind_some]
      by_cases h3 : weekErr week = 0
      · rw [if_pos h3, if_pos h3, rrow_eq closed k (by omega), Option.bind_some]
      · rw [if_neg h3, if_neg h3]
end Go.Proofs.Ytknlpeabmpllmaa.Own

set_option linter.unusedVariables false
set_option linter.unusedSimpArgs false
namespace Go.Proofs.Ytknlpeabmpllmaa.Own
open Go.RowKit Go.Proofs Go.Proofs.YtknlpeabmpllmaaW.PrintWords Go.Proofs.YtknlpeabmpllmaaW.PrintLast Go.Proofs.YtknlpeabmpllmaaW.PrintMore Go.Proofs.Ytknlpeabmpllmaa.Base
attribute [local go_sem] max2_mx min2_mn max_two min_two

theorem lives_1 : dueP 0 [⟨10, 20⟩] [] 0 5 = (15, 0) := by kernel_rfl
theorem lives_2 : dueP 0 [⟨10, 20⟩] [] 15 6 = (604811, 0) := by kernel_rfl
theorem lives_0 : calErr 0 [⟨10, 20⟩] [] = 0 := by kernel_rfl
theorem one_span (w : World) : Kd.C k57 (w.alloc (.cells #[.int .i64 10, .int .i64 20] 57)) (some ⟨w.heap.size, 0, none⟩) [(⟨10, 20⟩ : S57)].length [⟨10, 20⟩] := by
  refine ⟨rfl, by decide, fun _ => ⟨_, rfl, fun j p hp => ?_⟩⟩
  cases j with
  | zero =>
    injection hp with hp
    subst hp
    refine ⟨[.int .i64 10, .int .i64 20], rfl, k57_mk _ _, fun i u hu => ?_⟩
    match i, hu with
    | 0, hu => injection hu with hu; subst hu; exact (blk_cell (blk_new w _) 0).trans rfl
    | 1, hu => injection hu with hu; subst hu; exact (blk_cell (blk_new w _) 1).trans rfl
    | (n + 2), hu => cases hu
  | succ j => cases hp
theorem no_span (w : World) : Kd.C k57 w none ([] : List S57).length [] := ⟨rfl, by decide, fun h => absurd h (by simp)⟩
variable {n kb ab pb cb : Nat}
theorem lives_due1 (w : World) (h : ClkAt w n kb ab pb cb 0 [⟨10, 20⟩] []) (hn : n ≤ w.heap.size) :
    Calls Try.prog 14 #[.pointer (some ⟨kb, 0, none⟩), .int .i64 0, .int .i64 5] w fun e w' => e = .returned (.tuple #[.int .i64 15, .int .i64 0]) ∧ ClkAt w' n kb ab pb cb 0 [⟨10, 20⟩] [] ∧ Upd cb w w' := by
  have := due_any 0 5 w h hn (by omega)
  rw [lives_1] at this
  exact this
theorem lives_due2 (w : World) (h : ClkAt w n kb ab pb cb 0 [⟨10, 20⟩] []) (hn : n ≤ w.heap.size) :
    Calls Try.prog 14 #[.pointer (some ⟨kb, 0, none⟩), .int .i64 15, .int .i64 6] w fun e w' => e = .returned (.tuple #[.int .i64 604811, .int .i64 0]) ∧ ClkAt w' n kb ab pb cb 0 [⟨10, 20⟩] [] ∧ Upd cb w w' := by
  have := due_any 15 6 w h hn (by omega)
  rw [lives_2] at this
  exact this
set_option maxHeartbeats 1000000 in
set_option maxRecDepth 100000 in
theorem lives_any (w : World) : Calls Try.prog 12 #[] w fun e w' => e = .returned (.bool true) ∧ Below w.heap.size w w' := by
  have HC := Aside0.mk (one_span w)
  have B0 := Aside0.mk (below_alloc (Below.refl w.heap.size w) (.cells #[.int .i64 10, .int .i64 20] 57))
  go_enter Try.func12, Try.ntmps12
  go_wp2_with fail
  generalize (w.alloc (.cells #[.int .i64 10, .int .i64 20] 57)) = w1 at HC B0 ⊢
  have HNEW := Aside0.mk (calnew_yes 0 _ none 1 0 [⟨10, 20⟩] [] w1 HC.out (Nat.le_refl _) (no_span w1) (Nat.le_refl _) lives_0)
  have HNW := HC
  clear HC
  go_wp2_with (first | (go_at_call 13; refine HNEW.out.mono ?_; rintro e w2 ⟨kb, ab, pb, cb, rfl, C2, hb⟩; have HC2 := Aside0.mk C2; have HB2 := Aside0.mk hb; clear C2 hb HNEW) | (go_at_call 14; with_reducible refine (lives_due1 w2 HC2.out HB2.out.size).mono ?_; rintro e w3 ⟨rfl, C3, U3⟩; have HC3 := Aside0.mk C3; have HU3 := Aside0.mk U3; clear C3 U3) | (go_at_call 14; with_reducible refine (lives_due2 w3 HC3.out (Nat.le_trans HB2.out.size HU3.out.size)).mono ?_; rintro e w4 ⟨rfl, C4, U4⟩; have HU4 := Aside0.mk U4; clear C4 U4))
  go_ret
  have hn : w1.heap.size ≤ cb := HC2.out.plan.ncb
  have hs := B0.out.size
  have hb := HB2.out
  exact ⟨rfl, below_step B0.out (hb.trans (Upd.below (HU3.out.trans HU4.out) hb.size hn))⟩
end Go.Proofs.Ytknlpeabmpllmaa.Own

set_option linter.unusedVariables false
set_option linter.unusedSimpArgs false
namespace Go.Proofs.Ytknlpeabmpllmaa.Own
open Go.RowKit Go.Proofs Go.Proofs.YtknlpeabmpllmaaW.PrintWords Go.Proofs.YtknlpeabmpllmaaW.PrintLast Go.Proofs.YtknlpeabmpllmaaW.PrintMore Go.Proofs.Ytknlpeabmpllmaa.Base
open Go.ChangeShapes Go.WideShapes Go.ChangeAt Go.Joins Go.Deep

theorem calCells : Try.prog.cellsOf 24 = 3 := by kernel_rfl
theorem ownKnob_none : ownKnob Try.prog.godebug = none := by kernel_rfl
theorem laidOut : laidOutB Try.prog = true := by kernel_rfl
def intOf : Value → Int
  | .int _ x => x
  | _ => 0
set_option maxRecDepth 100000 in
theorem spans_open {H : Type} {enc : TypeId × Value → H} {W : World} {spare : Nat → Bool} {held : Bool} {fuel : Nat} {v : Value} {x : DataW H × List MemPlace} (h : DataW.trod enc Try.prog W 0 spare held fuel 22 [v] = some x) :
    ∃ (A : Option Addr) (c : Nat) (l : List S57), v = .slice A l.length c ∧ l.length ≤ c ∧ Kd.C k57 W A l.length l := by
  rcases open_slice_pairs Try.underlying22 Try.underlying57 (by kernel_rfl) (by rfl) (by rfl) (by kernel_rfl) (by kernel_rfl) h with ⟨hcs, _⟩ | ⟨a, len, cap, m, n, V0, V1, D0, D1, P0, P1, hcs, _, hl, hm, hmm, _, hx⟩
  · injection hcs with hv
    exact ⟨none, 0, [], hv, Nat.le_refl _, ⟨rfl, by decide, fun h => absurd h (by simp)⟩⟩
  · injection hcs with hv
    have hlm : len ≤ m := by rw [hmm]; split <;> omega
    have hint : ∀ i, i < len → V0 i = .int .i64 (intOf (V0 i)) ∧ V1 i = .int .i64 (intOf (V1 i)) := fun i hi => by
      obtain ⟨_, _, t0, t1⟩ := hx i (by omega)
      obtain ⟨a0, e0, _, _⟩ := DataW.trod_int Try.underlying2 t0
      obtain ⟨a1, e1, _, _⟩ := DataW.trod_int Try.underlying2 t1
      simp at e0 e1
      rw [e0, e1]
      exact ⟨rfl, rfl⟩
    refine ⟨some a, cap, (List.range len).map fun i => ⟨intOf (V0 i), intOf (V1 i)⟩, by simpa using hv, by simpa using hl, ?_⟩
    refine ⟨rfl, by simp; unfold maxLen at hm; omega, fun _ => ⟨a, rfl, fun j p hp => ?_⟩⟩
    have hj : j < len := by
      rcases Nat.lt_or_ge j len with h | h
      · exact h
      · rw [List.getElem?_eq_none (by simpa using h)] at hp; cases hp
    rw [List.getElem?_map, List.getElem?_range hj] at hp
    injection hp with hp
    subst hp
    obtain ⟨c0, c1, _, _⟩ := hx j (by omega)
    refine ⟨[V0 j, V1 j], rfl, ?_, fun i u hu => ?_⟩
    · rw [(hint j hj).1, (hint j hj).2]
      exact k57_mk W ⟨intOf (V0 j), intOf (V1 j)⟩
    · match i, hu with
      | 0, hu => injection hu with hu; subst hu; exact c0
      | 1, hu => injection hu with hu; subst hu; exact c1
      | (n + 2), hu => cases hu
set_option maxRecDepth 100000 in
theorem cal_open {H : Type} {enc : TypeId × Value → H} {W : World} {spare : Nat → Bool} {held : Bool} {r : Reach} {b0 : Nat} {v : Value} {d : DataW H} {p : List MemPlace} (hv : Value.okWide Try.prog W r b0 24 v) (h : DataW.Trod enc Try.prog W 0 spare held 24 v d p) :
    ∃ (off : Int) (A1 A2 : Option Addr) (c1 c2 : Nat) (week closed : List S57), v = .agg #[.int .i64 off, .slice A1 week.length c1, .slice A2 closed.length c2] ∧ (Kd.C k57 W A1 week.length week ∧ week.length ≤ c1) ∧ (Kd.C k57 W A2 closed.length closed ∧ closed.length ≤ c2) := by
  obtain ⟨v0, v1, v2, y0, y1, y2, m, rfl, _, _, t0, t1, t2⟩ := open_agg3 Try.underlying24 (by kernel_rfl) calCells hv h
  obtain ⟨a0, e0, _, _⟩ := DataW.trod_int Try.underlying2 t0
  obtain ⟨A1, c1, week, rfl, hl1, hc1⟩ := spans_open t1
  obtain ⟨A2, c2, closed, rfl, hl2, hc2⟩ := spans_open t2
  simp at e0
  subst e0
  exact ⟨a0, A1, A2, c1, c2, week, closed, rfl, ⟨hc1, hl1⟩, ⟨hc2, hl2⟩⟩
end Go.Proofs.Ytknlpeabmpllmaa.Own

set_option linter.unusedVariables false
set_option linter.unusedSimpArgs false
namespace Go.Proofs.Ytknlpeabmpllmaa.Own
open Go.RowKit Go.Proofs Go.Proofs.YtknlpeabmpllmaaW.PrintWords Go.Proofs.YtknlpeabmpllmaaW.PrintLast Go.Proofs.YtknlpeabmpllmaaW.PrintMore Go.Proofs.Ytknlpeabmpllmaa.Base
variable {off : Int} {week closed : List S57}

/-- A calendar that may be. -/
structure CalOk (off : Int) (week closed : List S57) : Prop where
  lo : 0 ≤ off
  hi : off < 604800
  week : RowOk 604800 week
  closed : RowOk 1125899906842624 closed
theorem calErr_ok (h : calErr off week closed = 0) : CalOk off week closed := by
  unfold calErr at h
  by_cases h1 : off < 0 ∨ 604800 ≤ off
  · rw [if_pos h1] at h; cases h
  · rw [if_neg h1] at h
    by_cases h2 : weekErr week = 0
    · rw [if_pos h2] at h
      exact ⟨by omega, by omega, weekErr_ok h2, rowErr_ok h⟩
    · rw [if_neg h2] at h; exact absurd h h2
theorem secs_nil {hi : Int} {l : List S57} (h : RowOk hi l) (h0 : 0 ≤ hi) (hs : secs l = 0) : l = [] := by
  cases l with
  | nil => rfl
  | cons s r =>
    obtain ⟨_, h2, h3⟩ := h.row
    have := (secs_bound h3 (fun x hx => h.top x (by simp [hx]))).1
    simp only [secs] at hs
    omega
/-- What is due: the first instant up to which a budget has elapsed. -/
theorem dueP_spec (h : CalOk off week closed) {a B : Int} (ha : 0 ≤ a) (haH : a ≤ 1125899906842624) (hB : 0 ≤ B) :
    ((dueP off week closed a B).2 = 0 ∧ a ≤ (dueP off week closed a B).1 ∧ (dueP off week closed a B).1 ≤ 1125899906842624 ∧ Nn off week closed (dueP off week closed a B).1 = Nn off week closed a + B ∧ (B = 0 → (dueP off week closed a B).1 = a) ∧
      (0 < B → a < (dueP off week closed a B).1 ∧ Nn off week closed ((dueP off week closed a B).1 - 1) = Nn off week closed a + B - 1 ∧ cop off week closed ((dueP off week closed a B).1 - 1) = true)) ∨
    ((dueP off week closed a B).1 = 0 ∧ Nn off week closed 1125899906842624 - Nn off week closed a < B ∧ ((dueP off week closed a B).2 = 10 ∧ 0 < secs week ∨ (dueP off week closed a B).2 = 40 ∧ week = [])) := by
  have hN := Nn_step h.week h.closed h.lo h.hi
  unfold dueP
  rw [if_neg (by omega)]
  by_cases h0 : B = 0
  · rw [if_pos h0]
    exact .inl ⟨rfl, Int.le_refl _, haH, by simp only; omega, fun _ => rfl, fun h => by omega⟩
  · rw [if_neg h0]
    by_cases hs : secs week = 0
    · rw [if_pos hs]
      have hw := secs_nil h.week (by omega) hs
      refine .inr ⟨rfl, ?_, .inr ⟨rfl, hw⟩⟩
      have := hN.still ha haH (Int.le_refl _) (fun t _ _ => by subst hw; simp [cop, wop, inRow])
      omega
    · rw [if_neg hs]
      have hs0 := (h.week.secs (by omega)).1
      have := due_spec h.week h.lo h.hi (by omega) (Nn off week closed) closed 0 a B h.closed.row (Int.le_refl _) h.closed.top ha haH (by omega) (hN.sub ha (Int.le_refl _))
      revert this
      cases dueL off week B (freeL closed a 1125899906842624) with
      | none => intro hh; exact .inr ⟨rfl, hh, .inl ⟨rfl, by omega⟩⟩
      | some d =>
        rintro ⟨d1, d2, d3, d4, d5⟩
        exact .inl ⟨rfl, by simp only [dueR]; omega, d2, d3, fun h => by omega, fun _ => ⟨d1, d4, d5⟩⟩
theorem grows_pure (h : CalOk off week closed) {a b B M : Int} (ha : 0 ≤ a) (hab : a ≤ b) (hb : b ≤ 1125899906842624) (hB : 0 ≤ B) (hM : 0 ≤ M) :
    ((dueP off week closed b (B + M)).2 = 0 → (dueP off week closed a B).2 = 0 ∧ (dueP off week closed a B).1 ≤ (dueP off week closed b (B + M)).1) ∧ ((dueP off week closed b (B + M)).2 ≠ 0 → (dueP off week closed b (B + M)).1 = 0) := by
  have hN := Nn_step h.week h.closed h.lo h.hi
  have m1 := (hN.le ha hab hb).1
  rcases dueP_spec h (a := b) (B := B + M) (by omega) hb (by omega) with ⟨g0, g1, g2, g3, g4, g5⟩ | ⟨g0, g1, g2⟩
  · refine ⟨fun _ => ?_, fun h => absurd g0 h⟩
    have m2 := (hN.le (a := (dueP off week closed b (B + M)).1) (b := 1125899906842624) (by omega) g2 (Int.le_refl _)).1
    rcases dueP_spec h (a := a) (B := B) ha (by omega) hB with ⟨f0, f1, f2, f3, f4, f5⟩ | ⟨f0, f1, f2⟩
    · refine ⟨f0, ?_⟩
      by_cases hB0 : B = 0
      · rw [f4 hB0]; omega
      · obtain ⟨k1, k2, k3⟩ := f5 (by omega)
        rcases Int.lt_or_le (dueP off week closed b (B + M)).1 (dueP off week closed a B).1 with hlt | hge
        · have m3 := (hN.le (a := (dueP off week closed b (B + M)).1) (b := (dueP off week closed a B).1 - 1) (by omega) (by omega) (by omega)).1
          omega
        · exact hge
    · omega
  · refine ⟨fun h => ?_, fun _ => g0⟩
    rcases g2 with ⟨e, _⟩ | ⟨e, _⟩ <;> rw [e] at h <;> cases h
theorem dueP_bound (h : CalOk off week closed) {a B : Int} : 0 ≤ (dueP off week closed a B).1 ∧ (dueP off week closed a B).1 ≤ 1125899906842624 := by
  by_cases h1 : ¬ (0 ≤ a ∧ a ≤ 1125899906842624) ∨ B < 0
  · unfold dueP; rw [if_pos h1]; simp only; omega
  · rcases dueP_spec h (a := a) (B := B) (by omega) (by omega) (by omega) with ⟨f0, f1, f2, f3, f4, f5⟩ | ⟨f0, f1, f2⟩
    · omega
    · omega
end Go.Proofs.Ytknlpeabmpllmaa.Own

set_option linter.unusedVariables false
set_option linter.unusedSimpArgs false
namespace Go.Proofs.Ytknlpeabmpllmaa.Own
open Go.RowKit Go.Proofs Go.Proofs.YtknlpeabmpllmaaW.PrintWords Go.Proofs.YtknlpeabmpllmaaW.PrintLast Go.Proofs.YtknlpeabmpllmaaW.PrintMore Go.Proofs.Ytknlpeabmpllmaa.Base
variable {off : Int} {week closed : List S57} {A1 A2 : Option Addr} {c1 c2 : Nat}
def lightP (week closed : List S57) : Bool := decide (week.length ≤ 60) && decide (closed.length ≤ 60)
theorem light_any (w : World) (h1 : Kd.C k57 w A1 week.length week ∧ week.length ≤ c1) (h2 : Kd.C k57 w A2 closed.length closed ∧ closed.length ≤ c2) :
    Calls Try.prog 10 #[.agg #[.int .i64 off, .slice A1 week.length c1, .slice A2 closed.length c2]] w fun e w' => e = .returned (.bool (lightP week closed)) ∧ Below w.heap.size w w' :=
  curfewlaw10_Light.calls off A1 c1 week A2 c2 closed _ w h1.1 h1.2 h2.1 h2.2 (by
    unfold curfewlaw10_Light.f lightP
    by_cases h : week.length ≤ 60
    · rw [if_pos (by omega), decide_eq_true h, Bool.true_and]
      congr 1
      by_cases h' : closed.length ≤ 60
      · rw [decide_eq_true h', decide_eq_true (by omega)]
      · rw [decide_eq_false h', decide_eq_false (by omega)]
    · rw [if_neg (by omega), decide_eq_false h]; rfl)
theorem refcheck_any (w : World) (h1 : Kd.C k57 w A1 week.length week ∧ week.length ≤ c1) (h2 : Kd.C k57 w A2 closed.length closed ∧ closed.length ≤ c2) :
    Calls Try.prog 11 #[.agg #[.int .i64 off, .slice A1 week.length c1, .slice A2 closed.length c2]] w fun e w' => e = .returned (.int .i64 (calErr off week closed)) ∧ Below w.heap.size w w' :=
  curfewref10_Check.calls 40 off A1 c1 week A2 c2 closed _ w h1.1 h1.2 h2.1 h2.2 (check_eq off week closed 40 (by omega))
/-- A calendar's box. -/
structure CalBox (w : World) (b : Nat) (off : Int) (A1 A2 : Option Addr) (c1 c2 : Nat) (week closed : List S57) : Prop where
  blk : w.heap[b]? = some (.cells #[.int .i64 off, .slice A1 week.length c1, .slice A2 closed.length c2] 24 (0, 0))
  h1 : Kd.C k57 w A1 week.length week ∧ week.length ≤ c1
  h2 : Kd.C k57 w A2 closed.length closed ∧ closed.length ≤ c2
theorem CalBox.below {w w' : World} {b : Nat} (h : CalBox w b off A1 A2 c1 c2 week closed) (hb : Below w.heap.size w w') : CalBox w' b off A1 A2 c1 c2 week closed :=
  ⟨blk_below h.blk hb, ⟨Kd.C_below h.h1.1 hb, h.h1.2⟩, ⟨Kd.C_below h.h2.1 hb, h.h2.2⟩⟩
theorem CalBox.new (w : World) (h1 : Kd.C k57 w A1 week.length week ∧ week.length ≤ c1) (h2 : Kd.C k57 w A2 closed.length closed ∧ closed.length ≤ c2) :
    CalBox (w.alloc (.cells #[.int .i64 off, .slice A1 week.length c1, .slice A2 closed.length c2] 24)) w.heap.size off A1 A2 c1 c2 week closed :=
  ⟨blk_new w _, ⟨Kd.C_below h1.1 (below_alloc (Below.refl _ _) _), h1.2⟩, ⟨Kd.C_below h2.1 (below_alloc (Below.refl _ _) _), h2.2⟩⟩
theorem calnew_ok (w : World) (h1 : Kd.C k57 w A1 week.length week ∧ week.length ≤ c1) (h2 : Kd.C k57 w A2 closed.length closed ∧ closed.length ≤ c2) (he : calErr off week closed = 0) :
    Calls Try.prog 13 #[.agg #[.int .i64 off, .slice A1 week.length c1, .slice A2 closed.length c2]] w fun e w' => ∃ kb ab pb cb, e = .returned (.tuple #[.pointer (some ⟨kb, 0, none⟩), .int .i64 0]) ∧ ClkAt w' w.heap.size kb ab pb cb off week closed ∧ Below w.heap.size w w' :=
  calnew_yes off A1 A2 c1 c2 week closed w h1.1 h1.2 h2.1 h2.2 he
/-- What is new from n on, and what is not: a clock's block may be written. -/
theorem upd_below {cb n0 : Nat} {w u v : World} (h : Below n0 w u) (hu : Upd cb u v) (hn : n0 ≤ cb) (hs : n0 ≤ u.heap.size) : Below n0 w v := h.trans (Upd.below hu hs hn)
end Go.Proofs.Ytknlpeabmpllmaa.Own

set_option linter.unusedVariables false
set_option linter.unusedSimpArgs false
namespace Go.Proofs.Ytknlpeabmpllmaa.Own
open Go.RowKit Go.Proofs Go.Proofs.YtknlpeabmpllmaaW.PrintWords Go.Proofs.YtknlpeabmpllmaaW.PrintLast Go.Proofs.YtknlpeabmpllmaaW.PrintMore Go.Proofs.Ytknlpeabmpllmaa.Base
variable {off : Int} {week closed : List S57}
theorem closedP_in {hi : Int} (h : RowOk hi closed) (t : Int) : closedP closed t = inRow closed t := by
  rw [← open_at h.row]
  unfold closedP nxtP
  by_cases hi : atP closed t < closed.length
  · rw [if_pos hi]; simp [hi]
  · rw [if_neg hi]; simp [hi]
theorem weekOpen_in (h : RowOk 604800 week) (t : Int) : weekOpen week t = inRow week (t % 604800) := open_at h.row _
theorem openP_cop (h : CalOk off week closed) {t : Int} (h0 : 0 ≤ t) (h1 : t < 1125899906842624) : openP off week closed t = cop off week closed t := by
  unfold openP cop wop
  rw [decide_eq_true ⟨h0, h1⟩, closedP_in h.closed, weekOpen_in h.week, Bool.true_and]
theorem least_ok (h : CalOk off week closed) {a B : Int} (ha : 0 ≤ a) (haH : a ≤ 1125899906842624) (hB : 1 ≤ B) (hf : (dueP off week closed a B).2 = 0) :
    (a < (dueP off week closed a B).1 ∧ (dueP off week closed a B).1 ≤ 1125899906842624) ∧ elapP off week closed a (dueP off week closed a B).1 = B ∧ elapP off week closed a ((dueP off week closed a B).1 - 1) = B - 1 ∧ openP off week closed ((dueP off week closed a B).1 - 1) = true := by
  rcases dueP_spec h (a := a) (B := B) ha haH (by omega) with ⟨f0, f1, f2, f3, f4, f5⟩ | ⟨f0, f1, f2⟩
  · obtain ⟨k1, k2, k3⟩ := f5 (by omega)
    refine ⟨⟨k1, f2⟩, ?_, ?_, ?_⟩
    · rw [elap_Nn h.week h.closed h.lo h.hi ha (by omega) f2]; omega
    · rw [elap_Nn h.week h.closed h.lo h.hi ha (by omega) (by omega)]; omega
    · rw [openP_cop h (by omega) (by omega)]; exact k3
  · rcases f2 with ⟨e, _⟩ | ⟨e, _⟩ <;> rw [e] at hf <;> cases hf
theorem least_no (h : CalOk off week closed) {a B : Int} (ha : 0 ≤ a) (haH : a ≤ 1125899906842624) (hB : 1 ≤ B) (hf : (dueP off week closed a B).2 ≠ 0) :
    (dueP off week closed a B).1 = 0 ∧ elapP off week closed a 1125899906842624 < B ∧ ((dueP off week closed a B).2 = 10 ∨ (dueP off week closed a B).2 = 40 ∧ week = []) := by
  rcases dueP_spec h (a := a) (B := B) ha haH (by omega) with ⟨f0, f1, f2, f3, f4, f5⟩ | ⟨f0, f1, f2⟩
  · exact absurd f0 hf
  · refine ⟨f0, ?_, ?_⟩
    · rw [elap_Nn h.week h.closed h.lo h.hi ha haH (Int.le_refl _)]; exact f1
    · rcases f2 with ⟨e, _⟩ | ⟨e, k⟩
      · exact .inl e
      · exact .inr ⟨e, k⟩
theorem i64_bd {x : Int} (h : (Lit.int .i64 x).wf = true) : -9223372036854775808 ≤ x ∧ x ≤ 9223372036854775807 := by
  have e1 : IntKind.i64.min = -9223372036854775808 := by decide
  have e2 : IntKind.i64.max = 9223372036854775807 := by decide
  have h' : (decide (IntKind.i64.min ≤ x) && decide (x ≤ IntKind.i64.max)) = true := h
  rw [e1, e2, Bool.and_eq_true, decide_eq_true_eq, decide_eq_true_eq] at h'
  exact h'
theorem u8_bd {x : Int} (h : (Lit.int .u8 x).wf = true) : 0 ≤ x ∧ x ≤ 255 := by
  have e1 : IntKind.u8.min = 0 := by decide
  have e2 : IntKind.u8.max = 255 := by decide
  have h' : (decide (IntKind.u8.min ≤ x) && decide (x ≤ IntKind.u8.max)) = true := h
  rw [e1, e2, Bool.and_eq_true, decide_eq_true_eq, decide_eq_true_eq] at h'
  exact h'
theorem dueP_inst {a B : Int} (h : (dueP off week closed a B).2 = 0) : 0 ≤ a ∧ a ≤ 1125899906842624 ∧ 0 ≤ B := by
  unfold dueP at h
  by_cases h1 : ¬ (0 ≤ a ∧ a ≤ 1125899906842624) ∨ B < 0
  · rw [if_pos h1] at h; cases h
  · omega
theorem due_uniq (h : CalOk off week closed) {x y V : Int} (x0 : 0 < x) (xH : x ≤ 1125899906842624) (y0 : 0 < y) (yH : y ≤ 1125899906842624) (hx : Nn off week closed x = V) (hx1 : Nn off week closed (x - 1) = V - 1) (hy : Nn off week closed y = V) (hy1 : Nn off week closed (y - 1) = V - 1) : x = y := by
  have hN := Nn_step h.week h.closed h.lo h.hi
  rcases Int.lt_trichotomy x y with hlt | he | hgt
  · have := (hN.le (a := x) (b := y - 1) (by omega) (by omega) (by omega)).1; omega
  · exact he
  · have := (hN.le (a := y) (b := x - 1) (by omega) (by omega) (by omega)).1; omega
/-- What is due at a start, from the count alone. -/
theorem due_eq (h : CalOk off week closed) {a B d : Int} (ha : 0 ≤ a) (haH : a ≤ 1125899906842624) (hB : 0 < B) (d0 : a < d) (dH : d ≤ 1125899906842624) (hd : Nn off week closed d = Nn off week closed a + B) (hd1 : Nn off week closed (d - 1) = Nn off week closed a + B - 1) : dueP off week closed a B = (d, 0) := by
  have hN := Nn_step h.week h.closed h.lo h.hi
  rcases dueP_spec h (a := a) (B := B) ha haH (by omega) with ⟨f0, f1, f2, f3, f4, f5⟩ | ⟨f0, f1, f2⟩
  · obtain ⟨k1, k2, k3⟩ := f5 hB
    have := due_uniq h (x := (dueP off week closed a B).1) (y := d) (by omega) f2 (by omega) dH f3 k2 hd hd1
    exact Prod.ext this f0
  · have := (hN.le (a := d) (b := 1125899906842624) (by omega) dH (Int.le_refl _)).1; omega
theorem adds_pure (h : CalOk off week closed) {a P R : Int} (hP : 0 ≤ P) (hR : 0 ≤ R) (hf : (dueP off week closed a (P + R)).2 = 0) :
    0 ≤ a ∧ ∃ m d, dueP off week closed a (P + R) = (d, 0) ∧ dueP off week closed a P = (m, 0) ∧ m ≤ d ∧ d ≤ 1125899906842624 ∧ (0 < R → dueP off week closed m R = (d, 0)) ∧ (R = 0 → dueP off week closed m R = (m, 0)) ∧
      ∀ now, a ≤ now → now < d → 0 ≤ elapP off week closed a now ∧ ∃ l, mx (P + R - elapP off week closed a now) 0 = l ∧ 0 < l ∧ l ≤ P + R ∧ dueP off week closed now l = (d, 0) := by
  obtain ⟨ha, haH, _⟩ := dueP_inst hf
  have hN := Nn_step h.week h.closed h.lo h.hi
  rcases dueP_spec h (a := a) (B := P + R) ha haH (by omega) with ⟨f0, f1, f2, f3, f4, f5⟩ | ⟨f0, f1, f2⟩
  · refine ⟨ha, ?_⟩
    generalize hd : dueP off week closed a (P + R) = D at *
    obtain ⟨d, z⟩ := D
    simp only at f0 f1 f2 f3 f4 f5
    subst f0
    have hdH := (hN.le (a := d) (b := 1125899906842624) (by omega) f2 (Int.le_refl _)).1
    rcases dueP_spec h (a := a) (B := P) ha haH hP with ⟨g0, g1, g2, g3, g4, g5⟩ | ⟨g0, g1, g2⟩
    · generalize hm : dueP off week closed a P = M at *
      obtain ⟨m, z⟩ := M
      simp only at g0 g1 g2 g3 g4 g5
      subst g0
      have hmd : m ≤ d := by
        by_cases hP0 : P = 0
        · rw [g4 hP0]; exact f1
        · obtain ⟨k1, k2, _⟩ := g5 (by omega)
          rcases Int.lt_or_le d m with hlt | hge
          · have := (hN.le (a := d) (b := m - 1) (by omega) (by omega) (by omega)).1; omega
          · exact hge
      refine ⟨m, d, rfl, rfl, hmd, f2, fun hR0 => ?_, fun hR0 => ?_, fun now n0 n1 => ?_⟩
      · obtain ⟨k1, k2, _⟩ := f5 (by omega)
        have hne : m ≠ d := fun e => by rw [e] at g3; omega
        exact due_eq h (by omega) (by omega) hR0 (by omega) f2 (by omega) (by omega)
      · unfold dueP; rw [if_neg (by omega), if_pos hR0]
      · have he := elap_Nn h.week h.closed h.lo h.hi (a := a) (b := now) ha n0 (by omega)
        have hn := (hN.le (a := a) (b := now) ha n0 (by omega)).1
        have hPR : 0 < P + R := by
          rcases Int.lt_or_le 0 (P + R) with h | h
          · exact h
          · have := f4 (by omega); omega
        obtain ⟨k1, k2, _⟩ := f5 hPR
        have hn2 := (hN.le (a := now) (b := d - 1) (by omega) (by omega) (by omega)).1
        have hl : mx (P + R - elapP off week closed a now) 0 = P + R - elapP off week closed a now := by unfold mx; split <;> omega
        refine ⟨by omega, P + R - elapP off week closed a now, hl, by omega, by omega, ?_⟩
        exact due_eq h (by omega) (by omega) (by omega) n1 f2 (by omega) (by omega)
    · omega
  · rcases f2 with ⟨e, _⟩ | ⟨e, _⟩ <;> rw [e] at hf <;> cases hf
theorem secs_pure (h : CalOk off week closed) {a : Int} (ha : 0 ≤ a) : elapP off week closed a (a + 0) = 0 ∧ (∀ i, 0 ≤ i → a + i < 1125899906842624 → elapP off week closed a (a + (i + 1)) = elapP off week closed a (a + i) + one (openP off week closed (a + i))) ∧ ∀ i, 0 ≤ i → a + i ≤ 1125899906842624 → 0 ≤ elapP off week closed a (a + i) ∧ elapP off week closed a (a + i) ≤ i := by
  have hS := elap_step h.week h.closed h.lo h.hi ha
  refine ⟨?_, fun i h0 h1 => ?_, fun i h0 h1 => ?_⟩
  · by_cases hH : a ≤ 1125899906842624
    · rw [Int.add_zero]; exact elap_same h.week h.lo h.hi ha hH
    · rw [Int.add_zero]
      unfold elapP
      rw [cutP_same]
      simp only [sumW, weeklyP, betweenP]
      unfold mx
      split <;> omega
  · have := hS (a + i) (by omega) h1
    rw [openP_cop h (by omega) h1, ← this, show a + (i + 1) = a + i + 1 by omega]
  · have h2 := hS.le (a := a) (b := a + i) (Int.le_refl _) (by omega) h1
    have h3 := elap_same (closed := closed) h.week h.lo h.hi ha (by omega)
    omega
end Go.Proofs.Ytknlpeabmpllmaa.Own
