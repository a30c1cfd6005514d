/- For every input: the law CalendarCounts returns true, and changes nothing of its arguments. Its conditions: those of the given row alone. -/
import Derived.Test.YtknlpeabmpllmaaOwnD
import Derived.Test.YtknlpeabmpllmaaBase6
set_option linter.unusedVariables false
set_option linter.unusedSimpArgs false
namespace Go.Proofs.Ytknlpeabmpllmaa.Own
open Go.RowKit Go.Proofs Go.Proofs.YtknlpeabmpllmaaW.PrintWords Go.Proofs.YtknlpeabmpllmaaW.PrintLast Go.Proofs.YtknlpeabmpllmaaW.PrintMore Go.Proofs.Ytknlpeabmpllmaa.Base
variable {off : Int} {week closed : List S57}
theorem has_l0 (l : List S57) (t : Int) (hl : l.length ≤ 1000000) : ∀ (d k i : Nat), i + d = l.length → d < k → curfewref07_Has.l0 k l t (i : Int) = some (inRow (l.drop i) t) := by
  intro d
  induction d with
  | zero =>
    intro k i hi hk
    obtain ⟨k, rfl⟩ : ∃ m, k = m + 1 := ⟨k - 1, by omega⟩
    rw [List.drop_eq_nil_of_le (by omega)]
    simp only [curfewref07_Has.l0]
    rw [if_neg (by omega)]
    rfl
  | succ d ih =>
    intro k i hi hk
    obtain ⟨k, rfl⟩ : ∃ m, k = m + 1 := ⟨k - 1, by omega⟩
    have hlt : i < l.length := by omega
    rw [drop_at hlt, inRow_cons]
    simp only [curfewref07_Has.l0]
    rw [if_pos (by omega), if_pos (by omega), wrap_id (x := (i : Int) + 1) (by omega) (by omega)]
    have ih' := ih k (i + 1) (by omega) (by omega)
    rw [show ((i + 1 : Nat) : Int) = (i : Int) + 1 by omega] at ih'
    rw [ih']
    by_cases h1 : t ≥ (rd_T57 l i).f0
    · rw [if_pos h1]
      by_cases h2 : t < (rd_T57 l i).f1
      · rw [if_pos h2, decide_eq_true ⟨h1, h2⟩]; rfl
      · rw [if_neg h2, decide_eq_false (by omega), Bool.false_or]
    · rw [if_neg h1, decide_eq_false (by omega), Bool.false_or]
theorem RowOk.big {l : List S57} (h : RowOk 604800 l) : RowOk 1125899906842624 l := ⟨h.len, h.row, fun s hs => by have := h.top s hs; omega⟩
theorem has_eq {l : List S57} (h : RowOk 1125899906842624 l) (t : Int) (k : Nat) (hk : 40 ≤ k) : curfewref07_Has.f k l t = some (inRow l t) := by
  unfold curfewref07_Has.f
  have hl := h.len
  rw [rrow_eq l k (by omega), Option.bind_some, if_pos h.err]
  exact has_l0 l t (by omega) l.length k 0 (by omega) (by omega)
theorem openref_eq (h : CalOk off week closed) (t : Int) : curfewref10_Open.f 40 off week closed t = some (openP off week closed t) := by
  have h0 := h.lo
  have h1 := h.hi
  unfold curfewref10_Open.f
  by_cases t0 : t ≥ 0
  · rw [if_pos t0]
    by_cases t1 : t < 1125899906842624
    · rw [if_pos t1, has_eq h.closed _ _ (by omega), Option.bind_some, openP_cop h t0 t1, wrap_id (x := t - off) (by omega) (by omega), wrap_id (by omega) (by omega)]
      unfold cop wop
      cases hc : inRow closed t with
      | true => rfl
      | false =>
        rw [if_neg (by decide), has_eq h.week.big _ _ (by omega), Option.bind_some, Int.tmod_eq_emod_of_nonneg (by omega)]
        rw [show t - off + 604800 = t + (604800 - off) by omega]
        rfl
    · rw [if_neg t1]; unfold openP; rw [decide_eq_false (by omega)]; rfl
  · rw [if_neg t0]; unfold openP; rw [decide_eq_false (by omega)]; rfl
theorem same_l0 (l : List S57) (hl : l.length ≤ 1000000) : ∀ (d k i : Nat), i + d = l.length → d < k → curfewref07_Same.l0 k l l (i : Int) = some true := by
  intro d
  induction d with
  | zero =>
    intro k i hi hk
    obtain ⟨k, rfl⟩ : ∃ m, k = m + 1 := ⟨k - 1, by omega⟩
    simp only [curfewref07_Same.l0]
    rw [if_neg (by omega)]
  | succ d ih =>
    intro k i hi hk
    obtain ⟨k, rfl⟩ : ∃ m, k = m + 1 := ⟨k - 1, by omega⟩
    simp only [curfewref07_Same.l0]
    have ih' := ih k (i + 1) (by omega) (by omega)
    rw [show ((i + 1 : Nat) : Int) = (i : Int) + 1 by omega] at ih'
    rw [if_pos (by omega), if_pos (by omega), if_pos (by omega), if_neg (by simp), wrap_id (by omega) (by omega), ih']
theorem sameref_eq (off : Int) (week closed : List S57) (h1 : week.length ≤ 32) (h2 : closed.length ≤ 32) : curfewref10_Same.f 40 off week closed off week closed = some true := by
  unfold curfewref10_Same.f curfewref07_Same.f
  have e1 : curfewref07_Same.l0 40 week week 0 = some true := same_l0 week (by omega) week.length 40 0 (by omega) (by omega)
  have e2 : curfewref07_Same.l0 40 closed closed 0 = some true := same_l0 closed (by omega) closed.length 40 0 (by omega) (by omega)
  rw [if_pos rfl, if_pos rfl, e1, Option.bind_some, if_pos rfl, if_pos rfl, e2]
  rfl
variable {A1 A2 : Option Addr} {c1 c2 : Nat}
theorem refopen_any (h : CalOk off week closed) (t : Int) (w : World) (h1 : Kd.C k57 w A1 week.length week ∧ week.length ≤ c1) (h2 : Kd.C k57 w A2 closed.length closed ∧ closed.length ≤ c2) :
    Calls Try.prog 17 #[.agg #[.int .i64 off, .slice A1 week.length c1, .slice A2 closed.length c2], .int .i64 t] w fun e w' => e = .returned (.bool (openP off week closed t)) ∧ Below w.heap.size w w' :=
  curfewref10_Open.calls 40 off A1 c1 week A2 c2 closed t _ w h1.1 h1.2 h2.1 h2.2 (openref_eq h t)
theorem refsame_any {B1 B2 : Option Addr} {d1 d2 : Nat} (h : CalOk off week closed) (w : World) (g1 : Kd.C k57 w B1 week.length week ∧ week.length ≤ d1) (g2 : Kd.C k57 w B2 closed.length closed ∧ closed.length ≤ d2) (h1 : Kd.C k57 w A1 week.length week ∧ week.length ≤ c1) (h2 : Kd.C k57 w A2 closed.length closed ∧ closed.length ≤ c2) :
    Calls Try.prog 18 #[.agg #[.int .i64 off, .slice B1 week.length d1, .slice B2 closed.length d2], .agg #[.int .i64 off, .slice A1 week.length c1, .slice A2 closed.length c2]] w fun e w' => e = .returned (.bool true) ∧ Below w.heap.size w w' :=
  curfewref10_Same.calls 40 off B1 d1 week B2 d2 closed off A1 c1 week A2 c2 closed _ w g1.1 g1.2 g2.1 g2.2 h1.1 h1.2 h2.1 h2.2 (sameref_eq off week closed h.week.len h.closed.len)
end Go.Proofs.Ytknlpeabmpllmaa.Own

set_option linter.unusedVariables false
set_option linter.unusedSimpArgs false
namespace Go.Proofs.Ytknlpeabmpllmaa.Own
open Go.RowKit Go.Proofs Go.Proofs.YtknlpeabmpllmaaW.PrintWords Go.Proofs.YtknlpeabmpllmaaW.PrintLast Go.Proofs.YtknlpeabmpllmaaW.PrintMore Go.Proofs.Ytknlpeabmpllmaa.Base
variable {off : Int} {week closed : List S57}
theorem part_eq (x y a b : Int) : curfewref07_part.f x y a b = some (mx x a, mn y b, decide (mx x a < mn y b)) := by
  unfold curfewref07_part.f mx mn
  by_cases h1 : x < a
  · rw [if_pos h1, if_pos h1]
    by_cases h2 : y > b
    · rw [if_pos h2, if_pos h2]
    · rw [if_neg h2, if_neg h2]
  · rw [if_neg h1, if_neg h1]
    by_cases h2 : y > b
    · rw [if_pos h2, if_pos h2]
    · rw [if_neg h2, if_neg h2]
theorem rcut_l0 (l : List S57) (a b : Int) (hl : l.length ≤ 1000000) : ∀ (d k i : Nat), i + d = l.length → d < k → curfewref07_Cut.l0 k l a b (cutP (l.take i) a b) (i : Int) = some (cutP l a b) := by
  intro d
  induction d with
  | zero =>
    intro k i hi hk
    obtain ⟨k, rfl⟩ : ∃ m, k = m + 1 := ⟨k - 1, by omega⟩
    simp only [curfewref07_Cut.l0]
    rw [if_neg (by omega), List.take_of_length_le (by omega)]
  | succ d ih =>
    intro k i hi hk
    obtain ⟨k, rfl⟩ : ∃ m, k = m + 1 := ⟨k - 1, by omega⟩
    have hlt : i < l.length := by omega
    have ih' := ih k (i + 1) (by omega) (by omega)
    rw [take_at hlt, cutP_snoc] at ih'
    have hlen := cutP_length (l.take i) a b
    have hlen2 : (l.take i).length = i := by simp; omega
    simp only [curfewref07_Cut.l0]
    rw [if_pos (by omega), if_pos (by omega), part_eq, wrap_id (by omega) (by omega)]
    simp only [Option.bind_some, decide_eq_true_eq]
    rw [show ((i : Int) + 1) = ((i + 1 : Nat) : Int) by omega]
    by_cases h : mx (rd_T57 l i).f0 a < mn (rd_T57 l i).f1 b
    · rw [if_pos h] at ih' ⊢
      rw [if_pos (by omega)]
      exact ih'
    · rw [if_neg h] at ih' ⊢
      rw [List.append_nil] at ih'
      exact ih'
theorem rcut_eq {l : List S57} (h : RowOk 1125899906842624 l) (a b : Int) (k : Nat) (hk : 40 ≤ k) : curfewref07_Cut.f k l a b = some (cutP l a b) := by
  have hl := h.len
  unfold curfewref07_Cut.f
  rw [rrow_eq l k (by omega), Option.bind_some, if_pos h.err]
  exact rcut_l0 l a b (by omega) l.length k 0 (by omega) (by omega)
theorem within_l0 (l : List S57) (hl : l.length ≤ 32) (hb : ∀ s, s ∈ l → 0 ≤ s.f0 ∧ s.f0 < s.f1 ∧ s.f1 ≤ 1125899906842624) : ∀ (d k i : Nat) (x : Int), i + d = l.length → d < k → 0 ≤ x → x ≤ i * 1125899906842624 → curfewref07_Within.l0 k l x (i : Int) = some (x + secs (l.drop i)) := by
  intro d
  induction d with
  | zero =>
    intro k i x hi hk h0 h1
    obtain ⟨k, rfl⟩ : ∃ m, k = m + 1 := ⟨k - 1, by omega⟩
    simp only [curfewref07_Within.l0]
    rw [if_neg (by omega), List.drop_eq_nil_of_le (by omega)]
    simp [secs]
  | succ d ih =>
    intro k i x hi hk h0 h1
    obtain ⟨k, rfl⟩ : ∃ m, k = m + 1 := ⟨k - 1, by omega⟩
    have hlt : i < l.length := by omega
    have hm := hb (rd_T57 l i) (by rw [rd_at l i hlt]; exact List.getElem_mem _)
    rw [drop_at hlt]
    simp only [curfewref07_Within.l0, secs]
    rw [if_pos (by omega), if_pos (by omega), wrap_id (x := x + (rd_T57 l i).f1) (by omega) (by omega), wrap_id (x := x + (rd_T57 l i).f1 - (rd_T57 l i).f0) (by omega) (by omega), wrap_id (x := (i : Int) + 1) (by omega) (by omega)]
    have ih' := ih k (i + 1) (x + (rd_T57 l i).f1 - (rd_T57 l i).f0) (by omega) (by omega) (by omega) (by omega)
    rw [show ((i + 1 : Nat) : Int) = (i : Int) + 1 by omega] at ih'
    rw [ih']
    congr 1
    omega
theorem within_eq {l : List S57} (h : RowOk 1125899906842624 l) (a b : Int) (k : Nat) (hk : 40 ≤ k) : curfewref07_Within.f k l a b = some (secs (cutP l a b)) := by
  have hl := h.len
  have hc := cutP_length l a b
  unfold curfewref07_Within.f
  rw [rcut_eq h a b k hk, Option.bind_some]
  have := within_l0 (cutP l a b) (by omega) (fun s hs => by obtain ⟨x0, _, x1, x2, _⟩ := cutP_mem h a b s hs; exact ⟨x0, x1, x2⟩) (cutP l a b).length k 0 0 (by omega) (by omega) (by omega) (by omega)
  rw [List.drop_zero, Int.zero_add] at this
  exact this
theorem cut_ahead {lo y : Int} {l : List S57} (h : RowFrom lo l) (hlo : 0 ≤ lo) : secs (cutP l 0 y) = ahead l y := by
  induction l generalizing lo with
  | nil => rfl
  | cons s r ih =>
    obtain ⟨h1, h2, h3⟩ := h
    rw [cutP_cons]
    simp only [ahead]
    rw [← ih h3 (by omega)]
    by_cases hx : mx s.f0 0 < mn s.f1 y
    · rw [if_pos hx]
      simp only [secs]
      unfold mx mn at *
      (repeat' split) <;> (repeat' split at hx) <;> omega
    · rw [if_neg hx]
      unfold mx mn at *
      (repeat' split) <;> (repeat' split at hx) <;> omega
theorem len_eq {l : List S57} (h : RowOk 1125899906842624 l) (k : Nat) (hk : 40 ≤ k) : curfewref07_Len.f k l = some (secs l) := by
  unfold curfewref07_Len.f
  rw [within_eq h 0 1125899906842624 k hk, Option.bind_some, cut_ahead h.row (Int.le_refl _), ahead_hi h.row h.top]
theorem runtil_eq {l : List S57} (h : RowOk 604800 l) {t : Int} (h0 : 0 ≤ t) (h1 : t ≤ 2251799813685248) (k : Nat) (hk : 41 ≤ k) : curfewref08_Until.f k l t = some (Uo l t) := by
  obtain ⟨k, rfl⟩ : ∃ m, k = m + 1 := ⟨k - 1, by omega⟩
  have hs := h.secs (by omega)
  have ha : 0 ≤ ahead l (t % 604800) ∧ ahead l (t % 604800) ≤ secs l + 604800 := by
    have h3 := (Uo_step h 0 (t % 604800)).le (a := 0) (b := t % 604800) (Int.le_refl _) (by omega) (Int.le_refl _)
    have e0 : Uo l 0 = 0 := by unfold Uo; rw [show (0 : Int) % 604800 = 0 by decide, ahead_lo h.row (Int.le_refl _)]; omega
    have e1 : Uo l (t % 604800) = ahead l (t % 604800) := by
      unfold Uo
      rw [show t % 604800 / 604800 = 0 by omega, show t % 604800 % 604800 = t % 604800 by omega]; omega
    omega
  have hm : 0 ≤ t / 604800 * secs l ∧ t / 604800 * secs l ≤ 3723213977 * 604800 := by
    have q0 : 0 ≤ t / 604800 := by omega
    have q1 : t / 604800 ≤ 3723213977 := by omega
    exact ⟨Int.mul_nonneg q0 hs.1, Int.mul_le_mul q1 hs.2 hs.1 (by omega)⟩
  unfold curfewref08_Until.f
  rw [if_neg (by omega)]
  simp only [curfewref08_Until.j0]
  rw [if_neg (by omega), len_eq h.big k (by omega), Option.bind_some, Int.tmod_eq_emod_of_nonneg h0, Int.tdiv_eq_ediv_of_nonneg h0, within_eq h.big _ _ k (by omega), Option.bind_some, cut_ahead h.row (Int.le_refl _)]
  have hU : Uo l t = t / 604800 * secs l + ahead l (t % 604800) := rfl
  rw [wrap_id (x := t / 604800) (by omega) (by omega), hU]
  generalize t / 604800 * secs l = q at hm ⊢
  rw [wrap_id (x := q) (by omega) (by omega), wrap_id (by omega) (by omega)]
theorem rbetween_eq {l : List S57} (h : RowOk 604800 l) {a b : Int} (h0 : 0 ≤ a) (hab : a ≤ b) (h1 : b ≤ 2251799813685248) (k : Nat) (hk : 41 ≤ k) : curfewref08_Between.f k l a b = some (Uo l b - Uo l a) := by
  have hm := ((Uo_step h a b).le (Int.le_refl _) hab (Int.le_refl _))
  unfold curfewref08_Between.f
  rw [runtil_eq h (by omega) h1 k hk, Option.bind_some, runtil_eq h h0 (by omega) k hk, Option.bind_some, wrap_id (by omega) (by omega), if_neg (by omega)]
theorem rweekly_eq (h : CalOk off week closed) {a b : Int} (h0 : 0 ≤ a) (hab : a ≤ b) (h1 : b ≤ 1125899906842624) (k : Nat) (hk : 41 ≤ k) : curfewref10_weekly.f k off week closed a b = some (weeklyP off week a b) := by
  have q0 := h.lo
  have q1 := h.hi
  unfold curfewref10_weekly.f
  rw [wrap_id (x := a - off) (by omega) (by omega), wrap_id (x := b - off) (by omega) (by omega), wrap_id (x := a - off + 604800) (by omega) (by omega), wrap_id (x := b - off + 604800) (by omega) (by omega), rbetween_eq h.week (by omega) (by omega) (by omega) k hk, Option.bind_some, weekly_Wk h.week q0 q1 h0 hab h1]
  unfold Wk
  rw [show a - off + 604800 = a + (604800 - off) by omega, show b - off + 604800 = b + (604800 - off) by omega]
theorem rcount_l0 (h : CalOk off week closed) (l : List S57) (hl : l.length ≤ 32) (hb : ∀ s, s ∈ l → 0 ≤ s.f0 ∧ s.f0 < s.f1 ∧ s.f1 ≤ 1125899906842624) : ∀ (d k i : Nat) (x : Int), i + d = l.length → d + 41 < k → x ≤ 2251799815500000 → -(i * 2251799815500000) ≤ x → curfewref10_count.l0 k x l (i : Int) off week closed = some (x - sumW off week (l.drop i)) := by
  intro d
  induction d with
  | zero =>
    intro k i x hi hk h0 h1
    obtain ⟨k, rfl⟩ : ∃ m, k = m + 1 := ⟨k - 1, by omega⟩
    simp only [curfewref10_count.l0]
    rw [if_neg (by omega), List.drop_eq_nil_of_le (by omega)]
    simp [sumW]
  | succ d ih =>
    intro k i x hi hk h0 h1
    obtain ⟨k, rfl⟩ : ∃ m, k = m + 1 := ⟨k - 1, by omega⟩
    have hlt : i < l.length := by omega
    have hm := hb (rd_T57 l i) (by rw [rd_at l i hlt]; exact List.getElem_mem _)
    have hbb := between_bound h.week ((rd_T57 l i).f0 + (604800 - off)) ((rd_T57 l i).f1 + (604800 - off))
    change 0 ≤ weeklyP off week (rd_T57 l i).f0 (rd_T57 l i).f1 ∧ weeklyP off week (rd_T57 l i).f0 (rd_T57 l i).f1 ≤ _ at hbb
    rw [drop_at hlt]
    simp only [curfewref10_count.l0, sumW]
    rw [if_pos (by omega), if_pos (by omega), rweekly_eq h hm.1 (by omega) hm.2.2 k (by omega), Option.bind_some, wrap_id (x := (i : Int) + 1) (by omega) (by omega), wrap_id (x := x - weeklyP off week (rd_T57 l i).f0 (rd_T57 l i).f1) (by omega) (by omega)]
    have ih' := ih k (i + 1) (x - weeklyP off week (rd_T57 l i).f0 (rd_T57 l i).f1) (by omega) (by omega) (by omega) (by omega)
    rw [show ((i + 1 : Nat) : Int) = (i : Int) + 1 by omega] at ih'
    rw [ih']
    congr 1
    omega
theorem rcount_eq (h : CalOk off week closed) {a b : Int} (h0 : 0 ≤ a) (hab : a ≤ b) (h1 : b ≤ 1125899906842624) (k : Nat) (hk : 80 ≤ k) : curfewref10_count.f k off week closed a b = some (elapP off week closed a b) := by
  have hl := h.closed.len
  have hc := cutP_length closed a b
  have hbb := between_bound h.week (a + (604800 - off)) (b + (604800 - off))
  change 0 ≤ weeklyP off week a b ∧ weeklyP off week a b ≤ _ at hbb
  unfold curfewref10_count.f
  rw [rweekly_eq h h0 hab h1 k (by omega), Option.bind_some, rcut_eq h.closed a b k (by omega), Option.bind_some]
  have := rcount_l0 h (cutP closed a b) (by omega) (fun s hs => by obtain ⟨x0, _, x1, x2, _⟩ := cutP_mem h.closed a b s hs; exact ⟨x0, x1, x2⟩) (cutP closed a b).length k 0 (weeklyP off week a b) (by omega) (by omega) (by omega) (by omega)
  rw [List.drop_zero] at this
  exact this
theorem rinst_eq (t : Int) : curfewref10_instant.f t = some (instB t) := by
  unfold curfewref10_instant.f instB
  by_cases h : 0 ≤ t <;> simp [h]
/-- What the document tells of what has elapsed. -/
def elapR (off : Int) (week closed : List S57) (a b : Int) : Int × Int := if 0 ≤ a ∧ a ≤ b ∧ b ≤ 1125899906842624 then (elapP off week closed a b, 0) else (0, 2)
theorem relapsed_eq (h : CalOk off week closed) (a b : Int) (k : Nat) (hk : 80 ≤ k) : curfewref10_Elapsed.f k off week closed a b = some (elapR off week closed a b) := by
  unfold curfewref10_Elapsed.f elapR
  rw [rinst_eq, Option.bind_some, rinst_eq]
  by_cases ha : 0 ≤ a ∧ a ≤ 1125899906842624
  · rw [if_pos (show instB a = true from decide_eq_true ha), Option.bind_some]
    by_cases hb : 0 ≤ b ∧ b ≤ 1125899906842624
    · rw [if_pos (show instB b = true from decide_eq_true hb)]
      by_cases hab : b < a
      · rw [if_pos hab, if_neg (by omega)]
      · rw [if_neg hab, if_pos (by omega), rcount_eq h ha.1 (by omega) hb.2 k hk]
        rfl
    · rw [if_neg (by unfold instB; rw [decide_eq_false hb]; decide), if_neg (by omega)]
  · rw [if_neg (by unfold instB; rw [decide_eq_false ha]; decide), if_neg (by omega)]
theorem rdue_l0 (h : CalOk off week closed) {a B d : Int} (ha : 0 ≤ a) (haH : a ≤ 1125899906842624) (d0 : a < d) (dH : d ≤ 1125899906842624) (hd : elapP off week closed a d = B) (hd1 : elapP off week closed a (d - 1) = B - 1) :
    ∀ (j k : Nat) (lo hi : Int), j + 80 ≤ k → hi - lo ≤ 2 ^ j → a ≤ lo → lo < d → d ≤ hi → hi ≤ 1125899906842624 → curfewref10_Due.l0 k a B lo hi off week closed = some (d, 0) := by
  have hS := elap_step h.week h.closed h.lo h.hi (a := a) ha
  intro j
  induction j with
  | zero =>
    intro k lo hi hk hj h1 h2 h3 h4
    obtain ⟨k, rfl⟩ : ∃ m, k = m + 1 := ⟨k - 1, by omega⟩
    simp only [curfewref10_Due.l0]
    rw [wrap_id (x := hi - lo) (by omega) (by omega), if_neg (by simp at hj; omega)]
    have : hi = d := by simp at hj; omega
    rw [this]
  | succ j ih =>
    intro k lo hi hk hj h1 h2 h3 h4
    obtain ⟨k, rfl⟩ : ∃ m, k = m + 1 := ⟨k - 1, by omega⟩
    have hp : (2 : Int) ^ (j + 1) = 2 * 2 ^ j := by rw [Int.pow_succ]; omega
    rw [hp] at hj
    simp only [curfewref10_Due.l0]
    rw [wrap_id (x := hi - lo) (by omega) (by omega)]
    by_cases hgt : hi - lo > 1
    · rw [if_pos hgt, Int.tdiv_eq_ediv_of_nonneg (by omega), wrap_id (x := (hi - lo) / 2) (by omega) (by omega), wrap_id (x := lo + (hi - lo) / 2) (by omega) (by omega)]
      rw [rcount_eq h ha (by omega) (by omega) k (by omega), Option.bind_some]
      by_cases hlt : lo + (hi - lo) / 2 < d
      · have := (hS.le (a := lo + (hi - lo) / 2) (b := d - 1) (by omega) (by omega) (by omega)).1
        rw [if_pos (by omega)]
        exact ih k _ _ (by omega) (by omega) (by omega) hlt h3 h4
      · have := (hS.le (a := d) (b := lo + (hi - lo) / 2) (by omega) (by omega) (by omega)).1
        rw [if_neg (by omega)]
        exact ih k _ _ (by omega) (by omega) h1 h2 (by omega) (by omega)
    · rw [if_neg hgt]
      have : hi = d := by omega
      rw [this]
theorem rdue_eq (h : CalOk off week closed) (a B : Int) : curfewref10_Due.f 200 off week closed a B = some (dueP off week closed a B) := by
  unfold curfewref10_Due.f
  rw [rinst_eq, Option.bind_some]
  by_cases ha : 0 ≤ a ∧ a ≤ 1125899906842624
  · rw [if_pos (show instB a = true from decide_eq_true ha)]
    simp only [curfewref10_Due.j0, decide_eq_true_eq]
    by_cases hB : B < 0
    · rw [if_pos hB]; unfold dueP; rw [if_pos (.inr hB)]
    · rw [if_neg hB]
      by_cases hB0 : B = 0
      · rw [if_pos hB0]; unfold dueP; rw [if_neg (by omega), if_pos hB0]
      · rw [if_neg hB0, len_eq h.week.big _ (by omega), Option.bind_some]
        by_cases hs : secs week = 0
        · rw [if_pos hs]; unfold dueP; rw [if_neg (by omega), if_neg hB0, if_pos hs]
        · rw [if_neg hs, rcount_eq h ha.1 ha.2 (Int.le_refl _) _ (by omega), Option.bind_some]
          have hN : ∀ t, a ≤ t → t ≤ 1125899906842624 → elapP off week closed a t = Nn off week closed t - Nn off week closed a := fun t t0 t1 => elap_Nn h.week h.closed h.lo h.hi ha.1 t0 t1
          rcases dueP_spec h (a := a) (B := B) ha.1 ha.2 (by omega) with ⟨f0, f1, f2, f3, f4, f5⟩ | ⟨f0, f1, f2⟩
          · obtain ⟨k1, k2, _⟩ := f5 (by omega)
            have hm := ((Nn_step h.week h.closed h.lo h.hi).le (a := (dueP off week closed a B).1) (b := 1125899906842624) (by omega) f2 (Int.le_refl _)).1
            rw [if_neg (by rw [hN _ ha.2 (Int.le_refl _)]; omega)]
            rw [rdue_l0 h ha.1 ha.2 k1 f2 (by rw [hN _ (by omega) f2]; omega) (by rw [hN _ (by omega) (by omega)]; omega) 51 199 a 1125899906842624 (by omega) (by simp; omega) (Int.le_refl _) k1 f2 (Int.le_refl _)]
            rw [← f0]
          · rw [if_pos (by rw [hN _ ha.2 (Int.le_refl _)]; exact f1)]
            rcases f2 with ⟨e, _⟩ | ⟨_, e⟩
            · rw [← f0, ← e]
            · rw [e] at hs; exact absurd rfl hs
  · rw [if_neg (by unfold instB; rw [decide_eq_false ha]; decide)]
    simp only [curfewref10_Due.j0, if_true]
    unfold dueP
    rw [if_pos (.inl ha)]
/-- What the document tells of what is left. -/
def restR (off : Int) (week closed : List S57) (a u b : Int) : Int × Int := if u < 0 then (0, 2) else if 0 ≤ a ∧ a ≤ b ∧ b ≤ 1125899906842624 then (mx (u - elapP off week closed a b) 0, 0) else (0, 2)
theorem rrest_eq (h : CalOk off week closed) (a u b : Int) (hu : u ≤ 9223372036854775807) : curfewref10_Rest.f 200 off week closed a u b = some (restR off week closed a u b) := by
  unfold curfewref10_Rest.f restR
  by_cases hu0 : u < 0
  · rw [if_pos hu0, if_pos hu0]
  · rw [if_neg hu0, if_neg hu0, relapsed_eq h a b 200 (by omega), Option.bind_some]
    unfold elapR
    by_cases hx : 0 ≤ a ∧ a ≤ b ∧ b ≤ 1125899906842624
    · rw [if_pos hx, if_pos hx]
      have hn := elap_nonneg h.week h.closed h.lo h.hi hx.1 hx.2.1 hx.2.2
      simp only [if_true]
      by_cases hg : elapP off week closed a b > u
      · rw [if_pos hg]
        have : mx (u - elapP off week closed a b) 0 = 0 := by unfold mx; split <;> omega
        rw [this]
      · rw [if_neg hg, wrap_id (by omega) (by omega)]
        have : mx (u - elapP off week closed a b) 0 = u - elapP off week closed a b := by unfold mx; split <;> omega
        rw [this]
    · rw [if_neg hx, if_neg hx]
      simp
end Go.Proofs.Ytknlpeabmpllmaa.Own

set_option linter.unusedVariables false
set_option linter.unusedSimpArgs false
namespace Go.Proofs.Ytknlpeabmpllmaa.Own
open Go.RowKit Go.Proofs Go.Proofs.YtknlpeabmpllmaaW.PrintWords Go.Proofs.YtknlpeabmpllmaaW.PrintLast Go.Proofs.YtknlpeabmpllmaaW.PrintMore Go.Proofs.Ytknlpeabmpllmaa.Base
variable {off : Int} {week closed : List S57} {A1 A2 : Option Addr} {c1 c2 n kb ab pb cb : Nat}
theorem elapsed2 (a b : Int) (w : World) (h : ClkAt w n kb ab pb cb off week closed) (hn : n ≤ w.heap.size) :
    Calls Try.prog 20 #[.pointer (some ⟨kb, 0, none⟩), .int .i64 a, .int .i64 b] w fun e w' => e = .returned (.tuple #[.int .i64 (elapR off week closed a b).1, .int .i64 (elapR off week closed a b).2]) ∧ ClkAt w' n kb ab pb cb off week closed ∧ Upd cb w w' := by
  unfold elapR
  by_cases hx : 0 ≤ a ∧ a ≤ b ∧ b ≤ 1125899906842624
  · rw [if_pos hx]; exact elapsed_any a b w h hn hx.1 hx.2.1 hx.2.2
  · rw [if_neg hx]; exact (elapsed_arg a b w h hx).mono fun e w' ⟨he, hb⟩ => ⟨he, h.below hb, Upd.of_below hb⟩
theorem rest2 (hk : CalOk off week closed) (a u b : Int) (w : World) (h : ClkAt w n kb ab pb cb off week closed) (hn : n ≤ w.heap.size) (hu : u ≤ 9223372036854775807) :
    Calls Try.prog 23 #[.pointer (some ⟨kb, 0, none⟩), .int .i64 a, .int .i64 u, .int .i64 b] w fun e w' => e = .returned (.tuple #[.int .i64 (restR off week closed a u b).1, .int .i64 (restR off week closed a u b).2]) ∧ ClkAt w' n kb ab pb cb off week closed ∧ Upd cb w w' := by
  unfold restR
  by_cases hu0 : u < 0
  · rw [if_pos hu0]; exact (rest_neg a u b w h hu0).mono fun e w' ⟨he, hb⟩ => by subst hb; exact ⟨he, h, Upd.refl _ _⟩
  · rw [if_neg hu0]
    by_cases hx : 0 ≤ a ∧ a ≤ b ∧ b ≤ 1125899906842624
    · rw [if_pos hx]; exact rest_any a u b w h hn hx.1 hx.2.1 hx.2.2 (by omega) hu (elap_nonneg hk.week hk.closed hk.lo hk.hi hx.1 hx.2.1 hx.2.2)
    · rw [if_neg hx]; exact (rest_arg a u b w h (by omega) hx).mono fun e w' ⟨he, hb⟩ => ⟨he, h.below hb, Upd.of_below hb⟩
theorem refelapsed_any (hk : CalOk off week closed) (a b : Int) (w : World) (h1 : Kd.C k57 w A1 week.length week ∧ week.length ≤ c1) (h2 : Kd.C k57 w A2 closed.length closed ∧ closed.length ≤ c2) :
    Calls Try.prog 21 #[.agg #[.int .i64 off, .slice A1 week.length c1, .slice A2 closed.length c2], .int .i64 a, .int .i64 b] w fun e w' => e = .returned (.tuple #[.int .i64 (elapR off week closed a b).1, .int .i64 (elapR off week closed a b).2]) ∧ Below w.heap.size w w' :=
  curfewref10_Elapsed.calls 100 off A1 c1 week A2 c2 closed a b _ _ w h1.1 h1.2 h2.1 h2.2 (relapsed_eq hk a b 100 (by omega))
theorem refdue_any (hk : CalOk off week closed) (a B : Int) (w : World) (h1 : Kd.C k57 w A1 week.length week ∧ week.length ≤ c1) (h2 : Kd.C k57 w A2 closed.length closed ∧ closed.length ≤ c2) :
    Calls Try.prog 22 #[.agg #[.int .i64 off, .slice A1 week.length c1, .slice A2 closed.length c2], .int .i64 a, .int .i64 B] w fun e w' => e = .returned (.tuple #[.int .i64 (dueP off week closed a B).1, .int .i64 (dueP off week closed a B).2]) ∧ Below w.heap.size w w' :=
  curfewref10_Due.calls 200 off A1 c1 week A2 c2 closed a B _ _ w h1.1 h1.2 h2.1 h2.2 (rdue_eq hk a B)
theorem refrest_any (hk : CalOk off week closed) (a u b : Int) (hu : u ≤ 9223372036854775807) (w : World) (h1 : Kd.C k57 w A1 week.length week ∧ week.length ≤ c1) (h2 : Kd.C k57 w A2 closed.length closed ∧ closed.length ≤ c2) :
    Calls Try.prog 24 #[.agg #[.int .i64 off, .slice A1 week.length c1, .slice A2 closed.length c2], .int .i64 a, .int .i64 u, .int .i64 b] w fun e w' => e = .returned (.tuple #[.int .i64 (restR off week closed a u b).1, .int .i64 (restR off week closed a u b).2]) ∧ Below w.heap.size w w' :=
  curfewref10_Rest.calls 200 off A1 c1 week A2 c2 closed a u b _ _ w h1.1 h1.2 h2.1 h2.2 (rrest_eq hk a u b hu)
set_option maxHeartbeats 4000000 in
set_option maxRecDepth 100000 in
theorem counts_light (a b B : Int) (w : World) (h1 : Kd.C k57 w A1 week.length week ∧ week.length ≤ c1) (h2 : Kd.C k57 w A2 closed.length closed ∧ closed.length ≤ c2) (hL : lightP week closed = false) :
    Calls Try.prog 5 #[.agg #[.int .i64 off, .slice A1 week.length c1, .slice A2 closed.length c2], .int .i64 a, .int .i64 b, .int .i64 B] w fun e w' => e = .returned (.bool true) ∧ Below w.heap.size w w' := by
  have HX1 := Aside0.mk (CalBox.new (off := off) w h1 h2)
  have HB1 : Aside0 (Below w.heap.size w (w.alloc (.cells #[.int .i64 off, .slice A1 week.length c1, .slice A2 closed.length c2] 24))) := ⟨below_alloc (Below.refl _ _) _⟩
  have HL := Aside0.mk hL
  have hnot : ∀ (x : Bool) (w : World), (Op.unary .not (.bool x)).run Try.prog w = .ok (.bool (!x)) w := fun _ _ => rfl
  clear h1 h2 hL
  skip
  go_enter Try.func5, Try.ntmps5
  go_wp2_with fail
  generalize (w.alloc (.cells #[.int .i64 off, .slice A1 week.length c1, .slice A2 closed.length c2] 24)) = w1 at HX1 HB1 ⊢
  have d0 : w1.cell? ⟨w.heap.size, 0, none⟩ = some (.int .i64 off) := (blk_cell HX1.out.blk 0).trans rfl
  have d1 : w1.cell? ⟨w.heap.size, 1, none⟩ = some (.slice A1 week.length c1) := (blk_cell HX1.out.blk 1).trans rfl
  have d2 : w1.cell? ⟨w.heap.size, 2, none⟩ = some (.slice A2 closed.length c2) := (blk_cell HX1.out.blk 2).trans rfl
  go_wp2_with (first | (go_at_call 10; with_reducible refine (light_any w1 HX1.out.h1 HX1.out.h2).mono ?_; rintro e w2 ⟨rfl, hb⟩; rw [HL.out]; have HX2 := Aside0.mk (HX1.out.below hb); have HB2 := Aside0.mk (below_step HB1.out hb); clear hb d0 d1 d2; have d0 : w2.cell? ⟨w.heap.size, 0, none⟩ = some (.int .i64 off) := (blk_cell HX2.out.blk 0).trans rfl; have d1 : w2.cell? ⟨w.heap.size, 1, none⟩ = some (.slice A1 week.length c1) := (blk_cell HX2.out.blk 1).trans rfl; have d2 : w2.cell? ⟨w.heap.size, 2, none⟩ = some (.slice A2 closed.length c2) := (blk_cell HX2.out.blk 2).trans rfl) | (go_at_call 12; with_reducible refine (lives_any w2).mono ?_; rintro e w99 ⟨rfl, hb⟩; have HB99 := Aside0.mk (below_step HB2.out hb); clear hb))
  go_ret
  exact ⟨rfl, HB99.out⟩

set_option maxHeartbeats 4000000 in
set_option maxRecDepth 100000 in
theorem counts_check (a b B : Int) (w : World) (h1 : Kd.C k57 w A1 week.length week ∧ week.length ≤ c1) (h2 : Kd.C k57 w A2 closed.length closed ∧ closed.length ≤ c2) (hL : lightP week closed = true) (hE : calErr off week closed ≠ 0) :
    Calls Try.prog 5 #[.agg #[.int .i64 off, .slice A1 week.length c1, .slice A2 closed.length c2], .int .i64 a, .int .i64 b, .int .i64 B] w fun e w' => e = .returned (.bool true) ∧ Below w.heap.size w w' := by
  have HX1 := Aside0.mk (CalBox.new (off := off) w h1 h2)
  have HB1 : Aside0 (Below w.heap.size w (w.alloc (.cells #[.int .i64 off, .slice A1 week.length c1, .slice A2 closed.length c2] 24))) := ⟨below_alloc (Below.refl _ _) _⟩
  have HL := Aside0.mk hL
  have hnot : ∀ (x : Bool) (w : World), (Op.unary .not (.bool x)).run Try.prog w = .ok (.bool (!x)) w := fun _ _ => rfl
  clear h1 h2 hL
  have hE1 : (calErr off week closed != 0) = true := bne_iff_ne.mpr hE
  clear hE
  go_enter Try.func5, Try.ntmps5
  go_wp2_with fail
  generalize (w.alloc (.cells #[.int .i64 off, .slice A1 week.length c1, .slice A2 closed.length c2] 24)) = w1 at HX1 HB1 ⊢
  have d0 : w1.cell? ⟨w.heap.size, 0, none⟩ = some (.int .i64 off) := (blk_cell HX1.out.blk 0).trans rfl
  have d1 : w1.cell? ⟨w.heap.size, 1, none⟩ = some (.slice A1 week.length c1) := (blk_cell HX1.out.blk 1).trans rfl
  have d2 : w1.cell? ⟨w.heap.size, 2, none⟩ = some (.slice A2 closed.length c2) := (blk_cell HX1.out.blk 2).trans rfl
  go_wp2_with (first | (go_at_call 10; with_reducible refine (light_any w1 HX1.out.h1 HX1.out.h2).mono ?_; rintro e w2 ⟨rfl, hb⟩; rw [HL.out]; have HX2 := Aside0.mk (HX1.out.below hb); have HB2 := Aside0.mk (below_step HB1.out hb); clear hb d0 d1 d2; have d0 : w2.cell? ⟨w.heap.size, 0, none⟩ = some (.int .i64 off) := (blk_cell HX2.out.blk 0).trans rfl; have d1 : w2.cell? ⟨w.heap.size, 1, none⟩ = some (.slice A1 week.length c1) := (blk_cell HX2.out.blk 1).trans rfl; have d2 : w2.cell? ⟨w.heap.size, 2, none⟩ = some (.slice A2 closed.length c2) := (blk_cell HX2.out.blk 2).trans rfl) | (go_at_call 11; with_reducible refine (refcheck_any w2 HX2.out.h1 HX2.out.h2).mono ?_; rintro e w3 ⟨rfl, hb⟩; have HX3 := Aside0.mk (HX2.out.below hb); have HB3 := Aside0.mk (below_step HB2.out hb); clear hb d0 d1 d2; have d0 : w3.cell? ⟨w.heap.size, 0, none⟩ = some (.int .i64 off) := (blk_cell HX3.out.blk 0).trans rfl; have d1 : w3.cell? ⟨w.heap.size, 1, none⟩ = some (.slice A1 week.length c1) := (blk_cell HX3.out.blk 1).trans rfl; have d2 : w3.cell? ⟨w.heap.size, 2, none⟩ = some (.slice A2 closed.length c2) := (blk_cell HX3.out.blk 2).trans rfl) | (go_at_call 12; with_reducible refine (lives_any w3).mono ?_; rintro e w99 ⟨rfl, hb⟩; have HB99 := Aside0.mk (below_step HB3.out hb); clear hb))
  go_ret
  exact ⟨rfl, HB99.out⟩

set_option maxHeartbeats 4000000 in
set_option maxRecDepth 100000 in
theorem counts_main (a b B : Int) (w : World) (h1 : Kd.C k57 w A1 week.length week ∧ week.length ≤ c1) (h2 : Kd.C k57 w A2 closed.length closed ∧ closed.length ≤ c2) (hBr : B ≤ 9223372036854775807) (hL : lightP week closed = true) (hE : calErr off week closed = 0) :
    Calls Try.prog 5 #[.agg #[.int .i64 off, .slice A1 week.length c1, .slice A2 closed.length c2], .int .i64 a, .int .i64 b, .int .i64 B] w fun e w' => e = .returned (.bool true) ∧ Below w.heap.size w w' := by
  have HX1 := Aside0.mk (CalBox.new (off := off) w h1 h2)
  have HB1 : Aside0 (Below w.heap.size w (w.alloc (.cells #[.int .i64 off, .slice A1 week.length c1, .slice A2 closed.length c2] 24))) := ⟨below_alloc (Below.refl _ _) _⟩
  have HL := Aside0.mk hL
  have hnot : ∀ (x : Bool) (w : World), (Op.unary .not (.bool x)).run Try.prog w = .ok (.bool (!x)) w := fun _ _ => rfl
  clear h1 h2 hL
  have HE := Aside0.mk hE
  have HK := Aside0.mk (calErr_ok hE)
  obtain ⟨⟨x1, x2⟩, hx⟩ : ∃ p, elapR off week closed a b = p := ⟨_, rfl⟩
  obtain ⟨⟨y1, y2⟩, hy⟩ : ∃ p, dueP off week closed a B = p := ⟨_, rfl⟩
  obtain ⟨⟨z1, z2⟩, hz⟩ : ∃ p, restR off week closed a B b = p := ⟨_, rfl⟩
  have HD1 := Aside0.mk hx
  have HD2 := Aside0.mk hy
  have HD3 := Aside0.mk hz
  clear hE hx hy hz
  go_enter Try.func5, Try.ntmps5
  go_wp2_with fail
  generalize (w.alloc (.cells #[.int .i64 off, .slice A1 week.length c1, .slice A2 closed.length c2] 24)) = w1 at HX1 HB1 ⊢
  have d0 : w1.cell? ⟨w.heap.size, 0, none⟩ = some (.int .i64 off) := (blk_cell HX1.out.blk 0).trans rfl
  have d1 : w1.cell? ⟨w.heap.size, 1, none⟩ = some (.slice A1 week.length c1) := (blk_cell HX1.out.blk 1).trans rfl
  have d2 : w1.cell? ⟨w.heap.size, 2, none⟩ = some (.slice A2 closed.length c2) := (blk_cell HX1.out.blk 2).trans rfl
  go_wp2_with (first | (go_at_call 10; with_reducible refine (light_any w1 HX1.out.h1 HX1.out.h2).mono ?_; rintro e w2 ⟨rfl, hb⟩; rw [HL.out]; have HX2 := Aside0.mk (HX1.out.below hb); have HB2 := Aside0.mk (below_step HB1.out hb); clear hb d0 d1 d2; have d0 : w2.cell? ⟨w.heap.size, 0, none⟩ = some (.int .i64 off) := (blk_cell HX2.out.blk 0).trans rfl; have d1 : w2.cell? ⟨w.heap.size, 1, none⟩ = some (.slice A1 week.length c1) := (blk_cell HX2.out.blk 1).trans rfl; have d2 : w2.cell? ⟨w.heap.size, 2, none⟩ = some (.slice A2 closed.length c2) := (blk_cell HX2.out.blk 2).trans rfl) | (go_at_call 11; with_reducible refine (refcheck_any w2 HX2.out.h1 HX2.out.h2).mono ?_; rintro e w3 ⟨rfl, hb⟩; rw [HE.out]; have HX3 := Aside0.mk (HX2.out.below hb); have HB3 := Aside0.mk (below_step HB2.out hb); clear hb d0 d1 d2; have d0 : w3.cell? ⟨w.heap.size, 0, none⟩ = some (.int .i64 off) := (blk_cell HX3.out.blk 0).trans rfl; have d1 : w3.cell? ⟨w.heap.size, 1, none⟩ = some (.slice A1 week.length c1) := (blk_cell HX3.out.blk 1).trans rfl; have d2 : w3.cell? ⟨w.heap.size, 2, none⟩ = some (.slice A2 closed.length c2) := (blk_cell HX3.out.blk 2).trans rfl) | (go_at_call 13; with_reducible refine (calnew_ok w3 HX3.out.h1 HX3.out.h2 HE.out).mono ?_; rintro e w4 ⟨kb, ab, pb, cb, rfl, CK, hb⟩; have HX4 := Aside0.mk (HX3.out.below hb); have HB4 := Aside0.mk (below_step HB3.out hb); have HC4 := Aside0.mk CK; have HN4 : Aside0 (w3.heap.size ≤ w4.heap.size) := ⟨hb.size⟩; have HQ4 := Aside0.mk hb; clear hb CK d0 d1 d2) | (go_at_call 20; with_reducible refine (elapsed2 a b w4 HC4.out HN4.out).mono ?_; rintro e w5 ⟨rfl, CK, UK⟩; rw [HD1.out]; have HC5 := Aside0.mk CK; have HB5 := Aside0.mk (upd_below HB4.out UK (Nat.le_trans HB3.out.size HC4.out.plan.ncb) HB4.out.size); have HQ5 := Aside0.mk (upd_below HQ4.out UK HC4.out.plan.ncb HQ4.out.size); have HN5 : Aside0 (w3.heap.size ≤ w5.heap.size) := ⟨HQ5.out.size⟩; clear CK UK; have HX5 := Aside0.mk (HX3.out.below HQ5.out); have d0 : w5.cell? ⟨w.heap.size, 0, none⟩ = some (.int .i64 off) := (blk_cell HX5.out.blk 0).trans rfl; have d1 : w5.cell? ⟨w.heap.size, 1, none⟩ = some (.slice A1 week.length c1) := (blk_cell HX5.out.blk 1).trans rfl; have d2 : w5.cell? ⟨w.heap.size, 2, none⟩ = some (.slice A2 closed.length c2) := (blk_cell HX5.out.blk 2).trans rfl) | (go_at_call 21; with_reducible refine (refelapsed_any HK.out a b w5 HX5.out.h1 HX5.out.h2).mono ?_; rintro e w6 ⟨rfl, bb⟩; rw [HD1.out]; have HC6 := Aside0.mk (HC5.out.below bb); have HB6 := Aside0.mk (below_step HB5.out bb); have HQ6 := Aside0.mk (below_step HQ5.out bb); have HN6 : Aside0 (w3.heap.size ≤ w6.heap.size) := ⟨HQ6.out.size⟩; clear bb d0 d1 d2) | (go_at_call 14; with_reducible refine (due_any a B w6 HC6.out HN6.out hBr).mono ?_; rintro e w7 ⟨rfl, CK, UK⟩; rw [HD2.out]; have HC7 := Aside0.mk CK; have HB7 := Aside0.mk (upd_below HB6.out UK (Nat.le_trans HB3.out.size HC6.out.plan.ncb) HB6.out.size); have HQ7 := Aside0.mk (upd_below HQ6.out UK HC6.out.plan.ncb HQ6.out.size); have HN7 : Aside0 (w3.heap.size ≤ w7.heap.size) := ⟨HQ7.out.size⟩; clear CK UK; have HX7 := Aside0.mk (HX3.out.below HQ7.out); have d0 : w7.cell? ⟨w.heap.size, 0, none⟩ = some (.int .i64 off) := (blk_cell HX7.out.blk 0).trans rfl; have d1 : w7.cell? ⟨w.heap.size, 1, none⟩ = some (.slice A1 week.length c1) := (blk_cell HX7.out.blk 1).trans rfl; have d2 : w7.cell? ⟨w.heap.size, 2, none⟩ = some (.slice A2 closed.length c2) := (blk_cell HX7.out.blk 2).trans rfl) | (go_at_call 22; with_reducible refine (refdue_any HK.out a B w7 HX7.out.h1 HX7.out.h2).mono ?_; rintro e w8 ⟨rfl, bb⟩; rw [HD2.out]; have HC8 := Aside0.mk (HC7.out.below bb); have HB8 := Aside0.mk (below_step HB7.out bb); have HQ8 := Aside0.mk (below_step HQ7.out bb); have HN8 : Aside0 (w3.heap.size ≤ w8.heap.size) := ⟨HQ8.out.size⟩; clear bb d0 d1 d2) | (go_at_call 23; with_reducible refine (rest2 HK.out a B b w8 HC8.out HN8.out hBr).mono ?_; rintro e w9 ⟨rfl, CK, UK⟩; rw [HD3.out]; have HC9 := Aside0.mk CK; have HB9 := Aside0.mk (upd_below HB8.out UK (Nat.le_trans HB3.out.size HC8.out.plan.ncb) HB8.out.size); have HQ9 := Aside0.mk (upd_below HQ8.out UK HC8.out.plan.ncb HQ8.out.size); have HN9 : Aside0 (w3.heap.size ≤ w9.heap.size) := ⟨HQ9.out.size⟩; clear CK UK; have HX9 := Aside0.mk (HX3.out.below HQ9.out); have d0 : w9.cell? ⟨w.heap.size, 0, none⟩ = some (.int .i64 off) := (blk_cell HX9.out.blk 0).trans rfl; have d1 : w9.cell? ⟨w.heap.size, 1, none⟩ = some (.slice A1 week.length c1) := (blk_cell HX9.out.blk 1).trans rfl; have d2 : w9.cell? ⟨w.heap.size, 2, none⟩ = some (.slice A2 closed.length c2) := (blk_cell HX9.out.blk 2).trans rfl) | (go_at_call 24; with_reducible refine (refrest_any HK.out a B b hBr w9 HX9.out.h1 HX9.out.h2).mono ?_; rintro e w10 ⟨rfl, bb⟩; rw [HD3.out]; have HC10 := Aside0.mk (HC9.out.below bb); have HB10 := Aside0.mk (below_step HB9.out bb); have HQ10 := Aside0.mk (below_step HQ9.out bb); have HN10 : Aside0 (w3.heap.size ≤ w10.heap.size) := ⟨HQ10.out.size⟩; clear bb d0 d1 d2) | (go_at_call 12; with_reducible refine (lives_any w10).mono ?_; rintro e w99 ⟨rfl, hb⟩; have HB99 := Aside0.mk (below_step HB10.out hb); clear hb))
  go_ret
  exact ⟨rfl, HB99.out⟩

theorem counts_any (a b B : Int) (hBr : B ≤ 9223372036854775807) (w : World) (h1 : Kd.C k57 w A1 week.length week ∧ week.length ≤ c1) (h2 : Kd.C k57 w A2 closed.length closed ∧ closed.length ≤ c2) :
    Calls Try.prog 5 #[.agg #[.int .i64 off, .slice A1 week.length c1, .slice A2 closed.length c2], .int .i64 a, .int .i64 b, .int .i64 B] w fun e w' => e = .returned (.bool true) ∧ Below w.heap.size w w' := by
  cases hL : lightP week closed with
  | false => exact counts_light a b B w h1 h2 hL
  | true =>
    by_cases hE : calErr off week closed = 0
    · exact counts_main a b B w h1 h2 hBr hL hE
    · exact counts_check a b B w h1 h2 hL hE
end Go.Proofs.Ytknlpeabmpllmaa.Own

set_option linter.unusedVariables false
set_option linter.unusedSimpArgs false
namespace Go.Proofs.Ytknlpeabmpllmaa.calendarCounts
open Go.ChangeShapes Go.WideShapes Go.ChangeAt Go.RowKit
set_option maxRecDepth 100000 in
theorem lifted (os : Os) (started : os.Started) (H : Type) (enc : TypeId × Value → H) :
    ReturnsInHanded {} Try.checked os 5 .any (Rows.calendarCountsSpec.pre6 enc Try.prog Try.f5 Rows.calendarCountsRow.domain false) (Rows.calendarCountsSpec.post enc Try.prog Try.f5 false true false false) := by
  refine returnsInHanded_of_change_sized (C := Try.checked) Own.ownKnob_none started (by kernel_rfl) Try.func5
    (ChangeSpec.witness6 (enc := enc) (C := Try.checked) false ⟨#[], #[.agg #[.int .i64 0, .slice none 0 0, .slice none 0 0], .int .i64 0, .int .i64 0, .int .i64 0], []⟩ 8 (by kernel_rfl) (by kernel_rfl) (by kernel_rfl) (by kernel_rfl)) ?_
  intro W base args ds gs before hval0 hW hcnd hsz0 _
  have hval : ∀ (j : Nat) t v, Try.f5.params[j]? = some t → args[j]? = some v → Value.okWide Try.prog W .any base t v := hval0
  have hW' := hW
  obtain ⟨p, q, hA0, hV, rfl, hfz, hnd⟩ := hW
  have hA : DataW.TrodAll enc Try.prog W 0 (fun _ => true) true Try.f5.params.toList args.toList ds p := hA0
  rw [Try.params5] at hA hval
  obtain ⟨v0, vs0, d0, ds0, p0, q0, hargs, rfl, rfl, h0, r0⟩ := trodAll_cons hA
  obtain ⟨v1, vs1, d1, ds1, p1, q1, rfl, rfl, rfl, h1, r1⟩ := trodAll_cons r0
  obtain ⟨v2, vs2, d2, ds2, p2, q2, rfl, rfl, rfl, h2, r2⟩ := trodAll_cons r1
  obtain ⟨v3, vs3, d3, ds3, p3, q3, rfl, rfl, rfl, h3, r3⟩ := trodAll_cons r2
  obtain ⟨rfl, rfl, rfl⟩ := trodAll_nil r3
  obtain rfl : args = #[v0, v1, v2, v3] := by cases args; simp_all
  obtain ⟨rfl, rfl⟩ := trodVars_none hV
  have k0 := h0
  have lt0 : ∀ x ∈ p0, x.block < W.heap.size := by obtain ⟨m, hm⟩ := k0; exact DataW.trod_lt m _ _ _ hm
  obtain ⟨off0, A10, A20, c10, c20, week0, closed0, rfl, hx0, hy0⟩ := Own.cal_open (hval 0 24 v0 rfl rfl) h0
  obtain ⟨a1, rfl, rfl, rfl, w1⟩ := open_int Try.underlying2 (hval 1 2 v1 rfl rfl) h1
  obtain ⟨a2, rfl, rfl, rfl, w2⟩ := open_int Try.underlying2 (hval 2 2 v2 rfl rfl) h2
  obtain ⟨a3, rfl, rfl, rfl, w3⟩ := open_int Try.underlying2 (hval 3 2 v3 rfl rfl) h3
  clear hA0 hval0 hsz0
  refine (Own.counts_any a1 a2 a3 (Own.i64_bd w3).2 W hx0 hy0).mono fun e W' ⟨he, bel⟩ => ?_
  subst he
  exact ⟨_, rfl, _, _, _, [], _, [], hW', trodAll_mk1 (shut_bool Try.underlying4 _), (trodAll_cons_mk (Below.trod Own.laidOut (by kernel_rfl) (of_decide_eq_true (by kernel_rfl)) k0 bel lt0) (trodAll_cons_mk (shut_int Try.underlying2 w1) (trodAll_cons_mk (shut_int Try.underlying2 w2) (trodAll_cons_mk (shut_int Try.underlying2 w3) trodAll_mk0)))), rfl, bel.frame _, fun h => by cases h⟩
theorem over : Rows.calendarCountsRow.holds Try.pinned (OpenSpec.ofChange Rows.calendarCountsSpec) :=
  OpenClaim.holds_of_wide 5 Try.f5 rfl rfl rfl rfl rfl rfl rfl ⟨rfl, rfl, rfl, rfl, rfl⟩ rfl rfl rfl rfl rfl (by kernel_rfl) Try.func5 (by kernel_rfl)
    (of_decide_eq_true (by kernel_rfl)) (by unfold Func.isWrapper; first | (rw [if_pos (by decide +kernel)]; kernel_rfl) | (rw [if_neg (by decide +kernel)]; exact ⟨rfl, rfl⟩))
    (fun os started H enc _ => lifted os started H enc)
theorem proved : Rows.CalendarCountsSaid := over
#print axioms proved
end Go.Proofs.Ytknlpeabmpllmaa.calendarCounts
namespace Go.Proofs.Ytknlpeabmpllmaa
/-- The row, under a short name, for the claim. -/
theorem calendarCounts_holds : Rows.CalendarCountsSaid := calendarCounts.proved
end Go.Proofs.Ytknlpeabmpllmaa
