/- OwnC: Math, Math2, Far, Due0, Due. -/
import Derived.Test.YtknlpeabmpllmaaOwnB
set_option linter.unusedVariables false
set_option linter.unusedSimpArgs false
namespace Go.Proofs.Ytknlpeabmpllmaa.Own
open Go.RowKit Go.Proofs Go.Proofs.YtknlpeabmpllmaaW.PrintWords Go.Proofs.YtknlpeabmpllmaaW.PrintLast Go.Proofs.YtknlpeabmpllmaaW.PrintMore Go.Proofs.Ytknlpeabmpllmaa.Base

def one (b : Bool) : Int := if b then 1 else 0
theorem one_bound (b : Bool) : 0 ≤ one b ∧ one b ≤ 1 := by cases b <;> simp [one]
/-- f rises by one at each t of [lo, hi) that op holds at. -/
def Steps (f : Int → Int) (op : Int → Bool) (lo hi : Int) : Prop := ∀ t, lo ≤ t → t < hi → f (t + 1) = f t + one (op t)
theorem Steps.sub {f : Int → Int} {op : Int → Bool} {lo hi lo' hi' : Int} (h : Steps f op lo hi) (h1 : lo ≤ lo') (h2 : hi' ≤ hi) : Steps f op lo' hi' := fun t a b => h t (by omega) (by omega)
theorem Steps.mono {f : Int → Int} {op : Int → Bool} {lo hi : Int} (h : Steps f op lo hi) : ∀ (n : Nat) (a : Int), lo ≤ a → a + n ≤ hi → f a ≤ f (a + n) ∧ f (a + n) ≤ f a + n
  | 0, a, _, _ => by simp
  | n + 1, a, h1, h2 => by
    have ih := h.mono n a h1 (by omega)
    have hs := h (a + n) (by omega) (by omega)
    have hb := one_bound (op (a + n))
    rw [show a + ((n + 1 : Nat) : Int) = a + n + 1 by omega, hs]
    omega
theorem Steps.le {f : Int → Int} {op : Int → Bool} {lo hi a b : Int} (h : Steps f op lo hi) (h1 : lo ≤ a) (hab : a ≤ b) (h2 : b ≤ hi) : f a ≤ f b ∧ f b ≤ f a + (b - a) := by
  have := h.mono (b - a).toNat a h1 (by omega)
  rw [show a + ((b - a).toNat : Int) = b by omega] at this
  omega
theorem Steps.eq {f g : Int → Int} {op og : Int → Bool} {lo hi : Int} (h : Steps f op lo hi) (k : Steps g og lo hi) (e : ∀ t, lo ≤ t → t < hi → op t = og t) : ∀ (n : Nat), lo + n ≤ hi → f (lo + n) - f lo = g (lo + n) - g lo
  | 0, _ => by simp
  | n + 1, h2 => by
    have ih := h.eq k e n (by omega)
    have h3 := h (lo + n) (by omega) (by omega)
    have h4 := k (lo + n) (by omega) (by omega)
    rw [show lo + ((n + 1 : Nat) : Int) = lo + n + 1 by omega, h3, h4, e _ (by omega) (by omega)]
    omega
theorem Steps.same {f g : Int → Int} {op og : Int → Bool} {lo hi a b : Int} (h : Steps f op lo hi) (k : Steps g og lo hi) (h1 : lo ≤ a) (hab : a ≤ b) (h2 : b ≤ hi) (e : ∀ t, a ≤ t → t < b → op t = og t) : f b - f a = g b - g a := by
  have := (h.sub h1 h2).eq (k.sub h1 h2) e (b - a).toNat (by omega)
  rw [show a + ((b - a).toNat : Int) = b by omega] at this
  exact this
theorem Steps.still {f : Int → Int} {op : Int → Bool} {lo hi a b : Int} (h : Steps f op lo hi) (h1 : lo ≤ a) (hab : a ≤ b) (h2 : b ≤ hi) (e : ∀ t, a ≤ t → t < b → op t = false) : f b = f a := by
  have := h.same (g := fun _ => 0) (og := fun _ => false) (fun _ _ _ => rfl) h1 hab h2 (fun t x y => by rw [e t x y])
  omega
theorem Steps.hit {f : Int → Int} {op : Int → Bool} {lo hi : Int} (h : Steps f op lo hi) (k : Int) : ∀ (n : Nat), lo + n ≤ hi → f lo ≤ k → k < f (lo + n) → ∃ t, lo ≤ t ∧ t < lo + n ∧ f t = k ∧ op t = true
  | 0, _, h1, h2 => by simp at h2; omega
  | n + 1, h0, h1, h2 => by
    have h3 := h (lo + n) (by omega) (by omega)
    have hb := one_bound (op (lo + n))
    rw [show lo + ((n + 1 : Nat) : Int) = lo + n + 1 by omega, h3] at h2
    by_cases hk : k < f (lo + n)
    · obtain ⟨t, a, b, c⟩ := h.hit k n (by omega) h1 hk
      exact ⟨t, a, by omega, c⟩
    · refine ⟨lo + n, by omega, by omega, by omega, ?_⟩
      cases ho : op (lo + n) with
      | true => rfl
      | false => rw [ho] at h2; simp [one] at h2; omega

/-- Is t in a span of the row? -/
def inRow (l : List S57) (t : Int) : Bool := l.any fun s => decide (s.f0 ≤ t ∧ t < s.f1)
theorem inRow_cons (s : S57) (r : List S57) (t : Int) : inRow (s :: r) t = (decide (s.f0 ≤ t ∧ t < s.f1) || inRow r t) := by simp [inRow]
theorem inRow_lo {lo : Int} {l : List S57} (h : RowFrom lo l) {t : Int} (ht : t < lo) : inRow l t = false := by
  induction l generalizing lo with
  | nil => rfl
  | cons s r ih =>
    obtain ⟨h1, h2, h3⟩ := h
    rw [inRow_cons, ih h3 (by omega), decide_eq_false (by omega)]
    rfl
/-- How many seconds of a row are ahead of x. -/
def ahead : List S57 → Int → Int
  | [], _ => 0
  | s :: r, x => mx (mn x s.f1 - s.f0) 0 + ahead r x
theorem ahead_lo {lo : Int} {l : List S57} (h : RowFrom lo l) {x : Int} (hx : x ≤ lo) : ahead l x = 0 := by
  induction l generalizing lo with
  | nil => rfl
  | cons s r ih =>
    obtain ⟨h1, h2, h3⟩ := h
    simp only [ahead]
    rw [ih h3 (by omega)]
    unfold mx mn
    (repeat' split) <;> omega
theorem ahead_hi {lo : Int} {l : List S57} (h : RowFrom lo l) {x : Int} (hx : ∀ s, s ∈ l → s.f1 ≤ x) : ahead l x = secs l := by
  induction l generalizing lo with
  | nil => rfl
  | cons s r ih =>
    obtain ⟨h1, h2, h3⟩ := h
    simp only [ahead, secs]
    rw [ih h3 (fun t ht => hx t (by simp [ht]))]
    have := hx s (by simp)
    unfold mx mn
    (repeat' split) <;> omega
theorem ahead_step {lo : Int} {l : List S57} (h : RowFrom lo l) (x : Int) : ahead l (x + 1) = ahead l x + one (inRow l x) := by
  induction l generalizing lo with
  | nil => rfl
  | cons s r ih =>
    obtain ⟨h1, h2, h3⟩ := h
    simp only [ahead]
    rw [inRow_cons]
    by_cases hx : s.f0 ≤ x ∧ x < s.f1
    · rw [ahead_lo h3 (x := x + 1) (by omega), ahead_lo h3 (x := x) (by omega), decide_eq_true hx]
      simp only [Bool.true_or, one, if_true]
      unfold mx mn
      (repeat' split) <;> omega
    · rw [ih h3, decide_eq_false hx, Bool.false_or]
      unfold mx mn
      (repeat' split) <;> omega
theorem atP_cons (s : S57) (r : List S57) (x : Int) : atP (s :: r) x = if x < s.f1 then 0 else atP r x + 1 := by
  unfold atP
  rw [List.findIdx_cons]
  by_cases h : x < s.f1 <;> simp [h]
theorem rd_cons0 (s : S57) (r : List S57) : rd_T57 (s :: r) (0 : Nat) = s := rd_at _ 0 (by simp)
theorem rd_consS (s : S57) (r : List S57) (i : Nat) (h : i < r.length) : rd_T57 (s :: r) (i + 1 : Nat) = rd_T57 r i := by
  rw [rd_at _ _ (by simpa using h), rd_at _ _ h]; rfl
theorem ahead_at {lo : Int} {l : List S57} (h : RowFrom lo l) (x : Int) :
    secs (l.take (atP l x)) + (if atP l x < l.length then mx (x - (rd_T57 l (atP l x)).f0) 0 else 0) = ahead l x := by
  induction l generalizing lo with
  | nil => rfl
  | cons s r ih =>
    obtain ⟨h1, h2, h3⟩ := h
    rw [atP_cons]
    simp only [ahead]
    by_cases hx : x < s.f1
    · rw [if_pos hx, ahead_lo h3 (x := x) (by omega), rd_cons0]
      simp only [List.take_zero, secs, List.length_cons, Nat.zero_lt_succ, if_true]
      unfold mx mn
      (repeat' split) <;> omega
    · rw [if_neg hx, ← ih h3]
      simp only [List.take_succ_cons, secs, List.length_cons]
      by_cases hi : atP r x < r.length
      · rw [if_pos (by omega), if_pos hi, rd_consS _ _ _ hi]
        unfold mx mn
        (repeat' split) <;> omega
      · rw [if_neg (by omega), if_neg hi]
        unfold mx mn
        (repeat' split) <;> omega
theorem open_at {lo : Int} {l : List S57} (h : RowFrom lo l) (x : Int) : decide (atP l x < l.length ∧ (rd_T57 l (atP l x)).f0 ≤ x) = inRow l x := by
  induction l generalizing lo with
  | nil => rfl
  | cons s r ih =>
    obtain ⟨h1, h2, h3⟩ := h
    rw [atP_cons, inRow_cons]
    by_cases hx : x < s.f1
    · rw [if_pos hx, rd_cons0, inRow_lo h3 hx, Bool.or_false]
      simp [hx]
    · rw [if_neg hx, ← ih h3, decide_eq_false (show ¬ (s.f0 ≤ x ∧ x < s.f1) by omega), Bool.false_or]
      by_cases hi : atP r x < r.length
      · rw [rd_consS _ _ _ hi]; simp [hi]
      · simp [hi]
theorem RowFrom.starts {lo : Int} {l : List S57} (h : RowFrom lo l) : ∀ (i j : Nat) (hi : i < j) (hj : j < l.length), (l[i]).f1 ≤ (l[j]).f0 := by
  induction l generalizing lo with
  | nil => intro i j _ hj; simp at hj
  | cons s r ih =>
    obtain ⟨h1, h2, h3⟩ := h
    intro i j hi hj
    cases j with
    | zero => omega
    | succ j =>
      cases i with
      | zero =>
        have key : ∀ (l : List S57) (lo : Int), RowFrom lo l → ∀ (j : Nat) (hj : j < l.length), lo ≤ (l[j]).f0 := by
          intro l
          induction l with
          | nil => intro lo _ j hj; simp at hj
          | cons t u iu =>
            intro lo hl j hj
            obtain ⟨a, b, c⟩ := hl
            cases j with
            | zero => exact a
            | succ j => have := iu t.f1 c j (by simpa using hj); simp only [List.getElem_cons_succ]; omega
        exact key r s.f1 h3 j (by simpa using hj)
      | succ i => exact ih h3 i j (by omega) (by simpa using hj)
/-- How many open seconds of the weeks are ahead of t. -/
def Uo (l : List S57) (t : Int) : Int := t / 604800 * secs l + ahead l (t % 604800)
theorem Uo_step {l : List S57} (h : RowOk 604800 l) (lo hi : Int) : Steps (Uo l) (fun t => inRow l (t % 604800)) lo hi := by
  intro t _ _
  show Uo l (t + 1) = Uo l t + one (inRow l (t % 604800))
  unfold Uo
  by_cases hm : t % 604800 = 604799
  · have e1 : (t + 1) / 604800 = t / 604800 + 1 := by omega
    have e2 : (t + 1) % 604800 = 0 := by omega
    have h1 := ahead_step h.row (604799 : Int)
    rw [show (604799 : Int) + 1 = 604800 by decide, ahead_hi h.row (x := 604800) h.top] at h1
    rw [e1, e2, ahead_lo h.row (x := 0) (by omega), hm, Int.add_mul]
    omega
  · have e1 : (t + 1) / 604800 = t / 604800 := by omega
    have e2 : (t + 1) % 604800 = t % 604800 + 1 := by omega
    rw [e1, e2, ahead_step h.row]
    omega
theorem until_Uo {l : List S57} (h : RowOk 604800 l) {t : Int} (h0 : 0 ≤ t) (h1 : t ≤ 2251799813685248) : untilP l t = Uo l t := by
  have e : mn (mx t 0) 2251799813685248 = t := by unfold mn mx; (repeat' split) <;> omega
  unfold untilP Uo
  rw [e, ← ahead_at h.row]
  omega
theorem between_Uo {l : List S57} (h : RowOk 604800 l) {a b : Int} (h0 : 0 ≤ a) (hab : a ≤ b) (h1 : b ≤ 2251799813685248) : betweenP l a b = Uo l b - Uo l a := by
  unfold betweenP
  rw [until_Uo h h0 (by omega), until_Uo h (by omega) h1]
  have := ((Uo_step h a b).le (Int.le_refl _) hab (Int.le_refl _)).1
  unfold mx
  (repeat' split) <;> omega
theorem nth_at {row : List S57} (h : RowOk 604800 row) (k : Int) (hs : 0 < secs row) (h0 : 0 ≤ k) : Uo row (nthP row k) = k ∧ inRow row (nthP row k % 604800) = true := by
  obtain ⟨i0, i1, i2, i3⟩ := nthI_spec h k hs h0
  have hmem := h.mem (rd_T57 row (nthI row k)) (by rw [rd_at row _ i0]; exact List.getElem_mem _)
  have ht := take_at i0
  rw [ht, secs_append] at i3
  simp only [secs, Int.add_zero] at i3
  unfold nthP
  generalize hi : nthI row k = i at *
  generalize hsd : rd_T57 row (i : Int) = s at *
  generalize hP : secs (row.take i) = p at *
  have hq : (k / secs row * 604800 + s.f0 + k % secs row - p) / 604800 = k / secs row := by omega
  have hr : (k / secs row * 604800 + s.f0 + k % secs row - p) % 604800 = s.f0 + k % secs row - p := by omega
  have hx0 : s.f0 ≤ s.f0 + k % secs row - p := by omega
  have hx1 : s.f0 + k % secs row - p < s.f1 := by omega
  have hat : atP row (s.f0 + k % secs row - p) = i := by
    have a1 : atP row (s.f0 + k % secs row - p) ≤ i := atP_ge i0 (by rw [← rd_at row i i0, hsd]; exact hx1)
    rcases Nat.lt_or_ge (atP row (s.f0 + k % secs row - p)) i with hlt | hge
    · exfalso
      have h2 := atP_at (l := row) (t := s.f0 + k % secs row - p) (by omega)
      have h3 := h.row.starts (atP row (s.f0 + k % secs row - p)) i hlt i0
      rw [← rd_at row i i0, hsd] at h3
      omega
    · omega
  constructor
  · unfold Uo
    rw [hq, hr, ← ahead_at h.row, hat, if_pos i0, hsd, hP]
    have hm : mx (s.f0 + k % secs row - p - s.f0) 0 = k % secs row - p := by unfold mx; (repeat' split) <;> omega
    rw [hm]
    have := Int.mul_ediv_add_emod k (secs row)
    rw [Int.mul_comm] at this
    omega
  · rw [hr, ← open_at h.row, hat, hsd]
    exact decide_eq_true ⟨i0, hx0⟩
theorem nth_in {row : List S57} (h : RowOk 604800 row) {k u v : Int} (hs : 0 < secs row) (hu : 0 ≤ u) (huv : u ≤ v) (hv : v ≤ 2251799813685248) (h1 : Uo row u ≤ k) (h2 : k < Uo row v) :
    0 ≤ k ∧ k / secs row ≤ 3723213977 ∧ u ≤ nthP row k ∧ nthP row k < v := by
  have hS := Uo_step h 0 2251799813685249
  have hU0 : Uo row 0 = 0 := by unfold Uo; rw [show (0 : Int) % 604800 = 0 by decide, ahead_lo h.row (Int.le_refl _)]; omega
  have hk : 0 ≤ k := by have := (hS.le (Int.le_refl _) hu (by omega)).1; omega
  obtain ⟨e, ho⟩ := nth_at h k hs hk
  have hstep := Uo_step h (nthP row k) (nthP row k + 1) (nthP row k) (Int.le_refl _) (by omega)
  have hstep' : Uo row (nthP row k + 1) = k + 1 := by rw [hstep, e]; simp only [ho, one, if_true]
  refine ⟨hk, ?_, ?_, ?_⟩
  · have hah : ahead row (v % 604800) ≤ secs row := by
      have h3 := (Uo_step h (v % 604800) 604799).le (a := v % 604800) (b := 604799) (Int.le_refl _) (by omega) (Int.le_refl _)
      have h4 := Uo_step h 604799 604800 604799 (Int.le_refl _) (by omega)
      have hb := one_bound (inRow row ((604799 : Int) % 604800))
      have e1 : Uo row (v % 604800) = ahead row (v % 604800) := by
        unfold Uo
        rw [show v % 604800 / 604800 = 0 by omega, show v % 604800 % 604800 = v % 604800 by omega]; omega
      have e2 : Uo row (604799 + 1) = secs row := by
        unfold Uo
        rw [show (604799 + 1 : Int) / 604800 = 1 by decide, show (604799 + 1 : Int) % 604800 = 0 by decide, ahead_lo h.row (Int.le_refl _)]; omega
      simp only at h4
      omega
    have h5 : k < (v / 604800 + 1) * secs row := by
      unfold Uo at h2
      rw [Int.add_mul]
      omega
    have := Int.ediv_lt_of_lt_mul hs h5
    omega
  · rcases Int.lt_or_le (nthP row k) u with hlt | hge
    · have := ((Uo_step h (nthP row k + 1) u).le (Int.le_refl _) (by omega) (Int.le_refl _)).1
      omega
    · exact hge
  · rcases Int.lt_or_le (nthP row k) v with hlt | hge
    · exact hlt
    · have := ((Uo_step h v (nthP row k)).le (Int.le_refl _) hge (Int.le_refl _)).1
      omega
end Go.Proofs.Ytknlpeabmpllmaa.Own

set_option linter.unusedVariables false
set_option linter.unusedSimpArgs false
namespace Go.Proofs.Ytknlpeabmpllmaa.Own
open Go.RowKit Go.Proofs Go.Proofs.YtknlpeabmpllmaaW.PrintWords Go.Proofs.YtknlpeabmpllmaaW.PrintLast Go.Proofs.YtknlpeabmpllmaaW.PrintMore Go.Proofs.Ytknlpeabmpllmaa.Base

/-- How many seconds of the weeks are open ahead of an instant. -/
def Wk (off : Int) (week : List S57) (t : Int) : Int := Uo week (t + (604800 - off))
def wop (off : Int) (week : List S57) (t : Int) : Bool := inRow week ((t + (604800 - off)) % 604800)
/-- Is an instant open? -/
def cop (off : Int) (week closed : List S57) (t : Int) : Bool := !inRow closed t && wop off week t
variable {off : Int} {week closed : List S57}
theorem Wk_step (h : RowOk 604800 week) (off lo hi : Int) : Steps (Wk off week) (wop off week) lo hi := by
  intro t _ _
  have := Uo_step h (t + (604800 - off)) (t + (604800 - off) + 1) _ (Int.le_refl _) (by omega)
  unfold Wk wop
  rw [show t + 1 + (604800 - off) = t + (604800 - off) + 1 by omega]
  exact this
theorem weekly_Wk (h : RowOk 604800 week) (h0 : 0 ≤ off) (h1 : off < 604800) {a b : Int} (ha : 0 ≤ a) (hab : a ≤ b) (hb : b ≤ 1125899906842624) : weeklyP off week a b = Wk off week b - Wk off week a :=
  between_Uo h (by omega) (by omega) (by omega)

theorem cutP_same (l : List S57) (a : Int) : cutP l a a = [] := by
  induction l with
  | nil => rfl
  | cons s r ih =>
    rw [cutP_cons, if_neg, ih]
    unfold mx mn
    (repeat' split) <;> omega
theorem lost_step (h : RowOk 604800 week) (h0 : 0 ≤ off) (h1 : off < 604800) {a : Int} (ha : 0 ≤ a) {t : Int} (hat : a ≤ t) (ht : t < 1125899906842624) :
    ∀ {l : List S57} {lo : Int}, 0 ≤ lo → RowFrom lo l → (∀ s, s ∈ l → s.f1 ≤ 1125899906842624) → sumW off week (cutP l a (t + 1)) = sumW off week (cutP l a t) + one (inRow l t && wop off week t) := by
  intro l
  induction l with
  | nil => intro lo _ _ _; rfl
  | cons s r ih =>
    intro lo hlo hr htop
    obtain ⟨r1, r2, r3⟩ := hr
    have ih' := ih (lo := s.f1) (by omega) r3 (fun x hx => htop x (by simp [hx]))
    have hs := htop s (by simp)
    have hc : ∀ b, a ≤ b → b ≤ 1125899906842624 → sumW off week (cutP (s :: r) a b) = (if mx s.f0 a < mn s.f1 b then Wk off week (mn s.f1 b) - Wk off week (mx s.f0 a) else 0) + sumW off week (cutP r a b) := by
      intro b hb1 hb2
      rw [cutP_cons]
      by_cases hlt : mx s.f0 a < mn s.f1 b
      · rw [if_pos hlt, if_pos hlt]
        simp only [sumW]
        have b0 : 0 ≤ mx s.f0 a := by unfold mx; split <;> omega
        have b1 : mn s.f1 b ≤ 1125899906842624 := by unfold mn; split <;> omega
        rw [weekly_Wk h h0 h1 b0 (by omega) b1]
      · rw [if_neg hlt, if_neg hlt]; omega
    rw [hc (t + 1) (by omega) (by omega), hc t hat (by omega), ih', inRow_cons]
    have hst := Wk_step h off t (t + 1) t (Int.le_refl _) (by omega)
    by_cases hx : s.f0 ≤ t ∧ t < s.f1
    · rw [inRow_lo r3 hx.2, decide_eq_true hx]
      simp only [Bool.true_or, Bool.true_and, Bool.false_and]
      have e1 : mn s.f1 (t + 1) = t + 1 := by unfold mn; split <;> omega
      have e2 : mn s.f1 t = t := by unfold mn; split <;> omega
      have e3 : mx s.f0 a ≤ t := by unfold mx; split <;> omega
      rw [e1, e2, if_pos (by omega), hst, show one false = 0 from rfl]
      by_cases h5 : mx s.f0 a < t
      · rw [if_pos h5]; omega
      · rw [if_neg h5, show mx s.f0 a = t by omega]; omega
    · rw [decide_eq_false hx, Bool.false_or]
      have e : (if mx s.f0 a < mn s.f1 (t + 1) then Wk off week (mn s.f1 (t + 1)) - Wk off week (mx s.f0 a) else 0) = (if mx s.f0 a < mn s.f1 t then Wk off week (mn s.f1 t) - Wk off week (mx s.f0 a) else 0) := by
        by_cases h6 : t < s.f0
        · have z1 : ¬ mx s.f0 a < mn s.f1 (t + 1) := by unfold mx mn; (repeat' split) <;> omega
          have z2 : ¬ mx s.f0 a < mn s.f1 t := by unfold mx mn; (repeat' split) <;> omega
          rw [if_neg z1, if_neg z2]
        · have z1 : mn s.f1 (t + 1) = s.f1 := by unfold mn; split <;> omega
          have z2 : mn s.f1 t = s.f1 := by unfold mn; split <;> omega
          rw [z1, z2]
      rw [e]; omega
theorem elap_same (h : RowOk 604800 week) (h0 : 0 ≤ off) (h1 : off < 604800) {a : Int} (ha : 0 ≤ a) (hb : a ≤ 1125899906842624) : elapP off week closed a a = 0 := by
  unfold elapP
  rw [cutP_same, weekly_Wk h h0 h1 ha (Int.le_refl _) hb]
  simp [sumW]
theorem elap_step (h : RowOk 604800 week) (hc : RowOk 1125899906842624 closed) (h0 : 0 ≤ off) (h1 : off < 604800) {a : Int} (ha : 0 ≤ a) : Steps (elapP off week closed a) (cop off week closed) a 1125899906842624 := by
  intro t hat ht
  unfold elapP cop
  have hst := Wk_step h off t (t + 1) t (Int.le_refl _) (by omega)
  rw [weekly_Wk h h0 h1 ha (by omega) (by omega), weekly_Wk h h0 h1 ha hat (by omega), lost_step h h0 h1 ha hat ht (Int.le_refl _) hc.row hc.top, hst]
  cases hi : inRow closed t <;> simp [one] <;> omega
/-- The open instants ahead of one. -/
def Nn (off : Int) (week closed : List S57) (t : Int) : Int := elapP off week closed 0 t
theorem Nn_step (h : RowOk 604800 week) (hc : RowOk 1125899906842624 closed) (h0 : 0 ≤ off) (h1 : off < 604800) : Steps (Nn off week closed) (cop off week closed) 0 1125899906842624 := elap_step h hc h0 h1 (Int.le_refl _)
theorem elap_Nn (h : RowOk 604800 week) (hc : RowOk 1125899906842624 closed) (h0 : 0 ≤ off) (h1 : off < 604800) {a b : Int} (ha : 0 ≤ a) (hab : a ≤ b) (hb : b ≤ 1125899906842624) : elapP off week closed a b = Nn off week closed b - Nn off week closed a := by
  have e := (elap_step h hc h0 h1 ha).same ((Nn_step h hc h0 h1).sub ha (Int.le_refl _)) (Int.le_refl _) hab hb (fun _ _ _ => rfl)
  rw [elap_same h h0 h1 ha (by omega)] at e
  omega
theorem elap_nonneg (h : RowOk 604800 week) (hc : RowOk 1125899906842624 closed) (h0 : 0 ≤ off) (h1 : off < 604800) {a b : Int} (ha : 0 ≤ a) (hab : a ≤ b) (hb : b ≤ 1125899906842624) : 0 ≤ elapP off week closed a b := by
  have := ((elap_step (closed := closed) h hc h0 h1 ha).le (Int.le_refl _) hab hb).1
  rw [elap_same h h0 h1 ha (by omega)] at this
  exact this

/-- When a budget is spent in spans. -/
def dueL (off : Int) (week : List S57) : Int → List S57 → Option Int
  | _, [] => none
  | B, s :: r => if weeklyP off week s.f0 s.f1 < B then dueL off week (B - weeklyP off week s.f0 s.f1) r
    else some (nthP week (untilP week (s.f0 + (604800 - off)) + B - 1) - (604800 - off) + 1)
/-- The open second at which a budget is spent. -/
theorem due_hit (h : RowOk 604800 week) (h0 : 0 ≤ off) (h1 : off < 604800) (hs : 0 < secs week) {a z B : Int} (ha : 0 ≤ a) (haz : a ≤ z) (hz : z ≤ 1125899906842624) (hB : 1 ≤ B) (hw : B ≤ weeklyP off week a z) :
    (0 ≤ untilP week (a + (604800 - off)) + B - 1 ∧ untilP week (a + (604800 - off)) + B - 1 ≤ 2251799815500000) ∧ (untilP week (a + (604800 - off)) + B - 1) / secs week ≤ 3723213977 ∧
      a + (604800 - off) ≤ nthP week (untilP week (a + (604800 - off)) + B - 1) ∧ nthP week (untilP week (a + (604800 - off)) + B - 1) < z + (604800 - off) ∧
      Wk off week (nthP week (untilP week (a + (604800 - off)) + B - 1) - (604800 - off)) = Wk off week a + B - 1 ∧ wop off week (nthP week (untilP week (a + (604800 - off)) + B - 1) - (604800 - off)) = true := by
  rw [weekly_Wk h h0 h1 ha haz hz] at hw
  have hu := until_Uo h (t := a + (604800 - off)) (by omega) (by omega)
  have hv := (until_bound h (z + (604800 - off))).2
  rw [until_Uo h (by omega) (by omega)] at hv
  have hW : ∀ t, Wk off week t = Uo week (t + (604800 - off)) := fun _ => rfl
  rw [hW, hW] at hw
  rw [hu]
  generalize hk : Uo week (a + (604800 - off)) + B - 1 = k
  obtain ⟨n0, n1, n2, n3⟩ := nth_in h (k := k) (u := a + (604800 - off)) (v := z + (604800 - off)) hs (by omega) (by omega) (by omega) (by omega) (by omega)
  obtain ⟨m0, m1⟩ := nth_at h k hs n0
  refine ⟨⟨n0, by omega⟩, n1, n2, n3, ?_, ?_⟩
  · rw [hW, hW, show nthP week k - (604800 - off) + (604800 - off) = nthP week k by omega, m0]; omega
  · unfold wop; rw [show nthP week k - (604800 - off) + (604800 - off) = nthP week k by omega]; exact m1
theorem due_spec (h : RowOk 604800 week) (h0 : 0 ≤ off) (h1 : off < 604800) (hs : 0 < secs week) (N : Int → Int) : ∀ (l : List S57) (lo a B : Int), RowFrom lo l → 0 ≤ lo → (∀ s, s ∈ l → s.f1 ≤ 1125899906842624) → 0 ≤ a → a ≤ 1125899906842624 → 1 ≤ B →
    Steps N (fun t => !inRow l t && wop off week t) a 1125899906842624 →
    match dueL off week B (freeL l a 1125899906842624) with
    | none => N 1125899906842624 - N a < B
    | some d => a < d ∧ d ≤ 1125899906842624 ∧ N d = N a + B ∧ N (d - 1) = N a + B - 1 ∧ (!inRow l (d - 1) && wop off week (d - 1)) = true := by
  intro l
  induction l with
  | nil =>
    intro lo a B _ _ _ ha haH hB hN
    simp only [freeL]
    by_cases hlt : a < 1125899906842624
    · rw [if_pos hlt]
      simp only [dueL]
      have hw := weekly_Wk h h0 h1 ha haH (Int.le_refl _)
      by_cases hlb : weeklyP off week a 1125899906842624 < B
      · rw [if_pos hlb]
        simp only
        have := hN.same (Wk_step h off a 1125899906842624) (Int.le_refl _) haH (Int.le_refl _) (fun t _ _ => by simp [inRow])
        omega
      · rw [if_neg hlb]
        obtain ⟨_, _, n2, n3, n4, n5⟩ := due_hit h h0 h1 hs (a := a) (z := 1125899906842624) (B := B) ha haH (Int.le_refl _) hB (by omega)
        generalize nthP week (untilP week (a + (604800 - off)) + B - 1) = q at *
        have e1 := hN.same (Wk_step h off a 1125899906842624) (Int.le_refl _) (b := q - (604800 - off)) (by omega) (by omega) (fun t _ _ => by simp [inRow])
        have e2 := hN (q - (604800 - off)) (by omega) (by omega)
        simp only [inRow, List.any_nil, Bool.not_false, Bool.true_and, n5, one, if_true] at e2
        refine ⟨by omega, by omega, by omega, ?_, ?_⟩
        · rw [show q - (604800 - off) + 1 - 1 = q - (604800 - off) by omega]; omega
        · rw [show q - (604800 - off) + 1 - 1 = q - (604800 - off) by omega, n5]; rfl
    · rw [if_neg hlt]
      simp only [dueL]
      rw [show a = 1125899906842624 by omega]; omega
  | cons s r ih =>
    intro lo a B hr hlo htop ha haH hB hN
    obtain ⟨r1, r2, r3⟩ := hr
    have hst := htop s (by simp)
    have htop' : ∀ x, x ∈ r → x.f1 ≤ 1125899906842624 := fun x hx => htop x (by simp [hx])
    have hin : ∀ t, s.f1 ≤ t → inRow (s :: r) t = inRow r t := fun t ht => by rw [inRow_cons, decide_eq_false (by omega), Bool.false_or]
    have hN' : Steps N (fun t => !inRow r t && wop off week t) (mx a s.f1) 1125899906842624 := fun t x y => by
      have := hN t (by unfold mx at x; split at x <;> omega) y
      rw [this]
      simp only
      rw [hin t (by unfold mx at x; split at x <;> omega)]
    simp only [freeL]
    by_cases hlt : a < 1125899906842624
    · rw [if_pos hlt]
      by_cases hsa : s.f1 ≤ a
      · rw [if_pos hsa]
        have hm : mx a s.f1 = a := by unfold mx; split <;> omega
        rw [hm] at hN'
        have := ih s.f1 a B r3 (by omega) htop' ha haH hB hN'
        revert this
        cases dueL off week B (freeL r a 1125899906842624) with
        | none => exact id
        | some d =>
          simp only
          rintro ⟨d1, d2, d3, d4, d5⟩
          exact ⟨d1, d2, d3, d4, by rw [hin _ (by omega)]; exact d5⟩
      · rw [if_neg hsa]
        have hm : mx a s.f1 = s.f1 := by unfold mx; split <;> omega
        rw [hm] at hN'
        have hmin : mn s.f0 1125899906842624 = s.f0 := by unfold mn; split <;> omega
        rw [hmin]
        have hcl : ∀ t, s.f0 ≤ t → t < s.f1 → (!inRow (s :: r) t && wop off week t) = false := fun t x y => by rw [inRow_cons, decide_eq_true ⟨x, y⟩]; rfl
        have hop : ∀ t, t < s.f0 → (!inRow (s :: r) t && wop off week t) = wop off week t := fun t x => by
          rw [inRow_cons, decide_eq_false (by omega), inRow_lo r3 (by omega)]; rfl
        by_cases hfr : a < s.f0
        · rw [if_pos hfr]
          simp only [dueL]
          have hw := weekly_Wk h h0 h1 ha (b := s.f0) (by omega) (by omega)
          have e0 := hN.same (Wk_step h off a 1125899906842624) (Int.le_refl _) (b := s.f0) (by omega) (by omega) (fun t _ y => hop t y)
          have e1 := hN.still (a := s.f0) (b := s.f1) (by omega) (by omega) (by omega) hcl
          by_cases hlb : weeklyP off week a s.f0 < B
          · rw [if_pos hlb]
            have := ih s.f1 s.f1 (B - weeklyP off week a s.f0) r3 (by omega) htop' (by omega) hst (by omega) hN'
            revert this
            cases dueL off week (B - weeklyP off week a s.f0) (freeL r s.f1 1125899906842624) with
            | none => simp only; intro; omega
            | some d =>
              simp only
              rintro ⟨d1, d2, d3, d4, d5⟩
              exact ⟨by omega, d2, by omega, by omega, by rw [hin _ (by omega)]; exact d5⟩
          · rw [if_neg hlb]
            obtain ⟨_, _, n2, n3, n4, n5⟩ := due_hit h h0 h1 hs (a := a) (z := s.f0) (B := B) ha (by omega) (by omega) hB (by omega)
            generalize nthP week (untilP week (a + (604800 - off)) + B - 1) = q at *
            have e1 := hN.same (Wk_step h off a 1125899906842624) (Int.le_refl _) (b := q - (604800 - off)) (by omega) (by omega) (fun t _ y => hop t (by omega))
            have e2 := hN (q - (604800 - off)) (by omega) (by omega)
            have e3 := hop (q - (604800 - off)) (by omega)
            simp only at e2
            rw [e3, n5] at e2
            simp only [one, if_true] at e2
            refine ⟨by omega, by omega, by omega, ?_, ?_⟩
            · rw [show q - (604800 - off) + 1 - 1 = q - (604800 - off) by omega]; omega
            · rw [show q - (604800 - off) + 1 - 1 = q - (604800 - off) by omega, e3, n5]
        · rw [if_neg hfr]
          have e1 := hN.still (a := a) (b := s.f1) (Int.le_refl _) (by omega) (by omega) (fun t x y => hcl t (by omega) y)
          have := ih s.f1 s.f1 B r3 (by omega) htop' (by omega) hst hB hN'
          revert this
          cases dueL off week B (freeL r s.f1 1125899906842624) with
          | none => simp only; intro; omega
          | some d =>
            simp only
            rintro ⟨d1, d2, d3, d4, d5⟩
            exact ⟨by omega, d2, by omega, by omega, by rw [hin _ (by omega)]; exact d5⟩
    · rw [if_neg hlt]
      simp only [dueL]
      rw [show a = 1125899906842624 by omega]; omega
end Go.Proofs.Ytknlpeabmpllmaa.Own

set_option linter.unusedVariables false
set_option linter.unusedSimpArgs false
namespace Go.Proofs.Ytknlpeabmpllmaa.Own
open Go.RowKit Go.Proofs Go.Proofs.YtknlpeabmpllmaaW.PrintWords Go.Proofs.YtknlpeabmpllmaaW.PrintLast Go.Proofs.YtknlpeabmpllmaaW.PrintMore Go.Proofs.Ytknlpeabmpllmaa.Base
variable {w w' : World} {n kb ab pb cb : Nat} {off : Int} {week closed : List S57}

theorem R_one {base b : Nat} {ok : Nat → Prop} {v u : Value} {xs : List Int} {t : TypeId} (h : Kd.R (Kd.int .i64) 2 w base ok v xs) (hx : 2 ≤ xs.length) (hb : w.heap[b]? = some (.cells #[u] t (0, 0))) :
    Kd.R (Kd.int .i64) 2 w base (fun k => ok k ∧ k ≠ b) v xs := by
  have ho := Kd.R_own h
  refine ⟨fun k hk => ⟨h.1 k hk, ?_⟩, h.2⟩
  rintro rfl
  obtain ⟨inner, _, hr⟩ := ho
  rcases hr with ⟨rfl, _⟩ | ⟨g, cap, cur, rfl, hg, hh, r⟩
  · simp [Value.ownBlock] at hk
  · have : g = k := by simpa [Value.ownBlock] using hk
    subst this
    rw [hh] at hb
    injection hb with hb
    injection hb with hb
    subst hb
    have h1 : (Kd.int IntKind.i64).sz = 1 := rfl
    have h2 := r.2.2.1
    rw [h1] at h2
    have h3 := r.1
    simp at h2
    omega
theorem types1 {e t : Nat} {E : List Nat} (hE : E = []) (ht : t ≠ e) : ∀ q, q ∈ e :: E → q ≠ t := by
  subst hE
  intro q hq h
  have := List.mem_singleton.1 hq
  exact ht (by rw [← h, this])
/-- What lies as it lay but for a box of one cell. -/
def But (b : Nat) (w w' : World) : Prop := ∀ k, k < w.heap.size → k ≠ b → w'.heap[k]? = w.heap[k]?
theorem PlanAt.far (h : PlanAt w n pb cb week) {b : Nat} {t : TypeId} {u : Value} (hb : w.heap[b]? = some (.cells #[u] t (0, 0))) (ht : t ≠ 57) (hw : t = 2 → week ≠ []) (hm : But b w w') : PlanAt w' n pb cb week := by
  obtain ⟨A, c, hpb, hc, hr⟩ := h.blk
  have hne : pb ≠ b := by rintro rfl; rw [hpb] at hb; injection hb with hb; injection hb with hb; simp at hb
  refine ⟨h.ok, h.npb, h.ncb, h.ne, ⟨A, c, (hm pb (blk_lt hpb) hne).trans hpb, hc, ?_⟩, ?_⟩
  · have := Kd.R_types hr hb (types1 rfl ht)
    exact Kd.R_mono (Kd.R_step this (fun k hk hlt => hm k hlt hk.2)) (fun _ hk => hk.1)
  · obtain ⟨m, k, ⟨lv, hc⟩ | ⟨v, hc, hr⟩⟩ := h.cell
    · have hne : cb ≠ b := by rintro rfl; rw [hc] at hb; injection hb with hb; injection hb with hb; simp at hb
      exact ⟨m, k, .inl ⟨lv, (hm cb (blk_lt hc) hne).trans hc⟩⟩
    · have hne : cb ≠ b := by rintro rfl; rw [hc] at hb; injection hb with hb; injection hb with hb; simp at hb
      refine ⟨m, k, .inr ⟨v, (hm cb (blk_lt hc) hne).trans hc, ?_⟩⟩
      by_cases h2 : t = 2
      · have hl : 2 ≤ (psums week).length := by
          rw [psums_length]
          have := hw h2
          cases week with
          | nil => exact absurd rfl this
          | cons s r => simp
        exact Kd.R_mono (Kd.R_step (R_one hr hl hb) (fun k hk hlt => hm k hlt hk.2)) (fun _ hk => hk.1)
      · have := Kd.R_types hr hb (types1 rfl h2)
        exact Kd.R_mono (Kd.R_step this (fun k hk hlt => hm k hlt hk.2)) (fun _ hk => hk.1)
theorem AlmAt.far (h : AlmAt w n ab cb closed) {b : Nat} {t : TypeId} {u : Value} (hb : w.heap[b]? = some (.cells #[u] t (0, 0))) (ht : t ≠ 57) (ht2 : t ≠ 90) (hm : But b w w') : AlmAt w' n ab cb closed := by
  obtain ⟨A, c, hab, hc, hr⟩ := h.blk
  have hne : ab ≠ b := by
    rintro rfl
    rw [hab] at hb
    injection hb with hb
    injection hb with _ hb
    exact ht2 hb.symm
  refine ⟨h.ok, h.nab, h.ne, ⟨A, c, (hm ab (blk_lt hab) hne).trans hab, hc, ?_⟩⟩
  have := Kd.R_types hr hb (types1 rfl ht)
  exact Kd.R_mono (Kd.R_step this (fun k hk hlt => hm k hlt hk.2)) (fun _ hk => hk.1)
theorem ClkAt.far (h : ClkAt w n kb ab pb cb off week closed) {b : Nat} {t : TypeId} {u : Value} (hb : w.heap[b]? = some (.cells #[u] t (0, 0))) (ht : t ≠ 57) (ht2 : t ≠ 90) (hw : t = 2 → week ≠ []) (hm : But b w w') : ClkAt w' n kb ab pb cb off week closed := by
  have hne : kb ≠ b := by
    rintro rfl
    have hk := h.blk
    rw [hk] at hb
    injection hb with hb
    injection hb with hb
    simp at hb
  exact ⟨h.lo, h.hi, h.nkb, h.ne, (hm kb (blk_lt h.blk) hne).trans h.blk, h.alm.far hb ht ht2 hm, h.plan.far hb ht hw hm⟩
theorem But.set (w : World) (b : Nat) (v : Value) : But b w (w.setCell ⟨b, 0, none⟩ v) := fun k _ hk => Below.heap_setCell _ _ _ _ hk
/-- What is written anew as it was. -/
theorem set_same {b : Nat} {t : TypeId} {u : Value} (hb : w.heap[b]? = some (.cells #[u] t (0, 0))) (k : Nat) : (w.setCell ⟨b, 0, none⟩ u).heap[k]? = w.heap[k]? := by
  by_cases hk : k = b
  · subst hk
    rw [hb]
    exact blk_put (cs := #[u]) hb 0 u rfl
  · exact Below.heap_setCell _ _ _ _ hk
end Go.Proofs.Ytknlpeabmpllmaa.Own

set_option linter.unusedVariables false
set_option linter.unusedSimpArgs false
namespace Go.Proofs.Ytknlpeabmpllmaa.Own
open Go.RowKit Go.Proofs Go.Proofs.YtknlpeabmpllmaaW.PrintWords Go.Proofs.YtknlpeabmpllmaaW.PrintLast Go.Proofs.YtknlpeabmpllmaaW.PrintMore Go.Proofs.Ytknlpeabmpllmaa.Base
variable {w w' : World} {n kb ab pb cb : Nat} {off : Int} {week closed : List S57}

/-- The four boxes of Due. -/
structure DueB (m : Nat) (w4 : World) (kv : Value) (B : Int) (r2 r3 : Int) : Prop where
  b0 : w4.heap[m]? = some (.cells #[kv] 28 (0, 0))
  b1 : w4.heap[m + 1]? = some (.cells #[.int .i64 B] 2 (0, 0))
  b2 : w4.heap[m + 1 + 1]? = some (.cells #[.int .i64 r2] 2 (0, 0))
  b3 : w4.heap[m + 1 + 1 + 1]? = some (.cells #[.int .i64 r3] 29 (0, 0))
theorem DueB.new (w : World) (kv : Value) (B : Int) : DueB w.heap.size ((((w.alloc (.cells #[kv] 28)).alloc (.cells #[.int .i64 B] 2)).alloc (.cells #[.int .i64 0] 2)).alloc (.cells #[.int .i64 0] 29)) kv B 0 0 :=
  ⟨blk_alloc (blk_alloc (blk_alloc (blk_new w _) _) _) _, blk_alloc (blk_alloc (by simpa using blk_new (w.alloc (.cells #[kv] 28)) (.cells #[.int .i64 B] 2)) _) _,
    blk_alloc (by simpa using blk_new ((w.alloc (.cells #[kv] 28)).alloc (.cells #[.int .i64 B] 2)) (.cells #[.int .i64 0] 2)) _, by simpa using blk_new (((w.alloc (.cells #[kv] 28)).alloc (.cells #[.int .i64 B] 2)).alloc (.cells #[.int .i64 0] 2)) (.cells #[.int .i64 0] 29)⟩
theorem DueB.upd {m : Nat} {w4 w5 : World} {kv : Value} {B r2 r3 : Int} (h : DueB m w4 kv B r2 r3) (hu : Upd cb w4 w5) (hc : cb < m) : DueB m w5 kv B r2 r3 :=
  ⟨hu.blk h.b0 (by omega), hu.blk h.b1 (by omega), hu.blk h.b2 (by omega), hu.blk h.b3 (by omega)⟩
theorem DueB.below {m : Nat} {w4 w5 : World} {kv : Value} {B r2 r3 : Int} (h : DueB m w4 kv B r2 r3) (hb : Below w4.heap.size w4 w5) : DueB m w5 kv B r2 r3 :=
  ⟨blk_below h.b0 hb, blk_below h.b1 hb, blk_below h.b2 hb, blk_below h.b3 hb⟩
theorem DueB.set1 {m : Nat} {w4 : World} {kv : Value} {B r2 r3 : Int} (h : DueB m w4 kv B r2 r3) (x : Int) : DueB m (w4.setCell ⟨m + 1, 0, none⟩ (.int .i64 x)) kv x r2 r3 :=
  ⟨(Below.heap_setCell _ _ _ _ (by simp <;> omega)).trans h.b0, blk_put (cs := #[.int .i64 B]) h.b1 0 _ rfl, (Below.heap_setCell _ _ _ _ (by simp <;> omega)).trans h.b2, (Below.heap_setCell _ _ _ _ (by simp <;> omega)).trans h.b3⟩
theorem DueB.set2 {m : Nat} {w4 : World} {kv : Value} {B r2 r3 : Int} (h : DueB m w4 kv B r2 r3) (x : Int) : DueB m (w4.setCell ⟨m + 1 + 1, 0, none⟩ (.int .i64 x)) kv B x r3 :=
  ⟨(Below.heap_setCell _ _ _ _ (by simp <;> omega)).trans h.b0, (Below.heap_setCell _ _ _ _ (by simp <;> omega)).trans h.b1, blk_put (cs := #[.int .i64 r2]) h.b2 0 _ rfl, (Below.heap_setCell _ _ _ _ (by simp <;> omega)).trans h.b3⟩
theorem DueB.set3 {m : Nat} {w4 : World} {kv : Value} {B r2 r3 : Int} (h : DueB m w4 kv B r2 r3) (x : Int) : DueB m (w4.setCell ⟨m + 1 + 1 + 1, 0, none⟩ (.int .i64 x)) kv B r2 x :=
  ⟨(Below.heap_setCell _ _ _ _ (by simp <;> omega)).trans h.b0, (Below.heap_setCell _ _ _ _ (by simp <;> omega)).trans h.b1, (Below.heap_setCell _ _ _ _ (by simp <;> omega)).trans h.b2, blk_put (cs := #[.int .i64 r3]) h.b3 0 _ rfl⟩
theorem ClkAt.lt (h : ClkAt w n kb ab pb cb off week closed) : cb < w.heap.size := by
  obtain ⟨m, k, ⟨lv, hc⟩ | ⟨v, hc, hr⟩⟩ := h.plan.cell
  · exact blk_lt hc
  · exact blk_lt hc

set_option maxHeartbeats 1600000 in
set_option maxRecDepth 100000 in
theorem due_nil (a B : Int) (w : World) :
    Calls Try.prog 14 #[.pointer none, .int .i64 a, .int .i64 B] w fun e w' => e = .returned (.tuple #[.int .i64 0, .int .i64 1]) ∧ Below w.heap.size w w' := by
  have D := Aside0.mk (DueB.new w (.pointer none) B)
  have HB := Aside0.mk (below_alloc (below_alloc (below_alloc (below_alloc (Below.refl w.heap.size w) (.cells #[.pointer none] 28)) (.cells #[.int .i64 B] 2)) (.cells #[.int .i64 0] 2)) (.cells #[.int .i64 0] 29))
  go_enter Try.func14, Try.ntmps14
  go_wp2_with fail
  generalize ((((w.alloc (.cells #[.pointer none] 28)).alloc (.cells #[.int .i64 B] 2)).alloc (.cells #[.int .i64 0] 2)).alloc (.cells #[.int .i64 0] 29)) = w4 at D HB ⊢
  have d2 : w4.cell? ⟨w.heap.size + 1 + 1, 0, none⟩ = some (.int .i64 0) := (blk_cell D.out.b2 0).trans rfl
  have d3 : w4.cell? ⟨w.heap.size + 1 + 1 + 1, 0, none⟩ = some (.int .i64 0) := (blk_cell D.out.b3 0).trans rfl
  have f2 : w4.frozen? ⟨w.heap.size + 1 + 1, 0, none⟩ = false := blk_frozen D.out.b2 0
  have f3 : w4.frozen? ⟨w.heap.size + 1 + 1 + 1, 0, none⟩ = false := blk_frozen D.out.b3 0
  go_wp2_with (go_at_call 30; refine (clknone_nil _).mono ?_; rintro e w5 ⟨rfl, rfl⟩)
  have D5 := (D.out.set2 0).set3 1
  have e2 := (blk_cell D5.b2 0).trans (rfl : _ = some (Value.int .i64 0))
  have e3 := (blk_cell D5.b3 0).trans (rfl : _ = some (Value.int .i64 1))
  refine bodyPost_ret (v := .tuple #[.int .i64 0, .int .i64 1]) (by simp [results, Try.results14, go_sem, e2, e3]) rfl ⟨rfl, ?_⟩
  exact below_set (below_set HB.out (by show w.heap.size ≤ w.heap.size + 1 + 1; omega)) (by show w.heap.size ≤ w.heap.size + 1 + 1 + 1; omega)

/-- What Due leaves behind its last stores, where nothing but its boxes is written. -/
theorem due_left {w4 : World} {B x y r2 r3 : Int} {kv : Value} (D : DueB w.heap.size w4 kv B r2 r3) (hc : cb < w.heap.size) (HC : ClkAt w4 n kb ab pb cb off week closed) (HU : Upd cb w w4) (hx : week ≠ [] ∨ x = r2) :
    ClkAt ((w4.setCell ⟨w.heap.size + 1 + 1, 0, none⟩ (.int .i64 x)).setCell ⟨w.heap.size + 1 + 1 + 1, 0, none⟩ (.int .i64 y)) n kb ab pb cb off week closed ∧ Upd cb w ((w4.setCell ⟨w.heap.size + 1 + 1, 0, none⟩ (.int .i64 x)).setCell ⟨w.heap.size + 1 + 1 + 1, 0, none⟩ (.int .i64 y)) := by
  constructor
  · have h1 : ClkAt (w4.setCell ⟨w.heap.size + 1 + 1, 0, none⟩ (.int .i64 x)) n kb ab pb cb off week closed := by
      rcases hx with h | rfl
      · exact HC.far D.b2 (by decide) (by decide) (fun _ => h) (But.set _ _ _)
      · have hs := set_same D.b2
        exact ⟨HC.lo, HC.hi, HC.nkb, HC.ne, (hs _).trans HC.blk, HC.alm.keep (fun k _ _ _ => hs k), HC.plan.keep (fun k _ _ => hs k)⟩
    exact h1.far (D.set2 x).b3 (by decide) (by decide) (fun h => by cases h) (But.set _ _ _)
  · refine ⟨HU.os, HU.tape, HU.output, by simpa using HU.size, fun k hk hne => ?_⟩
    rw [Below.heap_setCell _ _ _ _ (by show k ≠ w.heap.size + 1 + 1 + 1; omega), Below.heap_setCell _ _ _ _ (by show k ≠ w.heap.size + 1 + 1; omega)]
    exact HU.block k hk hne
set_option maxHeartbeats 1600000 in
set_option maxRecDepth 100000 in
theorem due_arg1 (a B : Int) (w : World) (h : ClkAt w n kb ab pb cb off week closed) (hn : n ≤ w.heap.size) (hx : ¬ (0 ≤ a ∧ a ≤ 1125899906842624)) :
    Calls Try.prog 14 #[.pointer (some ⟨kb, 0, none⟩), .int .i64 a, .int .i64 B] w fun e w' => e = .returned (.tuple #[.int .i64 0, .int .i64 2]) ∧ ClkAt w' n kb ab pb cb off week closed ∧ Upd cb w w' := by
  have D4 := Aside0.mk (DueB.new w (.pointer (some ⟨kb, 0, none⟩)) B)
  have HB : Aside0 (Below w.heap.size w ((((w.alloc (.cells #[.pointer (some ⟨kb, 0, none⟩)] 28)).alloc (.cells #[.int .i64 B] 2)).alloc (.cells #[.int .i64 0] 2)).alloc (.cells #[.int .i64 0] 29))) := ⟨below_alloc (below_alloc (below_alloc (below_alloc (Below.refl w.heap.size w) _) _) _) _⟩
  have HC4 := Aside0.mk (h.below HB.out)
  have HU4 := Aside0.mk (Upd.of_below (b := cb) HB.out)
  have hcb := h.lt
  have HH := Aside0.mk h
  have hnot : ∀ (x : Bool) (w : World), (Op.unary .not (.bool x)).run Try.prog w = .ok (.bool (!x)) w := fun _ _ => rfl
  have HI : Aside0 (instB a = false) := ⟨decide_eq_false hx⟩
  clear hx
  clear h
  go_enter Try.func14, Try.ntmps14
  go_wp2_with fail
  generalize ((((w.alloc (.cells #[.pointer (some ⟨kb, 0, none⟩)] 28)).alloc (.cells #[.int .i64 B] 2)).alloc (.cells #[.int .i64 0] 2)).alloc (.cells #[.int .i64 0] 29)) = w4 at D4 HC4 HU4 HB ⊢
  have c0 : w4.cell? ⟨w.heap.size, 0, none⟩ = some (.pointer (some ⟨kb, 0, none⟩)) := (blk_cell D4.out.b0 0).trans rfl
  have d1 : w4.cell? ⟨w.heap.size + 1, 0, none⟩ = some (.int .i64 B) := (blk_cell D4.out.b1 0).trans rfl
  have d2 : w4.cell? ⟨w.heap.size + 1 + 1, 0, none⟩ = some (.int .i64 0) := (blk_cell D4.out.b2 0).trans rfl
  have d3 : w4.cell? ⟨w.heap.size + 1 + 1 + 1, 0, none⟩ = some (.int .i64 0) := (blk_cell D4.out.b3 0).trans rfl
  have f2 : w4.frozen? ⟨w.heap.size + 1 + 1, 0, none⟩ = false := blk_frozen D4.out.b2 0
  have f3 : w4.frozen? ⟨w.heap.size + 1 + 1 + 1, 0, none⟩ = false := blk_frozen D4.out.b3 0
  go_wp2_with (first | (go_at_call 30; refine (clknone_any _ HC4.out).mono ?_; rintro e w5 ⟨rfl, rfl⟩) | (go_at_call 31; refine (instant_any a _).mono ?_; rintro e w5 ⟨rfl, hb⟩; rw [HI.out]; have D5 := Aside0.mk (D4.out.below hb); have HC5 := Aside0.mk (HC4.out.below hb); have HU5 := Aside0.mk (HU4.out.then hb); have HB5 := Aside0.mk (below_step HB.out hb); clear hb; have c0 : w5.cell? ⟨w.heap.size, 0, none⟩ = some (.pointer (some ⟨kb, 0, none⟩)) := (blk_cell D5.out.b0 0).trans rfl; have d1 : w5.cell? ⟨w.heap.size + 1, 0, none⟩ = some (.int .i64 B) := (blk_cell D5.out.b1 0).trans rfl; have d2 : w5.cell? ⟨w.heap.size + 1 + 1, 0, none⟩ = some (.int .i64 0) := (blk_cell D5.out.b2 0).trans rfl; have d3 : w5.cell? ⟨w.heap.size + 1 + 1 + 1, 0, none⟩ = some (.int .i64 0) := (blk_cell D5.out.b3 0).trans rfl; have f2 : w5.frozen? ⟨w.heap.size + 1 + 1, 0, none⟩ = false := blk_frozen D5.out.b2 0; have f3 : w5.frozen? ⟨w.heap.size + 1 + 1 + 1, 0, none⟩ = false := blk_frozen D5.out.b3 0))
  have HB9 : Below w.heap.size w ((w5.setCell ⟨w.heap.size + 1 + 1, 0, none⟩ (.int .i64 (0))).setCell ⟨w.heap.size + 1 + 1 + 1, 0, none⟩ (.int .i64 2)) := below_set (below_set HB5.out (by omega)) (by omega)
  have D9 := (D5.out.set2 0).set3 2
  have e2 := (blk_cell D9.b2 0).trans (rfl : _ = some (Value.int .i64 0))
  have e3 := (blk_cell D9.b3 0).trans (rfl : _ = some (Value.int .i64 2))
  refine bodyPost_ret (v := .tuple #[.int .i64 0, .int .i64 2]) (by simp [results, Try.results14, go_sem, e2, e3]) rfl ⟨rfl, HH.out.below HB9, Upd.of_below HB9⟩

set_option maxHeartbeats 1600000 in
set_option maxRecDepth 100000 in
theorem due_arg2 (a B : Int) (w : World) (h : ClkAt w n kb ab pb cb off week closed) (hn : n ≤ w.heap.size) (hx : 0 ≤ a ∧ a ≤ 1125899906842624) (hB : B < 0) :
    Calls Try.prog 14 #[.pointer (some ⟨kb, 0, none⟩), .int .i64 a, .int .i64 B] w fun e w' => e = .returned (.tuple #[.int .i64 0, .int .i64 2]) ∧ ClkAt w' n kb ab pb cb off week closed ∧ Upd cb w w' := by
  have D4 := Aside0.mk (DueB.new w (.pointer (some ⟨kb, 0, none⟩)) B)
  have HB : Aside0 (Below w.heap.size w ((((w.alloc (.cells #[.pointer (some ⟨kb, 0, none⟩)] 28)).alloc (.cells #[.int .i64 B] 2)).alloc (.cells #[.int .i64 0] 2)).alloc (.cells #[.int .i64 0] 29))) := ⟨below_alloc (below_alloc (below_alloc (below_alloc (Below.refl w.heap.size w) _) _) _) _⟩
  have HC4 := Aside0.mk (h.below HB.out)
  have HU4 := Aside0.mk (Upd.of_below (b := cb) HB.out)
  have hcb := h.lt
  have HH := Aside0.mk h
  have hnot : ∀ (x : Bool) (w : World), (Op.unary .not (.bool x)).run Try.prog w = .ok (.bool (!x)) w := fun _ _ => rfl
  have HI : Aside0 (instB a = true) := ⟨decide_eq_true hx⟩
  clear hx
  clear h
  go_enter Try.func14, Try.ntmps14
  go_wp2_with fail
  generalize ((((w.alloc (.cells #[.pointer (some ⟨kb, 0, none⟩)] 28)).alloc (.cells #[.int .i64 B] 2)).alloc (.cells #[.int .i64 0] 2)).alloc (.cells #[.int .i64 0] 29)) = w4 at D4 HC4 HU4 HB ⊢
  have c0 : w4.cell? ⟨w.heap.size, 0, none⟩ = some (.pointer (some ⟨kb, 0, none⟩)) := (blk_cell D4.out.b0 0).trans rfl
  have d1 : w4.cell? ⟨w.heap.size + 1, 0, none⟩ = some (.int .i64 B) := (blk_cell D4.out.b1 0).trans rfl
  have d2 : w4.cell? ⟨w.heap.size + 1 + 1, 0, none⟩ = some (.int .i64 0) := (blk_cell D4.out.b2 0).trans rfl
  have d3 : w4.cell? ⟨w.heap.size + 1 + 1 + 1, 0, none⟩ = some (.int .i64 0) := (blk_cell D4.out.b3 0).trans rfl
  have f2 : w4.frozen? ⟨w.heap.size + 1 + 1, 0, none⟩ = false := blk_frozen D4.out.b2 0
  have f3 : w4.frozen? ⟨w.heap.size + 1 + 1 + 1, 0, none⟩ = false := blk_frozen D4.out.b3 0
  go_wp2_with (first | (go_at_call 30; refine (clknone_any _ HC4.out).mono ?_; rintro e w5 ⟨rfl, rfl⟩) | (go_at_call 31; refine (instant_any a _).mono ?_; rintro e w5 ⟨rfl, hb⟩; rw [HI.out]; have D5 := Aside0.mk (D4.out.below hb); have HC5 := Aside0.mk (HC4.out.below hb); have HU5 := Aside0.mk (HU4.out.then hb); have HB5 := Aside0.mk (below_step HB.out hb); clear hb; have c0 : w5.cell? ⟨w.heap.size, 0, none⟩ = some (.pointer (some ⟨kb, 0, none⟩)) := (blk_cell D5.out.b0 0).trans rfl; have d1 : w5.cell? ⟨w.heap.size + 1, 0, none⟩ = some (.int .i64 B) := (blk_cell D5.out.b1 0).trans rfl; have d2 : w5.cell? ⟨w.heap.size + 1 + 1, 0, none⟩ = some (.int .i64 0) := (blk_cell D5.out.b2 0).trans rfl; have d3 : w5.cell? ⟨w.heap.size + 1 + 1 + 1, 0, none⟩ = some (.int .i64 0) := (blk_cell D5.out.b3 0).trans rfl; have f2 : w5.frozen? ⟨w.heap.size + 1 + 1, 0, none⟩ = false := blk_frozen D5.out.b2 0; have f3 : w5.frozen? ⟨w.heap.size + 1 + 1 + 1, 0, none⟩ = false := blk_frozen D5.out.b3 0))
  have HB9 : Below w.heap.size w ((w5.setCell ⟨w.heap.size + 1 + 1, 0, none⟩ (.int .i64 (0))).setCell ⟨w.heap.size + 1 + 1 + 1, 0, none⟩ (.int .i64 2)) := below_set (below_set HB5.out (by omega)) (by omega)
  have D9 := (D5.out.set2 0).set3 2
  have e2 := (blk_cell D9.b2 0).trans (rfl : _ = some (Value.int .i64 0))
  have e3 := (blk_cell D9.b3 0).trans (rfl : _ = some (Value.int .i64 2))
  refine bodyPost_ret (v := .tuple #[.int .i64 0, .int .i64 2]) (by simp [results, Try.results14, go_sem, e2, e3]) rfl ⟨rfl, HH.out.below HB9, Upd.of_below HB9⟩

set_option maxHeartbeats 1600000 in
set_option maxRecDepth 100000 in
theorem due_zero (a B : Int) (w : World) (h : ClkAt w n kb ab pb cb off week closed) (hn : n ≤ w.heap.size) (hx : 0 ≤ a ∧ a ≤ 1125899906842624) (hB : B = 0) :
    Calls Try.prog 14 #[.pointer (some ⟨kb, 0, none⟩), .int .i64 a, .int .i64 B] w fun e w' => e = .returned (.tuple #[.int .i64 a, .int .i64 0]) ∧ ClkAt w' n kb ab pb cb off week closed ∧ Upd cb w w' := by
  have D4 := Aside0.mk (DueB.new w (.pointer (some ⟨kb, 0, none⟩)) 0)
  have HB : Aside0 (Below w.heap.size w ((((w.alloc (.cells #[.pointer (some ⟨kb, 0, none⟩)] 28)).alloc (.cells #[.int .i64 0] 2)).alloc (.cells #[.int .i64 0] 2)).alloc (.cells #[.int .i64 0] 29))) := ⟨below_alloc (below_alloc (below_alloc (below_alloc (Below.refl w.heap.size w) _) _) _) _⟩
  have HC4 := Aside0.mk (h.below HB.out)
  have HU4 := Aside0.mk (Upd.of_below (b := cb) HB.out)
  have hcb := h.lt
  have HH := Aside0.mk h
  have hnot : ∀ (x : Bool) (w : World), (Op.unary .not (.bool x)).run Try.prog w = .ok (.bool (!x)) w := fun _ _ => rfl
  have HI : Aside0 (instB a = true) := ⟨decide_eq_true hx⟩
  clear hx
  subst hB
  clear h
  go_enter Try.func14, Try.ntmps14
  go_wp2_with fail
  generalize ((((w.alloc (.cells #[.pointer (some ⟨kb, 0, none⟩)] 28)).alloc (.cells #[.int .i64 0] 2)).alloc (.cells #[.int .i64 0] 2)).alloc (.cells #[.int .i64 0] 29)) = w4 at D4 HC4 HU4 HB ⊢
  have c0 : w4.cell? ⟨w.heap.size, 0, none⟩ = some (.pointer (some ⟨kb, 0, none⟩)) := (blk_cell D4.out.b0 0).trans rfl
  have d1 : w4.cell? ⟨w.heap.size + 1, 0, none⟩ = some (.int .i64 0) := (blk_cell D4.out.b1 0).trans rfl
  have d2 : w4.cell? ⟨w.heap.size + 1 + 1, 0, none⟩ = some (.int .i64 0) := (blk_cell D4.out.b2 0).trans rfl
  have d3 : w4.cell? ⟨w.heap.size + 1 + 1 + 1, 0, none⟩ = some (.int .i64 0) := (blk_cell D4.out.b3 0).trans rfl
  have f2 : w4.frozen? ⟨w.heap.size + 1 + 1, 0, none⟩ = false := blk_frozen D4.out.b2 0
  have f3 : w4.frozen? ⟨w.heap.size + 1 + 1 + 1, 0, none⟩ = false := blk_frozen D4.out.b3 0
  go_wp2_with (first | (go_at_call 30; refine (clknone_any _ HC4.out).mono ?_; rintro e w5 ⟨rfl, rfl⟩) | (go_at_call 31; refine (instant_any a _).mono ?_; rintro e w5 ⟨rfl, hb⟩; rw [HI.out]; have D5 := Aside0.mk (D4.out.below hb); have HC5 := Aside0.mk (HC4.out.below hb); have HU5 := Aside0.mk (HU4.out.then hb); have HB5 := Aside0.mk (below_step HB.out hb); clear hb; have c0 : w5.cell? ⟨w.heap.size, 0, none⟩ = some (.pointer (some ⟨kb, 0, none⟩)) := (blk_cell D5.out.b0 0).trans rfl; have d1 : w5.cell? ⟨w.heap.size + 1, 0, none⟩ = some (.int .i64 0) := (blk_cell D5.out.b1 0).trans rfl; have d2 : w5.cell? ⟨w.heap.size + 1 + 1, 0, none⟩ = some (.int .i64 0) := (blk_cell D5.out.b2 0).trans rfl; have d3 : w5.cell? ⟨w.heap.size + 1 + 1 + 1, 0, none⟩ = some (.int .i64 0) := (blk_cell D5.out.b3 0).trans rfl; have f2 : w5.frozen? ⟨w.heap.size + 1 + 1, 0, none⟩ = false := blk_frozen D5.out.b2 0; have f3 : w5.frozen? ⟨w.heap.size + 1 + 1 + 1, 0, none⟩ = false := blk_frozen D5.out.b3 0))
  have HB9 : Below w.heap.size w ((w5.setCell ⟨w.heap.size + 1 + 1, 0, none⟩ (.int .i64 (a))).setCell ⟨w.heap.size + 1 + 1 + 1, 0, none⟩ (.int .i64 0)) := below_set (below_set HB5.out (by omega)) (by omega)
  have D9 := (D5.out.set2 a).set3 0
  have e2 := (blk_cell D9.b2 0).trans (rfl : _ = some (Value.int .i64 a))
  have e3 := (blk_cell D9.b3 0).trans (rfl : _ = some (Value.int .i64 0))
  refine bodyPost_ret (v := .tuple #[.int .i64 a, .int .i64 0]) (by simp [results, Try.results14, go_sem, e2, e3]) rfl ⟨rfl, HH.out.below HB9, Upd.of_below HB9⟩

set_option maxHeartbeats 1600000 in
set_option maxRecDepth 100000 in
theorem due_closed (a B : Int) (w : World) (h : ClkAt w n kb ab pb cb off week closed) (hn : n ≤ w.heap.size) (hx : 0 ≤ a ∧ a ≤ 1125899906842624) (hB : 0 < B) (hs : secs week = 0) :
    Calls Try.prog 14 #[.pointer (some ⟨kb, 0, none⟩), .int .i64 a, .int .i64 B] w fun e w' => e = .returned (.tuple #[.int .i64 0, .int .i64 40]) ∧ ClkAt w' n kb ab pb cb off week closed ∧ Upd cb w w' := by
  have D4 := Aside0.mk (DueB.new w (.pointer (some ⟨kb, 0, none⟩)) B)
  have HB : Aside0 (Below w.heap.size w ((((w.alloc (.cells #[.pointer (some ⟨kb, 0, none⟩)] 28)).alloc (.cells #[.int .i64 B] 2)).alloc (.cells #[.int .i64 0] 2)).alloc (.cells #[.int .i64 0] 29))) := ⟨below_alloc (below_alloc (below_alloc (below_alloc (Below.refl w.heap.size w) _) _) _) _⟩
  have HC4 := Aside0.mk (h.below HB.out)
  have HU4 := Aside0.mk (Upd.of_below (b := cb) HB.out)
  have hcb := h.lt
  have HH := Aside0.mk h
  have hnot : ∀ (x : Bool) (w : World), (Op.unary .not (.bool x)).run Try.prog w = .ok (.bool (!x)) w := fun _ _ => rfl
  have HI : Aside0 (instB a = true) := ⟨decide_eq_true hx⟩
  have HS := Aside0.mk hs
  have hB0 : (B == 0) = false := beq_eq_false_iff_ne.mpr (by omega)
  clear hx hs
  clear h
  go_enter Try.func14, Try.ntmps14
  go_wp2_with fail
  generalize ((((w.alloc (.cells #[.pointer (some ⟨kb, 0, none⟩)] 28)).alloc (.cells #[.int .i64 B] 2)).alloc (.cells #[.int .i64 0] 2)).alloc (.cells #[.int .i64 0] 29)) = w4 at D4 HC4 HU4 HB ⊢
  have c0 : w4.cell? ⟨w.heap.size, 0, none⟩ = some (.pointer (some ⟨kb, 0, none⟩)) := (blk_cell D4.out.b0 0).trans rfl
  have d1 : w4.cell? ⟨w.heap.size + 1, 0, none⟩ = some (.int .i64 B) := (blk_cell D4.out.b1 0).trans rfl
  have d2 : w4.cell? ⟨w.heap.size + 1 + 1, 0, none⟩ = some (.int .i64 0) := (blk_cell D4.out.b2 0).trans rfl
  have d3 : w4.cell? ⟨w.heap.size + 1 + 1 + 1, 0, none⟩ = some (.int .i64 0) := (blk_cell D4.out.b3 0).trans rfl
  have f2 : w4.frozen? ⟨w.heap.size + 1 + 1, 0, none⟩ = false := blk_frozen D4.out.b2 0
  have f3 : w4.frozen? ⟨w.heap.size + 1 + 1 + 1, 0, none⟩ = false := blk_frozen D4.out.b3 0
  go_wp2_with (first | (go_at_call 30; refine (clknone_any _ HC4.out).mono ?_; rintro e w5 ⟨rfl, rfl⟩) | (go_at_call 31; refine (instant_any a _).mono ?_; rintro e w5 ⟨rfl, hb⟩; rw [HI.out]; have D5 := Aside0.mk (D4.out.below hb); have HC5 := Aside0.mk (HC4.out.below hb); have HU5 := Aside0.mk (HU4.out.then hb); have HB5 := Aside0.mk (below_step HB.out hb); clear hb; have c0 : w5.cell? ⟨w.heap.size, 0, none⟩ = some (.pointer (some ⟨kb, 0, none⟩)) := (blk_cell D5.out.b0 0).trans rfl; have d1 : w5.cell? ⟨w.heap.size + 1, 0, none⟩ = some (.int .i64 B) := (blk_cell D5.out.b1 0).trans rfl; have d2 : w5.cell? ⟨w.heap.size + 1 + 1, 0, none⟩ = some (.int .i64 0) := (blk_cell D5.out.b2 0).trans rfl; have d3 : w5.cell? ⟨w.heap.size + 1 + 1 + 1, 0, none⟩ = some (.int .i64 0) := (blk_cell D5.out.b3 0).trans rfl; have f2 : w5.frozen? ⟨w.heap.size + 1 + 1, 0, none⟩ = false := blk_frozen D5.out.b2 0; have f3 : w5.frozen? ⟨w.heap.size + 1 + 1 + 1, 0, none⟩ = false := blk_frozen D5.out.b3 0; have k1 : w5.cell? ⟨kb, 1, none⟩ = some (.pointer (some ⟨pb, 0, none⟩)) := (blk_cell HC5.out.blk 1).trans rfl) | (go_at_call 32; refine (total_any n pb cb week _ HC5.out.plan (Nat.le_trans hn HU5.out.size)).mono ?_; rintro e w6 ⟨rfl, hp, hu⟩; rw [HS.out]; have D6 := Aside0.mk (D5.out.upd hu hcb); have HC6 := Aside0.mk (HC5.out.upd hu hp); have HU6 := Aside0.mk (HU5.out.trans hu); clear hp hu; have e0 : w6.cell? ⟨w.heap.size, 0, none⟩ = some (.pointer (some ⟨kb, 0, none⟩)) := (blk_cell D6.out.b0 0).trans rfl; have d1 : w6.cell? ⟨w.heap.size + 1, 0, none⟩ = some (.int .i64 B) := (blk_cell D6.out.b1 0).trans rfl; have d2 : w6.cell? ⟨w.heap.size + 1 + 1, 0, none⟩ = some (.int .i64 0) := (blk_cell D6.out.b2 0).trans rfl; have d3 : w6.cell? ⟨w.heap.size + 1 + 1 + 1, 0, none⟩ = some (.int .i64 0) := (blk_cell D6.out.b3 0).trans rfl; have f2 : w6.frozen? ⟨w.heap.size + 1 + 1, 0, none⟩ = false := blk_frozen D6.out.b2 0; have f3 : w6.frozen? ⟨w.heap.size + 1 + 1 + 1, 0, none⟩ = false := blk_frozen D6.out.b3 0))
  have L := due_left D6.out (x := 0) (y := 40) hcb HC6.out HU6.out (.inr rfl)
  have D9 := (D6.out.set2 0).set3 40
  have e2 := (blk_cell D9.b2 0).trans (rfl : _ = some (Value.int .i64 0))
  have e3 := (blk_cell D9.b3 0).trans (rfl : _ = some (Value.int .i64 40))
  refine bodyPost_ret (v := .tuple #[.int .i64 0, .int .i64 40]) (by simp [results, Try.results14, go_sem, e2, e3]) rfl ⟨rfl, L⟩

end Go.Proofs.Ytknlpeabmpllmaa.Own

set_option linter.unusedVariables false
set_option linter.unusedSimpArgs false
namespace Go.Proofs.Ytknlpeabmpllmaa.Own
open Go.RowKit Go.Shelf Go.Proofs Go.Proofs.YtknlpeabmpllmaaW.PrintWords Go.Proofs.YtknlpeabmpllmaaW.PrintLast Go.Proofs.YtknlpeabmpllmaaW.PrintMore Go.Proofs.Ytknlpeabmpllmaa.Base
attribute [local go_sem] Oper.semAt_some max2_mx min2_mn max_two min_two
variable {w w' : World} {n kb ab pb cb : Nat} {off : Int} {week closed : List S57}

theorem R_cells {α : Type} {d : Kd α} {e : Nat} {base : Nat} {ok : Nat → Prop} {v : Value} {xs : List α} (h : d.R e w base ok v xs) (hm : ∀ (k : Nat) (o : Obj), w.heap[k]? = some o → o.isCells = true → w'.heap[k]? = some o) : d.R e w' base ok v xs :=
  Kd.R_mono (Kd.R_move (Kd.R_bound h) (fun k hk => by
    obtain ⟨_, _, _, q, hq, cells', hc⟩ := hk
    rw [hc]
    exact hm k _ hc rfl)) (fun _ hk => hk.1)
/-- A clock is made of cells. -/
theorem ClkAt.cells (h : ClkAt w n kb ab pb cb off week closed) (hm : ∀ (k : Nat) (o : Obj), w.heap[k]? = some o → o.isCells = true → w'.heap[k]? = some o) : ClkAt w' n kb ab pb cb off week closed := by
  obtain ⟨A, c, hpb, hc, hr⟩ := h.plan.blk
  obtain ⟨A2, c2, hab, hc2, hr2⟩ := h.alm.blk
  refine ⟨h.lo, h.hi, h.nkb, h.ne, hm _ _ h.blk rfl, ⟨h.alm.ok, h.alm.nab, h.alm.ne, A2, c2, hm _ _ hab rfl, hc2, R_cells hr2 hm⟩, h.plan.ok, h.plan.npb, h.plan.ncb, h.plan.ne, ⟨A, c, hm _ _ hpb rfl, hc, R_cells hr hm⟩, ?_⟩
  obtain ⟨m, k, ⟨lv, hc⟩ | ⟨v, hc, hr⟩⟩ := h.plan.cell
  · exact ⟨m, k, .inl ⟨lv, hm _ _ hc rfl⟩⟩
  · exact ⟨m, k, .inr ⟨v, hm _ _ hc rfl, R_cells hr hm⟩⟩
theorem DueB.cells {m : Nat} {kv : Value} {B r2 r3 : Int} (h : DueB m w kv B r2 r3) (hm : ∀ (k : Nat) (o : Obj), w.heap[k]? = some o → o.isCells = true → w'.heap[k]? = some o) : DueB m w' kv B r2 r3 :=
  ⟨hm _ _ h.b0 rfl, hm _ _ h.b1 rfl, hm _ _ h.b2 rfl, hm _ _ h.b3 rfl⟩
theorem cells_kept {row : Option Nat} (hg : w.grownBy w' row) {B : Nat} (hr : ∀ r, row = some r → B ≤ r ∧ ∃ o : Obj, w.heap[r]? = some o ∧ o.isCells = false) : ∀ (k : Nat) (o : Obj), w.heap[k]? = some o → o.isCells = true → w'.heap[k]? = some o := fun k o h hc =>
  (hg.block k (blk_lt h) (fun e => by obtain ⟨_, o', h', hc'⟩ := hr k e.symm; rw [h'] at h; injection h with h; subst h; rw [hc] at hc'; cases hc')).trans h
theorem Upd.kept {W W' : World} {row : Option Nat} (hu : Upd cb w W) (hg : W.grownBy W' row) {B : Nat} (hB : w.heap.size ≤ B) (hr : ∀ r, row = some r → B ≤ r ∧ ∃ o : Obj, W.heap[r]? = some o ∧ o.isCells = false) : Upd cb w W' :=
  ⟨hg.os.trans hu.os, hg.tape.trans hu.tape, hg.output.trans hu.output, Nat.le_trans hu.size hg.size, fun k hk hne => (hg.block k (Nat.lt_of_lt_of_le hk hu.size) (fun e => by have := (hr k e.symm).1; omega)).trans (hu.block k hk hne)⟩

theorem nodefer_of {ops : Array Oper} (h : (ops.toList.all fun o => match o.op with | .defer _ => false | _ => true) = true) : ∀ (i : Nat) (o : Oper), ops[i]? = some o → ∀ c, o.op ≠ .defer c := by
  intro i o hi c e
  have h1 := List.all_eq_true.1 h o (by
    obtain ⟨hlt, rfl⟩ := Array.getElem?_eq_some_iff.1 hi
    exact Array.getElem_mem_toList hlt)
  rw [e] at h1
  cases h1
theorem Upd.box {W : World} (hu : Upd cb w W) {b : Nat} (hb : w.heap.size ≤ b) (v : Value) : Upd cb w (W.setCell ⟨b, 0, none⟩ v) :=
  ⟨hu.os, hu.tape, hu.output, by simpa using hu.size, fun k hk hne => (Below.heap_setCell _ _ _ _ (by show k ≠ b; omega)).trans (hu.block k hk hne)⟩
theorem KeepM.box1 {m fb b : Nat} {W W' : World} (hu : Upd cb W W') (hm : m ≤ W.heap.size) (hc : cb < m) (h1 : m ≤ b) (h2 : b < fb) (v : Value) : KeepM m cb fb W (W'.setCell ⟨b, 0, none⟩ v) :=
  ⟨by simpa using hu.size, fun k hk hne => (Below.heap_setCell _ _ _ _ (by show k ≠ b; omega)).trans (hu.block k (by omega) (fun e => hne (by injection e))),
    fun k o hk h3 _ => (Below.heap_setCell _ _ _ _ (by show k ≠ b; omega)).trans (hu.blk h3 (by omega))⟩
theorem KeepsFrom.box1 {B b : Nat} {W W' : World} (hu : KeepsFrom B W W') (h2 : b < B) (v : Value) : KeepsFrom B W (W'.setCell ⟨b, 0, none⟩ v) :=
  hu.trans (KeepsFrom.of_grownBy (grownBy_setCell' W' b v) (fun j e => by injection e with e; omega))
theorem ClkAt.ne_span {b : Nat} {cs : Array Value} (h : ClkAt w n kb ab pb cb off week closed) (hb : w.heap[b]? = some (.cells cs 57 (0, 0))) : b ≠ cb := by
  rintro rfl
  obtain ⟨m, k, ⟨lv, hc⟩ | ⟨v, hc, hr⟩⟩ := h.plan.cell
  · rw [hc] at hb; injection hb with hb; injection hb with _ hb; cases hb
  · rw [hc] at hb; injection hb with hb; injection hb with _ hb; cases hb
theorem due_end {W : World} {L m : Nat} {kv : Value} {B r2 r3 : Int} (o' : Obj) (hL : w.heap.size ≤ L) (hK : W.heap[L]? = some (.deferred (some []))) (D : DueB m W kv B r2 r3) (C : ClkAt W n kb ab pb cb off week closed) (U : Upd cb w W) :
    DueB m (W.putObj L o') kv B r2 r3 ∧ ClkAt (W.putObj L o') n kb ab pb cb off week closed ∧ Upd cb w (W.putObj L o') := by
  have hg := grownBy_putObj' W L o'
  have hr : ∀ r, some L = some r → L ≤ r ∧ ∃ o : Obj, W.heap[r]? = some o ∧ o.isCells = false := fun r e => by cases e; exact ⟨Nat.le_refl _, _, hK, rfl⟩
  have hk := cells_kept hg hr
  exact ⟨D.cells hk, C.cells hk, U.kept hg hL hr⟩
/-- What a round of Due's loop finds. -/
def DueI (w : World) (n kb ab pb cb : Nat) (off : Int) (week closed : List S57) (B : Int) (pre : List GS) (W : World) : Prop :=
  ∃ Bc, (1 ≤ Bc ∧ Bc ≤ B ∧ ∀ r, dueL off week B (pre.map (·.1) ++ r) = dueL off week Bc r) ∧ DueB w.heap.size W (.pointer (some ⟨kb, 0, none⟩)) Bc 0 0 ∧ ClkAt W n kb ab pb cb off week closed ∧ Upd cb w W
/-- What a round of Due's loop that returns leaves. -/
def DueX (w : World) (n kb ab pb cb : Nat) (off : Int) (week closed : List S57) (B : Int) (c : Code) (pre : List GS) (W : World) : Prop :=
  c = .ret ∧ ∃ d Bc, (∀ r, dueL off week B (pre.map (·.1) ++ r) = some d) ∧ DueB w.heap.size W (.pointer (some ⟨kb, 0, none⟩)) Bc d 0 ∧ ClkAt W n kb ab pb cb off week closed ∧ Upd cb w W
theorem DueI.own {B : Int} {m : Nat} (hm : w.heap.size ≤ m) : OwnFrom m (DueI w n kb ab pb cb off week closed B) := fun s W W' row hs hg hr => by
  obtain ⟨Bc, h1, h2, h3, h4⟩ := hs
  have hk := cells_kept hg hr
  exact ⟨Bc, h1, h2.cells hk, h3.cells hk, h4.kept hg hm hr⟩
theorem DueX.own {B : Int} {m : Nat} (hm : w.heap.size ≤ m) (c : Code) : OwnFrom m (DueX w n kb ab pb cb off week closed B c) := fun s W W' row hs hg hr => by
  obtain ⟨h0, d, Bc, h1, h2, h3, h4⟩ := hs
  have hk := cells_kept hg hr
  exact ⟨h0, d, Bc, h1, h2.cells hk, h3.cells hk, h4.kept hg hm hr⟩

/-- What Due tells. -/
def dueR : Option Int → Int × Int
  | none => (0, 10)
  | some d => (d, 0)
def due_T14 : Bool × List (List Nat × List Nat) := (true, [([], []), ([0], [0]), ([1], [1]), ([2], [2]), ([], []), ([4], [4]), ([5], [5]), ([6], [6]), ([], []), ([8], [8]), ([], []), ([10], [10]), ([11], [11]), ([12], [12]), ([9, 13], [9, 13]), ([7, 14], [7, 14]), ([], []), ([15, 16], [15, 16]), ([17], [17]), ([3, 18, 15], [3, 18]), ([19], [19]), ([20], [20]), ([20], [20]), ([21, 19, 0, 1, 2, 3, 4, 5, 6, 7, 8, 9, 10, 11, 12, 13, 14, 15, 16, 17, 18, 19, 20, 21], [21]), ([22, 23, 0, 1, 2, 3, 4, 5, 6, 7, 8, 9, 10, 11, 12, 13, 14, 15, 16, 17, 18, 19, 20, 21, 22, 23], [22])])
def due_B14 : List Nat := [0, 1, 3, 7, 0, 16, 48, 112, 0, 256, 0, 1024, 3072, 7168, 16128, 32752, 0, 131056, 262128, 524287, 1048575, 2097151, 2097151, 4194303, 16777215]
theorem due_tab14 : rtab .any (opsOf Try.f14 14) = due_T14 := by kernel_rfl
theorem due_bits14 : waitsOk due_T14.2 due_B14 = true := by kernel_rfl

set_option maxHeartbeats 8000000 in
set_option maxRecDepth 100000 in
theorem due_main (a B : Int) (w : World) (h : ClkAt w n kb ab pb cb off week closed) (hn : n ≤ w.heap.size) (hx : 0 ≤ a ∧ a ≤ 1125899906842624) (hB : 0 < B) (hB2 : B ≤ 9223372036854775807) (hs : 0 < secs week) :
    Calls Try.prog 14 #[.pointer (some ⟨kb, 0, none⟩), .int .i64 a, .int .i64 B] w fun e w' => e = .returned (.tuple #[.int .i64 (dueR (dueL off week B (freeL closed a 1125899906842624))).1, .int .i64 (dueR (dueL off week B (freeL closed a 1125899906842624))).2]) ∧ ClkAt w' n kb ab pb cb off week closed ∧ Upd cb w w' := by
  refine (callsIn_wide (n := 10)).1 ?_
  have D4 := Aside0.mk (DueB.new w (.pointer (some ⟨kb, 0, none⟩)) B)
  have HB : Aside0 (Below w.heap.size w ((((w.alloc (.cells #[.pointer (some ⟨kb, 0, none⟩)] 28)).alloc (.cells #[.int .i64 B] 2)).alloc (.cells #[.int .i64 0] 2)).alloc (.cells #[.int .i64 0] 29))) := ⟨below_alloc (below_alloc (below_alloc (below_alloc (Below.refl w.heap.size w) _) _) _) _⟩
  have HC4 := Aside0.mk (h.below HB.out)
  have HU4 := Aside0.mk (Upd.of_below (b := cb) HB.out)
  have hcb := h.lt
  have HA0 := Aside0.mk (AlmM.of h.alm)
  have hnot : ∀ (x : Bool) (w : World), (Op.unary .not (.bool x)).run Try.prog w = .ok (.bool (!x)) w := fun _ _ => rfl
  have hfn : ∀ g, Fence.wide.fn g := fun _ => trivial
  have HI : Aside0 (instB a = true) := ⟨decide_eq_true hx⟩
  have hB0 : (B == 0) = false := beq_eq_false_iff_ne.mpr (by omega)
  have hS0 : (secs week == 0) = false := beq_eq_false_iff_ne.mpr (by omega)
  have HSZ : Aside0 (w.heap.size + 4 ≤ ((((w.alloc (.cells #[.pointer (some ⟨kb, 0, none⟩)] 28)).alloc (.cells #[.int .i64 B] 2)).alloc (.cells #[.int .i64 0] 2)).alloc (.cells #[.int .i64 0] 29)).heap.size) := ⟨by simp⟩
  clear HB h
  refine callsIn_of_wp_marks Try.func14 rfl trivial ?_ rfl
  simp only [Try.ntmps14, List.size_toArray, List.length_cons, List.length_nil, Nat.reduceAdd, Nat.reduceSub, Array.replicate_succ, Array.replicate_zero, List.push_toArray, List.append_toArray, List.nil_append, List.cons_append]
  gi_wp2_with fail
  generalize ((((w.alloc (.cells #[.pointer (some ⟨kb, 0, none⟩)] 28)).alloc (.cells #[.int .i64 B] 2)).alloc (.cells #[.int .i64 0] 2)).alloc (.cells #[.int .i64 0] 29)) = w4 at D4 HC4 HU4 HSZ ⊢
  have c0 : w4.cell? ⟨w.heap.size, 0, none⟩ = some (.pointer (some ⟨kb, 0, none⟩)) := (blk_cell D4.out.b0 0).trans rfl
  have d1 : w4.cell? ⟨w.heap.size + 1, 0, none⟩ = some (.int .i64 B) := (blk_cell D4.out.b1 0).trans rfl
  have k0 : w4.cell? ⟨kb, 0, none⟩ = some (.pointer (some ⟨ab, 0, none⟩)) := (blk_cell HC4.out.blk 0).trans rfl
  have k1 : w4.cell? ⟨kb, 1, none⟩ = some (.pointer (some ⟨pb, 0, none⟩)) := (blk_cell HC4.out.blk 1).trans rfl
  gi_wp2_with (first | (gi_at_call 30; refine (callsIn_wide.2 (clknone_any _ HC4.out)).mono ?_; rintro e w5 ⟨rfl, rfl⟩) | (gi_at_call 31; refine (callsIn_wide.2 (instant_any a _)).mono ?_; rintro e w5 ⟨rfl, hb⟩; rw [HI.out]; have D5 := Aside0.mk (D4.out.below hb); have HC5 := Aside0.mk (HC4.out.below hb); have HU5 := Aside0.mk (HU4.out.then hb); have HSZ5 : Aside0 (w.heap.size + 4 ≤ w5.heap.size) := ⟨Nat.le_trans HSZ.out hb.size⟩; clear hb D4 HC4 HU4 HSZ; have c0 : w5.cell? ⟨w.heap.size, 0, none⟩ = some (.pointer (some ⟨kb, 0, none⟩)) := (blk_cell D5.out.b0 0).trans rfl; have d1 : w5.cell? ⟨w.heap.size + 1, 0, none⟩ = some (.int .i64 B) := (blk_cell D5.out.b1 0).trans rfl; have k0 : w5.cell? ⟨kb, 0, none⟩ = some (.pointer (some ⟨ab, 0, none⟩)) := (blk_cell HC5.out.blk 0).trans rfl; have k1 : w5.cell? ⟨kb, 1, none⟩ = some (.pointer (some ⟨pb, 0, none⟩)) := (blk_cell HC5.out.blk 1).trans rfl) | (gi_at_call 32; refine (callsIn_wide.2 (total_any n pb cb week _ HC5.out.plan (Nat.le_trans hn HU5.out.size))).mono ?_; rintro e w6 ⟨rfl, hp, hu⟩; have D6 := Aside0.mk (D5.out.upd hu hcb); have HC6 := Aside0.mk (HC5.out.upd hu hp); have HU6 := Aside0.mk (HU5.out.trans hu); have HSZ6 : Aside0 (w.heap.size + 4 ≤ w6.heap.size) := ⟨Nat.le_trans HSZ5.out hu.size⟩; clear hp hu D5 HC5 HU5 HSZ5; have c0 : w6.cell? ⟨w.heap.size, 0, none⟩ = some (.pointer (some ⟨kb, 0, none⟩)) := (blk_cell D6.out.b0 0).trans rfl; have d1 : w6.cell? ⟨w.heap.size + 1, 0, none⟩ = some (.int .i64 B) := (blk_cell D6.out.b1 0).trans rfl; have k0 : w6.cell? ⟨kb, 0, none⟩ = some (.pointer (some ⟨ab, 0, none⟩)) := (blk_cell HC6.out.blk 0).trans rfl; have k1 : w6.cell? ⟨kb, 1, none⟩ = some (.pointer (some ⟨pb, 0, none⟩)) := (blk_cell HC6.out.blk 1).trans rfl) | (gi_at_call 33; refine (callsIn_wide.2 (free_any ab a _ _)).mono ?_; rintro e w7 ⟨rfl, rfl⟩))
  obtain ⟨w7, hw7⟩ : ∃ w7, w7 = ((w6.alloc (Obj.cells #[Value.pointer (some { block := ab, off := 0 })] 47)).alloc (Obj.cells #[Value.int IntKind.i64 a] 2)).alloc (Obj.cells #[Value.int IntKind.i64 1125899906842624] 2) := ⟨_, rfl⟩
  have hb7 : Below w6.heap.size w6 w7 := by rw [hw7]; exact below_alloc (below_alloc (below_alloc (Below.refl _ _) _) _) _
  have B0 : w7.heap[w6.heap.size]? = some (.cells #[.pointer (some ⟨ab, 0, none⟩)] 47 (0, 0)) := by rw [hw7]; exact blk_alloc (blk_alloc (blk_new w6 _) _) _
  have B1 : w7.heap[w6.heap.size + 1]? = some (.cells #[.int .i64 a] 2 (0, 0)) := by
    rw [hw7]; exact blk_alloc (by simpa using blk_new (w6.alloc (Obj.cells #[Value.pointer (some { block := ab, off := 0 })] 47)) (Obj.cells #[Value.int IntKind.i64 a] 2)) _
  have B2 : w7.heap[w6.heap.size + 1 + 1]? = some (.cells #[.int .i64 1125899906842624] 2 (0, 0)) := by
    rw [hw7]; simpa using blk_new ((w6.alloc (Obj.cells #[Value.pointer (some { block := ab, off := 0 })] 47)).alloc (Obj.cells #[Value.int IntKind.i64 a] 2)) (Obj.cells #[Value.int IntKind.i64 1125899906842624] 2)
  have S7 : w7.heap.size = w6.heap.size + 3 := by rw [hw7]; simp
  rw [← hw7]
  have HU7 := HU6.out.then hb7
  have HS6 := HSZ6.out
  have I0 : DueI w n kb ab pb cb off week closed B [] w7 := ⟨B, ⟨by omega, Int.le_refl _, fun r => by simp⟩, D6.out.below hb7, HC6.out.below hb7, HU7⟩
  have HAM : AlmM w7 w.heap.size ab cb closed := HA0.out.keep (fun k hk hne => HU7.block k hk (fun e => hne (by injection e)))
  have HROW := HA0.out.ok
  clear hw7 D6 HC6 HU6 HSZ6 HA0 c0 d1 k0 k1 hB0 hS0 HI
  refine wpIn_rangeFunc_ownH (a := { tmps := ?T, defers := [] }) rfl (by omega) (gf := 58) (lb := #[.pointer (some ⟨w6.heap.size + 1, 0, none⟩), .pointer (some ⟨w6.heap.size + 1 + 1, 0, none⟩), .pointer (some ⟨w6.heap.size, 0, none⟩)]) ?hg trivial (enters_of Try.func58 (by kernel_rfl) rfl)
    (free_stops w.heap.size ab cb w6.heap.size closed a 1125899906842624 w7 HAM (by omega) (by omega) hx.1 hx.2 (Int.le_refl _) B0 B1 B2 (10 - 1) (by omega)) (fun h k => h.trans k) ?hkb (Below.refl _ _) ?hps
    (DueI w n kb ab pb cb off week closed B) (DueX w n kb ab pb cb off week closed B) (DueI.own (by omega)) (DueX.own (by omega)) I0
    (fun x a' W => ∃ sb, a' = { tmps := (Array.setIfInBounds ?T 40 (Value.agg #[.int .i64 x.1.f0, .int .i64 x.1.f1])).setIfInBounds 8 (.pointer (some ⟨sb, 0, none⟩)), defers := [] } ∧ W.heap[sb]? = some (.cells #[.int .i64 x.1.f0, .int .i64 x.1.f1] 57 (0, 0)))
    ?hax ?assign ?body ?done ?stop
  case hkb =>
    intro W l o o' hl ho hnc _
    have hg := grownBy_putObj' W l o'
    have hlt := blk_lt ho
    refine ⟨hg.size, fun k hk _ => hg.block k (by omega) (fun e => by injection e with e; omega), fun k oo hk h2 hc => (hg.block k (blk_lt h2) (fun e => ?_)).trans h2⟩
    injection e with e
    subst e
    rw [ho] at h2
    injection h2 with h2
    subst h2
    rw [hnc] at hc
    cases hc
  case hps => intro x; rfl
  case hg => rfl
  case hax =>
    intro x a' s W W' row hs hg hr
    obtain ⟨sb, e, hb⟩ := hs
    exact ⟨sb, e, cells_kept hg hr _ _ hb rfl⟩
  case assign =>
    intro l pre x W K hI hK
    have hsz : w.heap.size ≤ W.heap.size := by obtain ⟨_, _, _, _, U⟩ := hI; exact U.size
    gi_wp2
    refine hK _ _ (KeepsFrom.of_grownBy (World.grownBy_alloc W _ none) (fun _ e => by cases e)) (KeepM.of_below (below_alloc (Below.refl _ _) _) hsz) (DueI.own (Nat.le_refl _) _ _ _ none hI (World.grownBy_alloc W _ none) (fun _ e => by cases e)) ⟨W.heap.size, ?_, blk_new _ _⟩
    simp only [List.setIfInBounds_toArray, List.set_cons_zero, List.set_cons_succ]
  case body =>
    intro l pre x a' W hl hlr hI hAx hlen
    obtain ⟨sb, rfl, hsb⟩ := hAx
    obtain ⟨Bc, ⟨b1, b2, b3⟩, D, C, U⟩ := hI
    clear HAM B0 B1 B2 hb7 I0 HU7
    simp only [List.setIfInBounds_toArray, List.set_cons_zero, List.set_cons_succ]
    obtain ⟨⟨x0, x1⟩, hq⟩ := x
    have hx0 : 0 ≤ x0 := hq.1
    have hx1 : x0 < x1 := hq.2.1
    have hx2 : x1 ≤ 1125899906842624 := hq.2.2
    simp only at hsb b3 ⊢
    have hfl : ∀ g, (Fence.wide.inRound l).fn g := fun _ => trivial
    have hnW : n ≤ W.heap.size := Nat.le_trans hn U.size
    have c0 : W.cell? ⟨w.heap.size, 0, none⟩ = some (.pointer (some ⟨kb, 0, none⟩)) := (blk_cell D.b0 0).trans rfl
    have s0 : W.cell? ⟨sb, 0, none⟩ = some (.int .i64 x0) := (blk_cell hsb 0).trans rfl
    have s1 : W.cell? ⟨sb, 1, none⟩ = some (.int .i64 x1) := (blk_cell hsb 1).trans rfl
    have HWK := Aside0.mk (weekly_any x0 x1 W C hnW hx0 (by omega) (by omega) hx2)
    have hwb := between_bound C.plan.ok (x0 + (604800 - off)) (x1 + (604800 - off))
    have HE : Aside0 (weeklyP off week x0 x1 = weeklyP off week x0 x1) := ⟨rfl⟩
    have HHIT := Aside0.mk (fun h => due_hit C.plan.ok C.lo C.hi hs (a := x0) (z := x1) (B := Bc) hx0 (by omega) hx2 b1 h)
    change 0 ≤ weeklyP off week x0 x1 ∧ weeklyP off week x0 x1 ≤ _ at hwb
    have hsne : sb ≠ cb := C.ne_span hsb
    have hneq : week ≠ [] := fun e => by rw [e] at hs; simp [secs] at hs
    have HD := Aside0.mk D
    have HU := Aside0.mk U
    have HB3 := Aside0.mk b3
    have HSB := Aside0.mk hsb
    clear C D U hsb b3
    by_cases hlt : weeklyP off week x0 x1 < Bc
    · have hle : Bc > weeklyP off week x0 x1 := hlt
      gi_wp2_with (gi_at_call 34; refine (CallsIn.inRound l (callsIn_wide.2 HWK.out)).mono ?_; rintro e w8 ⟨rfl, C8, U8⟩; have HC8 := Aside0.mk C8; have HU8 := Aside0.mk U8; have HD8 := Aside0.mk (HD.out.upd U8 hcb); have d1 : w8.cell? ⟨w.heap.size + 1, 0, none⟩ = some (.int .i64 Bc) := (blk_cell HD8.out.b1 0).trans rfl; have f1 : w8.frozen? ⟨w.heap.size + 1, 0, none⟩ = false := blk_frozen HD8.out.b1 0; clear C8 U8)
      refine ⟨KeepsFrom.box1 (KeepsFrom.of_grownBy HU8.out (fun j e => by injection e with e; omega)) (by omega) _, KeepM.box1 HU8.out HU.out.size hcb (by omega) (by omega) _, Bc - weeklyP off week x0 x1, ⟨by omega, by omega, fun r => ?_⟩, HD8.out.set1 _, HC8.out.far HD8.out.b1 (by decide) (by decide) (fun _ => hneq) (But.set _ _ _), (HU.out.trans HU8.out).box (by omega) _⟩
      have := HB3.out (⟨x0, x1⟩ :: r)
      simp only [List.map_append, List.map_cons, List.map_nil, List.append_assoc, List.cons_append, List.nil_append]
      rw [this]
      simp only [dueL]
      rw [if_pos hlt]
    · have hle : ¬ Bc > weeklyP off week x0 x1 := hlt
      gi_wp2_with (gi_at_call 34; refine (CallsIn.inRound l (callsIn_wide.2 HWK.out)).mono ?_; rintro e w8 ⟨rfl, C8, U8⟩; have HC8 := Aside0.mk C8; have HU8 := Aside0.mk U8; have HD8 := Aside0.mk (HD.out.upd U8 hcb); have d1 : w8.cell? ⟨w.heap.size + 1, 0, none⟩ = some (.int .i64 Bc) := (blk_cell HD8.out.b1 0).trans rfl; have f1 : w8.frozen? ⟨w.heap.size + 1, 0, none⟩ = false := blk_frozen HD8.out.b1 0; clear C8 U8)
      obtain ⟨⟨p0, p1⟩, p2, p3, p4, _, _⟩ := HHIT.out (by omega)
      have HDUE : Aside0 (∀ r, dueL off week B ((pre ++ [(⟨⟨x0, x1⟩, hq⟩ : GS)]).map (·.1) ++ r) = some (nthP week (untilP week (x0 + (604800 - off)) + Bc - 1) - (604800 - off) + 1)) := ⟨fun r => by
        have := HB3.out (⟨x0, x1⟩ :: r)
        simp only [List.map_append, List.map_cons, List.map_nil, List.append_assoc, List.cons_append, List.nil_append]
        rw [this]
        simp only [dueL]
        rw [if_neg (by omega)]⟩
      have q0 := HC8.out.lo
      have q1 := HC8.out.hi
      have hu0 := (until_bound HC8.out.plan.ok (x0 + (604800 - off))).1
      have hw1 : wrap64 (x0 + (604800 - off)) = x0 + (604800 - off) := wrap_id (by omega) (by omega)
      have HUN := Aside0.mk (fun w2 h1 h2 => until_any n pb cb week (wrap64 (x0 + (604800 - off))) w2 h1 h2)
      rw [show untilP week (wrap64 (x0 + (604800 - off))) = untilP week (x0 + (604800 - off)) by rw [hw1]] at HUN
      have HNT := Aside0.mk (fun w2 h1 h2 => nth_any n pb cb week (untilP week (x0 + (604800 - off)) + Bc - 1) w2 h1 h2 hs p0 p2 (by omega) (by omega))
      generalize nthP week (untilP week (x0 + (604800 - off)) + Bc - 1) = q at HDUE HNT p3 p4
      generalize untilP week (x0 + (604800 - off)) = U at HNT HUN p0 p1 hu0
      have hw2 : wrap64 (U + Bc) = U + Bc := wrap_id (by omega) (by omega)
      have hw3 : wrap64 (U + Bc - 1) = U + Bc - 1 := wrap_id (by omega) (by omega)
      rw [← hw3] at HNT
      have hw4 : wrap64 (q - (604800 - off)) = q - (604800 - off) := wrap_id (by omega) (by omega)
      have hw5 : wrap64 (q - (604800 - off) + 1) = q - (604800 - off) + 1 := wrap_id (by omega) (by omega)
      have hb9 : Below w8.heap.size w8 w8.drew := below_drew1 (Below.refl _ _)
      have HC9 := Aside0.mk (HC8.out.below hb9)
      have HU9 := Aside0.mk (HU8.out.then hb9)
      have HD9 := Aside0.mk (HD8.out.below hb9)
      have HS9 := Aside0.mk (blk_below (HU8.out.blk HSB.out hsne) hb9)
      have HN9 : Aside0 (n ≤ w8.drew.heap.size) := ⟨Nat.le_trans hnW HU9.out.size⟩
      have z0 : w8.drew.cell? ⟨w.heap.size, 0, none⟩ = some (.pointer (some ⟨kb, 0, none⟩)) := (blk_cell HD9.out.b0 0).trans rfl
      have z1 : w8.drew.cell? ⟨w.heap.size + 1, 0, none⟩ = some (.int .i64 Bc) := (blk_cell HD9.out.b1 0).trans rfl
      have z2 : w8.drew.cell? ⟨sb, 0, none⟩ = some (.int .i64 x0) := (blk_cell HS9.out 0).trans rfl
      have z3 : w8.drew.cell? ⟨kb, 1, none⟩ = some (.pointer (some ⟨pb, 0, none⟩)) := (blk_cell HC9.out.blk 1).trans rfl
      have z4 : w8.drew.cell? ⟨kb, 2, none⟩ = some (.int .i64 (604800 - off)) := (blk_cell HC9.out.blk 2).trans rfl
      clear hb9 HC8 HU8 HD8 HB3 s0 s1 c0 d1 f1 HHIT HWK
      have hnd := nodefer_of (ops := opsOf Try.f14 14) (by kernel_rfl)
      refine startIn_ (n := 25) (S := fun w' => w'.cell? ⟨w.heap.size, 0, none⟩ = some (.pointer (some ⟨kb, 0, none⟩)) ∧ w'.cell? ⟨w.heap.size + 1, 0, none⟩ = some (.int .i64 Bc) ∧ w'.cell? ⟨sb, 0, none⟩ = some (.int .i64 x0) ∧ w'.cell? ⟨kb, 1, none⟩ = some (.pointer (some ⟨pb, 0, none⟩)) ∧ w'.cell? ⟨kb, 2, none⟩ = some (.int .i64 (604800 - off))) (ds := []) hnd (fun ⟨_, _, h⟩ => h) #[false, false, false, false, false, false, false, false, false, false, false, false, false, false, false, false, false, false, false, false, false, false, false, false, false] (by kernel_rfl) rfl rfl ⟨z0, z1, z2, z3, z4⟩ (fun hHeld => ?_); refine with_tabW due_tab14 due_bits14 (fun HT_ HW_ => ?_)
      clear z0 z1 z2 z3 z4
      generalize w8.drew = w9 at HC9 HU9 HD9 HS9 HN9 hHeld ⊢
      refine pure_ (i := 8) (N := some 62) (v := ?_) (a' := ?_) #[false, false, false, false, false, false, false, false, true, false, false, false, false, false, false, false, false, false, false, false, false, false, false, false, false] rfl rfl (any_of HT_.out (by kernel_rfl)) (fun _ _ _ h => h) (Or.inl ⟨by rfl, ?_⟩) ?_ ?_
      rotate_left
      · intro w'
        go_simp
        with_reducible rfl
      rotate_left
      · simp only [Act.put, List.setIfInBounds_toArray, List.set_cons_zero, List.set_cons_succ, i64_w, i32_w]
        rfl
      refine take_ (i := 0) (N := some 54) (v := ?_) (a' := ?_) #[true, false, false, false, false, false, false, false, true, false, false, false, false, false, false, false, false, false, false, false, false, false, false, false, false] rfl rfl (take_ofW HT_.out HW_.out (by kernel_rfl)) (fun _ _ _ h => h) (Or.inl ⟨by rfl, ?_⟩) hHeld ?_ ?_
      rotate_left
      · rintro w' ⟨s0, s1, s2, s3, s4⟩
        go_simp
        with_reducible rfl
      rotate_left
      · simp only [Act.put, List.setIfInBounds_toArray, List.set_cons_zero, List.set_cons_succ, i64_w, i32_w]
        rfl
      refine pure_ (i := 1) (N := some 55) (v := ?_) (a' := ?_) #[true, true, false, false, false, false, false, false, true, false, false, false, false, false, false, false, false, false, false, false, false, false, false, false, false] rfl rfl (any_of HT_.out (by kernel_rfl)) (fun _ _ _ h => h) (Or.inl ⟨by rfl, ?_⟩) ?_ ?_
      rotate_left
      · intro w'
        go_simp
        with_reducible rfl
      rotate_left
      · simp only [Act.put, List.setIfInBounds_toArray, List.set_cons_zero, List.set_cons_succ, i64_w, i32_w]
        rfl
      refine pure_ (i := 2) (N := some 56) (v := ?_) (a' := ?_) #[true, true, true, false, false, false, false, false, true, false, false, false, false, false, false, false, false, false, false, false, false, false, false, false, false] rfl rfl (any_of HT_.out (by kernel_rfl)) (fun _ _ _ h => h) (Or.inl ⟨by rfl, ?_⟩) ?_ ?_
      rotate_left
      · intro w'
        go_simp
        with_reducible rfl
      rotate_left
      · simp only [Act.put, List.setIfInBounds_toArray, List.set_cons_zero, List.set_cons_succ, i64_w, i32_w]
        rfl
      refine take_ (i := 3) (N := some 57) (v := ?_) (a' := ?_) #[true, true, true, true, false, false, false, false, true, false, false, false, false, false, false, false, false, false, false, false, false, false, false, false, false] rfl rfl (take_ofW HT_.out HW_.out (by kernel_rfl)) (fun _ _ _ h => h) (Or.inl ⟨by rfl, ?_⟩) hHeld ?_ ?_
      rotate_left
      · rintro w' ⟨s0, s1, s2, s3, s4⟩
        go_simp
        with_reducible rfl
      rotate_left
      · simp only [Act.put, List.setIfInBounds_toArray, List.set_cons_zero, List.set_cons_succ, i64_w, i32_w]
        rfl
      refine take_ (i := 4) (N := some 58) (v := ?_) (a' := ?_) #[true, true, true, true, true, false, false, false, true, false, false, false, false, false, false, false, false, false, false, false, false, false, false, false, false] rfl rfl (take_ofW HT_.out HW_.out (by kernel_rfl)) (fun _ _ _ h => h) (Or.inl ⟨by rfl, ?_⟩) hHeld ?_ ?_
      rotate_left
      · rintro w' ⟨s0, s1, s2, s3, s4⟩
        go_simp
        with_reducible rfl
      rotate_left
      · simp only [Act.put, List.setIfInBounds_toArray, List.set_cons_zero, List.set_cons_succ, i64_w, i32_w]
        rfl
      refine pure_ (i := 5) (N := some 59) (v := ?_) (a' := ?_) #[true, true, true, true, true, true, false, false, true, false, false, false, false, false, false, false, false, false, false, false, false, false, false, false, false] rfl rfl (any_of HT_.out (by kernel_rfl)) (fun _ _ _ h => h) (Or.inl ⟨by rfl, ?_⟩) ?_ ?_
      rotate_left
      · intro w'
        go_simp
        with_reducible rfl
      rotate_left
      · simp only [Act.put, List.setIfInBounds_toArray, List.set_cons_zero, List.set_cons_succ, i64_w, i32_w]
        rfl
      refine pure_ (i := 6) (N := some 60) (v := ?_) (a' := ?_) #[true, true, true, true, true, true, true, false, true, false, false, false, false, false, false, false, false, false, false, false, false, false, false, false, false] rfl rfl (any_of HT_.out (by kernel_rfl)) (fun _ _ _ h => h) (Or.inl ⟨by rfl, ?_⟩) ?_ ?_
      rotate_left
      · intro w'
        go_simp
        with_reducible rfl
      rotate_left
      · simp only [Act.put, List.setIfInBounds_toArray, List.set_cons_zero, List.set_cons_succ, i64_w, i32_w]
        rfl
      refine take_ (i := 7) (N := some 61) (v := ?_) (a' := ?_) #[true, true, true, true, true, true, true, true, true, false, false, false, false, false, false, false, false, false, false, false, false, false, false, false, false] rfl rfl (take_ofW HT_.out HW_.out (by kernel_rfl)) (fun _ _ _ h => h) (Or.inl ⟨by rfl, ?_⟩) hHeld ?_ ?_
      rotate_left
      · rintro w' ⟨s0, s1, s2, s3, s4⟩
        go_simp
        with_reducible rfl
      rotate_left
      · simp only [Act.put, List.setIfInBounds_toArray, List.set_cons_zero, List.set_cons_succ, i64_w, i32_w]
        rfl
      refine take_ (i := 9) (N := some 63) (v := ?_) (a' := ?_) #[true, true, true, true, true, true, true, true, true, true, false, false, false, false, false, false, false, false, false, false, false, false, false, false, false] rfl rfl (take_ofW HT_.out HW_.out (by kernel_rfl)) (fun _ _ _ h => h) (Or.inl ⟨by rfl, ?_⟩) hHeld ?_ ?_
      rotate_left
      · rintro w' ⟨s0, s1, s2, s3, s4⟩
        go_simp
        with_reducible rfl
      rotate_left
      · simp only [Act.put, List.setIfInBounds_toArray, List.set_cons_zero, List.set_cons_succ, i64_w, i32_w]
        rfl
      refine take_ (i := 10) (N := some 64) (v := ?_) (a' := ?_) #[true, true, true, true, true, true, true, true, true, true, true, false, false, false, false, false, false, false, false, false, false, false, false, false, false] rfl rfl (take_ofW HT_.out HW_.out (by kernel_rfl)) (fun _ _ _ h => h) (Or.inl ⟨by rfl, ?_⟩) hHeld ?_ ?_
      rotate_left
      · rintro w' ⟨s0, s1, s2, s3, s4⟩
        go_simp
        with_reducible rfl
      rotate_left
      · simp only [Act.put, List.setIfInBounds_toArray, List.set_cons_zero, List.set_cons_succ, i64_w, i32_w]
        rfl
      refine pure_ (i := 11) (N := some 65) (v := ?_) (a' := ?_) #[true, true, true, true, true, true, true, true, true, true, true, true, false, false, false, false, false, false, false, false, false, false, false, false, false] rfl rfl (any_of HT_.out (by kernel_rfl)) (fun _ _ _ h => h) (Or.inl ⟨by rfl, ?_⟩) ?_ ?_
      rotate_left
      · intro w'
        go_simp
        with_reducible rfl
      rotate_left
      · simp only [Act.put, List.setIfInBounds_toArray, List.set_cons_zero, List.set_cons_succ, i64_w, i32_w]
        rfl
      refine pure_ (i := 12) (N := some 66) (v := ?_) (a' := ?_) #[true, true, true, true, true, true, true, true, true, true, true, true, true, false, false, false, false, false, false, false, false, false, false, false, false] rfl rfl (any_of HT_.out (by kernel_rfl)) (fun _ _ _ h => h) (Or.inl ⟨by rfl, ?_⟩) ?_ ?_
      rotate_left
      · intro w'
        go_simp
        with_reducible rfl
      rotate_left
      · simp only [Act.put, List.setIfInBounds_toArray, List.set_cons_zero, List.set_cons_succ, i64_w, i32_w]
        rfl
      refine take_ (i := 13) (N := some 67) (v := ?_) (a' := ?_) #[true, true, true, true, true, true, true, true, true, true, true, true, true, true, false, false, false, false, false, false, false, false, false, false, false] rfl rfl (take_ofW HT_.out HW_.out (by kernel_rfl)) (fun _ _ _ h => h) (Or.inl ⟨by rfl, ?_⟩) hHeld ?_ ?_
      rotate_left
      · rintro w' ⟨s0, s1, s2, s3, s4⟩
        go_simp
        with_reducible rfl
      rotate_left
      · simp only [Act.put, List.setIfInBounds_toArray, List.set_cons_zero, List.set_cons_succ, i64_w, i32_w]
        rfl
      refine pure_ (i := 14) (N := some 68) (v := ?_) (a' := ?_) #[true, true, true, true, true, true, true, true, true, true, true, true, true, true, true, false, false, false, false, false, false, false, false, false, false] rfl rfl (any_of HT_.out (by kernel_rfl)) (fun _ _ _ h => h) (Or.inl ⟨by rfl, ?_⟩) ?_ ?_
      rotate_left
      · intro w'
        go_simp
        with_reducible rfl
      rotate_left
      · simp only [Act.put, List.setIfInBounds_toArray, List.set_cons_zero, List.set_cons_succ, i64_w, i32_w]
        rfl
      refine take_ (i := 16) (N := some 70) (v := ?_) (a' := ?_) #[true, true, true, true, true, true, true, true, true, true, true, true, true, true, true, false, true, false, false, false, false, false, false, false, false] rfl rfl (take_ofW HT_.out HW_.out (by kernel_rfl)) (fun _ _ _ h => h) (Or.inl ⟨by rfl, ?_⟩) hHeld ?_ ?_
      rotate_left
      · rintro w' ⟨s0, s1, s2, s3, s4⟩
        go_simp
        with_reducible rfl
      rotate_left
      · simp only [Act.put, List.setIfInBounds_toArray, List.set_cons_zero, List.set_cons_succ, i64_w, i32_w]
        rfl
      refine one_ (i := 15) (N := some 69) #[true, true, true, true, true, true, true, true, true, true, true, true, true, true, true, true, true, false, false, false, false, false, false, false, false] rfl rfl (one_of HT_.out (by kernel_rfl)) (by decide) (fun K hK => ?_)
      refine goes_ Try.func36 (by kernel_rfl) rfl #[.pointer (some ⟨pb, 0, none⟩), .int .i64 (wrap64 (x0 + (604800 - off)))] (by rfl) rfl rfl (by (try simp only [List.map_toArray, List.map_cons, List.map_nil]); first | done | rfl) ?_
      refine (HUN.out _ HC9.out.plan HN9.out).mono ?_
      rintro e w10 ⟨rfl, pp, uu⟩
      refine ⟨_, rfl, ?_⟩
      have HC10 := Aside0.mk (HC9.out.upd uu pp)
      have HU10 := Aside0.mk (HU9.out.trans uu)
      have HD10 := Aside0.mk (HD9.out.upd uu hcb)
      have HS10 := Aside0.mk (uu.blk HS9.out hsne)
      have HN10 : Aside0 (n ≤ w10.heap.size) := ⟨Nat.le_trans HN9.out uu.size⟩
      have e0 : w10.cell? ⟨w.heap.size, 0, none⟩ = some (.pointer (some ⟨kb, 0, none⟩)) := (blk_cell HD10.out.b0 0).trans rfl
      have e1 : w10.cell? ⟨w.heap.size + 1, 0, none⟩ = some (.int .i64 Bc) := (blk_cell HD10.out.b1 0).trans rfl
      have e2 : w10.cell? ⟨sb, 0, none⟩ = some (.int .i64 x0) := (blk_cell HS10.out 0).trans rfl
      have e3 : w10.cell? ⟨kb, 1, none⟩ = some (.pointer (some ⟨pb, 0, none⟩)) := (blk_cell HC10.out.blk 1).trans rfl
      have e4 : w10.cell? ⟨kb, 2, none⟩ = some (.int .i64 (604800 - off)) := (blk_cell HC10.out.blk 2).trans rfl
      clear uu pp
      refine hK.out _ _ ⟨e0, e1, e2, e3, e4⟩ (fun hHeld => ?_)
      clear hK K
      refine norm_ (a' := ?_) ?_ ?_
      rotate_left
      · show Act.put _ (some 69) _ = _
        simp only [Act.put, List.setIfInBounds_toArray, List.set_cons_zero, List.set_cons_succ, i64_w, i32_w]
        rfl
      refine pure_ (i := 17) (N := some 71) (v := ?_) (a' := ?_) #[true, true, true, true, true, true, true, true, true, true, true, true, true, true, true, true, true, true, false, false, false, false, false, false, false] rfl rfl (any_of HT_.out (by kernel_rfl)) (fun _ _ _ h => h) (Or.inl ⟨by rfl, ?_⟩) ?_ ?_
      rotate_left
      · intro w'
        go_simp
        with_reducible rfl
      rotate_left
      · simp only [Act.put, List.setIfInBounds_toArray, List.set_cons_zero, List.set_cons_succ, i64_w, i32_w]
        rfl
      refine pure_ (i := 18) (N := some 72) (v := ?_) (a' := ?_) #[true, true, true, true, true, true, true, true, true, true, true, true, true, true, true, true, true, true, true, false, false, false, false, false, false] rfl rfl (any_of HT_.out (by kernel_rfl)) (fun _ _ _ h => h) (Or.inl ⟨by rfl, ?_⟩) ?_ ?_
      rotate_left
      · intro w'
        go_simp
        with_reducible rfl
      rotate_left
      · simp only [Act.put, List.setIfInBounds_toArray, List.set_cons_zero, List.set_cons_succ, i64_w, i32_w]
        rfl
      refine one_ (i := 19) (N := some 73) #[true, true, true, true, true, true, true, true, true, true, true, true, true, true, true, true, true, true, true, true, false, false, false, false, false] rfl rfl (one_of HT_.out (by kernel_rfl)) (by decide) (fun K hK => ?_)
      refine goes_ Try.func35 (by kernel_rfl) rfl #[.pointer (some ⟨pb, 0, none⟩), .int .i64 (wrap64 (U + Bc - 1))] (by rfl) rfl rfl (by (try simp only [List.map_toArray, List.map_cons, List.map_nil]); first | done | rfl) ?_
      refine (HNT.out _ HC10.out.plan HN10.out).mono ?_
      rintro e w11 ⟨rfl, pp, uu⟩
      refine ⟨_, rfl, ?_⟩
      have HC11 := Aside0.mk (HC10.out.upd uu pp)
      have HU11 := Aside0.mk (HU10.out.trans uu)
      have HD11 := Aside0.mk (HD10.out.upd uu hcb)
      have HS11 := Aside0.mk (uu.blk HS10.out hsne)
      have HN11 : Aside0 (n ≤ w11.heap.size) := ⟨Nat.le_trans HN10.out uu.size⟩
      have e0 : w11.cell? ⟨w.heap.size, 0, none⟩ = some (.pointer (some ⟨kb, 0, none⟩)) := (blk_cell HD11.out.b0 0).trans rfl
      have e1 : w11.cell? ⟨w.heap.size + 1, 0, none⟩ = some (.int .i64 Bc) := (blk_cell HD11.out.b1 0).trans rfl
      have e2 : w11.cell? ⟨sb, 0, none⟩ = some (.int .i64 x0) := (blk_cell HS11.out 0).trans rfl
      have e3 : w11.cell? ⟨kb, 1, none⟩ = some (.pointer (some ⟨pb, 0, none⟩)) := (blk_cell HC11.out.blk 1).trans rfl
      have e4 : w11.cell? ⟨kb, 2, none⟩ = some (.int .i64 (604800 - off)) := (blk_cell HC11.out.blk 2).trans rfl
      clear uu pp
      refine hK.out _ _ ⟨e0, e1, e2, e3, e4⟩ (fun hHeld => ?_)
      clear hK K
      refine norm_ (a' := ?_) ?_ ?_
      rotate_left
      · show Act.put _ (some 73) _ = _
        simp only [Act.put, List.setIfInBounds_toArray, List.set_cons_zero, List.set_cons_succ, i64_w, i32_w]
        rfl
      refine pure_ (i := 20) (N := some 53) (v := ?_) (a' := ?_) #[true, true, true, true, true, true, true, true, true, true, true, true, true, true, true, true, true, true, true, true, true, false, false, false, false] rfl rfl (any_of HT_.out (by kernel_rfl)) (fun _ _ _ h => h) (Or.inl ⟨by rfl, ?_⟩) ?_ ?_
      rotate_left
      · intro w'
        go_simp
        with_reducible rfl
      rotate_left
      · simp only [Act.put, List.setIfInBounds_toArray, List.set_cons_zero, List.set_cons_succ, i64_w, i32_w]
        rfl
      refine pure_ (i := 21) (N := some 74) (v := ?_) (a' := ?_) #[true, true, true, true, true, true, true, true, true, true, true, true, true, true, true, true, true, true, true, true, true, true, false, false, false] rfl rfl (any_of HT_.out (by kernel_rfl)) (fun _ _ _ h => h) (Or.inl ⟨by rfl, ?_⟩) ?_ ?_
      rotate_left
      · intro w'
        go_simp
        with_reducible rfl
      rotate_left
      · simp only [Act.put, List.setIfInBounds_toArray, List.set_cons_zero, List.set_cons_succ, i64_w, i32_w]
        rfl
      refine pure_ (i := 22) (N := some 75) (v := ?_) (a' := ?_) #[true, true, true, true, true, true, true, true, true, true, true, true, true, true, true, true, true, true, true, true, true, true, true, false, false] rfl rfl (any_of HT_.out (by kernel_rfl)) (fun _ _ _ h => h) (Or.inl ⟨by rfl, ?_⟩) ?_ ?_
      rotate_left
      · intro w'
        go_simp
        with_reducible rfl
      rotate_left
      · simp only [Act.put, List.setIfInBounds_toArray, List.set_cons_zero, List.set_cons_succ, i64_w, i32_w]
        rfl
      refine pure_ (i := 23) (N := some 10) (v := ?_) (a' := ?_) #[true, true, true, true, true, true, true, true, true, true, true, true, true, true, true, true, true, true, true, true, true, true, true, true, false] rfl rfl (any_of HT_.out (by kernel_rfl)) (fun _ _ _ h => h) (Or.inl ⟨by rfl, ?_⟩) ?_ ?_
      rotate_left
      · intro w'
        go_simp
        with_reducible rfl
      rotate_left
      · simp only [Act.put, List.setIfInBounds_toArray, List.set_cons_zero, List.set_cons_succ, i64_w, i32_w]
        rfl
      refine pure_ (i := 24) (N := some 11) (v := ?_) (a' := ?_) #[true, true, true, true, true, true, true, true, true, true, true, true, true, true, true, true, true, true, true, true, true, true, true, true, true] rfl rfl (any_of HT_.out (by kernel_rfl)) (fun _ _ _ h => h) (Or.inl ⟨by rfl, ?_⟩) ?_ ?_
      rotate_left
      · intro w'
        go_simp
        with_reducible rfl
      rotate_left
      · simp only [Act.put, List.setIfInBounds_toArray, List.set_cons_zero, List.set_cons_succ, i64_w, i32_w]
        rfl
      refine done_ (done_of HT_.out (by kernel_rfl)) ?_
      clear HT_ HW_ hHeld
      have c0 : w11.cell? ⟨w.heap.size, 0, none⟩ = some (.pointer (some ⟨kb, 0, none⟩)) := (blk_cell HD11.out.b0 0).trans rfl
      have k2 : w11.cell? ⟨kb, 2, none⟩ = some (.int .i64 (604800 - off)) := (blk_cell HC11.out.blk 2).trans rfl
      have d2 : w11.cell? ⟨w.heap.size + 1 + 1, 0, none⟩ = some (.int .i64 0) := (blk_cell HD11.out.b2 0).trans rfl
      have d3 : w11.cell? ⟨w.heap.size + 1 + 1 + 1, 0, none⟩ = some (.int .i64 0) := (blk_cell HD11.out.b3 0).trans rfl
      have f2 : w11.frozen? ⟨w.heap.size + 1 + 1, 0, none⟩ = false := blk_frozen HD11.out.b2 0
      have f3 : w11.frozen? ⟨w.heap.size + 1 + 1 + 1, 0, none⟩ = false := blk_frozen HD11.out.b3 0
      gi_wp2
      exact ⟨KeepsFrom.box1 (KeepsFrom.box1 (KeepsFrom.of_grownBy HU11.out (fun j e => by injection e with e; omega)) (by omega) _) (by omega) _, rfl, q - (604800 - off) + 1, Bc, HDUE.out, (HD11.out.set2 _).set3 _, (HC11.out.far HD11.out.b2 (by decide) (by decide) (fun _ => hneq) (But.set _ _ _)).far (HD11.out.set2 _).b3 (by decide) (by decide) (fun _ => hneq) (But.set _ _ _), ((HU.out.trans HU11.out).box (by omega) _).box (by omega) _⟩
  case done =>
    rintro L xs W hL hS ⟨Bc, ⟨b1, b2, b3⟩, D, C, U⟩ hK
    have hdue : dueL off week B (freeL closed a 1125899906842624) = none := by
      have := b3 []
      rw [List.append_nil, hS] at this
      exact this
    have hneq : week ≠ [] := fun e => by rw [e] at hs; simp [secs] at hs
    have d2 : W.cell? ⟨w.heap.size + 1 + 1, 0, none⟩ = some (.int .i64 0) := (blk_cell D.b2 0).trans rfl
    have d3 : W.cell? ⟨w.heap.size + 1 + 1 + 1, 0, none⟩ = some (.int .i64 0) := (blk_cell D.b3 0).trans rfl
    have f2 : W.frozen? ⟨w.heap.size + 1 + 1, 0, none⟩ = false := blk_frozen D.b2 0
    have f3 : W.frozen? ⟨w.heap.size + 1 + 1 + 1, 0, none⟩ = false := blk_frozen D.b3 0
    have HL := due_left D (x := 0) (y := 10) hcb C U (.inl hneq)
    have hK3 := ((KeepsFrom.refl w7.heap.size W).trans ((KeepsFrom.box1 (KeepsFrom.refl w7.heap.size W) (b := w.heap.size + 1 + 1) (by omega) (.int .i64 0)))).same L _ hL hK rfl
    have hK4 := (KeepsFrom.box1 (KeepsFrom.refl w7.heap.size (W.setCell ⟨w.heap.size + 1 + 1, 0, none⟩ (.int .i64 0))) (b := w.heap.size + 1 + 1 + 1) (by omega) (.int .i64 10)).same L _ hL hK3 rfl
    obtain ⟨D9, C9, U9⟩ := due_end (.deferred none) (by omega) hK4 ((D.set2 0).set3 10) HL.1 HL.2
    have e2 := (blk_cell D9.b2 0).trans (rfl : _ = some (Value.int .i64 0))
    have e3 := (blk_cell D9.b3 0).trans (rfl : _ = some (Value.int .i64 10))
    clear HAM B0 B1 B2 hb7 I0 HU7 C U b3 D hK3 HL D9
    gi_wp2
    refine ⟨by simp, .inl ⟨_, _, rfl, run_takeDeferred hK4, ?_⟩⟩
    refine ⟨.tuple #[.int .i64 0, .int .i64 10], by simp [results, Try.results14, go_sem, e2, e3], ?_⟩
    rw [hdue]
    exact ⟨rfl, C9, U9⟩
  case stop =>
    rintro L c pre W hL ⟨rest, hS⟩ ⟨rfl, d, Bc, b3, D, C, U⟩ hK
    have hdue : dueL off week B (freeL closed a 1125899906842624) = some d := by rw [← hS]; exact b3 rest
    obtain ⟨D9, C9, U9⟩ := due_end (.deferred none) (by omega) hK D C U
    have e2 := (blk_cell D9.b2 0).trans (rfl : _ = some (Value.int .i64 d))
    have e3 := (blk_cell D9.b3 0).trans (rfl : _ = some (Value.int .i64 0))
    clear HAM B0 B1 B2 hb7 I0 HU7 C U b3 D D9
    gi_wp2
    refine ⟨by simp, .inl ⟨_, _, rfl, run_takeDeferred hK, ?_⟩⟩
    refine ⟨.tuple #[.int .i64 d, .int .i64 0], by simp [results, Try.results14, go_sem, e2, e3], ?_⟩
    rw [hdue]
    exact ⟨rfl, C9, U9⟩
/-- What Due tells. -/
def dueP (off : Int) (week closed : List S57) (a B : Int) : Int × Int :=
  if ¬ (0 ≤ a ∧ a ≤ 1125899906842624) ∨ B < 0 then (0, 2) else if B = 0 then (a, 0) else if secs week = 0 then (0, 40) else dueR (dueL off week B (freeL closed a 1125899906842624))
theorem due_any (a B : Int) (w : World) (h : ClkAt w n kb ab pb cb off week closed) (hn : n ≤ w.heap.size) (hB2 : B ≤ 9223372036854775807) :
    Calls Try.prog 14 #[.pointer (some ⟨kb, 0, none⟩), .int .i64 a, .int .i64 B] w fun e w' => e = .returned (.tuple #[.int .i64 (dueP off week closed a B).1, .int .i64 (dueP off week closed a B).2]) ∧ ClkAt w' n kb ab pb cb off week closed ∧ Upd cb w w' := by
  unfold dueP
  by_cases h1 : 0 ≤ a ∧ a ≤ 1125899906842624
  · by_cases h2 : B < 0
    · rw [if_pos (.inr h2)]; exact due_arg2 a B w h hn h1 h2
    · rw [if_neg (by omega)]
      by_cases h3 : B = 0
      · rw [if_pos h3]; exact due_zero a B w h hn h1 h3
      · rw [if_neg h3]
        have h5 := (h.plan.ok.secs (by omega)).1
        by_cases h4 : secs week = 0
        · rw [if_pos h4]; exact due_closed a B w h hn h1 (by omega) h4
        · rw [if_neg h4]; exact due_main a B w h hn h1 (by omega) hB2 (by omega)
  · rw [if_pos (.inl h1)]; exact due_arg1 a B w h hn h1
end Go.Proofs.Ytknlpeabmpllmaa.Own
