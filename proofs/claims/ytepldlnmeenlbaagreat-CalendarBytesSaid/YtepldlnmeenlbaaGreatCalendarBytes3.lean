/- CalendarBytes, part 3: what the claim needs of Plan0, Quill0, Sums, Cell, Row, Wr, Rd, Rd2, Rd3, Rd4, Rr, Rr2, Rd5, Wr2, Wr4, Clone, WeekNew, At, Switch, Total, Open, Nth0, Nth, Alm, Clock, Cut. -/
import Derived.Test.YtepldlnmeenlbaaGreatCalendarBytes2
import Derived.Test.YtepldlnmeenlbaaGreatProg
import Derived.Below
import Derived.Deep.Draws
import Derived.Deep.AppendLies
import Derived.Maps.AppendAt
import Derived.OwnWalk
import Derived.Laws.BytesArg
import Derived.Laws.MakeOwn
import Derived.Laws.OwnMore
import Derived.Deep.OwnRows
import Derived.Tactics
import Derived.Lib.ConvBytes
import Derived.Laws.Slices
import Derived.WalkKit
import Derived.KernelRfl
import Derived.RowKit3
import Derived.Deep.LoopGhost
import Derived.Deep.QuietTactic
import Derived.BigQuiet
import Derived.WideLaws
import Derived.Deep.DeepCutAuto
import Derived.Deep.CutBlock
import Derived.Deep.RegionHeld3
import Derived.Laws.Rows
import Derived.Lib.AppendStr
import Derived.ArgAppend
import Derived.Laws.IdiomCopy
import Derived.OrdersHeld
import Derived.Laws.BitsLemmas
import Derived.RowKit
import Derived.Laws.StructEq
import Derived.Tactics2
import Derived.Defers
import Derived.Laws.Pointers
import Derived.Laws.LoneSync
import Derived.Laws.NewBlocks
import Derived.RegionTactic
import Derived.RegionCalls
import Derived.ChangeAlike
import Derived.StillTailTactics
import Derived.Outline
import Derived.Handy
import Derived.SizedLaws
import Derived.ChangeSlices
import Derived.Laws.EntriesVeiled
import Derived.WalkSpells
set_option linter.unusedVariables false
set_option linter.unusedSimpArgs false
namespace Go.Proofs.YtepldlnmeenlbaaGreat.Own
open Go.RowKit Go.Proofs Go.Proofs.YtepldlnmeenlbaaGreatW.PrintWords Go.Proofs.YtepldlnmeenlbaaGreatW.PrintLast Go.Proofs.YtepldlnmeenlbaaGreatW.PrintMore Go.Proofs.YtepldlnmeenlbaaGreat.Base
def RowFrom : Int → List S114 → Prop
  | _, [] => True
  | lo, s :: r => lo ≤ s.f0 ∧ s.f0 < s.f1 ∧ RowFrom s.f1 r
def secs : List S114 → Int
  | [] => 0
  | s :: r => s.f1 - s.f0 + secs r
structure RowOk (hi : Int) (l : List S114) : Prop where
  len : l.length ≤ 32
  row : RowFrom 0 l
  top : ∀ s, s ∈ l → s.f1 ≤ hi
theorem RowFrom.mono {lo lo' : Int} {l : List S114} (h : RowFrom lo l) (hl : lo' ≤ lo) : RowFrom lo' l := by
  cases l with
  | nil => trivial
  | cons s r => exact ⟨by have := h.1; omega, h.2⟩
theorem secs_append (a b : List S114) : secs (a ++ b) = secs a + secs b := by
  induction a with
  | nil => simp [secs]
  | cons s r ih => simp [secs, ih]; omega
theorem secs_bound {lo hi : Int} {l : List S114} (h : RowFrom lo l) (ht : ∀ s, s ∈ l → s.f1 ≤ hi) : 0 ≤ secs l ∧ (l ≠ [] → lo + secs l ≤ hi) := by
  induction l generalizing lo with
  | nil => exact ⟨Int.le_refl _, fun h => absurd rfl h⟩
  | cons s r ih =>
    obtain ⟨h1, h2, h3⟩ := h
    obtain ⟨i1, i2⟩ := ih h3 (fun s hs => ht s (List.mem_cons_of_mem _ hs))
    have := ht s List.mem_cons_self
    refine ⟨by simp only [secs]; omega, fun _ => ?_⟩
    simp only [secs]
    cases r with
    | nil => simp only [secs] at *; omega
    | cons t u => have := i2 (by simp); omega
theorem RowFrom.take {lo : Int} {l : List S114} (h : RowFrom lo l) (n : Nat) : RowFrom lo (l.take n) := by
  induction l generalizing lo n with
  | nil => simpa using h
  | cons s r ih =>
    cases n with
    | zero => trivial
    | succ n => exact ⟨h.1, h.2.1, ih h.2.2 n⟩
theorem RowOk.take {hi : Int} {l : List S114} (h : RowOk hi l) (n : Nat) : RowOk hi (l.take n) :=
  ⟨by have := h.len; have : (l.take n).length ≤ l.length := by simp [List.length_take]; omega
      omega, h.row.take n, fun s hs => h.top s (List.mem_of_mem_take hs)⟩
theorem RowOk.secs {hi : Int} {l : List S114} (h : RowOk hi l) (h0 : 0 ≤ hi) : 0 ≤ secs l ∧ secs l ≤ hi := by
  obtain ⟨a, b⟩ := secs_bound h.row h.top
  refine ⟨a, ?_⟩
  cases l with
  | nil => simpa [Own.secs] using h0
  | cons s r => have := b (by simp); omega
theorem RowOk.mem {hi : Int} {l : List S114} (h : RowOk hi l) : ∀ s, s ∈ l → 0 ≤ s.f0 ∧ s.f0 < s.f1 ∧ s.f1 ≤ hi := by
  have key : ∀ (l : List S114) (lo : Int), 0 ≤ lo → RowFrom lo l → ∀ s, s ∈ l → 0 ≤ s.f0 ∧ s.f0 < s.f1 := by
    intro l
    induction l with
    | nil => intro lo _ _ s hs; cases hs
    | cons t r ih =>
      intro lo hlo hr s hs
      obtain ⟨h1, h2, h3⟩ := hr
      rcases List.mem_cons.1 hs with rfl | hs
      · exact ⟨by omega, h2⟩
      · exact ih _ (by omega) h3 s hs
  intro s hs
  obtain ⟨a, b⟩ := key l 0 (Int.le_refl _) h.row s hs
  exact ⟨a, b, h.top s hs⟩
def psums (l : List S114) : List Int := (List.range (l.length + 1)).map fun i => secs (l.take i)
theorem psums_length (l : List S114) : (psums l).length = l.length + 1 := by simp [psums]
theorem psums_get (l : List S114) (i : Nat) (h : i ≤ l.length) : (psums l)[i]? = some (secs (l.take i)) := by
  simp [psums, List.getElem?_map, List.getElem?_range (show i < l.length + 1 by omega)]
theorem psums_take (l : List S114) (i : Nat) (h : i < l.length) : psums (l.take (i + 1)) = psums (l.take i) ++ [secs (l.take i) + (rd_T114 l i).f1 - (rd_T114 l i).f0] := by
  have hl : (l.take (i + 1)).length = i + 1 := by simp; omega
  have hl' : (l.take i).length = i := by simp; omega
  unfold psums
  rw [hl, hl', List.range_succ, List.map_append]
  congr 1
  · apply List.map_congr_left
    intro j hj
    have := List.mem_range.1 hj
    rw [List.take_take, List.take_take, Nat.min_eq_left (by omega), Nat.min_eq_left (by omega)]
  · simp only [List.map_cons, List.map_nil, List.cons.injEq, and_true]
    rw [List.take_take, Nat.min_eq_left (by omega), List.take_succ_eq_append_getElem h, secs_append]
    have : rd_T114 l i = l[i] := by simp [rd_T114, List.getD_eq_getElem?_getD, List.getElem?_eq_getElem h]
    rw [this]
    simp only [secs]
    omega
theorem rd_at (l : List S114) (i : Nat) (h : i < l.length) : rd_T114 l i = l[i] := by simp [rd_T114, List.getD_eq_getElem?_getD, List.getElem?_eq_getElem h]
end Go.Proofs.YtepldlnmeenlbaaGreat.Own
namespace Go.Proofs.YtepldlnmeenlbaaGreat.Own
open Go.RowKit Go.Proofs Go.Proofs.YtepldlnmeenlbaaGreatW.PrintWords Go.Proofs.YtepldlnmeenlbaaGreatW.PrintLast Go.Proofs.YtepldlnmeenlbaaGreatW.PrintMore Go.Proofs.YtepldlnmeenlbaaGreat.Base
def digs (n : Nat) : List Int := if _h : n = 0 then [] else digs (n / 256) ++ [((n % 256 : Nat) : Int)]
termination_by n
decreasing_by omega
theorem digs_zero : digs 0 = [] := by rw [digs]; simp
theorem digs_pos {n : Nat} (h : 0 < n) : digs n = digs (n / 256) ++ [((n % 256 : Nat) : Int)] := by
  rw [digs, dif_neg (by omega)]
theorem digs_len {n : Nat} (h : 0 < n) : (digs n).length = (digs (n / 256)).length + 1 := by rw [digs_pos h]; simp
theorem digs_len_pos {n : Nat} (h : 0 < n) : 0 < (digs n).length := by rw [digs_len h]; omega
theorem digs_le (k n : Nat) (h : n < 256 ^ k) : (digs n).length ≤ k := by
  induction k generalizing n with
  | zero => have : n = 0 := by simpa using h
            subst this; simp [digs_zero]
  | succ k ih =>
    by_cases h0 : n = 0
    · subst h0; simp [digs_zero]
    · rw [digs_len (by omega)]
      have := ih (n / 256) (by rw [Nat.pow_succ] at h; omega)
      omega
theorem digs_get (n i : Nat) (h : i < (digs n).length) : (digs n)[i]? = some ((n / 256 ^ ((digs n).length - 1 - i) % 256 : Nat) : Int) := by
  induction n using Nat.strongRecOn generalizing i with
  | ind n ih =>
    by_cases h0 : n = 0
    · subst h0; simp [digs_zero] at h
    · have hl := digs_len (n := n) (by omega)
      rw [hl, digs_pos (by omega)]
      by_cases hi : i < (digs (n / 256)).length
      · rw [List.getElem?_append_left hi, ih (n / 256) (by omega) i hi]
        rw [Nat.div_div_eq_div_mul, show (digs (n / 256)).length + 1 - 1 - i = ((digs (n / 256)).length - 1 - i) + 1 by omega, Nat.pow_succ, Nat.mul_comm]
      · have : i = (digs (n / 256)).length := by omega
        subst this
        simp
theorem digs_byte (n : Nat) : ∀ c, c ∈ digs n → 0 ≤ c ∧ c ≤ 255 := by
  induction n using Nat.strongRecOn with
  | ind n ih =>
    intro c hc
    by_cases h0 : n = 0
    · subst h0; simp [digs_zero] at hc
    · rw [digs_pos (by omega)] at hc
      rcases List.mem_append.1 hc with h | h
      · exact ih (n / 256) (by omega) c h
      · simp at h; subst h; omega
def valB (l : List Int) : Int := l.foldl (fun a c => a * 256 + c) 0
theorem valB_snoc (l : List Int) (c : Int) : valB (l ++ [c]) = valB l * 256 + c := by simp [valB]
theorem valB_digs (n : Nat) : valB (digs n) = n := by
  induction n using Nat.strongRecOn with
  | ind n ih =>
    by_cases h0 : n = 0
    · subst h0; simp [digs_zero, valB]
    · rw [digs_pos (by omega), valB_snoc, ih (n / 256) (by omega)]
      omega
theorem digs_head (n : Nat) (c : Int) (h : (digs n)[0]? = some c) : c ≠ 0 := by
  induction n using Nat.strongRecOn generalizing c with
  | ind n ih =>
    by_cases h0 : n = 0
    · subst h0; simp [digs_zero] at h
    · rw [digs_pos (by omega)] at h
      by_cases h1 : n / 256 = 0
      · rw [h1, digs_zero] at h; simp at h; omega
      · rw [List.getElem?_append_left (digs_len_pos (by omega))] at h
        exact ih (n / 256) (by omega) c h
def numB (mark n : Int) : List Int := (mark + ((digs n.toNat).length : Int)) :: digs n.toNat
theorem valB_from (l : List Int) (a : Int) : l.foldl (fun a c => a * 256 + c) a = a * 256 ^ l.length + valB l := by
  induction l generalizing a with
  | nil => simp [valB]
  | cons c r ih =>
    have h1 := ih (a * 256 + c)
    have h2 := ih c
    have h3 : valB (c :: r) = c * 256 ^ r.length + valB r := by rw [← h2]; simp [valB]
    rw [List.foldl_cons, h1, h3, List.length_cons, Int.pow_succ, Int.add_mul, Int.mul_assoc, Int.mul_comm 256, Int.add_assoc]
theorem valB_cons (c : Int) (r : List Int) : valB (c :: r) = c * 256 ^ r.length + valB r := by
  have := valB_from r c
  rw [← this]; simp [valB]
theorem valB_bound (l : List Int) (h : ∀ c, c ∈ l → 0 ≤ c ∧ c ≤ 255) : 0 ≤ valB l ∧ valB l < 256 ^ l.length := by
  induction l with
  | nil => simp [valB]
  | cons c r ih =>
    have h1 := ih (fun x hx => h x (List.mem_cons_of_mem _ hx))
    have h2 := h c (by simp)
    have hp : (0 : Int) < 256 ^ r.length := Int.pow_pos (by omega)
    rw [valB_cons, List.length_cons, Int.pow_succ]
    have h3 : c * 256 ^ r.length ≤ 255 * 256 ^ r.length := Int.mul_le_mul_of_nonneg_right h2.2 (by omega)
    have h4 : 0 ≤ c * 256 ^ r.length := Int.mul_nonneg h2.1 (by omega)
    omega
def numR (marked : Bool) (most : Int) : List Int → Option (Int × Bool × List Int)
  | [] => none
  | c :: r =>
    let s := if marked then c % 128 else c
    if 8 < s ∨ (r.length : Int) < s ∨ 0 < s ∧ r[0]? = some 0 then none
    else if most < valB (r.take s.toNat) then none
    else some (valB (r.take s.toNat), marked && decide (128 ≤ c), r.drop s.toNat)
theorem numR_plain (n most : Int) (rest : List Int) (h0 : 0 ≤ n) (h1 : n < 18446744073709551616) (hm : n ≤ most) : numR false most (numB 0 n ++ rest) = some (n, false, rest) := by
  have hl : (digs n.toNat).length ≤ 8 := digs_le 8 n.toNat (by omega)
  have hv := valB_digs n.toNat
  unfold numR numB
  simp only [List.cons_append, Bool.false_eq_true, if_false, Int.zero_add, Bool.false_and]
  rw [if_neg, if_neg, Int.toNat_natCast, List.take_left, List.drop_left, hv, Int.toNat_of_nonneg h0]
  · rw [Int.toNat_natCast, List.take_left, hv]; omega
  · rintro (h | h | ⟨h, h'⟩)
    · omega
    · rw [List.length_append] at h; omega
    · rw [List.getElem?_append_left (by omega)] at h'
      exact digs_head _ _ h' rfl
theorem numR_marked (m n most : Int) (rest : List Int) (hmk : m = 0 ∨ m = 128) (h0 : 0 ≤ n) (h1 : n < 18446744073709551616) (hm : n ≤ most) : numR true most (numB m n ++ rest) = some (n, decide (m = 128), rest) := by
  have hl : (digs n.toNat).length ≤ 8 := digs_le 8 n.toNat (by omega)
  have hv := valB_digs n.toNat
  have hs : (m + ((digs n.toNat).length : Int)) % 128 = ((digs n.toNat).length : Int) := by omega
  unfold numR numB
  simp only [List.cons_append, if_true, Bool.true_and]
  rw [hs, if_neg, if_neg, Int.toNat_natCast, List.take_left, List.drop_left, hv, Int.toNat_of_nonneg h0]
  · rcases hmk with rfl | rfl
    · simp; omega
    · simp; omega
  · rw [Int.toNat_natCast, List.take_left, hv]; omega
  · rintro (h | h | ⟨h, h'⟩)
    · omega
    · rw [List.length_append] at h; omega
    · rw [List.getElem?_append_left (by omega)] at h'
      exact digs_head _ _ h' rfl
theorem numB_len (m n : Int) (h0 : 0 ≤ n) (h1 : n < 18446744073709551616) : (numB m n).length ≤ 9 := by
  have hl : (digs n.toNat).length ≤ 8 := digs_le 8 n.toNat (by omega)
  simp [numB]; omega
theorem numR_rest {mk : Bool} {most : Int} {bs : List Int} {r : Int × Bool × List Int} (h : numR mk most bs = some r) : ∃ k, r.2.2 = bs.drop k := by
  cases bs with
  | nil => cases h
  | cons c t =>
    simp only [numR] at h
    generalize (if mk = true then c % 128 else c) = s at h
    split at h
    · cases h
    · split at h
      · cases h
      · injection h with h; subst h; exact ⟨s.toNat + 1, rfl⟩
def rdN (mk : Bool) (most : Int) (s : List Int × Bool) : (Int × Bool) × (List Int × Bool) :=
  match numR mk most s.1 with
  | none => ((0, false), ([], true))
  | some (n, m, r) => ((n, m), (r, s.2))
def rdNum (most : Int) (s : List Int × Bool) : Int × (List Int × Bool) := ((rdN false most s).1.1, (rdN false most s).2)
def rdInt (s : List Int × Bool) : Int × (List Int × Bool) :=
  (if (rdN true 9223372036854775807 s).1.2 then -1 - (rdN true 9223372036854775807 s).1.1 else (rdN true 9223372036854775807 s).1.1, (rdN true 9223372036854775807 s).2)
def intB (n : Int) : List Int := if n < 0 then numB 128 (-1 - n) else numB 0 n
theorem rdNum_put (n most : Int) (rest : List Int) (b : Bool) (h0 : 0 ≤ n) (h1 : n < 18446744073709551616) (hm : n ≤ most) : rdNum most (numB 0 n ++ rest, b) = (n, (rest, b)) := by
  unfold rdNum rdN; rw [numR_plain n most rest h0 h1 hm]
theorem rdInt_put (n : Int) (rest : List Int) (b : Bool) (h0 : -9223372036854775808 ≤ n) (h1 : n ≤ 9223372036854775807) : rdInt (intB n ++ rest, b) = (n, (rest, b)) := by
  unfold rdInt rdN intB
  by_cases h : n < 0
  · rw [if_pos h, numR_marked 128 (-1 - n) _ rest (.inr rfl) (by omega) (by omega) (by omega)]
    simp; omega
  · rw [if_neg h, numR_marked 0 n _ rest (.inl rfl) (by omega) (by omega) (by omega)]
    simp
theorem rd_cons (c : Int) (r : List Int) : rd (c :: r) 0 = c := rfl
theorem rd_cons1 (c d : Int) (r : List Int) : rd (c :: d :: r) 1 = d := rfl
def szR (mk : Bool) (bs : List Int) : Int := if mk then rd bs 0 % 128 else rd bs 0
theorem numR_rd {mk : Bool} {most : Int} {bs : List Int} (h : 0 < bs.length) (h0 : 0 ≤ szR mk bs) :
    numR mk most bs = if 8 < szR mk bs ∨ (bs.length : Int) ≤ szR mk bs ∨ 0 < szR mk bs ∧ rd bs 1 = 0 then none
      else if most < valB ((bs.take (szR mk bs + 1).toNat).drop 1) then none else some (valB ((bs.take (szR mk bs + 1).toNat).drop 1), mk && decide (128 ≤ rd bs 0), bs.drop (szR mk bs + 1).toNat) := by
  rcases bs with _ | ⟨c, r⟩
  · simp at h
  · have es : (if mk = true then c % 128 else c) = szR mk (c :: r) := rfl
    simp only [numR, es, rd_cons]
    generalize szR mk (c :: r) = s at h0
    rw [show (s + 1).toNat = s.toNat + 1 by omega, List.take_succ_cons, List.drop_succ_cons, List.drop_zero, List.drop_succ_cons]
    have hc : (8 < s ∨ (r.length : Int) < s ∨ 0 < s ∧ r[0]? = some 0) ↔ (8 < s ∨ ((c :: r).length : Int) ≤ s ∨ 0 < s ∧ rd (c :: r) 1 = 0) := by
      rcases r with _ | ⟨d, r⟩
      · simp [rd]; omega
      · rw [rd_cons1]; simp; omega
    by_cases hh : 8 < s ∨ (r.length : Int) < s ∨ 0 < s ∧ r[0]? = some 0
    · rw [if_pos hh, if_pos (hc.1 hh)]
    · rw [if_neg hh, if_neg (fun x => hh (hc.2 x))]
      rfl
theorem rd_mem {l : List Int} {i : Int} (h0 : 0 ≤ i) (h : i < l.length) : rd l i ∈ l := by
  unfold rd
  rw [List.getD_eq_getElem?_getD, List.getElem?_eq_getElem (by omega)]
  exact List.getElem_mem _
theorem valB_step (l : List Int) (i : Nat) (h : i < l.length) : valB (l.take (i + 1)) = valB (l.take i) * 256 + rd l i := by
  rw [List.take_add_one, List.getElem?_eq_getElem h, Option.toList_some, valB_snoc]
  unfold rd
  rw [List.getD_eq_getElem?_getD, Int.toNat_natCast, List.getElem?_eq_getElem h]; rfl
theorem pow_le_256 {a b : Nat} (h : a ≤ b) : (256 : Int) ^ a ≤ 256 ^ b := by
  have e : ∀ n : Nat, (256 : Int) ^ n = ((256 ^ n : Nat) : Int) := fun n => by rw [Int.natCast_pow]; rfl
  rw [e, e]
  exact Int.ofNat_le.2 (Nat.pow_le_pow_right (by omega) h)
theorem valB_small (l : List Int) (i : Nat) (h : ∀ x, x ∈ l → 0 ≤ x ∧ x ≤ 255) (hi : i ≤ 7) : 0 ≤ valB (l.take i) ∧ valB (l.take i) < 72057594037927936 := by
  have h1 := valB_bound (l.take i) (fun x hx => h x (List.mem_of_mem_take hx))
  refine ⟨h1.1, Int.lt_of_lt_of_le h1.2 ?_⟩
  have h2 : (l.take i).length ≤ 7 := by rw [List.length_take]; omega
  have h3 := pow_le_256 h2
  rw [show (256 : Int) ^ 7 = 72057594037927936 from rfl] at h3
  exact h3
theorem valB_big (l : List Int) (h : ∀ x, x ∈ l → 0 ≤ x ∧ x ≤ 255) (hi : l.length ≤ 8) : 0 ≤ valB l ∧ valB l < 18446744073709551616 := by
  have h1 := valB_bound l h
  refine ⟨h1.1, Int.lt_of_lt_of_le h1.2 ?_⟩
  have h3 := pow_le_256 hi
  rw [show (256 : Int) ^ 8 = 18446744073709551616 from rfl] at h3
  exact h3
end Go.Proofs.YtepldlnmeenlbaaGreat.Own
namespace Go.Proofs.YtepldlnmeenlbaaGreat.Own
open Go.RowKit Go.Proofs Go.Proofs.YtepldlnmeenlbaaGreatW.PrintWords Go.Proofs.YtepldlnmeenlbaaGreatW.PrintLast Go.Proofs.YtepldlnmeenlbaaGreatW.PrintMore Go.Proofs.YtepldlnmeenlbaaGreat.Base
theorem infoI64 : (Tryz.prog.info? 2).map (fun i => (i.zero, i.size, i.bytes)) = some (some (.int .i64 0), 1, 8) := by kernel_rfl
theorem made_take (n : Nat) : (madeCells #[.int .i64 0] (n + 1)).toList.take 1 = [.int .i64 0] := by
  simp [madeCells, Array.range]
theorem made_own (w : World) (base n : Nat) (hb : base ≤ w.heap.size) (hn : n + 1 ≤ maxLen) :
    Kd.R (Kd.int .i64) 2 (w.alloc (.cells (madeCells #[.int .i64 0] (n + 1)) 2)) base (fun _ => True) (.slice (some ⟨w.heap.size, 0, none⟩) 1 (n + 1)) [0] :=
  Kd.R_of_own (enc := Value.int .i64) ⟨by simp [encs], .inr ⟨w.heap.size, n + 1, _, rfl, hb, heap_alloc_new w _, by simp, hn, by simp [size_madeCells], by simpa [encs] using made_take n⟩⟩ (fun _ _ => trivial)
def sums_T5 : Bool × List (List Nat × List Nat) := (true, [([], []), ([], []), ([], []), ([1, 2], [1, 2]), ([3], [3]), ([], []), ([5], [5]), ([4, 6], [4, 6]), ([], []), ([8], [8]), ([7, 9], [7, 9]), ([10], [10]), ([0, 11], [0, 11]), ([12, 12, 0, 1, 2, 3, 4, 5, 6, 7, 8, 9, 10, 11, 12], [0, 1, 12])])
def sums_B5 : List Nat := [0, 0, 0, 6, 14, 0, 32, 126, 0, 256, 1022, 2046, 4095, 8191]
theorem sums_tab5 : rtab .any (opsOf Tryz.f122 5) = sums_T5 := by kernel_rfl
theorem sums_bits5 : waitsOk sums_T5.2 sums_B5 = true := by kernel_rfl
set_option maxHeartbeats 4000000 in
set_option maxRecDepth 100000 in
theorem sums_any (pb : Nat) (A : Option Addr) (c : Nat) (cv : Value) (row : List S114) (w : World)
    (hw : w.heap[pb]? = some (.cells #[.slice A row.length c, cv] 199 (0, 0))) (hr : Kd.C k114 w A row.length row) (hc : row.length ≤ c) (hok : RowOk 604800 row) :
    Calls Tryz.prog 122 #[.pointer (some ⟨pb, 0, none⟩)] w fun e w' => ∃ v', e = .returned v' ∧ Kd.R (Kd.int .i64) 2 w' w.heap.size (fun _ => True) v' (psums row) ∧ Below w.heap.size w w' := by
  have HR := Aside0.mk hr
  have hc0 : w.cell? ⟨pb, 0, none⟩ = some (.slice A row.length c) := (blk_cell hw 0).trans rfl
  have hl := hok.len
  have HOK := Aside0.mk hok
  obtain ⟨i2, hi2, hz⟩ := Option.map_eq_some_iff.1 infoI64
  simp only [Prod.mk.injEq] at hz
  obtain ⟨hz0, hz1, hz2⟩ := hz
  have hmk := run_make (P := Tryz.prog) w 185 2 i2 (.int .i64 0) Tryz.underlying185 hi2 hz0 .i64 .i64 1 ((row.length : Int) + 1) (by omega) (by omega) (by rw [hz2]; omega) (by omega)
  rw [hz1, show ((row.length : Int) + 1).toNat = row.length + 1 by omega, Nat.mul_one] at hmk
  have HO := Aside0.mk (made_own w w.heap.size row.length (Nat.le_refl _) (by unfold maxLen; omega))
  have HB := Aside0.mk (below_alloc (Below.refl w.heap.size w) (.cells (madeCells #[.int .i64 0] (row.length + 1)) 2))
  have hc1 : (w.alloc (.cells (madeCells #[.int .i64 0] (row.length + 1)) 2)).cell? ⟨pb, 0, none⟩ = some (.slice A row.length c) := (blk_cell (blk_alloc hw _) 0).trans rfl
  clear hr hok hi2 hz0 hz1 hz2
  go_enter Tryz.func122, Tryz.ntmps122
  go_wp2
  generalize (w.alloc (.cells (madeCells #[.int .i64 0] (row.length + 1)) 2)) = w1 at HO HB hc1 ⊢
  clear hmk
  go_wp2
  go_loopg [3, 18] row.length (fun g v3 v18 w' => ∃ i : Int, v18 = .int .i64 i ∧ Aside0 (0 ≤ i ∧ (g : Int) + i = row.length) ∧ Aside0 (Kd.R (Kd.int .i64) 2 w' w.heap.size (fun _ => True) v3 (psums (row.take i.toNat))) ∧ Aside0 (Below w.heap.size w w'))
  case atStart => exact ⟨0, rfl, ⟨by omega, by omega⟩, ⟨by simpa [psums, secs] using HO.out⟩, HB⟩
  case round =>
    clear HO HB hc1
    obtain ⟨i, rfl, HG, HO, HB⟩ := hrel
    by_cases hi : i < row.length
    · have p0 : 0 ≤ i := HG.out.1
      obtain ⟨ad, e, hx0, hx1⟩ := at_T114 HR.out i p0 hi
      cases e
      replace hx0 := (HB.out.cell (World.block_lt_of_cell? w _ hx0)).trans hx0
      replace hx1 := (HB.out.cell (World.block_lt_of_cell? w _ hx1)).trans hx1
      go_wp2
      obtain ⟨A2, c2, rfl, hl2, hC2⟩ := Kd.R_reads HO.out
      have hpl : ((psums (row.take i.toNat)).length : Int) = i + 1 := by rw [psums_length]; simp; omega
      have HN := Aside0.mk (psums_take row i.toNat (by omega))
      have hsec := (HOK.out.take i.toNat).secs (by omega)
      have hmem := HOK.out.mem (rd_T114 row i) (by rw [show i = ((i.toNat : Nat) : Int) by omega, rd_at row i.toNat (by omega)]; exact List.getElem_mem _)
      have hrd : rd (psums (row.take i.toNat)) i = secs (row.take i.toNat) := by
        unfold rd
        rw [List.getD_eq_getElem?_getD, psums_get _ _ (by simp; omega), List.take_take, Nat.min_self]
        rfl
      obtain ⟨ad2, e2, hx2⟩ := Kd.at_int hC2 i p0 (by omega)
      cases e2
      rw [hrd] at hx2
      obtain ⟨W, hW⟩ : ∃ W, W = wr.alloc (.cells #[Value.int .i64 (rd_T114 row i).f0, Value.int .i64 (rd_T114 row i).f1] 114) := ⟨_, rfl⟩
      rw [← hW]
      have HO1 := Aside0.mk (hW ▸ Kd.R_alloc HO.out (.cells #[Value.int .i64 (rd_T114 row i).f0, Value.int .i64 (rd_T114 row i).f1] 114))
      have HB1 := Aside0.mk (hW ▸ below_alloc HB.out (.cells #[Value.int .i64 (rd_T114 row i).f0, Value.int .i64 (rd_T114 row i).f1] 114))
      have BK := hW ▸ blk_new wr (.cells #[Value.int .i64 (rd_T114 row i).f0, Value.int .i64 (rd_T114 row i).f1] 114)
      have hx2' := hW ▸ (World.cell?_alloc_lt wr (.cells #[Value.int .i64 (rd_T114 row i).f0, Value.int .i64 (rd_T114 row i).f1] 114) _ (World.block_lt_of_cell? _ _ hx2)).trans hx2
      clear hW
      generalize wr.heap.size = gb at BK ⊢
      have hb0 : W.cell? ⟨gb, 0, none⟩ = some (.int .i64 (rd_T114 row i).f0) := (blk_cell BK 0).trans rfl
      have hb1 : W.cell? ⟨gb, 1, none⟩ = some (.int .i64 (rd_T114 row i).f1) := (blk_cell BK 1).trans rfl
      have HLT := Aside0.mk hpl
      have HO2 := Aside0.mk (Kd.R_drew HO1.out)
      have HB2 := Aside0.mk (below_drew1 HB1.out)
      have hlt : i < ((psums (row.take i.toNat)).length : Int) := by omega
      have HM := Aside0.mk hmem
      clear BK hx0 hx1 hx2 HO HB hpl hrd hsec hmem
      have p0' := eq_true p0
      have hlt' := eq_true hlt
      have hlt2 : decide (i < ((psums (row.take i.toNat)).length : Int)) = true := decide_eq_true hlt
      clear p0 hlt
      refine start_ (n := 14) (S := fun w' => w'.cell? ⟨gb, 0, none⟩ = some (.int .i64 (rd_T114 row i).f0) ∧ w'.cell? ⟨gb, 1, none⟩ = some (.int .i64 (rd_T114 row i).f1) ∧ w'.cell? (ad2.add i.toNat) = some (.int .i64 (secs (row.take i.toNat)))) (ds := [11, 12]) #[false, false, false, false, false, false, false, false, false, false, false, false, false, false] (by kernel_rfl) rfl rfl ⟨hb0, hb1, hx2'⟩ (fun hHeld => ?_); refine with_tabW sums_tab5 sums_bits5 (fun HT_ HW_ => ?_)
      generalize W.drew = WD at HO2 HB2 hHeld ⊢
      refine pure_ (i := 0) (N := some 23) (v := ?_) (a' := ?_) #[true, false, false, false, false, false, false, false, false, false, false, false, false, false] rfl rfl (any_of HT_.out (by kernel_rfl)) (fun _ _ _ h => h) (Or.inl ⟨by rfl, ?_⟩) ?_ ?_
      rotate_left
      · intro w'
        go_simp
        with_reducible rfl
      rotate_left
      · simp only [Act.put, List.setIfInBounds_toArray, List.set_cons_zero, List.set_cons_succ, i64_w, i32_w]
        rfl
      refine pure_ (i := 1) (N := some 24) (v := ?_) (a' := ?_) #[true, true, false, false, false, false, false, false, false, false, false, false, false, false] rfl rfl (any_of HT_.out (by kernel_rfl)) (fun _ _ _ h => h) (Or.inl ⟨by rfl, ?_⟩) ?_ ?_
      rotate_left
      · intro w'
        go_simp
        with_reducible rfl
      rotate_left
      · simp only [Act.put, List.setIfInBounds_toArray, List.set_cons_zero, List.set_cons_succ, i64_w, i32_w]
        rfl
      refine pure_ (i := 2) (N := some 25) (v := ?_) (a' := ?_) #[true, true, true, false, false, false, false, false, false, false, false, false, false, false] rfl rfl (any_of HT_.out (by kernel_rfl)) (fun _ _ _ h => h) (Or.inl ⟨by rfl, ?_⟩) ?_ ?_
      rotate_left
      · intro w'
        go_simp
        with_reducible rfl
      rotate_left
      · simp only [Act.put, List.setIfInBounds_toArray, List.set_cons_zero, List.set_cons_succ, i64_w, i32_w]
        rfl
      refine pure_ (i := 3) (N := some 26) (v := ?_) (a' := ?_) #[true, true, true, true, false, false, false, false, false, false, false, false, false, false] rfl rfl (any_of HT_.out (by kernel_rfl)) (fun _ _ _ h => h) (Or.inl ⟨by rfl, ?_⟩) ?_ ?_
      rotate_left
      · intro w'
        go_simp
        with_reducible rfl
      rotate_left
      · simp only [Act.put, List.setIfInBounds_toArray, List.set_cons_zero, List.set_cons_succ, i64_w, i32_w]
        rfl
      refine pure_ (i := 5) (N := some 28) (v := ?_) (a' := ?_) #[true, true, true, true, false, true, false, false, false, false, false, false, false, false] rfl rfl (any_of HT_.out (by kernel_rfl)) (fun _ _ _ h => h) (Or.inl ⟨by rfl, ?_⟩) ?_ ?_
      rotate_left
      · intro w'
        go_simp
        with_reducible rfl
      rotate_left
      · simp only [Act.put, List.setIfInBounds_toArray, List.set_cons_zero, List.set_cons_succ, i64_w, i32_w]
        rfl
      refine pure_ (i := 8) (N := some 31) (v := ?_) (a' := ?_) #[true, true, true, true, false, true, false, false, true, false, false, false, false, false] rfl rfl (any_of HT_.out (by kernel_rfl)) (fun _ _ _ h => h) (Or.inl ⟨by rfl, ?_⟩) ?_ ?_
      rotate_left
      · intro w'
        go_simp
        with_reducible rfl
      rotate_left
      · simp only [Act.put, List.setIfInBounds_toArray, List.set_cons_zero, List.set_cons_succ, i64_w, i32_w]
        rfl
      refine take_ (i := 4) (N := some 27) (v := ?_) (a' := ?_) #[true, true, true, true, true, true, false, false, true, false, false, false, false, false] rfl rfl (take_ofW HT_.out HW_.out (by kernel_rfl)) (fun _ _ _ h => h) (Or.inl ⟨by rfl, ?_⟩) hHeld ?_ ?_
      rotate_left
      · rintro w' ⟨s0, s1, s2⟩
        go_simp
        with_reducible rfl
      rotate_left
      · simp only [Act.put, List.setIfInBounds_toArray, List.set_cons_zero, List.set_cons_succ, i64_w, i32_w]
        rfl
      refine take_ (i := 6) (N := some 29) (v := ?_) (a' := ?_) #[true, true, true, true, true, true, true, false, true, false, false, false, false, false] rfl rfl (take_ofW HT_.out HW_.out (by kernel_rfl)) (fun _ _ _ h => h) (Or.inl ⟨by rfl, ?_⟩) hHeld ?_ ?_
      rotate_left
      · rintro w' ⟨s0, s1, s2⟩
        go_simp
        with_reducible rfl
      rotate_left
      · simp only [Act.put, List.setIfInBounds_toArray, List.set_cons_zero, List.set_cons_succ, i64_w, i32_w]
        rfl
      refine pure_ (i := 7) (N := some 30) (v := ?_) (a' := ?_) #[true, true, true, true, true, true, true, true, true, false, false, false, false, false] rfl rfl (any_of HT_.out (by kernel_rfl)) (fun _ _ _ h => h) (Or.inl ⟨by rfl, ?_⟩) ?_ ?_
      rotate_left
      · intro w'
        go_simp
        with_reducible rfl
      rotate_left
      · simp only [Act.put, List.setIfInBounds_toArray, List.set_cons_zero, List.set_cons_succ, i64_w, i32_w]
        rfl
      refine take_ (i := 9) (N := some 32) (v := ?_) (a' := ?_) #[true, true, true, true, true, true, true, true, true, true, false, false, false, false] rfl rfl (take_ofW HT_.out HW_.out (by kernel_rfl)) (fun _ _ _ h => h) (Or.inl ⟨by rfl, ?_⟩) hHeld ?_ ?_
      rotate_left
      · rintro w' ⟨s0, s1, s2⟩
        go_simp
        with_reducible rfl
      rotate_left
      · simp only [Act.put, List.setIfInBounds_toArray, List.set_cons_zero, List.set_cons_succ, i64_w, i32_w]
        rfl
      refine pure_ (i := 10) (N := some 33) (v := ?_) (a' := ?_) #[true, true, true, true, true, true, true, true, true, true, true, false, false, false] rfl rfl (any_of HT_.out (by kernel_rfl)) (fun _ _ _ h => h) (Or.inl ⟨by rfl, ?_⟩) ?_ ?_
      rotate_left
      · intro w'
        go_simp
        with_reducible rfl
      rotate_left
      · simp only [Act.put, List.setIfInBounds_toArray, List.set_cons_zero, List.set_cons_succ, i64_w, i32_w]
        rfl
      refine last_ (i := 11) (N := some 34) #[true, true, true, true, true, true, true, true, true, true, true, true, false, false] rfl rfl (one_of HT_.out (by kernel_rfl)) (by decide) (fun K hK => ?_)
      refine value_ (w1 := ?_) (v := ?_) (by rfl) rfl ?_ ?_
      rotate_left 2
      · go_simp
        constructor
        · rfl
        · rfl
      refine hK.out _ _ ?_
      clear hK K
      refine norm_ (a' := ?_) ?_ ?_
      rotate_left
      · show Act.put _ (some 34) _ = _
        simp only [Act.put, List.setIfInBounds_toArray, List.set_cons_zero, List.set_cons_succ, i64_w, i32_w]
        rfl
      refine last_ (i := 12) (N := some 35) #[true, true, true, true, true, true, true, true, true, true, true, true, true, false] rfl rfl (one_of HT_.out (by kernel_rfl)) (by decide) (fun K hK => ?_)
      refine Kd.R_append_step (Kd.int .i64) w.heap.size (by rfl) (.tmp 23) (.tmp 34) 185 2 (.int .i64 0) 8 rfl Tryz.underlying185 infoI64 rfl (by decide) (by omega) (.slice (some ad2) (psums (row.take i.toNat)).length c2) (psums (row.take i.toNat)) (wrap64 ((wrap64 ((secs (row.take i.toNat)) + ((rd_T114 row i).f1))) - ((rd_T114 row i).f0))) [.int .i64 (wrap64 ((wrap64 ((secs (row.take i.toNat)) + ((rd_T114 row i).f1))) - ((rd_T114 row i).f0)))] (fun _ => True) (fun _ => False) rfl rfl ?aP (fun _ hk => hk.elim) ?aF ?aO (Below.refl _ _) ?aS ?aL ?_
      (case aP => exact rfl)
      (case aF => exact (fun _ _ => trivial))
      (case aO => exact HO2.out)
      (case aS => exact HB2.out.size)
      (case aL => have := HLT.out; have := HG.out; omega)
      intro v1_ w1_ ho_ hb_ hg_ hat_
      have HOa := Aside0.mk ho_
      have HOaB := Aside0.mk hb_
      have HOaG := Aside0.mk hg_
      clear ho_ hb_ hg_ hat_
      refine hK.out _ _ ?_
      clear hK K
      refine norm_ (a' := ?_) ?_ ?_
      rotate_left
      · show Act.put _ (some 35) _ = _
        simp only [Act.put, List.setIfInBounds_toArray, List.set_cons_zero, List.set_cons_succ, i64_w, i32_w]
        rfl
      refine pure_ (i := 13) (N := some 3) (v := ?_) (a' := ?_) #[true, true, true, true, true, true, true, true, true, true, true, true, true, true] rfl rfl (any_of HT_.out (by kernel_rfl)) (fun _ _ _ h => h) (Or.inl ⟨by rfl, ?_⟩) ?_ ?_
      rotate_left
      · intro w'
        go_simp
        with_reducible rfl
      rotate_left
      · simp only [Act.put, List.setIfInBounds_toArray, List.set_cons_zero, List.set_cons_succ, i64_w, i32_w]
        rfl
      refine done_ (done_of HT_.out (by kernel_rfl)) ?_
      go_wp2
      have hv : wrap64 (wrap64 (secs (row.take i.toNat) + (rd_T114 row i).f1) - (rd_T114 row i).f0) = secs (row.take i.toNat) + (rd_T114 row i).f1 - (rd_T114 row i).f0 := by
        have h1 := (HOK.out.take i.toNat).secs (by omega)
        have h2 := HM.out
        unfold wrap64
        omega
      rw [hv] at HOa
      have hn := HN.out
      rw [show ((i.toNat : Nat) : Int) = i by have := HG.out; omega] at hn
      go_roundg (gk - 1)
      case measure => have := HG.out; omega
      case rel => exact ⟨i + 1, (by have := HG.out; first | rfl | (unfold wrap64; congr 1; omega) | go_num), ⟨by have := HG.out; omega, by have := HG.out; omega⟩, ⟨by rw [show (i + 1).toNat = i.toNat + 1 by have := HG.out; omega, hn]; exact HOa.out⟩, ⟨HB2.out.trans HOaB.out⟩⟩
    · have hi' : i = row.length := by have := HG.out; omega
      have HO1 := HO.out
      rw [hi', Int.toNat_natCast, List.take_length] at HO1
      have HO2 := Aside0.mk HO1
      clear HO HO1 hi'
      go_wp2
      go_ret
      exact ⟨_, rfl, HO2.out, HB.out⟩
end Go.Proofs.YtepldlnmeenlbaaGreat.Own
namespace Go.Proofs.YtepldlnmeenlbaaGreat.Own
open Go.RowKit Go.Proofs Go.Proofs.YtepldlnmeenlbaaGreatW.PrintWords Go.Proofs.YtepldlnmeenlbaaGreatW.PrintLast Go.Proofs.YtepldlnmeenlbaaGreatW.PrintMore Go.Proofs.YtepldlnmeenlbaaGreat.Base
def cellObj (d s m k : Int) (bf v : Value) : Obj := .cells #[.int .u32 d, .int .i32 s, .int .u32 0, .int .u32 m, .int .i64 k, bf, v] 239 (0, 0)
def sumsFn (pb : Nat) : Value := .func (.func 122) #[.pointer (some ⟨pb, 0, none⟩)] #[]
abbrev Upd (b : Nat) (w w' : World) : Prop := w.grownBy w' (some b)
theorem Upd.refl (b : Nat) (w : World) : Upd b w w := ⟨rfl, rfl, rfl, Nat.le_refl _, fun _ _ _ => rfl⟩
theorem Upd.trans {b : Nat} {u v w : World} (h : Upd b u v) (k : Upd b v w) : Upd b u w :=
  ⟨k.os.trans h.os, k.tape.trans h.tape, k.output.trans h.output, Nat.le_trans h.size k.size, fun i hi hne => (k.block i (Nat.lt_of_lt_of_le hi h.size) hne).trans (h.block i hi hne)⟩
theorem Upd.set {b : Nat} {u v : World} (h : Upd b u v) (i : Nat) (x : Value) : Upd b u (v.setCell ⟨b, i, none⟩ x) :=
  h.trans ⟨rfl, rfl, rfl, by simp, fun k _ hne => Below.heap_setCell _ _ _ _ (fun e => hne (by rw [e]))⟩
theorem Upd.drew {b : Nat} {u v : World} (h : Upd b u v) : Upd b u v.drew := ⟨h.os, h.tape, h.output, h.size, h.block⟩
theorem Upd.alloc {b : Nat} {u v : World} (h : Upd b u v) (o : Obj) : Upd b u (v.alloc o) := h.trans (World.grownBy_alloc v o _)
theorem Upd.of_below {b : Nat} {u v : World} (h : Below u.heap.size u v) : Upd b u v := ⟨h.os, h.tape, h.output, h.size, fun k hk _ => h.block k hk⟩
theorem Upd.then {b : Nat} {u v w : World} (h : Upd b u v) (k : Below v.heap.size v w) : Upd b u w := h.trans (Upd.of_below k)
theorem Upd.below {b n : Nat} {u v : World} (h : Upd b u v) (hn : n ≤ u.heap.size) (hb : n ≤ b) : Below n u v :=
  ⟨h.os, h.tape, h.output, h.size, fun k hk => h.block k (by omega) (fun e => by injection e with e; omega)⟩
theorem Upd.blk {b g : Nat} {u v : World} {o : Obj} (h : Upd b u v) (hg : u.heap[g]? = some o) (hne : g ≠ b) : v.heap[g]? = some o :=
  (h.block g (blk_lt hg) (fun e => hne (by injection e))).trans hg
set_option maxHeartbeats 1600000 in
set_option maxRecDepth 100000 in
theorem fill_any (cb pb : Nat) (A : Option Addr) (c : Nat) (row : List S114) (m k : Int) (lv : Value) (w : World)
    (hcb : w.heap[cb]? = some (cellObj 0 1 m k (sumsFn pb) lv)) (hne : pb ≠ cb)
    (hw : w.heap[pb]? = some (.cells #[.slice A row.length c, .pointer (some ⟨cb, 0, none⟩)] 199 (0, 0))) (hr : Kd.C k114 w A row.length row) (hc : row.length ≤ c) (hok : RowOk 604800 row) :
    Calls Tryz.prog 153 #[.pointer (some ⟨cb, 0, none⟩)] w fun e w' => e = .returned (.tuple #[]) ∧ ∃ v', w'.heap[cb]? = some (cellObj 0 1 1 k .nilFunc v') ∧ Kd.R (Kd.int .i64) 2 w' w.heap.size (fun k => k ≠ cb) v' (psums row) ∧ Upd cb w w' := by
  have HR := Aside0.mk hr
  have HOK := Aside0.mk hok
  have HW := Aside0.mk hw
  have HC := Aside0.mk hcb
  have c5 : w.cell? ⟨cb, 5, none⟩ = some (sumsFn pb) := (blk_cell hcb 5).trans rfl
  unfold sumsFn at c5
  have hneq : ∀ (fn : Fn) (first captured : Array Value) (w : World), Sem.run Tryz.prog (binOp BinOp.neq 201 (Value.func fn first captured) Value.nilFunc) w = .ok (.bool true) w := fun _ _ _ _ => by kernel_rfl
  clear hr hok hw hcb
  go_enter Tryz.func153, Tryz.ntmps153
  go_wp2_with (go_at_call 122; refine (sums_any pb A c _ row _ HW.out HR.out hc HOK.out).mono ?_; rintro e w1 ⟨v1, rfl, HV0, hb⟩; obtain ⟨A1, k1, rfl, hl1, hC1⟩ := Kd.R_reads HV0; have HV := Aside0.mk HV0; have HB := Aside0.mk hb; have BK := Aside0.mk (blk_below HC.out hb); clear HV0 hC1 hl1 hb; have d6 : w1.cell? ⟨cb, 6, none⟩ = some lv := (blk_cell BK.out 6).trans rfl; have d5 : w1.cell? ⟨cb, 5, none⟩ = some (.func (.func 122) #[.pointer (some ⟨pb, 0, none⟩)] #[]) := (blk_cell BK.out 5).trans rfl; have f6 : w1.frozen? ⟨cb, 6, none⟩ = false := blk_frozen BK.out 6; have f5 : w1.frozen? ⟨cb, 5, none⟩ = false := blk_frozen BK.out 5)
  have BK2 : Aside0 (((w1.setCell ⟨cb, 6, none⟩ (.slice A1 (psums row).length k1)).setCell ⟨cb, 5, none⟩ .nilFunc).heap[cb]? = some (cellObj 0 1 m k .nilFunc (.slice A1 (psums row).length k1))) := ⟨blk_put (cs := #[.int .u32 0, .int .i32 1, .int .u32 0, .int .u32 m, .int .i64 k, sumsFn pb, .slice A1 (psums row).length k1]) (blk_put (cs := #[.int .u32 0, .int .i32 1, .int .u32 0, .int .u32 m, .int .i64 k, sumsFn pb, lv]) BK.out 6 _ rfl) 5 _ rfl⟩
  have U2 : Aside0 (Upd cb w ((w1.setCell ⟨cb, 6, none⟩ (.slice A1 (psums row).length k1)).setCell ⟨cb, 5, none⟩ .nilFunc)) := ⟨((Upd.of_below HB.out).set 6 _).set 5 _⟩
  have HV1 : Aside0 (Kd.R (Kd.int .i64) 2 w1 w.heap.size (fun k => k ≠ cb) (.slice A1 (psums row).length k1) (psums row)) := ⟨Kd.R_mono (Kd.R_bound HV.out) (fun k hk => by have := blk_lt HC.out; have := hk.2.1; omega)⟩
  have HV2 : Aside0 (Kd.R (Kd.int .i64) 2 ((w1.setCell ⟨cb, 6, none⟩ (.slice A1 (psums row).length k1)).setCell ⟨cb, 5, none⟩ .nilFunc) w.heap.size (fun k => k ≠ cb) (.slice A1 (psums row).length k1) (psums row)) := ⟨Kd.R_far (p := ⟨cb, 5, none⟩) (Kd.R_far (p := ⟨cb, 6, none⟩) HV1.out (fun _ h => h) _) (fun _ h => h) _⟩
  generalize ((w1.setCell ⟨cb, 6, none⟩ (.slice A1 (psums row).length k1)).setCell ⟨cb, 5, none⟩ .nilFunc) = w2 at BK2 U2 HV2 ⊢
  refine (store_true cb 3 (.int .u32 m) _ ((blk_cell BK2.out 3).trans rfl) (blk_frozen BK2.out 3)).mono ?_
  rintro e w3 ⟨rfl, rfl⟩
  go_wp2
  go_end0
  exact ⟨rfl, _, blk_put (cs := #[.int .u32 0, .int .i32 1, .int .u32 0, .int .u32 m, .int .i64 k, .nilFunc, .slice A1 (psums row).length k1]) (blk_drew BK2.out) 3 _ rfl, Kd.R_far (p := ⟨cb, 3, none⟩) (Kd.R_drew HV2.out) (fun _ h => h) _, (U2.out.drew).set 3 _⟩
set_option maxHeartbeats 1600000 in
set_option maxRecDepth 100000 in
theorem slow_any (cb pb : Nat) (A : Option Addr) (c n : Nat) (row : List S114) (m k : Int) (lv : Value) (w : World)
    (hcb : w.heap[cb]? = some (cellObj 0 0 m k (sumsFn pb) lv)) (hne : pb ≠ cb)
    (hw : w.heap[pb]? = some (.cells #[.slice A row.length c, .pointer (some ⟨cb, 0, none⟩)] 199 (0, 0))) (hr : Kd.R k114 114 w n (fun k => k ≠ cb) (.slice A row.length c) row) (hc : row.length ≤ c) (hok : RowOk 604800 row) :
    Calls Tryz.prog 151 #[.pointer (some ⟨cb, 0, none⟩), .func (.func 153) #[.pointer (some ⟨cb, 0, none⟩)] #[]] w fun e w' => e = .returned (.tuple #[]) ∧ ∃ v', w'.heap[cb]? = some (cellObj 1 0 1 k .nilFunc v') ∧ Kd.R (Kd.int .i64) 2 w' w.heap.size (fun k => k ≠ cb) v' (psums row) ∧ Upd cb w w' := by
  have HC := Aside0.mk hcb
  have HOK := Aside0.mk hok
  have c1 : w.cell? ⟨cb, 1, none⟩ = some (.int .i32 0) := (blk_cell hcb 1).trans rfl
  have f1 : w.frozen? ⟨cb, 1, none⟩ = false := blk_frozen hcb 1
  have BK1 : Aside0 ((w.setCell ⟨cb, 1, none⟩ (.int .i32 1)).heap[cb]? = some (cellObj 0 1 m k (sumsFn pb) lv)) := ⟨blk_put (cs := #[.int .u32 0, .int .i32 0, .int .u32 0, .int .u32 m, .int .i64 k, sumsFn pb, lv]) hcb 1 _ rfl⟩
  have PW1 : Aside0 ((w.setCell ⟨cb, 1, none⟩ (.int .i32 1)).heap[pb]? = some (.cells #[.slice A row.length c, .pointer (some ⟨cb, 0, none⟩)] 199 (0, 0))) := ⟨(Below.heap_setCell _ _ _ _ hne).trans hw⟩
  have HR1 := Aside0.mk (Kd.R_reads' (Kd.R_far (p := ⟨cb, 1, none⟩) hr (fun _ h => h) (.int .i32 1))).2.2
  have U1 : Aside0 (Upd cb w (w.setCell ⟨cb, 1, none⟩ (.int .i32 1))) := ⟨(Upd.refl cb w).set 1 _⟩
  have hnot : ∀ (x : Bool) (w : World), (Op.unary .not (.bool x)).run Tryz.prog w = .ok (.bool (!x)) w := fun _ _ => rfl
  have HSZ := Aside0.mk (show (w.setCell ⟨cb, 1, none⟩ (.int .i32 1)).heap.size = w.heap.size by simp)
  clear hcb hw hr hok
  go_enter_defers Tryz.func151, Tryz.ntmps151
  go_wp2_with (go_at_call 167; refine (lock_free cb 1 _ c1 f1).mono ?_; rintro e w' ⟨rfl, rfl⟩)
  clear c1 f1
  generalize (w.setCell ⟨cb, 1, none⟩ (.int .i32 1)) = w1 at BK1 PW1 HR1 U1 HSZ ⊢
  go_wp2_with (first | (go_at_call 150; refine (load_bool cb 0 0 _ ((blk_cell BK1.out 0).trans rfl)).mono ?_; rintro e w' ⟨rfl, rfl⟩) | (go_at_call 153; refine (fill_any cb pb A c row m k lv _ BK1.out hne PW1.out HR1.out hc HOK.out).mono ?_; rintro e w2 ⟨rfl, v', B2, R2, U2⟩))
  refine leaves_cons (f := 152) (args := #[.pointer (some ⟨cb, 0, none⟩), .bool true]) (by simp) (by simp [go_sem]) ?_
  refine (store_deferred cb 0 (.int .u32 0) .returning _ ((blk_cell B2 0).trans rfl) (blk_frozen B2 0)).mono ?_
  rintro e u' w3 ⟨rfl, rfl, rfl⟩
  have B3 : (w2.drew.setCell ⟨cb, 0, none⟩ (.int .u32 1)).heap[cb]? = some (cellObj 1 1 1 k .nilFunc v') := blk_put (cs := #[.int .u32 0, .int .i32 1, .int .u32 0, .int .u32 1, .int .i64 k, .nilFunc, v']) (blk_drew B2) 0 _ rfl
  have R3 : Kd.R (Kd.int .i64) 2 (w2.drew.setCell ⟨cb, 0, none⟩ (.int .u32 1)) w1.heap.size (fun k => k ≠ cb) v' (psums row) := Kd.R_far (p := ⟨cb, 0, none⟩) (Kd.R_drew R2) (fun _ h => h) _
  have U3 : Upd cb w (w2.drew.setCell ⟨cb, 0, none⟩ (.int .u32 1)) := ((U1.out.trans U2).drew).set 0 _
  generalize (w2.drew.setCell ⟨cb, 0, none⟩ (.int .u32 1)) = w3 at B3 R3 U3 ⊢
  refine leaves_cons (f := 168) (args := #[.pointer (some ⟨cb, 1, none⟩)]) (by simp [settle]) (by simp [go_sem]) ?_
  refine (unlock_deferred cb 1 _ _ ((blk_cell B3 1).trans rfl) (blk_frozen B3 1)).mono ?_
  rintro e u' w4 ⟨rfl, rfl, rfl⟩
  have hfin : ∃ v', (w3.setCell ⟨cb, 1, none⟩ (.int .i32 0)).heap[cb]? = some (cellObj 1 0 1 k .nilFunc v') ∧ Kd.R (Kd.int .i64) 2 (w3.setCell ⟨cb, 1, none⟩ (.int .i32 0)) w.heap.size (fun k => k ≠ cb) v' (psums row) ∧ Upd cb w (w3.setCell ⟨cb, 1, none⟩ (.int .i32 0)) :=
    ⟨v', blk_put (cs := #[.int .u32 1, .int .i32 1, .int .u32 0, .int .u32 1, .int .i64 k, .nilFunc, v']) B3 1 _ rfl, by rw [← HSZ.out]; exact Kd.R_far (p := ⟨cb, 1, none⟩) R3 (fun _ h => h) _, U3.set 1 _⟩
  simpa [Leaves, settle, results, Tryz.results151] using hfin
def CellAt (w : World) (n cb pb : Nat) (row : List S114) : Prop :=
  ∃ m k, (∃ lv, w.heap[cb]? = some (cellObj 0 0 m k (sumsFn pb) lv)) ∨ (∃ v, w.heap[cb]? = some (cellObj 1 0 m k .nilFunc v) ∧ Kd.R (Kd.int .i64) 2 w n (fun k => k ≠ cb) v (psums row))
structure PlanAt (w : World) (n pb cb : Nat) (row : List S114) : Prop where
  ok : RowOk 604800 row
  npb : n ≤ pb
  ncb : n ≤ cb
  ne : pb ≠ cb
  blk : ∃ A c, w.heap[pb]? = some (.cells #[.slice A row.length c, .pointer (some ⟨cb, 0, none⟩)] 199 (0, 0)) ∧ row.length ≤ c ∧ Kd.R k114 114 w n (fun k => k ≠ cb) (.slice A row.length c) row
  cell : CellAt w n cb pb row
theorem CellAt.keep {w w' : World} {n cb pb : Nat} {row : List S114} (h : CellAt w n cb pb row) (hm : ∀ k, k < w.heap.size → n ≤ k → w'.heap[k]? = w.heap[k]?) (hn : n ≤ cb) : CellAt w' n cb pb row := by
  obtain ⟨m, k, ⟨lv, hb⟩ | ⟨v, hb, hr⟩⟩ := h
  · exact ⟨m, k, .inl ⟨lv, (hm cb (blk_lt hb) hn).trans hb⟩⟩
  · exact ⟨m, k, .inr ⟨v, (hm cb (blk_lt hb) hn).trans hb, Kd.R_mono (Kd.R_step (Kd.R_bound hr) (fun k hk hlt => hm k hlt hk.2.1)) (fun _ hk => hk.1)⟩⟩
theorem PlanAt.keep {w w' : World} {n cb pb : Nat} {row : List S114} (h : PlanAt w n pb cb row) (hm : ∀ k, k < w.heap.size → n ≤ k → w'.heap[k]? = w.heap[k]?) : PlanAt w' n pb cb row := by
  obtain ⟨A, c, hb, hc, hr⟩ := h.blk
  exact ⟨h.ok, h.npb, h.ncb, h.ne, ⟨A, c, (hm pb (blk_lt hb) h.npb).trans hb, hc, Kd.R_mono (Kd.R_step (Kd.R_bound hr) (fun k hk hlt => hm k hlt hk.2.1)) (fun _ hk => hk.1)⟩, h.cell.keep hm h.ncb⟩
theorem PlanAt.below {w w' : World} {n cb pb : Nat} {row : List S114} (h : PlanAt w n pb cb row) (hb : Below w.heap.size w w') : PlanAt w' n pb cb row := h.keep (fun k hk _ => hb.block k hk)
set_option maxHeartbeats 1600000 in
set_option maxRecDepth 100000 in
theorem do_first (cb pb : Nat) (A : Option Addr) (c n : Nat) (row : List S114) (m k : Int) (lv : Value) (w : World)
    (hcb : w.heap[cb]? = some (cellObj 0 0 m k (sumsFn pb) lv)) (hne : pb ≠ cb)
    (hw : w.heap[pb]? = some (.cells #[.slice A row.length c, .pointer (some ⟨cb, 0, none⟩)] 199 (0, 0))) (hr : Kd.R k114 114 w n (fun k => k ≠ cb) (.slice A row.length c) row) (hc : row.length ≤ c) (hok : RowOk 604800 row) :
    Calls Tryz.prog 134 #[.pointer (some ⟨cb, 0, none⟩), .func (.func 153) #[.pointer (some ⟨cb, 0, none⟩)] #[]] w fun e w' => e = .returned (.tuple #[]) ∧ ∃ v', w'.heap[cb]? = some (cellObj 1 0 1 k .nilFunc v') ∧ Kd.R (Kd.int .i64) 2 w' w.heap.size (fun k => k ≠ cb) v' (psums row) ∧ Upd cb w w' := by
  have H := Aside0.mk (slow_any cb pb A c n row m k lv w hcb hne hw hr hc hok)
  have HC := Aside0.mk hcb
  have hnot : ∀ (x : Bool) (w : World), (Op.unary .not (.bool x)).run Tryz.prog w = .ok (.bool (!x)) w := fun _ _ => rfl
  clear hcb hw hr hok
  go_enter Tryz.func134, Tryz.ntmps134
  go_wp2_with (first | (go_at_call 150; refine (load_bool cb 0 0 _ ((blk_cell HC.out 0).trans rfl)).mono ?_; rintro e w' ⟨rfl, rfl⟩) | (go_at_call 151; refine H.out.mono ?_; rintro e w2 ⟨rfl, h⟩))
  go_end0
  exact ⟨rfl, h⟩
theorem do_done (cb : Nat) (m k : Int) (v fv : Value) (w : World) (hcb : w.heap[cb]? = some (cellObj 1 0 m k .nilFunc v)) :
    Calls Tryz.prog 134 #[.pointer (some ⟨cb, 0, none⟩), fv] w fun e w' => e = .returned (.tuple #[]) ∧ w = w' := by
  have HC := Aside0.mk hcb
  have hnot : ∀ (x : Bool) (w : World), (Op.unary .not (.bool x)).run Tryz.prog w = .ok (.bool (!x)) w := fun _ _ => rfl
  clear hcb
  go_enter Tryz.func134, Tryz.ntmps134
  go_wp2_with (go_at_call 150; refine (load_bool cb 0 1 _ ((blk_cell HC.out 0).trans rfl)).mono ?_; rintro e w' ⟨rfl, rfl⟩)
  go_end0
  exact ⟨rfl, rfl⟩
set_option maxHeartbeats 1600000 in
set_option maxRecDepth 100000 in
theorem get_any (cb pb n : Nat) (row : List S114) (w : World) (h : PlanAt w n pb cb row) (hn : n ≤ w.heap.size) :
    Calls Tryz.prog 137 #[.pointer (some ⟨cb, 0, none⟩)] w fun e w' => ∃ A c, e = .returned (.slice A (psums row).length c) ∧ PlanAt w' n pb cb row ∧ Kd.C (Kd.int .i64) w' A (psums row).length (psums row) ∧ (psums row).length ≤ c ∧ Upd cb w w' := by
  obtain ⟨A, c, hb, hc, hr⟩ := h.blk
  obtain ⟨m, k, hcell⟩ := h.cell
  have HP := Aside0.mk h
  have hmf : ∀ (fn : Fn) (first cap : Array Value) (w : World), (Instr.makeFunc fn first cap).run Tryz.prog w = .ok (.func fn first cap) w := fun _ _ _ _ => rfl
  rcases hcell with ⟨lv, hcb⟩ | ⟨v, hcb, hv⟩
  · have c4 : w.cell? ⟨cb, 4, none⟩ = some (.int .i64 k) := (blk_cell hcb 4).trans rfl
    have f4 : w.frozen? ⟨cb, 4, none⟩ = false := blk_frozen hcb 4
    have B1 : Aside0 ((w.setCell ⟨cb, 4, none⟩ (.int .i64 (wrap64 (k + 1)))).heap[cb]? = some (cellObj 0 0 m (wrap64 (k + 1)) (sumsFn pb) lv)) := ⟨blk_put (cs := #[.int .u32 0, .int .i32 0, .int .u32 0, .int .u32 m, .int .i64 k, sumsFn pb, lv]) hcb 4 _ rfl⟩
    have P1 : Aside0 ((w.setCell ⟨cb, 4, none⟩ (.int .i64 (wrap64 (k + 1)))).heap[pb]? = some (.cells #[.slice A row.length c, .pointer (some ⟨cb, 0, none⟩)] 199 (0, 0))) := ⟨(Below.heap_setCell _ _ _ _ h.ne).trans hb⟩
    have R1 : Aside0 (Kd.R k114 114 (w.setCell ⟨cb, 4, none⟩ (.int .i64 (wrap64 (k + 1)))) n (fun k => k ≠ cb) (.slice A row.length c) row) := ⟨Kd.R_far (p := ⟨cb, 4, none⟩) hr (fun _ h => h) _⟩
    have U1 : Aside0 (Upd cb w (w.setCell ⟨cb, 4, none⟩ (.int .i64 (wrap64 (k + 1))))) := ⟨(Upd.refl cb w).set 4 _⟩
    clear hcb hb hr h
    go_enter Tryz.func137, Tryz.ntmps137
    go_wp2_with (go_at_call 133; refine (add_i64 cb 4 k 1 _ c4 f4).mono ?_; rintro e w' ⟨rfl, rfl⟩)
    generalize (w.setCell ⟨cb, 4, none⟩ (.int .i64 (wrap64 (k + 1)))) = w1 at B1 P1 R1 U1 ⊢
    go_wp2_with (go_at_call 134; refine (do_first cb pb A c n row m _ lv _ B1.out HP.out.ne P1.out R1.out hc HP.out.ok).mono ?_; rintro e w2 ⟨rfl, v', B2', R2', U2'⟩; obtain ⟨A2, k2, rfl, hl2, hC2⟩ := Kd.R_reads R2'; have c6 : w2.cell? ⟨cb, 6, none⟩ = some (.slice A2 (psums row).length k2) := (blk_cell B2' 6).trans rfl; have B2 := Aside0.mk B2'; have R2 := Aside0.mk R2'; have U2 := Aside0.mk U2'; have C2 := Aside0.mk hC2; clear B2' R2' U2' hC2)
    go_ret
    have hsz : n ≤ w1.heap.size := Nat.le_trans hn U1.out.size
    refine ⟨A2, k2, rfl, ⟨HP.out.ok, HP.out.npb, HP.out.ncb, HP.out.ne, ⟨A, c, U2.out.blk P1.out HP.out.ne, hc, Kd.R_grown R1.out U2.out (fun k hk e => hk (by injection e))⟩, ⟨_, _, .inr ⟨_, B2.out, Kd.R_lower R2.out hsz⟩⟩⟩, C2.out, hl2, U1.out.trans U2.out⟩
  · obtain ⟨A2, k2, rfl, hl2, hC2⟩ := Kd.R_reads hv
    have c4 : w.cell? ⟨cb, 4, none⟩ = some (.int .i64 k) := (blk_cell hcb 4).trans rfl
    have f4 : w.frozen? ⟨cb, 4, none⟩ = false := blk_frozen hcb 4
    have B1 : Aside0 ((w.setCell ⟨cb, 4, none⟩ (.int .i64 (wrap64 (k + 1)))).heap[cb]? = some (cellObj 1 0 m (wrap64 (k + 1)) .nilFunc (.slice A2 (psums row).length k2))) := ⟨blk_put (cs := #[.int .u32 1, .int .i32 0, .int .u32 0, .int .u32 m, .int .i64 k, .nilFunc, .slice A2 (psums row).length k2]) hcb 4 _ rfl⟩
    have P1 : Aside0 ((w.setCell ⟨cb, 4, none⟩ (.int .i64 (wrap64 (k + 1)))).heap[pb]? = some (.cells #[.slice A row.length c, .pointer (some ⟨cb, 0, none⟩)] 199 (0, 0))) := ⟨(Below.heap_setCell _ _ _ _ h.ne).trans hb⟩
    have R1 : Aside0 (Kd.R k114 114 (w.setCell ⟨cb, 4, none⟩ (.int .i64 (wrap64 (k + 1)))) n (fun k => k ≠ cb) (.slice A row.length c) row) := ⟨Kd.R_far (p := ⟨cb, 4, none⟩) hr (fun _ h => h) _⟩
    have V1 : Aside0 (Kd.R (Kd.int .i64) 2 (w.setCell ⟨cb, 4, none⟩ (.int .i64 (wrap64 (k + 1)))) n (fun k => k ≠ cb) (.slice A2 (psums row).length k2) (psums row)) := ⟨Kd.R_far (p := ⟨cb, 4, none⟩) hv (fun _ h => h) _⟩
    have U1 : Aside0 (Upd cb w (w.setCell ⟨cb, 4, none⟩ (.int .i64 (wrap64 (k + 1))))) := ⟨(Upd.refl cb w).set 4 _⟩
    clear hcb hb hr h hv hC2
    go_enter Tryz.func137, Tryz.ntmps137
    go_wp2_with (go_at_call 133; refine (add_i64 cb 4 k 1 _ c4 f4).mono ?_; rintro e w' ⟨rfl, rfl⟩)
    generalize (w.setCell ⟨cb, 4, none⟩ (.int .i64 (wrap64 (k + 1)))) = w1 at B1 P1 R1 V1 U1 ⊢
    have c6 : w1.cell? ⟨cb, 6, none⟩ = some (.slice A2 (psums row).length k2) := (blk_cell B1.out 6).trans rfl
    go_wp2_with (go_at_call 134; refine (do_done cb m _ _ _ _ B1.out).mono ?_; rintro e w2 ⟨rfl, rfl⟩)
    go_ret
    exact ⟨A2, k2, rfl, ⟨HP.out.ok, HP.out.npb, HP.out.ncb, HP.out.ne, ⟨A, c, P1.out, hc, R1.out⟩, ⟨_, _, .inr ⟨_, B1.out, V1.out⟩⟩⟩, (Kd.R_reads' V1.out).2.2, hl2, U1.out⟩
end Go.Proofs.YtepldlnmeenlbaaGreat.Own
namespace Go.Proofs.YtepldlnmeenlbaaGreat.Own
open Go.RowKit Go.Proofs Go.Proofs.YtepldlnmeenlbaaGreatW.PrintWords Go.Proofs.YtepldlnmeenlbaaGreatW.PrintLast Go.Proofs.YtepldlnmeenlbaaGreatW.PrintMore Go.Proofs.YtepldlnmeenlbaaGreat.Base
theorem wrap_id {x : Int} (h0 : -9223372036854775808 ≤ x) (h1 : x ≤ 9223372036854775807) : wrap64 x = x := by unfold wrap64; omega
theorem drop_at {l : List S114} {i : Nat} (h : i < l.length) : l.drop i = rd_T114 l i :: l.drop (i + 1) := by
  rw [rd_at l i h, List.drop_eq_getElem_cons h]
def okRow (lo : Int) : List S114 → Bool
  | [] => true
  | s :: r => decide (0 ≤ s.f0 ∧ s.f0 < s.f1 ∧ s.f1 ≤ 1125899906842624 ∧ lo ≤ s.f0) && okRow s.f1 r
def rowErr (l : List S114) : Int := if 32 < l.length then 21 else if okRow 0 l then 0 else 2
theorem right_eq (a b : Int) : span_Right.f a b = some (decide (0 ≤ a ∧ a < b ∧ b ≤ 1125899906842624)) := by
  unfold span_Right.f
  by_cases h1 : 0 ≤ a
  · rw [if_pos h1]
    by_cases h2 : a < b
    · rw [if_pos h2]; simp [h1, h2]
    · rw [if_neg h2]; simp [h2]
  · rw [if_neg h1]; simp [h1]
theorem row_l0 (l : List S114) (hl : l.length ≤ 1000000) : ∀ (d k i : Nat) (lo : Int), i + d = l.length → d < k → span_Row.l0 k lo l (l.length : Int) (i : Int) = some (if okRow lo (l.drop i) then 0 else 2) := by
  intro d
  induction d with
  | zero =>
    intro k i lo hi hk
    obtain ⟨k, rfl⟩ : ∃ m, k = m + 1 := ⟨k - 1, by omega⟩
    rw [List.drop_eq_nil_of_le (by omega)]
    simp only [span_Row.l0]
    rw [if_neg (by omega)]
    rfl
  | succ d ih =>
    intro k i lo hi hk
    obtain ⟨k, rfl⟩ : ∃ m, k = m + 1 := ⟨k - 1, by omega⟩
    have hlt : i < l.length := by omega
    rw [drop_at hlt]
    simp only [span_Row.l0]
    rw [if_pos (by omega), if_pos (by omega), if_pos (by omega), right_eq, wrap_id (by omega) (by omega)]
    simp only [Option.bind_some, decide_eq_true_eq]
    have ih' := ih k (i + 1) (rd_T114 l i).f1 (by omega) (by omega)
    rw [show ((i + 1 : Nat) : Int) = (i : Int) + 1 by omega] at ih'
    by_cases h : 0 ≤ (rd_T114 l i).f0 ∧ (rd_T114 l i).f0 < (rd_T114 l i).f1 ∧ (rd_T114 l i).f1 ≤ 1125899906842624
    · rw [if_pos h]
      by_cases h2 : (rd_T114 l i).f0 < lo
      · rw [if_pos h2]
        have e : okRow lo (rd_T114 l i :: l.drop (i + 1)) = false := by unfold okRow; rw [decide_eq_false (by omega)]; rfl
        rw [e]; rfl
      · rw [if_neg h2, ih']
        have e : okRow lo (rd_T114 l i :: l.drop (i + 1)) = okRow (rd_T114 l i).f1 (l.drop (i + 1)) := by
          conv => lhs; unfold okRow
          rw [decide_eq_true (by omega)]; rfl
        rw [e]
    · rw [if_neg h]
      have e : okRow lo (rd_T114 l i :: l.drop (i + 1)) = false := by unfold okRow; rw [decide_eq_false (by omega)]; rfl
      rw [e]; rfl
theorem row_eq (l : List S114) (k : Nat) (hk : 33 < k) : span_Row.f k l = some (rowErr l) := by
  unfold span_Row.f rowErr
  by_cases h : 32 < l.length
  · rw [if_pos (by omega), if_pos h]
  · rw [if_neg (by omega), if_neg h]
    exact row_l0 l (by omega) l.length k 0 0 (by omega) (by omega)
theorem okRow_from {lo : Int} {l : List S114} (h : okRow lo l = true) : RowFrom lo l ∧ ∀ s, s ∈ l → s.f1 ≤ 1125899906842624 := by
  induction l generalizing lo with
  | nil => exact ⟨trivial, fun s hs => by cases hs⟩
  | cons s r ih =>
    simp only [okRow, Bool.and_eq_true, decide_eq_true_eq] at h
    obtain ⟨a, b⟩ := ih h.2
    refine ⟨⟨h.1.2.2.2, h.1.2.1, a⟩, fun t ht => ?_⟩
    rcases List.mem_cons.1 ht with rfl | ht
    · exact h.1.2.2.1
    · exact b t ht
theorem rowErr_ok {l : List S114} (h : rowErr l = 0) : RowOk 1125899906842624 l := by
  unfold rowErr at h
  split at h
  · omega
  · split at h
    · rename_i h1 h2
      obtain ⟨a, b⟩ := okRow_from h2
      exact ⟨by omega, a, b⟩
    · omega
theorem row_any (A : Option Addr) (c : Nat) (l : List S114) (w : World) (hr : Kd.C k114 w A l.length l) (hc : l.length ≤ c) :
    Calls Tryz.prog 119 #[.slice A l.length c] w fun e w' => e = .returned (.int .i64 (rowErr l)) ∧ Below w.heap.size w w' :=
  span_Row.calls 40 A c l _ w hr hc (row_eq l 40 (by omega))
def lastEnd (l : List S114) : Int := match l.getLast? with | some s => s.f1 | none => 0
def weekErr (l : List S114) : Int := if rowErr l = 0 then (if 604800 < lastEnd l then 2 else 0) else rowErr l
theorem lastEnd_rd {l : List S114} (h : 0 < l.length) : lastEnd l = (rd_T114 l ((l.length : Int) - 1)).f1 := by
  unfold lastEnd rd_T114
  rw [List.getLast?_eq_getElem?, List.getD_eq_getElem?_getD, show ((l.length : Int) - 1).toNat = l.length - 1 by omega, List.getElem?_eq_getElem (by omega)]
  rfl
theorem RowFrom.le_last {lo : Int} {l : List S114} (h : RowFrom lo l) : ∀ s, s ∈ l → s.f1 ≤ lastEnd l := by
  induction l generalizing lo with
  | nil => intro s hs; cases hs
  | cons t r ih =>
    intro s hs
    cases r with
    | nil =>
      rcases List.mem_cons.1 hs with rfl | hs
      · exact Int.le_refl _
      · cases hs
    | cons u v =>
      have hl : lastEnd (t :: u :: v) = lastEnd (u :: v) := by simp [lastEnd, List.getLast?_cons_cons]
      rw [hl]
      rcases List.mem_cons.1 hs with rfl | hs
      · have h1 := ih h.2.2 u List.mem_cons_self
        have h2 := h.2.2.1
        have h3 := h.2.2.2.1
        omega
      · exact ih h.2.2 s hs
theorem weekErr_ok {l : List S114} (h : weekErr l = 0) : RowOk 604800 l := by
  unfold weekErr at h
  split at h
  · rename_i h1
    split at h
    · omega
    · have h2 := rowErr_ok h1
      exact ⟨h2.len, h2.row, fun s hs => by have := h2.row.le_last s hs; omega⟩
  · omega
end Go.Proofs.YtepldlnmeenlbaaGreat.Own
namespace Go.Proofs.YtepldlnmeenlbaaGreat.Own
open Go.RowKit Go.Proofs Go.Proofs.YtepldlnmeenlbaaGreatW.PrintWords Go.Proofs.YtepldlnmeenlbaaGreatW.PrintLast Go.Proofs.YtepldlnmeenlbaaGreatW.PrintMore Go.Proofs.YtepldlnmeenlbaaGreat.Base
theorem infoU8 : (Tryz.prog.info? 5).map (fun i => (i.zero, i.size, i.bytes)) = some (some (.int .u8 0), 1, 1) := by kernel_rfl
def NoU8 (o : Obj) : Prop := ∀ cs, o ≠ .cells cs 5 (0, 0)
theorem noU8 {cs : Array Value} {t : TypeId} (h : t ≠ 5) : NoU8 (.cells cs t (0, 0)) := fun cs' e => by injection e with _ e; exact h e
structure WUpd (n wb : Nat) (w w' : World) : Prop where
  os : w'.os = w.os
  tape : w'.tape = w.tape
  output : w'.output = w.output
  size : w.heap.size ≤ w'.heap.size
  block : ∀ (k : Nat) (o : Obj), w.heap[k]? = some o → k ≠ wb → (k < n ∨ NoU8 o) → w'.heap[k]? = some o
theorem WUpd.refl (n wb : Nat) (w : World) : WUpd n wb w w := ⟨rfl, rfl, rfl, Nat.le_refl _, fun _ _ h _ _ => h⟩
theorem WUpd.trans {n wb : Nat} {u v w : World} (h : WUpd n wb u v) (k : WUpd n wb v w) : WUpd n wb u w :=
  ⟨k.os.trans h.os, k.tape.trans h.tape, k.output.trans h.output, Nat.le_trans h.size k.size, fun i o hi hne hc => k.block i o (h.block i o hi hne hc) hne hc⟩
theorem WUpd.of_below {n wb : Nat} {u v : World} (h : Below u.heap.size u v) : WUpd n wb u v := ⟨h.os, h.tape, h.output, h.size, fun k o hk _ _ => (h.block k (blk_lt hk)).trans hk⟩
theorem WUpd.drew {n wb : Nat} {u v : World} (h : WUpd n wb u v) : WUpd n wb u v.drew := ⟨h.os, h.tape, h.output, h.size, h.block⟩
theorem WUpd.below {n wb : Nat} {u v : World} (h : WUpd n wb u v) (hn : n ≤ wb) (hs : n ≤ u.heap.size) : Below n u v :=
  ⟨h.os, h.tape, h.output, h.size, fun k hk => by
    have hlt : k < u.heap.size := by omega
    rw [Array.getElem?_eq_getElem hlt]
    exact h.block k _ (Array.getElem?_eq_getElem hlt) (by omega) (.inl hk)⟩
theorem WUpd.blk {n wb g t : Nat} {u v : World} {cs : Array Value} (h : WUpd n wb u v) (hb : u.heap[g]? = some (.cells cs t (0, 0))) (hne : g ≠ wb) (ht : t ≠ 5) : v.heap[g]? = some (.cells cs t (0, 0)) := h.block g _ hb hne (.inr (noU8 ht))
structure WrV (w : World) (n wb : Nat) (v : Value) (bs : List Int) : Prop where
  blk : w.heap[wb]? = some (.cells #[v] 31 (0, 0))
  row : Kd.R (Kd.int .u8) 5 w n (fun k => k ≠ wb) v bs
  size : n ≤ w.heap.size
def WrAt (w : World) (n wb : Nat) (bs : List Int) : Prop := ∃ v, WrV w n wb v bs
theorem WrV.ne {w : World} {n wb : Nat} {v : Value} {bs : List Int} (h : WrV w n wb v bs) : some wb ≠ v.ownBlock := fun e => h.row.1 wb e.symm rfl
theorem WrV.below {w w' : World} {n wb : Nat} {v : Value} {bs : List Int} (h : WrV w n wb v bs) (hb : Below w.heap.size w w') : WrV w' n wb v bs :=
  ⟨blk_below h.blk hb, Kd.R_below h.row hb, Nat.le_trans h.size hb.size⟩
theorem WrAt.below {w w' : World} {n wb : Nat} {bs : List Int} (h : WrAt w n wb bs) (hb : Below w.heap.size w w') : WrAt w' n wb bs := ⟨h.choose, h.choose_spec.below hb⟩
theorem WrAt.new (w : World) : WrAt (w.alloc (.cells #[.slice none 0 0] 31)) w.heap.size w.heap.size [] :=
  ⟨_, blk_new w _, Kd.R_nil _ _ _ _ _, by simp⟩
theorem WrV.app {W w1 : World} {n wb : Nat} {v v1 : Value} {bs bs' : List Int} (h : WrV W n wb v bs) (hr : Kd.R (Kd.int .u8) 5 w1 n (fun k => k ≠ wb) v1 bs') (hg : W.grownBy w1 v.ownBlock) :
    WrV (w1.setCell ⟨wb, 0, none⟩ v1) n wb v1 bs' ∧ WUpd n wb W (w1.setCell ⟨wb, 0, none⟩ v1) := by
  have hb1 : w1.heap[wb]? = _ := blk_grown h.blk hg h.ne
  refine ⟨⟨blk_put hb1 0 v1 rfl, Kd.R_far hr (fun k hk => hk) v1, Nat.le_trans h.size (by simpa using hg.size)⟩, hg.os, hg.tape, hg.output, by simpa using hg.size, fun k o hk hne hc => ?_⟩
  rw [Below.heap_setCell _ _ _ _ hne]
  refine blk_grown hk hg (fun e => ?_)
  obtain ⟨inner, ho⟩ := Kd.R_own h.row
  obtain ⟨cells, hx⟩ := own_typed ho k e.symm
  rcases hc with hc | hc
  · have := own_base ho k e.symm; omega
  · rw [hx] at hk; injection hk with hk; exact hc cells hk.symm
theorem WrV.get {w : World} {n wb : Nat} {v : Value} {bs : List Int} (h : WrV w n wb v bs) : w.cell? ⟨wb, 0, none⟩ = some v := (blk_cell h.blk 0).trans rfl
theorem WrV.free {w : World} {n wb : Nat} {v : Value} {bs : List Int} (h : WrV w n wb v bs) : w.frozen? ⟨wb, 0, none⟩ = false := blk_frozen h.blk 0
def wnum_T9 : Bool × List (List Nat × List Nat) := (true, [([], []), ([], []), ([1], [1]), ([2], [2]), ([3], [3]), ([], []), ([], []), ([6], [6]), ([], []), ([7, 8], [7, 8]), ([9], [9]), ([5, 10], [5, 10]), ([11], [11]), ([12], [12]), ([4, 13], [4, 13]), ([0, 0, 1, 2, 3, 4, 5, 6, 7, 8, 9, 10, 11, 12, 13, 14], [0]), ([15, 0, 1, 2, 3, 4, 5, 6, 7, 8, 9, 10, 11, 12, 13, 14], [15]), ([16, 14, 14, 0, 1, 2, 3, 4, 5, 6, 7, 8, 9, 10, 11, 12, 13, 14], [14, 16])])
def wnum_B9 : List Nat := [0, 0, 2, 6, 14, 0, 0, 64, 0, 448, 960, 2016, 4064, 8160, 16382, 32767, 65535, 131071]
theorem wnum_tab9 : rtab .any (opsOf Tryz.f112 9) = wnum_T9 := by kernel_rfl
theorem wnum_bits9 : waitsOk wnum_T9.2 wnum_B9 = true := by kernel_rfl
set_option maxHeartbeats 1600000 in
set_option maxRecDepth 100000 in
theorem wnumber_any (n wb : Nat) (bs : List Int) (x mark : Int) (w : World) (h : WrAt w n wb bs) (x0 : 0 ≤ x) (x1 : x < 18446744073709551616) (hm : 0 ≤ mark) (hm2 : mark ≤ 128) (hl : bs.length + 9 ≤ 140737488355328) :
    Calls Tryz.prog 112 #[.pointer (some ⟨wb, 0, none⟩), .int .u64 x, .int .u8 mark] w fun e w' => e = .returned (.tuple #[]) ∧ WrAt w' n wb (bs ++ numB mark x) ∧ WUpd n wb w w' := by
  obtain ⟨v, hv⟩ := h
  obtain ⟨A, c, rfl⟩ := Kd.R_slice hv.row
  have HV := Aside0.mk hv
  have hd8 := digs_le 8 x.toNat (by omega)
  clear hv
  go_enter Tryz.func112, Tryz.ntmps112
  go_wp2
  go_loop [6, 7] (fun s y => ∃ (k : Nat) (z : Int), s = .int .i64 k ∧ y = .int .u64 z ∧ 0 ≤ z ∧ z ≤ x ∧ k ≤ 8 ∧ Aside0 (k + (digs z.toNat).length = (digs x.toNat).length)) (fun _ y => (intOf y).toNat)
  case atStart => exact ⟨0, x, rfl, rfl, x0, Int.le_refl _, by omega, ⟨by omega⟩⟩
  case round =>
    obtain ⟨k, z, rfl, rfl, z0, zx, k8, HK⟩ := hrel
    by_cases hz : 0 < z
    · go_wp2
      go_round
      case rel => exact ⟨k + 1, z / 256, by go_num, rfl, by omega, by omega, by have := HK.out; have := digs_len (n := z.toNat) (by omega); omega, ⟨by have := HK.out; rw [digs_len (n := z.toNat) (by omega), show z.toNat / 256 = (z / 256).toNat by omega] at this; omega⟩⟩
      case measure => simp [intOf]; omega
    · have hz0 : z = 0 := by omega
      have hk : k = (digs x.toNat).length := by have := HK.out; rw [hz0] at this; simpa [digs_zero] using this
      have HKK := Aside0.mk hk
      have c0 := HV.out.get
      have f0 := HV.out.free
      clear HK hk
      have hlt := blk_lt HV.out.blk
      go_wp2_with (((with_reducible refine gate_builtin (b := .append) (xs := #[.tmp 20, .tmp 25]) rfl ?_); at_builtin; refine Kd.R_append (Kd.int .u8) (w0 := w) n rfl (.tmp 20) (.tmp 25) 25 5 (.int .u8 0) 1 rfl Tryz.underlying25 infoU8 rfl (by decide) (by decide) (.slice A bs.length c) bs (mark + (k : Int)) [.int .u8 (mark + (k : Int))] (fun q => q ≠ wb) (fun _ => False) rfl rfl ?aP (fun _ hk => hk.elim) ?aF HV.out.row (Below.refl _ _) HV.out.size (by omega) ?_; (case aP => exact rfl); (case aF => exact fun q hq => by omega); intro v1 w1 ho hb hg hat; obtain ⟨A1, k1, rfl⟩ := Kd.R_slice ho; have HV1 := Aside0.mk (HV.out.app ho hg); have f1 : w1.frozen? ⟨wb, 0, none⟩ = false := blk_frozen (blk_grown HV.out.blk hg HV.out.ne) 0; have g1 : w1.cell? ⟨wb, 0, none⟩ = some (.slice A bs.length c) := (blk_cell (blk_grown HV.out.blk hg HV.out.ne) 0).trans rfl; clear ho hb hg hat c0 f0))
      have HW := Aside0.mk (show WrAt (w1.setCell ⟨wb, 0, none⟩ (.slice A1 (bs ++ [mark + (k : Int)]).length k1)) n wb (bs ++ [mark + (k : Int)]) ∧ WUpd n wb w (w1.setCell ⟨wb, 0, none⟩ (.slice A1 (bs ++ [mark + (k : Int)]).length k1)) from ⟨⟨_, HV1.out.1⟩, HV1.out.2⟩)
      rw [show (bs ++ [mark + (k : Int)]).length = bs.length + 1 by simp] at HW
      clear HV1 f1 g1 HV
      generalize w1.setCell ⟨wb, 0, none⟩ (.slice A1 (bs.length + 1) k1) = w2 at HW ⊢
      go_loopw [30] (fun y wr => ∃ j : Nat, y = .int .i64 j ∧ j ≤ k ∧ Aside0 (WrAt wr n wb (bs ++ [mark + (k : Int)] ++ (digs x.toNat).take j)) ∧ Aside0 (WUpd n wb w wr)) (fun y _ => k - (intOf y).toNat)
      case atStart => exact ⟨0, rfl, by omega, ⟨by simpa using HW.out.1⟩, ⟨HW.out.2⟩⟩
      case round =>
        clear HW
        obtain ⟨j, rfl, hj, HA, HU⟩ := hrel
        by_cases hjk : j < k
        · obtain ⟨v, hv⟩ := HA.out
          obtain ⟨A2, k2, rfl⟩ := Kd.R_slice hv.row
          have HV := Aside0.mk hv
          have hlt := blk_lt hv.blk
          clear hv HA
          have HV3 := Aside0.mk (HV.out.below (below_drew1 (Below.refl _ _)))
          have HU3 := Aside0.mk HU.out.drew
          have c0 := HV3.out.get
          go_wp2
          have hcl : (bs ++ [mark + (k : Int)] ++ (digs x.toNat).take j).length + 1 ≤ 140737488355328 := by simp [List.length_take]; omega
          have HN := Aside0.mk (show bs ++ [mark + (k : Int)] ++ (digs x.toNat).take (j + 1) = (bs ++ [mark + (k : Int)] ++ (digs x.toNat).take j) ++ [((x.toNat / 256 ^ (k - 1 - j) % 256 : Nat) : Int)] by
            have hg := digs_get x.toNat j (by have := HKK.out; omega)
            rw [← HKK.out] at hg
            rw [List.append_assoc _ _ [_]]
            congr 1
            rw [List.take_add_one, hg]; rfl)
          generalize bs ++ [mark + (k : Int)] ++ (digs x.toNat).take j = cs at hcl HN HV HV3 c0 ⊢
          have hw1 : wrap64 ((k : Int) - 1) = (k : Int) - 1 := wrap_id (by omega) (by omega)
          have hw2 : wrap64 ((k : Int) - 1 - (j : Int)) = (k : Int) - 1 - (j : Int) := wrap_id (by omega) (by omega)
          have hw3 : wrap64 (8 * ((k : Int) - 1 - (j : Int))) = 8 * ((k : Int) - 1 - (j : Int)) := wrap_id (by omega) (by omega)
          have hp3 : ¬ 8 * ((k : Int) - 1 - (j : Int)) < 0 := by omega
          have hlt3 : wb < wr.drew.heap.size := hlt
          clear hlt HU
          refine start_ (n := 18) (S := fun w' => w'.cell? ⟨wb, 0, none⟩ = some (.slice (A2) cs.length k2)) (ds := [14, 17]) #[false, false, false, false, false, false, false, false, false, false, false, false, false, false, false, false, false, false] (by kernel_rfl) rfl rfl c0 (fun hHeld => ?_); refine with_tabW wnum_tab9 wnum_bits9 (fun HT_ HW_ => ?_)
          clear c0
          generalize wr.drew = w3 at HV3 HU3 hlt3 hHeld ⊢
          refine pure_ (i := 0) (N := some 33) (v := ?_) (a' := ?_) #[true, false, false, false, false, false, false, false, false, false, false, false, false, false, false, false, false, false] rfl rfl (any_of HT_.out (by kernel_rfl)) (fun _ _ _ h => h) (Or.inl ⟨by rfl, ?_⟩) ?_ ?_
          rotate_left
          · intro w'
            go_simp
            with_reducible rfl
          rotate_left
          · simp only [Act.put, List.setIfInBounds_toArray, List.set_cons_zero, List.set_cons_succ, i64_w, i32_w]
            rfl
          refine pure_ (i := 1) (N := some 34) (v := ?_) (a' := ?_) #[true, true, false, false, false, false, false, false, false, false, false, false, false, false, false, false, false, false] rfl rfl (any_of HT_.out (by kernel_rfl)) (fun _ _ _ h => h) (Or.inl ⟨by rfl, ?_⟩) ?_ ?_
          rotate_left
          · intro w'
            go_simp
            with_reducible rfl
          rotate_left
          · simp only [Act.put, List.setIfInBounds_toArray, List.set_cons_zero, List.set_cons_succ, i64_w, i32_w]
            rfl
          refine pure_ (i := 2) (N := some 35) (v := ?_) (a' := ?_) #[true, true, true, false, false, false, false, false, false, false, false, false, false, false, false, false, false, false] rfl rfl (any_of HT_.out (by kernel_rfl)) (fun _ _ _ h => h) (Or.inl ⟨by rfl, ?_⟩) ?_ ?_
          rotate_left
          · intro w'
            go_simp
            with_reducible rfl
          rotate_left
          · simp only [Act.put, List.setIfInBounds_toArray, List.set_cons_zero, List.set_cons_succ, i64_w, i32_w]
            rfl
          refine pure_ (i := 3) (N := some 36) (v := ?_) (a' := ?_) #[true, true, true, true, false, false, false, false, false, false, false, false, false, false, false, false, false, false] rfl rfl (any_of HT_.out (by kernel_rfl)) (fun _ _ _ h => h) (Or.inl ⟨by rfl, ?_⟩) ?_ ?_
          rotate_left
          · intro w'
            go_simp
            with_reducible rfl
          rotate_left
          · simp only [Act.put, List.setIfInBounds_toArray, List.set_cons_zero, List.set_cons_succ, i64_w, i32_w]
            rfl
          refine pure_ (i := 5) (N := some 38) (v := ?_) (a' := ?_) #[true, true, true, true, false, true, false, false, false, false, false, false, false, false, false, false, false, false] rfl rfl (any_of HT_.out (by kernel_rfl)) (fun _ _ _ h => h) (Or.inl ⟨by rfl, ?_⟩) ?_ ?_
          rotate_left
          · intro w'
            go_simp
            with_reducible rfl
          rotate_left
          · simp only [Act.put, List.setIfInBounds_toArray, List.set_cons_zero, List.set_cons_succ, i64_w, i32_w]
            rfl
          refine pure_ (i := 6) (N := some 39) (v := ?_) (a' := ?_) #[true, true, true, true, false, true, true, false, false, false, false, false, false, false, false, false, false, false] rfl rfl (any_of HT_.out (by kernel_rfl)) (fun _ _ _ h => h) (Or.inl ⟨by rfl, ?_⟩) ?_ ?_
          rotate_left
          · intro w'
            go_simp
            with_reducible rfl
          rotate_left
          · simp only [Act.put, List.setIfInBounds_toArray, List.set_cons_zero, List.set_cons_succ, i64_w, i32_w]
            rfl
          refine pure_ (i := 7) (N := some 40) (v := ?_) (a' := ?_) #[true, true, true, true, false, true, true, true, false, false, false, false, false, false, false, false, false, false] rfl rfl (any_of HT_.out (by kernel_rfl)) (fun _ _ _ h => h) (Or.inl ⟨by rfl, ?_⟩) ?_ ?_
          rotate_left
          · intro w'
            go_simp
            with_reducible rfl
          rotate_left
          · simp only [Act.put, List.setIfInBounds_toArray, List.set_cons_zero, List.set_cons_succ, i64_w, i32_w]
            rfl
          refine pure_ (i := 8) (N := some 41) (v := ?_) (a' := ?_) #[true, true, true, true, false, true, true, true, true, false, false, false, false, false, false, false, false, false] rfl rfl (any_of HT_.out (by kernel_rfl)) (fun _ _ _ h => h) (Or.inl ⟨by rfl, ?_⟩) ?_ ?_
          rotate_left
          · intro w'
            go_simp
            with_reducible rfl
          rotate_left
          · simp only [Act.put, List.setIfInBounds_toArray, List.set_cons_zero, List.set_cons_succ, i64_w, i32_w]
            rfl
          refine pure_ (i := 9) (N := some 42) (v := ?_) (a' := ?_) #[true, true, true, true, false, true, true, true, true, true, false, false, false, false, false, false, false, false] rfl rfl (any_of HT_.out (by kernel_rfl)) (fun _ _ _ h => h) (Or.inl ⟨by rfl, ?_⟩) ?_ ?_
          rotate_left
          · intro w'
            go_simp
            with_reducible rfl
          rotate_left
          · simp only [Act.put, List.setIfInBounds_toArray, List.set_cons_zero, List.set_cons_succ, i64_w, i32_w]
            rfl
          refine pure_ (i := 10) (N := some 43) (v := ?_) (a' := ?_) #[true, true, true, true, false, true, true, true, true, true, true, false, false, false, false, false, false, false] rfl rfl (any_of HT_.out (by kernel_rfl)) (fun _ _ _ h => h) (Or.inl ⟨by rfl, ?_⟩) ?_ ?_
          rotate_left
          · intro w'
            go_simp
            with_reducible rfl
          rotate_left
          · simp only [Act.put, List.setIfInBounds_toArray, List.set_cons_zero, List.set_cons_succ, i64_w, i32_w]
            rfl
          refine pure_ (i := 11) (N := some 44) (v := ?_) (a' := ?_) #[true, true, true, true, false, true, true, true, true, true, true, true, false, false, false, false, false, false] rfl rfl (any_of HT_.out (by kernel_rfl)) (fun _ _ _ h => h) (Or.inl ⟨by rfl, ?_⟩) ?_ ?_
          rotate_left
          · intro w'
            go_simp
            with_reducible rfl
          rotate_left
          · simp only [Act.put, List.setIfInBounds_toArray, List.set_cons_zero, List.set_cons_succ, i64_w, i32_w]
            rfl
          refine pure_ (i := 12) (N := some 45) (v := ?_) (a' := ?_) #[true, true, true, true, false, true, true, true, true, true, true, true, true, false, false, false, false, false] rfl rfl (any_of HT_.out (by kernel_rfl)) (fun _ _ _ h => h) (Or.inl ⟨by rfl, ?_⟩) ?_ ?_
          rotate_left
          · intro w'
            go_simp
            with_reducible rfl
          rotate_left
          · simp only [Act.put, List.setIfInBounds_toArray, List.set_cons_zero, List.set_cons_succ, i64_w, i32_w]
            rfl
          refine take_ (i := 4) (N := some 37) (v := ?_) (a' := ?_) #[true, true, true, true, true, true, true, true, true, true, true, true, true, false, false, false, false, false] rfl rfl (take_ofW HT_.out HW_.out (by kernel_rfl)) (fun _ _ _ h => h) (Or.inl ⟨by rfl, ?_⟩) hHeld ?_ ?_
          rotate_left
          · rintro w' s0
            go_simp
            with_reducible rfl
          rotate_left
          · simp only [Act.put, List.setIfInBounds_toArray, List.set_cons_zero, List.set_cons_succ, i64_w, i32_w]
            rfl
          refine one_ (i := 13) (N := some 46) #[true, true, true, true, true, true, true, true, true, true, true, true, true, true, false, false, false, false] rfl rfl (one_of HT_.out (by kernel_rfl)) (by decide) (fun K hK => ?_)
          refine value_ (w1 := ?_) (v := ?_) (by rfl) rfl ?_ ?_
          rotate_left 2
          · go_simp
            constructor
            · rfl
            · rfl
          refine hK.out _ _ ((blk_cell (blk_alloc HV3.out.blk _) 0).trans rfl) (fun hHeld => ?_)
          clear hK K
          refine norm_ (a' := ?_) ?_ ?_
          rotate_left
          · show Act.put _ (some 46) _ = _
            simp only [Act.put, List.setIfInBounds_toArray, List.set_cons_zero, List.set_cons_succ, i64_w, i32_w]
            rfl
          refine last_ (i := 14) (N := some 47) #[true, true, true, true, true, true, true, true, true, true, true, true, true, true, true, false, false, false] rfl rfl (one_of HT_.out (by kernel_rfl)) (by decide) (fun K hK => ?_)
          refine Kd.R_append_step (Kd.int .u8) n (by rfl) (.tmp 37) (.tmp 46) 25 5 (.int .u8 0) 1 rfl Tryz.underlying25 infoU8 rfl (by decide) (by omega) (.slice A2 cs.length k2) cs (IntKind.u8.wrap (x / 2 ^ (8 * ((k : Int) - 1 - (j : Int))).toNat)) [.int .u8 (IntKind.u8.wrap (x / 2 ^ (8 * ((k : Int) - 1 - (j : Int))).toNat))] (fun q => q ≠ wb) (fun _ => False) rfl rfl ?aP (fun _ hk => hk.elim) ?aF ?aO (Below.refl _ _) ?aS ?aL ?_
          (case aP => exact rfl)
          (case aF => exact fun q hq => by omega)
          (case aO => exact HV3.out.row)
          (case aS => exact HV3.out.size)
          (case aL => omega)
          intro v1_ w1_ ho_ hb_ hg_ hat_
          have HOa := Aside0.mk ho_
          have HOaB := Aside0.mk hb_
          have HOaG := Aside0.mk hg_
          clear ho_ hb_ hg_ hat_
          obtain ⟨A4, k4, rfl⟩ := Kd.R_slice HOa.out
          have f4 : w1_.frozen? ⟨wb, 0, none⟩ = false := blk_frozen (blk_grown HV3.out.blk HOaG.out HV3.out.ne) 0
          have g4 : w1_.cell? ⟨wb, 0, none⟩ = some (.slice A2 cs.length k2) := (blk_cell (blk_grown HV3.out.blk HOaG.out HV3.out.ne) 0).trans rfl
          have HV4 := Aside0.mk (HV3.out.app HOa.out HOaG.out)
          refine hK.out _ _ ?_
          clear hK K
          refine norm_ (a' := ?_) ?_ ?_
          rotate_left
          · show Act.put _ (some 47) _ = _
            simp only [Act.put, List.setIfInBounds_toArray, List.set_cons_zero, List.set_cons_succ, i64_w, i32_w]
            rfl
          refine pure_ (i := 15) (N := some 48) (v := ?_) (a' := ?_) #[true, true, true, true, true, true, true, true, true, true, true, true, true, true, true, true, false, false] rfl rfl (any_of HT_.out (by kernel_rfl)) (fun _ _ _ h => h) (Or.inl ⟨by rfl, ?_⟩) ?_ ?_
          rotate_left
          · intro w'
            go_simp
            with_reducible rfl
          rotate_left
          · simp only [Act.put, List.setIfInBounds_toArray, List.set_cons_zero, List.set_cons_succ, i64_w, i32_w]
            rfl
          refine pure_ (i := 16) (N := some 49) (v := ?_) (a' := ?_) #[true, true, true, true, true, true, true, true, true, true, true, true, true, true, true, true, true, false] rfl rfl (any_of HT_.out (by kernel_rfl)) (fun _ _ _ h => h) (Or.inl ⟨by rfl, ?_⟩) ?_ ?_
          rotate_left
          · intro w'
            go_simp
            with_reducible rfl
          rotate_left
          · simp only [Act.put, List.setIfInBounds_toArray, List.set_cons_zero, List.set_cons_succ, i64_w, i32_w]
            rfl
          refine last_ (i := 17) (N := none) #[true, true, true, true, true, true, true, true, true, true, true, true, true, true, true, true, true, true] rfl rfl (one_of HT_.out (by kernel_rfl)) (by decide) (fun K hK => ?_)
          refine skip_ (w1 := ?_) (by rfl) rfl ?_ ?_
          rotate_left 1
          · go_simp
            rfl
          refine hK.out _ _ ?_
          clear hK K
          refine done_ (done_of HT_.out (by kernel_rfl)) ?_
          clear f4 g4 HOa HOaB HOaG HT_ HW_ hHeld
          have hv : IntKind.u8.wrap (x / 2 ^ (8 * ((k : Int) - 1 - (j : Int))).toNat) = ((x.toNat / 256 ^ (k - 1 - j) % 256 : Nat) : Int) := by
            rw [show (8 * ((k : Int) - 1 - (j : Int))).toNat = 8 * (k - 1 - j) by omega]
            obtain ⟨y, rfl⟩ := Int.eq_ofNat_of_zero_le x0
            rw [show ((256 : Nat)) = 2 ^ 8 from rfl, ← Nat.pow_mul]
            simp [IntKind.wrap, show IntKind.u8.signed = false from rfl, show IntKind.u8.bits = 8 from rfl]
          rw [hv] at HV4
          go_wp2
          exact ⟨⟨j + 1, by go_num, by omega, ⟨by rw [HN.out]; exact ⟨_, by have := HV4.out.1; simpa using this⟩⟩, ⟨HU3.out.trans (by have := HV4.out.2; simpa using this)⟩⟩, by simp [intOf]; omega⟩
        · have hj2 : j = k := by omega
          have HA2 : Aside0 (WrAt wr n wb (bs ++ numB mark x)) := ⟨by have := HA.out; rw [hj2, HKK.out, List.take_length, List.append_assoc] at this; exact this⟩
          clear HA HKK hj2
          go_wp2
          go_end0
          exact ⟨rfl, HA2.out, HU.out⟩
end Go.Proofs.YtepldlnmeenlbaaGreat.Own
namespace Go.Proofs.YtepldlnmeenlbaaGreat.Own
open Go.RowKit Go.Proofs Go.Proofs.YtepldlnmeenlbaaGreatW.PrintWords Go.Proofs.YtepldlnmeenlbaaGreatW.PrintLast Go.Proofs.YtepldlnmeenlbaaGreatW.PrintMore Go.Proofs.YtepldlnmeenlbaaGreat.Base
structure RdV (t : TypeId) (m : Nat) (w : World) (rb : Nat) (A : Option Addr) (c : Nat) (s : List Int × Bool) : Prop where
  blk : w.heap[rb]? = some (.cells #[.slice A s.1.length c, .bool s.2] t (0, 0))
  cap : s.1.length ≤ c
  row : Kd.C (Kd.int .u8) w A s.1.length s.1
  far : ∀ ad, A = some ad → ad.block < m
  mrb : m ≤ rb
  byte : ∀ x, x ∈ s.1 → 0 ≤ x ∧ x ≤ 255
def RdAt (t : TypeId) (m : Nat) (w : World) (rb : Nat) (s : List Int × Bool) : Prop := ∃ A c, RdV t m w rb A c s
variable {t : TypeId} {m rb c : Nat} {w w' : World} {A : Option Addr} {s : List Int × Bool}
theorem RdV.below (h : RdV t m w rb A c s) (hb : Below w.heap.size w w') : RdV t m w' rb A c s := ⟨blk_below h.blk hb, h.cap, Kd.C_below h.row hb, h.far, h.mrb, h.byte⟩
theorem RdAt.below (h : RdAt t m w rb s) (hb : Below w.heap.size w w') : RdAt t m w' rb s := by obtain ⟨A, c, h⟩ := h; exact ⟨A, c, h.below hb⟩
theorem C_blocks {k : IntKind} {l : List Int} (h : Kd.C (Kd.int k) w A l.length l) (hm : ∀ ad, A = some ad → w'.heap[ad.block]? = w.heap[ad.block]?) : Kd.C (Kd.int k) w' A l.length l := by
  refine ⟨h.1, h.2.1, fun h0 => ?_⟩
  obtain ⟨ad, e, hx⟩ := h.2.2 h0
  refine ⟨ad, e, fun j p hp => ?_⟩
  obtain ⟨cs, h1, h2, h3⟩ := hx j p hp
  exact ⟨cs, h1, h2, fun i u hu => by rw [← h3 i u hu]; exact World.cell?_of_block (by rw [add_block]; exact hm ad e)⟩
theorem RdV.upd {b : Nat} (h : RdV t m w rb A c s) (hu : Upd b w w') (hb : m ≤ b) (hne : rb ≠ b) : RdV t m w' rb A c s :=
  ⟨hu.blk h.blk hne, h.cap, C_blocks h.row (fun ad e => by
    have h1 := h.far ad e
    have h2 := blk_lt h.blk
    have h3 := h.mrb
    exact hu.block ad.block (by omega) (fun e => by injection e with e; omega)), h.far, h.mrb, h.byte⟩
theorem RdAt.upd {b : Nat} (h : RdAt t m w rb s) (hu : Upd b w w') (hb : m ≤ b) (hne : rb ≠ b) : RdAt t m w' rb s := by obtain ⟨A, c, h⟩ := h; exact ⟨A, c, h.upd hu hb hne⟩
theorem RdV.g0 (h : RdV t m w rb A c s) : w.cell? ⟨rb, 0, none⟩ = some (.slice A s.1.length c) := (blk_cell h.blk 0).trans rfl
theorem RdV.g1 (h : RdV t m w rb A c s) : w.cell? ⟨rb, 1, none⟩ = some (.bool s.2) := (blk_cell h.blk 1).trans rfl
theorem RdV.f0 (h : RdV t m w rb A c s) : w.frozen? ⟨rb, 0, none⟩ = false := blk_frozen h.blk 0
theorem RdV.f1 (h : RdV t m w rb A c s) : w.frozen? ⟨rb, 1, none⟩ = false := blk_frozen h.blk 1
theorem RdV.failed (h : RdV t m w rb A c s) : RdV t m ((w.setCell ⟨rb, 0, none⟩ (.slice none 0 0)).setCell ⟨rb, 1, none⟩ (.bool true)) rb none 0 ([], true) ∧ Upd rb w ((w.setCell ⟨rb, 0, none⟩ (.slice none 0 0)).setCell ⟨rb, 1, none⟩ (.bool true)) :=
  ⟨⟨blk_put (blk_put h.blk 0 (.slice none 0 0) rfl) 1 (.bool true) rfl, Nat.le_refl _, ⟨rfl, by decide, fun h => absurd h (by simp)⟩, fun _ e => (by cases e), h.mrb, fun _ hx => by cases hx⟩, ((Upd.refl rb w).set 0 _).set 1 _⟩
theorem RdV.cut (h : RdV t m w rb A c s) {A' : Option Addr} {c' : Nat} {l : List Int} (hr : Kd.C (Kd.int .u8) w A' l.length l) (hc : l.length ≤ c') (hf : ∀ ad, A' = some ad → ad.block < m) (hl : ∀ x, x ∈ l → x ∈ s.1) :
    RdV t m (w.setCell ⟨rb, 0, none⟩ (.slice A' l.length c')) rb A' c' (l, s.2) ∧ Upd rb w (w.setCell ⟨rb, 0, none⟩ (.slice A' l.length c')) :=
  ⟨⟨blk_put h.blk 0 _ rfl, hc, C_blocks hr (fun ad e => Below.heap_setCell _ _ _ _ (by have := hf ad e; have := h.mrb; show ad.block ≠ rb; omega)), hf, h.mrb, fun x hx => h.byte x (hl x hx)⟩, (Upd.refl rb w).set 0 _⟩
set_option maxHeartbeats 1600000 in
set_option maxRecDepth 100000 in
theorem ropen_any (A : Option Addr) (c m : Nat) (l : List Int) (w : World) (hr : Kd.C (Kd.int .u8) w A l.length l) (hc : l.length ≤ c) (hm : m ≤ w.heap.size) (hf : ∀ ad, A = some ad → ad.block < m) (hb : ∀ x, x ∈ l → 0 ≤ x ∧ x ≤ 255) :
    Calls Tryz.prog 17 #[.slice A l.length c] w fun e w' => e = .returned (.pointer (some ⟨w.heap.size, 0, none⟩)) ∧ RdAt 127 m w' w.heap.size (l, false) ∧ Below w.heap.size w w' := by
  have HX : Aside0 (RdAt 127 m (w.alloc (.cells #[.slice A l.length c, .bool false] 127)) w.heap.size (l, false)) := ⟨A, c, blk_new w _, hc, Kd.C_below hr (below_alloc (Below.refl _ _) _), hf, hm, hb⟩
  clear hr hf hb
  go_enter Tryz.func17, Tryz.ntmps17
  go_wp2
  go_ret
  exact ⟨rfl, HX.out, below_alloc (Below.refl _ _) _⟩
set_option maxHeartbeats 1600000 in
set_option maxRecDepth 100000 in
theorem rleft_any (w : World) (h : RdAt 127 m w rb s) : Calls Tryz.prog 21 #[.pointer (some ⟨rb, 0, none⟩)] w fun e w' => e = .returned (.int .i64 (s.1.length : Int)) ∧ w = w' := by
  obtain ⟨A, c, h⟩ := h
  have c0 := h.g0
  have hl : s.1.length ≤ 9223372036854775807 := h.row.2.1
  clear h
  go_enter Tryz.func21, Tryz.ntmps21
  go_wp2
  go_ret
  exact ⟨rfl, rfl⟩
set_option maxHeartbeats 1600000 in
set_option maxRecDepth 100000 in
theorem rbad_any (w : World) (h : RdAt 127 m w rb s) : Calls Tryz.prog 22 #[.pointer (some ⟨rb, 0, none⟩)] w fun e w' => e = .returned (.bool s.2) ∧ w = w' := by
  obtain ⟨A, c, h⟩ := h
  have c1 := h.g1
  clear h
  go_enter Tryz.func22, Tryz.ntmps22
  go_wp2
  go_ret
  exact ⟨rfl, rfl⟩
set_option maxHeartbeats 1600000 in
set_option maxRecDepth 100000 in
theorem rfail_any (w : World) (h : RdAt 127 m w rb s) : Calls Tryz.prog 63 #[.pointer (some ⟨rb, 0, none⟩)] w fun e w' => e = .returned (.tuple #[]) ∧ RdAt 127 m w' rb ([], true) ∧ Upd rb w w' := by
  obtain ⟨A, c, h⟩ := h
  have c0 := h.g0
  have c1 := h.g1
  have f0 := h.f0
  have f1 := h.f1
  have HF := Aside0.mk h.failed
  clear h
  go_enter Tryz.func63, Tryz.ntmps63
  go_wp2
  go_end0
  exact ⟨rfl, ⟨none, 0, HF.out.1⟩, HF.out.2⟩
end Go.Proofs.YtepldlnmeenlbaaGreat.Own
namespace Go.Proofs.YtepldlnmeenlbaaGreat.Own
open Go.RowKit Go.Proofs Go.Proofs.YtepldlnmeenlbaaGreatW.PrintWords Go.Proofs.YtepldlnmeenlbaaGreatW.PrintLast Go.Proofs.YtepldlnmeenlbaaGreatW.PrintMore Go.Proofs.YtepldlnmeenlbaaGreat.Base
variable {t : TypeId} {m rb c : Nat} {w w' : World} {A : Option Addr} {s : List Int × Bool} {bs : List Int} {bad : Bool}
theorem add0 (ad : Addr) : ad.add ((0 : Int).toNat) = ad := by simp [Addr.add]
theorem add1 (ad : Addr) : ad.add 1 = ⟨ad.block, ad.off + 1, none⟩ := by simp [Addr.add]
set_option maxHeartbeats 4000000 in
set_option maxRecDepth 100000 in
theorem rnum_nil_false (most : Int) (w : World) (h : RdAt 127 m w rb (bs, bad)) (m0 : 0 ≤ most) (m1 : most < 18446744073709551616) (hb : bs = []) :
    Calls Tryz.prog 113 #[.pointer (some ⟨rb, 0, none⟩), .int .u64 most, .bool false] w fun e w' => e = .returned (.tuple #[.int .u64 0, .bool false]) ∧ RdAt 127 m w' rb ([], true) ∧ Upd rb w w' := by
  subst hb
  have HH := Aside0.mk h
  clear h
  go_enter Tryz.func113, Tryz.ntmps113
  go_wp2_with (first | (go_at_call 21; refine (rleft_any w HH.out).mono ?_; rintro e w2 ⟨rfl, rfl⟩) | (go_at_call 63; refine (rfail_any w HH.out).mono ?_; rintro e w2 ⟨rfl, q1, q2⟩; have H1 := Aside0.mk q1; have H2 := Aside0.mk q2; clear q1 q2))
  go_ret2
  exact ⟨rfl, H1.out, H2.out⟩
set_option maxHeartbeats 4000000 in
set_option maxRecDepth 100000 in
theorem rnum_big_false (most : Int) (w : World) (h : RdAt 127 m w rb (bs, bad)) (m0 : 0 ≤ most) (m1 : most < 18446744073709551616) (hp : 0 < bs.length) (h1 : 8 < rd bs 0) :
    Calls Tryz.prog 113 #[.pointer (some ⟨rb, 0, none⟩), .int .u64 most, .bool false] w fun e w' => e = .returned (.tuple #[.int .u64 0, .bool false]) ∧ RdAt 127 m w' rb ([], true) ∧ Upd rb w w' := by
  obtain ⟨A, c, h⟩ := h
  have HH : Aside0 (RdAt 127 m w rb (bs, bad)) := ⟨A, c, h⟩
  have c0 : w.cell? ⟨rb, 0, none⟩ = some (.slice A bs.length c) := h.g0
  obtain ⟨ad, rfl, hx0⟩ := Kd.at_int h.row 0 (Int.le_refl _) (show (0 : Int) < (bs.length : Nat) by omega)
  rw [add0] at hx0
  have hz := h.byte _ (rd_mem (Int.le_refl 0) (show (0 : Int) < bs.length by omega))
  have hm : bs.length ≤ 9223372036854775807 := h.row.2.1
  have p0 : (0 : Int) < bs.length := by omega
  have hne : ((bs.length : Int) == 0) = false := beq_eq_false_iff_ne.mpr (by omega)
  have HV := Aside0.mk h
  clear h
  generalize rd bs 0 = z at hx0 hz h1
  obtain ⟨z0, z1⟩ := hz
  have d1 : decide (8 < z) = true := decide_eq_true h1
  go_enter Tryz.func113, Tryz.ntmps113
  go_wp2_with (first | (go_at_call 21; refine (rleft_any w HH.out).mono ?_; rintro e w2 ⟨rfl, rfl⟩) | (go_at_call 63; refine (rfail_any w HH.out).mono ?_; rintro e w2 ⟨rfl, q1, q2⟩; have H1 := Aside0.mk q1; have H2 := Aside0.mk q2; clear q1 q2))
  go_ret2
  exact ⟨rfl, H1.out, H2.out⟩
set_option maxHeartbeats 4000000 in
set_option maxRecDepth 100000 in
theorem rnum_short_false (most : Int) (w : World) (h : RdAt 127 m w rb (bs, bad)) (m0 : 0 ≤ most) (m1 : most < 18446744073709551616) (hp : 0 < bs.length) (h1 : ¬ 8 < rd bs 0) (h2 : (bs.length : Int) ≤ rd bs 0) :
    Calls Tryz.prog 113 #[.pointer (some ⟨rb, 0, none⟩), .int .u64 most, .bool false] w fun e w' => e = .returned (.tuple #[.int .u64 0, .bool false]) ∧ RdAt 127 m w' rb ([], true) ∧ Upd rb w w' := by
  obtain ⟨A, c, h⟩ := h
  have HH : Aside0 (RdAt 127 m w rb (bs, bad)) := ⟨A, c, h⟩
  have c0 : w.cell? ⟨rb, 0, none⟩ = some (.slice A bs.length c) := h.g0
  obtain ⟨ad, rfl, hx0⟩ := Kd.at_int h.row 0 (Int.le_refl _) (show (0 : Int) < (bs.length : Nat) by omega)
  rw [add0] at hx0
  have hz := h.byte _ (rd_mem (Int.le_refl 0) (show (0 : Int) < bs.length by omega))
  have hm : bs.length ≤ 9223372036854775807 := h.row.2.1
  have p0 : (0 : Int) < bs.length := by omega
  have hne : ((bs.length : Int) == 0) = false := beq_eq_false_iff_ne.mpr (by omega)
  have HV := Aside0.mk h
  clear h
  generalize rd bs 0 = z at hx0 hz h1 h2
  obtain ⟨z0, z1⟩ := hz
  have d1 : decide (8 < z) = false := decide_eq_false h1
  have d2 : decide ((bs.length : Int) ≤ z) = true := decide_eq_true h2
  go_enter Tryz.func113, Tryz.ntmps113
  go_wp2_with (first | (go_at_call 21; refine (rleft_any w HH.out).mono ?_; rintro e w2 ⟨rfl, rfl⟩) | (go_at_call 63; refine (rfail_any w HH.out).mono ?_; rintro e w2 ⟨rfl, q1, q2⟩; have H1 := Aside0.mk q1; have H2 := Aside0.mk q2; clear q1 q2))
  go_ret2
  exact ⟨rfl, H1.out, H2.out⟩
set_option maxHeartbeats 4000000 in
set_option maxRecDepth 100000 in
theorem rnum_lead_false (most : Int) (w : World) (h : RdAt 127 m w rb (bs, bad)) (m0 : 0 ≤ most) (m1 : most < 18446744073709551616) (hp : 0 < bs.length) (h1 : ¬ 8 < rd bs 0) (h2 : ¬ (bs.length : Int) ≤ rd bs 0) (h3 : 0 < rd bs 0) (h4 : rd bs 1 = 0) :
    Calls Tryz.prog 113 #[.pointer (some ⟨rb, 0, none⟩), .int .u64 most, .bool false] w fun e w' => e = .returned (.tuple #[.int .u64 0, .bool false]) ∧ RdAt 127 m w' rb ([], true) ∧ Upd rb w w' := by
  obtain ⟨A, c, h⟩ := h
  have HH : Aside0 (RdAt 127 m w rb (bs, bad)) := ⟨A, c, h⟩
  have c0 : w.cell? ⟨rb, 0, none⟩ = some (.slice A bs.length c) := h.g0
  obtain ⟨ad, rfl, hx0⟩ := Kd.at_int h.row 0 (Int.le_refl _) (show (0 : Int) < (bs.length : Nat) by omega)
  rw [add0] at hx0
  have hz := h.byte _ (rd_mem (Int.le_refl 0) (show (0 : Int) < bs.length by omega))
  have hm : bs.length ≤ 9223372036854775807 := h.row.2.1
  have p0 : (0 : Int) < bs.length := by omega
  have hne : ((bs.length : Int) == 0) = false := beq_eq_false_iff_ne.mpr (by omega)
  obtain ⟨ad', e', hx1⟩ := Kd.at_int h.row 1 (by omega) (show (1 : Int) < (bs.length : Nat) by omega)
  cases e'
  rw [show (1 : Int).toNat = 1 from rfl, add1] at hx1
  have p1 : (1 : Int) < bs.length := by omega
  rw [h4] at hx1
  clear h4
  have HV := Aside0.mk h
  clear h
  generalize rd bs 0 = z at hx0 hz h1 h2 h3
  obtain ⟨z0, z1⟩ := hz
  have d1 : decide (8 < z) = false := decide_eq_false h1
  have d2 : decide ((bs.length : Int) ≤ z) = false := decide_eq_false h2
  have d3 : decide (0 < z) = true := decide_eq_true h3
  go_enter Tryz.func113, Tryz.ntmps113
  go_wp2_with (first | (go_at_call 21; refine (rleft_any w HH.out).mono ?_; rintro e w2 ⟨rfl, rfl⟩) | (go_at_call 63; refine (rfail_any w HH.out).mono ?_; rintro e w2 ⟨rfl, q1, q2⟩; have H1 := Aside0.mk q1; have H2 := Aside0.mk q2; clear q1 q2))
  go_ret2
  exact ⟨rfl, H1.out, H2.out⟩
set_option maxHeartbeats 4000000 in
set_option maxRecDepth 100000 in
theorem rnum_nil_true (most : Int) (w : World) (h : RdAt 127 m w rb (bs, bad)) (m0 : 0 ≤ most) (m1 : most < 18446744073709551616) (hb : bs = []) :
    Calls Tryz.prog 113 #[.pointer (some ⟨rb, 0, none⟩), .int .u64 most, .bool true] w fun e w' => e = .returned (.tuple #[.int .u64 0, .bool false]) ∧ RdAt 127 m w' rb ([], true) ∧ Upd rb w w' := by
  subst hb
  have HH := Aside0.mk h
  clear h
  go_enter Tryz.func113, Tryz.ntmps113
  go_wp2_with (first | (go_at_call 21; refine (rleft_any w HH.out).mono ?_; rintro e w2 ⟨rfl, rfl⟩) | (go_at_call 63; refine (rfail_any w HH.out).mono ?_; rintro e w2 ⟨rfl, q1, q2⟩; have H1 := Aside0.mk q1; have H2 := Aside0.mk q2; clear q1 q2))
  go_ret2
  exact ⟨rfl, H1.out, H2.out⟩
set_option maxHeartbeats 4000000 in
set_option maxRecDepth 100000 in
theorem rnum_big_true (most : Int) (w : World) (h : RdAt 127 m w rb (bs, bad)) (m0 : 0 ≤ most) (m1 : most < 18446744073709551616) (hp : 0 < bs.length) (h1 : 8 < rd bs 0 % 128) :
    Calls Tryz.prog 113 #[.pointer (some ⟨rb, 0, none⟩), .int .u64 most, .bool true] w fun e w' => e = .returned (.tuple #[.int .u64 0, .bool false]) ∧ RdAt 127 m w' rb ([], true) ∧ Upd rb w w' := by
  obtain ⟨A, c, h⟩ := h
  have HH : Aside0 (RdAt 127 m w rb (bs, bad)) := ⟨A, c, h⟩
  have c0 : w.cell? ⟨rb, 0, none⟩ = some (.slice A bs.length c) := h.g0
  obtain ⟨ad, rfl, hx0⟩ := Kd.at_int h.row 0 (Int.le_refl _) (show (0 : Int) < (bs.length : Nat) by omega)
  rw [add0] at hx0
  have hz := h.byte _ (rd_mem (Int.le_refl 0) (show (0 : Int) < bs.length by omega))
  have hm : bs.length ≤ 9223372036854775807 := h.row.2.1
  have p0 : (0 : Int) < bs.length := by omega
  have hne : ((bs.length : Int) == 0) = false := beq_eq_false_iff_ne.mpr (by omega)
  have HV := Aside0.mk h
  clear h
  generalize rd bs 0 = z at hx0 hz h1
  obtain ⟨z0, z1⟩ := hz
  have d1 : decide (8 < z % 128) = true := decide_eq_true h1
  go_enter Tryz.func113, Tryz.ntmps113
  go_wp2_with (first | (go_at_call 21; refine (rleft_any w HH.out).mono ?_; rintro e w2 ⟨rfl, rfl⟩) | (go_at_call 63; refine (rfail_any w HH.out).mono ?_; rintro e w2 ⟨rfl, q1, q2⟩; have H1 := Aside0.mk q1; have H2 := Aside0.mk q2; clear q1 q2))
  go_ret2
  exact ⟨rfl, H1.out, H2.out⟩
set_option maxHeartbeats 4000000 in
set_option maxRecDepth 100000 in
theorem rnum_short_true (most : Int) (w : World) (h : RdAt 127 m w rb (bs, bad)) (m0 : 0 ≤ most) (m1 : most < 18446744073709551616) (hp : 0 < bs.length) (h1 : ¬ 8 < rd bs 0 % 128) (h2 : (bs.length : Int) ≤ rd bs 0 % 128) :
    Calls Tryz.prog 113 #[.pointer (some ⟨rb, 0, none⟩), .int .u64 most, .bool true] w fun e w' => e = .returned (.tuple #[.int .u64 0, .bool false]) ∧ RdAt 127 m w' rb ([], true) ∧ Upd rb w w' := by
  obtain ⟨A, c, h⟩ := h
  have HH : Aside0 (RdAt 127 m w rb (bs, bad)) := ⟨A, c, h⟩
  have c0 : w.cell? ⟨rb, 0, none⟩ = some (.slice A bs.length c) := h.g0
  obtain ⟨ad, rfl, hx0⟩ := Kd.at_int h.row 0 (Int.le_refl _) (show (0 : Int) < (bs.length : Nat) by omega)
  rw [add0] at hx0
  have hz := h.byte _ (rd_mem (Int.le_refl 0) (show (0 : Int) < bs.length by omega))
  have hm : bs.length ≤ 9223372036854775807 := h.row.2.1
  have p0 : (0 : Int) < bs.length := by omega
  have hne : ((bs.length : Int) == 0) = false := beq_eq_false_iff_ne.mpr (by omega)
  have HV := Aside0.mk h
  clear h
  generalize rd bs 0 = z at hx0 hz h1 h2
  obtain ⟨z0, z1⟩ := hz
  have d1 : decide (8 < z % 128) = false := decide_eq_false h1
  have d2 : decide ((bs.length : Int) ≤ z % 128) = true := decide_eq_true h2
  go_enter Tryz.func113, Tryz.ntmps113
  go_wp2_with (first | (go_at_call 21; refine (rleft_any w HH.out).mono ?_; rintro e w2 ⟨rfl, rfl⟩) | (go_at_call 63; refine (rfail_any w HH.out).mono ?_; rintro e w2 ⟨rfl, q1, q2⟩; have H1 := Aside0.mk q1; have H2 := Aside0.mk q2; clear q1 q2))
  go_ret2
  exact ⟨rfl, H1.out, H2.out⟩
set_option maxHeartbeats 4000000 in
set_option maxRecDepth 100000 in
theorem rnum_lead_true (most : Int) (w : World) (h : RdAt 127 m w rb (bs, bad)) (m0 : 0 ≤ most) (m1 : most < 18446744073709551616) (hp : 0 < bs.length) (h1 : ¬ 8 < rd bs 0 % 128) (h2 : ¬ (bs.length : Int) ≤ rd bs 0 % 128) (h3 : 0 < rd bs 0 % 128) (h4 : rd bs 1 = 0) :
    Calls Tryz.prog 113 #[.pointer (some ⟨rb, 0, none⟩), .int .u64 most, .bool true] w fun e w' => e = .returned (.tuple #[.int .u64 0, .bool false]) ∧ RdAt 127 m w' rb ([], true) ∧ Upd rb w w' := by
  obtain ⟨A, c, h⟩ := h
  have HH : Aside0 (RdAt 127 m w rb (bs, bad)) := ⟨A, c, h⟩
  have c0 : w.cell? ⟨rb, 0, none⟩ = some (.slice A bs.length c) := h.g0
  obtain ⟨ad, rfl, hx0⟩ := Kd.at_int h.row 0 (Int.le_refl _) (show (0 : Int) < (bs.length : Nat) by omega)
  rw [add0] at hx0
  have hz := h.byte _ (rd_mem (Int.le_refl 0) (show (0 : Int) < bs.length by omega))
  have hm : bs.length ≤ 9223372036854775807 := h.row.2.1
  have p0 : (0 : Int) < bs.length := by omega
  have hne : ((bs.length : Int) == 0) = false := beq_eq_false_iff_ne.mpr (by omega)
  obtain ⟨ad', e', hx1⟩ := Kd.at_int h.row 1 (by omega) (show (1 : Int) < (bs.length : Nat) by omega)
  cases e'
  rw [show (1 : Int).toNat = 1 from rfl, add1] at hx1
  have p1 : (1 : Int) < bs.length := by omega
  rw [h4] at hx1
  clear h4
  have HV := Aside0.mk h
  clear h
  generalize rd bs 0 = z at hx0 hz h1 h2 h3
  obtain ⟨z0, z1⟩ := hz
  have d1 : decide (8 < z % 128) = false := decide_eq_false h1
  have d2 : decide ((bs.length : Int) ≤ z % 128) = false := decide_eq_false h2
  have d3 : decide (0 < z % 128) = true := decide_eq_true h3
  go_enter Tryz.func113, Tryz.ntmps113
  go_wp2_with (first | (go_at_call 21; refine (rleft_any w HH.out).mono ?_; rintro e w2 ⟨rfl, rfl⟩) | (go_at_call 63; refine (rfail_any w HH.out).mono ?_; rintro e w2 ⟨rfl, q1, q2⟩; have H1 := Aside0.mk q1; have H2 := Aside0.mk q2; clear q1 q2))
  go_ret2
  exact ⟨rfl, H1.out, H2.out⟩
end Go.Proofs.YtepldlnmeenlbaaGreat.Own
namespace Go.Proofs.YtepldlnmeenlbaaGreat.Own
open Go.RowKit Go.Proofs Go.Proofs.YtepldlnmeenlbaaGreatW.PrintWords Go.Proofs.YtepldlnmeenlbaaGreatW.PrintLast Go.Proofs.YtepldlnmeenlbaaGreatW.PrintMore Go.Proofs.YtepldlnmeenlbaaGreat.Base
variable {t : TypeId} {m rb c : Nat} {w w' : World} {A : Option Addr} {s : List Int × Bool} {bs : List Int} {bad : Bool}
theorem from_run (A : Option Addr) (c : Nat) (xs : List Int) (j : Int) (h0 : 0 ≤ j) (hm : j ≤ xs.length) (hc : xs.length ≤ c) :
    ∃ A' c', (∀ W : World, (Instr.slice 25 (.slice A xs.length c) (some (.int .i64 j)) none none).run Tryz.prog W = .ok (.slice A' (xs.drop j.toNat).length c') W) ∧
      (∀ w : World, Kd.C (Kd.int .u8) w A xs.length xs → Kd.C (Kd.int .u8) w A' (xs.drop j.toNat).length (xs.drop j.toNat)) ∧ (xs.drop j.toNat).length ≤ c' ∧ ∀ ad', A' = some ad' → ∃ ad, A = some ad ∧ ad'.block = ad.block := by
  obtain ⟨i5, hi5, hz⟩ := Option.map_eq_some_iff.1 infoU8
  simp only [Prod.mk.injEq] at hz
  have hl : (xs.drop j.toNat).length = xs.length - j.toNat := List.length_drop
  refine ⟨if c = j.toNat then A else A.map (·.add (j.toNat * 1)), c - j.toNat, fun W => by rw [hl]; exact cut_from 25 5 .i64 Tryz.underlying25 hi5 1 hz.2.1 A xs.length c j h0 hm W, fun w h => Kd.C_drop h (by omega) hc, by omega, fun ad' e => ?_⟩
  split at e
  · exact ⟨ad', e, rfl⟩
  · cases A with
    | none => cases e
    | some ad => injection e with e; exact ⟨ad, rfl, by rw [← e]; exact add_block _ _⟩
theorem mid_run (A : Option Addr) (c : Nat) (xs : List Int) (j : Int) (h0 : 1 ≤ j) (hm : j ≤ xs.length) (hc : xs.length ≤ c) :
    ∃ A' c', (∀ W : World, (Instr.slice 25 (.slice A xs.length c) (some (.int .i64 1)) (some (.int .i64 j)) none).run Tryz.prog W = .ok (.slice A' ((xs.take j.toNat).drop 1).length c') W) ∧
      (∀ w : World, Kd.C (Kd.int .u8) w A xs.length xs → Kd.C (Kd.int .u8) w A' ((xs.take j.toNat).drop 1).length ((xs.take j.toNat).drop 1)) := by
  obtain ⟨i5, hi5, hz⟩ := Option.map_eq_some_iff.1 infoU8
  simp only [Prod.mk.injEq] at hz
  have hl : ((xs.take j.toNat).drop 1).length = j.toNat - (1 : Int).toNat := by rw [List.length_drop, List.length_take]; omega
  exact ⟨if c = (1 : Int).toNat then A else A.map (·.add ((1 : Int).toNat * 1)), c - (1 : Int).toNat, fun W => by rw [hl]; exact cut_mid 25 5 .i64 .i64 Tryz.underlying25 hi5 1 hz.2.1 A xs.length c 1 j (by omega) h0 hm hc W, fun w h => Kd.C_mid h (by omega) (by omega) hc⟩
theorem wraps_u64 (n : Int) (h0 : 0 ≤ n) (h1 : n < 2 ^ 64) : IntKind.u64.wrap n = n := by
  have e : IntKind.u64.wrap n = n % 18446744073709551616 := by simp [IntKind.wrap, IntKind.bits, IntKind.signed]
  rw [e]
  rw [show (2 : Int) ^ 64 = 18446744073709551616 from rfl] at h1
  exact Int.emod_eq_of_lt h0 h1
theorem or_val (v y : Int) (v0 : 0 ≤ v) (v1 : v < 72057594037927936) (y0 : 0 ≤ y) (y1 : y ≤ 255) : bits .or .u64 (v * 256) y = v * 256 + y :=
  bits_join .u64 64 (by decide) wraps_u64 8 (v * 256) y (by omega) (by omega) (by rw [show (2 : Int) ^ 64 = 18446744073709551616 from rfl]; omega) y0 (by omega) (by rw [show (2 : Int) ^ 64 = 18446744073709551616 from rfl]; omega)
set_option maxHeartbeats 4000000 in
set_option maxRecDepth 100000 in
theorem rnum_zero_gt_false (most : Int) (w : World) (h : RdAt 127 m w rb (bs, bad)) (m0 : 0 ≤ most) (m1 : most < 18446744073709551616) (hp : 0 < bs.length) (h1 : ¬ 8 < rd bs 0) (h2 : ¬ (bs.length : Int) ≤ rd bs 0) (h3 : ¬ 0 < rd bs 0) (hq :  most < valB ((bs.take (rd bs 0 + 1).toNat).drop 1)) :
    Calls Tryz.prog 113 #[.pointer (some ⟨rb, 0, none⟩), .int .u64 most, .bool false] w fun e w' => e = .returned (.tuple #[.int .u64 0, .bool false]) ∧ RdAt 127 m w' rb ([], true) ∧ Upd rb w w' := by
  obtain ⟨A, c, h⟩ := h
  have HH : Aside0 (RdAt 127 m w rb (bs, bad)) := ⟨A, c, h⟩
  have c0 : w.cell? ⟨rb, 0, none⟩ = some (.slice A bs.length c) := h.g0
  obtain ⟨ad, rfl, hx0⟩ := Kd.at_int h.row 0 (Int.le_refl _) (show (0 : Int) < (bs.length : Nat) by omega)
  rw [add0] at hx0
  have hz := h.byte _ (rd_mem (Int.le_refl 0) (show (0 : Int) < bs.length by omega))
  have hm : bs.length ≤ 9223372036854775807 := h.row.2.1
  have p0 : (0 : Int) < bs.length := by omega
  have hne : ((bs.length : Int) == 0) = false := beq_eq_false_iff_ne.mpr (by omega)
  have HV := Aside0.mk h
  clear h
  generalize rd bs 0 = z at hx0 hz h1 h2 h3 hq ⊢
  obtain ⟨z0, z1⟩ := hz
  have d1 : decide (8 < z) = false := decide_eq_false h1
  have d2 : decide ((bs.length : Int) ≤ z) = false := decide_eq_false h2
  have d3 : decide (0 < z) = _ := decide_eq_false h3
  obtain ⟨A1, c1, hs1, hr1⟩ := mid_run (some ad) c bs (z + 1) (by omega) (by omega) HV.out.cap
  have HC1 := Aside0.mk (hr1 w HV.out.row)
  have hlen : ((bs.take (z + 1).toNat).drop 1).length = (z).toNat := by rw [List.length_drop, List.length_take]; omega
  have HB1 : Aside0 (∀ x, x ∈ (bs.take (z + 1).toNat).drop 1 → 0 ≤ x ∧ x ≤ 255) := ⟨fun x hx => HV.out.byte x (List.mem_of_mem_take (List.mem_of_mem_drop hx))⟩
  obtain ⟨A2, c2, hs2, hr2, hc2, hf2⟩ := from_run (some ad) c bs (z + 1) (by omega) (by omega) HV.out.cap
  have HC2 := Aside0.mk (HV.out.cut (hr2 w HV.out.row) hc2 (fun ad' e => by obtain ⟨ad0, e0, e1⟩ := hf2 ad' e; rw [e1]; exact HV.out.far ad0 e0) (fun x hx => List.mem_of_mem_drop hx))
  have f0 := HV.out.f0
  clear hr1 hr2 hc2 hf2 HV
  generalize (bs.take (z + 1).toNat).drop 1 = L at hs1 HC1 hlen HB1 hq ⊢
  have HQ := Aside0.mk hq
  clear hq
  have HVB := Aside0.mk (valB_big L HB1.out (by omega))
  generalize bs.drop (z + 1).toNat = D at hs2 HC2 ⊢
  go_enter Tryz.func113, Tryz.ntmps113
  go_wp2_with (first | (go_at_call 21; refine (rleft_any w HH.out).mono ?_; rintro e w2 ⟨rfl, rfl⟩))
  go_loop [62, 6] (fun v y => ∃ i : Nat, v = .int .i64 i ∧ i ≤ L.length ∧ y = .int .u64 (valB (L.take i))) (fun v _ => L.length - (intOf v).toNat)
  case atStart => exact ⟨0, rfl, Nat.zero_le _, rfl⟩
  case round =>
    obtain ⟨i, rfl, hi, rfl⟩ := hrel
    by_cases hlt : i < L.length
    · exfalso; omega
    · have hi2 : i = L.length := by omega
      subst hi2
      rw [List.take_length]
      obtain ⟨v0, v1⟩ := HVB.out
      have hgt := HQ.out
      go_wp2_with (first | (go_at_call 63; refine (rfail_any w HH.out).mono ?_; rintro e w2 ⟨rfl, q1, q2⟩; have H1 := Aside0.mk q1; have H2 := Aside0.mk q2; clear q1 q2))
      go_ret2
      exact ⟨rfl, H1.out, H2.out⟩
set_option maxHeartbeats 4000000 in
set_option maxRecDepth 100000 in
theorem rnum_zero_le_false (most : Int) (w : World) (h : RdAt 127 m w rb (bs, bad)) (m0 : 0 ≤ most) (m1 : most < 18446744073709551616) (hp : 0 < bs.length) (h1 : ¬ 8 < rd bs 0) (h2 : ¬ (bs.length : Int) ≤ rd bs 0) (h3 : ¬ 0 < rd bs 0) (hq : ¬ most < valB ((bs.take (rd bs 0 + 1).toNat).drop 1)) :
    Calls Tryz.prog 113 #[.pointer (some ⟨rb, 0, none⟩), .int .u64 most, .bool false] w fun e w' => e = .returned (.tuple #[.int .u64 (valB ((bs.take (rd bs 0 + 1).toNat).drop 1)), .bool false]) ∧ RdAt 127 m w' rb (bs.drop (rd bs 0 + 1).toNat, bad) ∧ Upd rb w w' := by
  obtain ⟨A, c, h⟩ := h
  have HH : Aside0 (RdAt 127 m w rb (bs, bad)) := ⟨A, c, h⟩
  have c0 : w.cell? ⟨rb, 0, none⟩ = some (.slice A bs.length c) := h.g0
  obtain ⟨ad, rfl, hx0⟩ := Kd.at_int h.row 0 (Int.le_refl _) (show (0 : Int) < (bs.length : Nat) by omega)
  rw [add0] at hx0
  have hz := h.byte _ (rd_mem (Int.le_refl 0) (show (0 : Int) < bs.length by omega))
  have hm : bs.length ≤ 9223372036854775807 := h.row.2.1
  have p0 : (0 : Int) < bs.length := by omega
  have hne : ((bs.length : Int) == 0) = false := beq_eq_false_iff_ne.mpr (by omega)
  have HV := Aside0.mk h
  clear h
  generalize rd bs 0 = z at hx0 hz h1 h2 h3 hq ⊢
  obtain ⟨z0, z1⟩ := hz
  have d1 : decide (8 < z) = false := decide_eq_false h1
  have d2 : decide ((bs.length : Int) ≤ z) = false := decide_eq_false h2
  have d3 : decide (0 < z) = _ := decide_eq_false h3
  obtain ⟨A1, c1, hs1, hr1⟩ := mid_run (some ad) c bs (z + 1) (by omega) (by omega) HV.out.cap
  have HC1 := Aside0.mk (hr1 w HV.out.row)
  have hlen : ((bs.take (z + 1).toNat).drop 1).length = (z).toNat := by rw [List.length_drop, List.length_take]; omega
  have HB1 : Aside0 (∀ x, x ∈ (bs.take (z + 1).toNat).drop 1 → 0 ≤ x ∧ x ≤ 255) := ⟨fun x hx => HV.out.byte x (List.mem_of_mem_take (List.mem_of_mem_drop hx))⟩
  obtain ⟨A2, c2, hs2, hr2, hc2, hf2⟩ := from_run (some ad) c bs (z + 1) (by omega) (by omega) HV.out.cap
  have HC2 := Aside0.mk (HV.out.cut (hr2 w HV.out.row) hc2 (fun ad' e => by obtain ⟨ad0, e0, e1⟩ := hf2 ad' e; rw [e1]; exact HV.out.far ad0 e0) (fun x hx => List.mem_of_mem_drop hx))
  have f0 := HV.out.f0
  clear hr1 hr2 hc2 hf2 HV
  generalize (bs.take (z + 1).toNat).drop 1 = L at hs1 HC1 hlen HB1 hq ⊢
  have HQ := Aside0.mk hq
  clear hq
  have HVB := Aside0.mk (valB_big L HB1.out (by omega))
  generalize bs.drop (z + 1).toNat = D at hs2 HC2 ⊢
  go_enter Tryz.func113, Tryz.ntmps113
  go_wp2_with (first | (go_at_call 21; refine (rleft_any w HH.out).mono ?_; rintro e w2 ⟨rfl, rfl⟩))
  go_loop [62, 6] (fun v y => ∃ i : Nat, v = .int .i64 i ∧ i ≤ L.length ∧ y = .int .u64 (valB (L.take i))) (fun v _ => L.length - (intOf v).toNat)
  case atStart => exact ⟨0, rfl, Nat.zero_le _, rfl⟩
  case round =>
    obtain ⟨i, rfl, hi, rfl⟩ := hrel
    by_cases hlt : i < L.length
    · exfalso; omega
    · have hi2 : i = L.length := by omega
      subst hi2
      rw [List.take_length]
      obtain ⟨v0, v1⟩ := HVB.out
      have hgt := HQ.out
      go_wp2
      go_ret2
      exact ⟨rfl, ⟨A2, c2, HC2.out.1⟩, HC2.out.2⟩
set_option maxHeartbeats 4000000 in
set_option maxRecDepth 100000 in
theorem rnum_more_gt_false (most : Int) (w : World) (h : RdAt 127 m w rb (bs, bad)) (m0 : 0 ≤ most) (m1 : most < 18446744073709551616) (hp : 0 < bs.length) (h1 : ¬ 8 < rd bs 0) (h2 : ¬ (bs.length : Int) ≤ rd bs 0) (h3 : 0 < rd bs 0) (h4 : rd bs 1 ≠ 0) (hq :  most < valB ((bs.take (rd bs 0 + 1).toNat).drop 1)) :
    Calls Tryz.prog 113 #[.pointer (some ⟨rb, 0, none⟩), .int .u64 most, .bool false] w fun e w' => e = .returned (.tuple #[.int .u64 0, .bool false]) ∧ RdAt 127 m w' rb ([], true) ∧ Upd rb w w' := by
  obtain ⟨A, c, h⟩ := h
  have HH : Aside0 (RdAt 127 m w rb (bs, bad)) := ⟨A, c, h⟩
  have c0 : w.cell? ⟨rb, 0, none⟩ = some (.slice A bs.length c) := h.g0
  obtain ⟨ad, rfl, hx0⟩ := Kd.at_int h.row 0 (Int.le_refl _) (show (0 : Int) < (bs.length : Nat) by omega)
  rw [add0] at hx0
  have hz := h.byte _ (rd_mem (Int.le_refl 0) (show (0 : Int) < bs.length by omega))
  have hm : bs.length ≤ 9223372036854775807 := h.row.2.1
  have p0 : (0 : Int) < bs.length := by omega
  have hne : ((bs.length : Int) == 0) = false := beq_eq_false_iff_ne.mpr (by omega)
  have HV := Aside0.mk h
  obtain ⟨ad', e', hx1⟩ := Kd.at_int h.row 1 (by omega) (show (1 : Int) < (bs.length : Nat) by omega)
  cases e'
  rw [show (1 : Int).toNat = 1 from rfl, add1] at hx1
  have p1 : (1 : Int) < bs.length := by omega
  have hb1 : (rd bs 1 == 0) = false := beq_eq_false_iff_ne.mpr h4
  generalize rd bs 1 = y at hx1 hb1 h4
  clear h4
  clear h
  generalize rd bs 0 = z at hx0 hz h1 h2 h3 hq ⊢
  obtain ⟨z0, z1⟩ := hz
  have d1 : decide (8 < z) = false := decide_eq_false h1
  have d2 : decide ((bs.length : Int) ≤ z) = false := decide_eq_false h2
  have d3 : decide (0 < z) = _ := decide_eq_true h3
  obtain ⟨A1, c1, hs1, hr1⟩ := mid_run (some ad) c bs (z + 1) (by omega) (by omega) HV.out.cap
  have HC1 := Aside0.mk (hr1 w HV.out.row)
  have hlen : ((bs.take (z + 1).toNat).drop 1).length = (z).toNat := by rw [List.length_drop, List.length_take]; omega
  have HB1 : Aside0 (∀ x, x ∈ (bs.take (z + 1).toNat).drop 1 → 0 ≤ x ∧ x ≤ 255) := ⟨fun x hx => HV.out.byte x (List.mem_of_mem_take (List.mem_of_mem_drop hx))⟩
  obtain ⟨A2, c2, hs2, hr2, hc2, hf2⟩ := from_run (some ad) c bs (z + 1) (by omega) (by omega) HV.out.cap
  have HC2 := Aside0.mk (HV.out.cut (hr2 w HV.out.row) hc2 (fun ad' e => by obtain ⟨ad0, e0, e1⟩ := hf2 ad' e; rw [e1]; exact HV.out.far ad0 e0) (fun x hx => List.mem_of_mem_drop hx))
  have f0 := HV.out.f0
  clear hr1 hr2 hc2 hf2 HV
  generalize (bs.take (z + 1).toNat).drop 1 = L at hs1 HC1 hlen HB1 hq ⊢
  have HQ := Aside0.mk hq
  clear hq
  have HVB := Aside0.mk (valB_big L HB1.out (by omega))
  generalize bs.drop (z + 1).toNat = D at hs2 HC2 ⊢
  go_enter Tryz.func113, Tryz.ntmps113
  go_wp2_with (first | (go_at_call 21; refine (rleft_any w HH.out).mono ?_; rintro e w2 ⟨rfl, rfl⟩))
  go_loop [62, 6] (fun v y => ∃ i : Nat, v = .int .i64 i ∧ i ≤ L.length ∧ y = .int .u64 (valB (L.take i))) (fun v _ => L.length - (intOf v).toNat)
  case atStart => exact ⟨0, rfl, Nat.zero_le _, rfl⟩
  case round =>
    obtain ⟨i, rfl, hi, rfl⟩ := hrel
    by_cases hlt : i < L.length
    · have hv := valB_small L i HB1.out (by omega)
      obtain ⟨ad1, e1, hx⟩ := Kd.at_int HC1.out i (by omega) (by omega)
      subst e1
      rw [Int.toNat_natCast] at hx
      have hxb := HB1.out _ (rd_mem (l := L) (i := (i : Int)) (by omega) (by omega))
      have HS := Aside0.mk (valB_step L i hlt)
      generalize rd L i = y at hx hxb HS
      obtain ⟨y0, y1⟩ := hxb
      generalize valB (L.take i) = v at hv HS ⊢
      obtain ⟨v0, v1⟩ := hv
      have hor := or_val v y v0 v1 y0 y1
      go_wp2
      exact ⟨⟨i + 1, by go_num, by omega, by rw [HS.out]⟩, by simp [intOf]; omega⟩
    · have hi2 : i = L.length := by omega
      subst hi2
      rw [List.take_length]
      obtain ⟨v0, v1⟩ := HVB.out
      have hgt := HQ.out
      go_wp2_with (first | (go_at_call 63; refine (rfail_any w HH.out).mono ?_; rintro e w2 ⟨rfl, q1, q2⟩; have H1 := Aside0.mk q1; have H2 := Aside0.mk q2; clear q1 q2))
      go_ret2
      exact ⟨rfl, H1.out, H2.out⟩
set_option maxHeartbeats 4000000 in
set_option maxRecDepth 100000 in
theorem rnum_more_le_false (most : Int) (w : World) (h : RdAt 127 m w rb (bs, bad)) (m0 : 0 ≤ most) (m1 : most < 18446744073709551616) (hp : 0 < bs.length) (h1 : ¬ 8 < rd bs 0) (h2 : ¬ (bs.length : Int) ≤ rd bs 0) (h3 : 0 < rd bs 0) (h4 : rd bs 1 ≠ 0) (hq : ¬ most < valB ((bs.take (rd bs 0 + 1).toNat).drop 1)) :
    Calls Tryz.prog 113 #[.pointer (some ⟨rb, 0, none⟩), .int .u64 most, .bool false] w fun e w' => e = .returned (.tuple #[.int .u64 (valB ((bs.take (rd bs 0 + 1).toNat).drop 1)), .bool false]) ∧ RdAt 127 m w' rb (bs.drop (rd bs 0 + 1).toNat, bad) ∧ Upd rb w w' := by
  obtain ⟨A, c, h⟩ := h
  have HH : Aside0 (RdAt 127 m w rb (bs, bad)) := ⟨A, c, h⟩
  have c0 : w.cell? ⟨rb, 0, none⟩ = some (.slice A bs.length c) := h.g0
  obtain ⟨ad, rfl, hx0⟩ := Kd.at_int h.row 0 (Int.le_refl _) (show (0 : Int) < (bs.length : Nat) by omega)
  rw [add0] at hx0
  have hz := h.byte _ (rd_mem (Int.le_refl 0) (show (0 : Int) < bs.length by omega))
  have hm : bs.length ≤ 9223372036854775807 := h.row.2.1
  have p0 : (0 : Int) < bs.length := by omega
  have hne : ((bs.length : Int) == 0) = false := beq_eq_false_iff_ne.mpr (by omega)
  have HV := Aside0.mk h
  obtain ⟨ad', e', hx1⟩ := Kd.at_int h.row 1 (by omega) (show (1 : Int) < (bs.length : Nat) by omega)
  cases e'
  rw [show (1 : Int).toNat = 1 from rfl, add1] at hx1
  have p1 : (1 : Int) < bs.length := by omega
  have hb1 : (rd bs 1 == 0) = false := beq_eq_false_iff_ne.mpr h4
  generalize rd bs 1 = y at hx1 hb1 h4
  clear h4
  clear h
  generalize rd bs 0 = z at hx0 hz h1 h2 h3 hq ⊢
  obtain ⟨z0, z1⟩ := hz
  have d1 : decide (8 < z) = false := decide_eq_false h1
  have d2 : decide ((bs.length : Int) ≤ z) = false := decide_eq_false h2
  have d3 : decide (0 < z) = _ := decide_eq_true h3
  obtain ⟨A1, c1, hs1, hr1⟩ := mid_run (some ad) c bs (z + 1) (by omega) (by omega) HV.out.cap
  have HC1 := Aside0.mk (hr1 w HV.out.row)
  have hlen : ((bs.take (z + 1).toNat).drop 1).length = (z).toNat := by rw [List.length_drop, List.length_take]; omega
  have HB1 : Aside0 (∀ x, x ∈ (bs.take (z + 1).toNat).drop 1 → 0 ≤ x ∧ x ≤ 255) := ⟨fun x hx => HV.out.byte x (List.mem_of_mem_take (List.mem_of_mem_drop hx))⟩
  obtain ⟨A2, c2, hs2, hr2, hc2, hf2⟩ := from_run (some ad) c bs (z + 1) (by omega) (by omega) HV.out.cap
  have HC2 := Aside0.mk (HV.out.cut (hr2 w HV.out.row) hc2 (fun ad' e => by obtain ⟨ad0, e0, e1⟩ := hf2 ad' e; rw [e1]; exact HV.out.far ad0 e0) (fun x hx => List.mem_of_mem_drop hx))
  have f0 := HV.out.f0
  clear hr1 hr2 hc2 hf2 HV
  generalize (bs.take (z + 1).toNat).drop 1 = L at hs1 HC1 hlen HB1 hq ⊢
  have HQ := Aside0.mk hq
  clear hq
  have HVB := Aside0.mk (valB_big L HB1.out (by omega))
  generalize bs.drop (z + 1).toNat = D at hs2 HC2 ⊢
  go_enter Tryz.func113, Tryz.ntmps113
  go_wp2_with (first | (go_at_call 21; refine (rleft_any w HH.out).mono ?_; rintro e w2 ⟨rfl, rfl⟩))
  go_loop [62, 6] (fun v y => ∃ i : Nat, v = .int .i64 i ∧ i ≤ L.length ∧ y = .int .u64 (valB (L.take i))) (fun v _ => L.length - (intOf v).toNat)
  case atStart => exact ⟨0, rfl, Nat.zero_le _, rfl⟩
  case round =>
    obtain ⟨i, rfl, hi, rfl⟩ := hrel
    by_cases hlt : i < L.length
    · have hv := valB_small L i HB1.out (by omega)
      obtain ⟨ad1, e1, hx⟩ := Kd.at_int HC1.out i (by omega) (by omega)
      subst e1
      rw [Int.toNat_natCast] at hx
      have hxb := HB1.out _ (rd_mem (l := L) (i := (i : Int)) (by omega) (by omega))
      have HS := Aside0.mk (valB_step L i hlt)
      generalize rd L i = y at hx hxb HS
      obtain ⟨y0, y1⟩ := hxb
      generalize valB (L.take i) = v at hv HS ⊢
      obtain ⟨v0, v1⟩ := hv
      have hor := or_val v y v0 v1 y0 y1
      go_wp2
      exact ⟨⟨i + 1, by go_num, by omega, by rw [HS.out]⟩, by simp [intOf]; omega⟩
    · have hi2 : i = L.length := by omega
      subst hi2
      rw [List.take_length]
      obtain ⟨v0, v1⟩ := HVB.out
      have hgt := HQ.out
      go_wp2
      go_ret2
      exact ⟨rfl, ⟨A2, c2, HC2.out.1⟩, HC2.out.2⟩
set_option maxHeartbeats 4000000 in
set_option maxRecDepth 100000 in
theorem rnum_zero_gt_true (most : Int) (w : World) (h : RdAt 127 m w rb (bs, bad)) (m0 : 0 ≤ most) (m1 : most < 18446744073709551616) (hp : 0 < bs.length) (h1 : ¬ 8 < rd bs 0 % 128) (h2 : ¬ (bs.length : Int) ≤ rd bs 0 % 128) (h3 : ¬ 0 < rd bs 0 % 128) (hq :  most < valB ((bs.take (rd bs 0 % 128 + 1).toNat).drop 1)) :
    Calls Tryz.prog 113 #[.pointer (some ⟨rb, 0, none⟩), .int .u64 most, .bool true] w fun e w' => e = .returned (.tuple #[.int .u64 0, .bool false]) ∧ RdAt 127 m w' rb ([], true) ∧ Upd rb w w' := by
  obtain ⟨A, c, h⟩ := h
  have HH : Aside0 (RdAt 127 m w rb (bs, bad)) := ⟨A, c, h⟩
  have c0 : w.cell? ⟨rb, 0, none⟩ = some (.slice A bs.length c) := h.g0
  obtain ⟨ad, rfl, hx0⟩ := Kd.at_int h.row 0 (Int.le_refl _) (show (0 : Int) < (bs.length : Nat) by omega)
  rw [add0] at hx0
  have hz := h.byte _ (rd_mem (Int.le_refl 0) (show (0 : Int) < bs.length by omega))
  have hm : bs.length ≤ 9223372036854775807 := h.row.2.1
  have p0 : (0 : Int) < bs.length := by omega
  have hne : ((bs.length : Int) == 0) = false := beq_eq_false_iff_ne.mpr (by omega)
  have HV := Aside0.mk h
  clear h
  generalize rd bs 0 = z at hx0 hz h1 h2 h3 hq ⊢
  obtain ⟨z0, z1⟩ := hz
  have d1 : decide (8 < z % 128) = false := decide_eq_false h1
  have d2 : decide ((bs.length : Int) ≤ z % 128) = false := decide_eq_false h2
  have d3 : decide (0 < z % 128) = _ := decide_eq_false h3
  obtain ⟨A1, c1, hs1, hr1⟩ := mid_run (some ad) c bs (z % 128 + 1) (by omega) (by omega) HV.out.cap
  have HC1 := Aside0.mk (hr1 w HV.out.row)
  have hlen : ((bs.take (z % 128 + 1).toNat).drop 1).length = (z % 128).toNat := by rw [List.length_drop, List.length_take]; omega
  have HB1 : Aside0 (∀ x, x ∈ (bs.take (z % 128 + 1).toNat).drop 1 → 0 ≤ x ∧ x ≤ 255) := ⟨fun x hx => HV.out.byte x (List.mem_of_mem_take (List.mem_of_mem_drop hx))⟩
  obtain ⟨A2, c2, hs2, hr2, hc2, hf2⟩ := from_run (some ad) c bs (z % 128 + 1) (by omega) (by omega) HV.out.cap
  have HC2 := Aside0.mk (HV.out.cut (hr2 w HV.out.row) hc2 (fun ad' e => by obtain ⟨ad0, e0, e1⟩ := hf2 ad' e; rw [e1]; exact HV.out.far ad0 e0) (fun x hx => List.mem_of_mem_drop hx))
  have f0 := HV.out.f0
  clear hr1 hr2 hc2 hf2 HV
  generalize (bs.take (z % 128 + 1).toNat).drop 1 = L at hs1 HC1 hlen HB1 hq ⊢
  have HQ := Aside0.mk hq
  clear hq
  have HVB := Aside0.mk (valB_big L HB1.out (by omega))
  generalize bs.drop (z % 128 + 1).toNat = D at hs2 HC2 ⊢
  go_enter Tryz.func113, Tryz.ntmps113
  go_wp2_with (first | (go_at_call 21; refine (rleft_any w HH.out).mono ?_; rintro e w2 ⟨rfl, rfl⟩))
  go_loop [62, 6] (fun v y => ∃ i : Nat, v = .int .i64 i ∧ i ≤ L.length ∧ y = .int .u64 (valB (L.take i))) (fun v _ => L.length - (intOf v).toNat)
  case atStart => exact ⟨0, rfl, Nat.zero_le _, rfl⟩
  case round =>
    obtain ⟨i, rfl, hi, rfl⟩ := hrel
    by_cases hlt : i < L.length
    · exfalso; omega
    · have hi2 : i = L.length := by omega
      subst hi2
      rw [List.take_length]
      obtain ⟨v0, v1⟩ := HVB.out
      have hgt := HQ.out
      go_wp2_with (first | (go_at_call 63; refine (rfail_any w HH.out).mono ?_; rintro e w2 ⟨rfl, q1, q2⟩; have H1 := Aside0.mk q1; have H2 := Aside0.mk q2; clear q1 q2))
      go_ret2
      exact ⟨rfl, H1.out, H2.out⟩
set_option maxHeartbeats 4000000 in
set_option maxRecDepth 100000 in
theorem rnum_zero_le_true (most : Int) (w : World) (h : RdAt 127 m w rb (bs, bad)) (m0 : 0 ≤ most) (m1 : most < 18446744073709551616) (hp : 0 < bs.length) (h1 : ¬ 8 < rd bs 0 % 128) (h2 : ¬ (bs.length : Int) ≤ rd bs 0 % 128) (h3 : ¬ 0 < rd bs 0 % 128) (hq : ¬ most < valB ((bs.take (rd bs 0 % 128 + 1).toNat).drop 1)) :
    Calls Tryz.prog 113 #[.pointer (some ⟨rb, 0, none⟩), .int .u64 most, .bool true] w fun e w' => e = .returned (.tuple #[.int .u64 (valB ((bs.take (rd bs 0 % 128 + 1).toNat).drop 1)), .bool (decide (128 ≤ rd bs 0))]) ∧ RdAt 127 m w' rb (bs.drop (rd bs 0 % 128 + 1).toNat, bad) ∧ Upd rb w w' := by
  obtain ⟨A, c, h⟩ := h
  have HH : Aside0 (RdAt 127 m w rb (bs, bad)) := ⟨A, c, h⟩
  have c0 : w.cell? ⟨rb, 0, none⟩ = some (.slice A bs.length c) := h.g0
  obtain ⟨ad, rfl, hx0⟩ := Kd.at_int h.row 0 (Int.le_refl _) (show (0 : Int) < (bs.length : Nat) by omega)
  rw [add0] at hx0
  have hz := h.byte _ (rd_mem (Int.le_refl 0) (show (0 : Int) < bs.length by omega))
  have hm : bs.length ≤ 9223372036854775807 := h.row.2.1
  have p0 : (0 : Int) < bs.length := by omega
  have hne : ((bs.length : Int) == 0) = false := beq_eq_false_iff_ne.mpr (by omega)
  have HV := Aside0.mk h
  clear h
  generalize rd bs 0 = z at hx0 hz h1 h2 h3 hq ⊢
  obtain ⟨z0, z1⟩ := hz
  have d1 : decide (8 < z % 128) = false := decide_eq_false h1
  have d2 : decide ((bs.length : Int) ≤ z % 128) = false := decide_eq_false h2
  have d3 : decide (0 < z % 128) = _ := decide_eq_false h3
  obtain ⟨A1, c1, hs1, hr1⟩ := mid_run (some ad) c bs (z % 128 + 1) (by omega) (by omega) HV.out.cap
  have HC1 := Aside0.mk (hr1 w HV.out.row)
  have hlen : ((bs.take (z % 128 + 1).toNat).drop 1).length = (z % 128).toNat := by rw [List.length_drop, List.length_take]; omega
  have HB1 : Aside0 (∀ x, x ∈ (bs.take (z % 128 + 1).toNat).drop 1 → 0 ≤ x ∧ x ≤ 255) := ⟨fun x hx => HV.out.byte x (List.mem_of_mem_take (List.mem_of_mem_drop hx))⟩
  obtain ⟨A2, c2, hs2, hr2, hc2, hf2⟩ := from_run (some ad) c bs (z % 128 + 1) (by omega) (by omega) HV.out.cap
  have HC2 := Aside0.mk (HV.out.cut (hr2 w HV.out.row) hc2 (fun ad' e => by obtain ⟨ad0, e0, e1⟩ := hf2 ad' e; rw [e1]; exact HV.out.far ad0 e0) (fun x hx => List.mem_of_mem_drop hx))
  have f0 := HV.out.f0
  clear hr1 hr2 hc2 hf2 HV
  generalize (bs.take (z % 128 + 1).toNat).drop 1 = L at hs1 HC1 hlen HB1 hq ⊢
  have HQ := Aside0.mk hq
  clear hq
  have HVB := Aside0.mk (valB_big L HB1.out (by omega))
  generalize bs.drop (z % 128 + 1).toNat = D at hs2 HC2 ⊢
  go_enter Tryz.func113, Tryz.ntmps113
  go_wp2_with (first | (go_at_call 21; refine (rleft_any w HH.out).mono ?_; rintro e w2 ⟨rfl, rfl⟩))
  go_loop [62, 6] (fun v y => ∃ i : Nat, v = .int .i64 i ∧ i ≤ L.length ∧ y = .int .u64 (valB (L.take i))) (fun v _ => L.length - (intOf v).toNat)
  case atStart => exact ⟨0, rfl, Nat.zero_le _, rfl⟩
  case round =>
    obtain ⟨i, rfl, hi, rfl⟩ := hrel
    by_cases hlt : i < L.length
    · exfalso; omega
    · have hi2 : i = L.length := by omega
      subst hi2
      rw [List.take_length]
      obtain ⟨v0, v1⟩ := HVB.out
      have hgt := HQ.out
      go_wp2
      go_ret2
      exact ⟨rfl, ⟨A2, c2, HC2.out.1⟩, HC2.out.2⟩
set_option maxHeartbeats 4000000 in
set_option maxRecDepth 100000 in
theorem rnum_more_gt_true (most : Int) (w : World) (h : RdAt 127 m w rb (bs, bad)) (m0 : 0 ≤ most) (m1 : most < 18446744073709551616) (hp : 0 < bs.length) (h1 : ¬ 8 < rd bs 0 % 128) (h2 : ¬ (bs.length : Int) ≤ rd bs 0 % 128) (h3 : 0 < rd bs 0 % 128) (h4 : rd bs 1 ≠ 0) (hq :  most < valB ((bs.take (rd bs 0 % 128 + 1).toNat).drop 1)) :
    Calls Tryz.prog 113 #[.pointer (some ⟨rb, 0, none⟩), .int .u64 most, .bool true] w fun e w' => e = .returned (.tuple #[.int .u64 0, .bool false]) ∧ RdAt 127 m w' rb ([], true) ∧ Upd rb w w' := by
  obtain ⟨A, c, h⟩ := h
  have HH : Aside0 (RdAt 127 m w rb (bs, bad)) := ⟨A, c, h⟩
  have c0 : w.cell? ⟨rb, 0, none⟩ = some (.slice A bs.length c) := h.g0
  obtain ⟨ad, rfl, hx0⟩ := Kd.at_int h.row 0 (Int.le_refl _) (show (0 : Int) < (bs.length : Nat) by omega)
  rw [add0] at hx0
  have hz := h.byte _ (rd_mem (Int.le_refl 0) (show (0 : Int) < bs.length by omega))
  have hm : bs.length ≤ 9223372036854775807 := h.row.2.1
  have p0 : (0 : Int) < bs.length := by omega
  have hne : ((bs.length : Int) == 0) = false := beq_eq_false_iff_ne.mpr (by omega)
  have HV := Aside0.mk h
  obtain ⟨ad', e', hx1⟩ := Kd.at_int h.row 1 (by omega) (show (1 : Int) < (bs.length : Nat) by omega)
  cases e'
  rw [show (1 : Int).toNat = 1 from rfl, add1] at hx1
  have p1 : (1 : Int) < bs.length := by omega
  have hb1 : (rd bs 1 == 0) = false := beq_eq_false_iff_ne.mpr h4
  generalize rd bs 1 = y at hx1 hb1 h4
  clear h4
  clear h
  generalize rd bs 0 = z at hx0 hz h1 h2 h3 hq ⊢
  obtain ⟨z0, z1⟩ := hz
  have d1 : decide (8 < z % 128) = false := decide_eq_false h1
  have d2 : decide ((bs.length : Int) ≤ z % 128) = false := decide_eq_false h2
  have d3 : decide (0 < z % 128) = _ := decide_eq_true h3
  obtain ⟨A1, c1, hs1, hr1⟩ := mid_run (some ad) c bs (z % 128 + 1) (by omega) (by omega) HV.out.cap
  have HC1 := Aside0.mk (hr1 w HV.out.row)
  have hlen : ((bs.take (z % 128 + 1).toNat).drop 1).length = (z % 128).toNat := by rw [List.length_drop, List.length_take]; omega
  have HB1 : Aside0 (∀ x, x ∈ (bs.take (z % 128 + 1).toNat).drop 1 → 0 ≤ x ∧ x ≤ 255) := ⟨fun x hx => HV.out.byte x (List.mem_of_mem_take (List.mem_of_mem_drop hx))⟩
  obtain ⟨A2, c2, hs2, hr2, hc2, hf2⟩ := from_run (some ad) c bs (z % 128 + 1) (by omega) (by omega) HV.out.cap
  have HC2 := Aside0.mk (HV.out.cut (hr2 w HV.out.row) hc2 (fun ad' e => by obtain ⟨ad0, e0, e1⟩ := hf2 ad' e; rw [e1]; exact HV.out.far ad0 e0) (fun x hx => List.mem_of_mem_drop hx))
  have f0 := HV.out.f0
  clear hr1 hr2 hc2 hf2 HV
  generalize (bs.take (z % 128 + 1).toNat).drop 1 = L at hs1 HC1 hlen HB1 hq ⊢
  have HQ := Aside0.mk hq
  clear hq
  have HVB := Aside0.mk (valB_big L HB1.out (by omega))
  generalize bs.drop (z % 128 + 1).toNat = D at hs2 HC2 ⊢
  go_enter Tryz.func113, Tryz.ntmps113
  go_wp2_with (first | (go_at_call 21; refine (rleft_any w HH.out).mono ?_; rintro e w2 ⟨rfl, rfl⟩))
  go_loop [62, 6] (fun v y => ∃ i : Nat, v = .int .i64 i ∧ i ≤ L.length ∧ y = .int .u64 (valB (L.take i))) (fun v _ => L.length - (intOf v).toNat)
  case atStart => exact ⟨0, rfl, Nat.zero_le _, rfl⟩
  case round =>
    obtain ⟨i, rfl, hi, rfl⟩ := hrel
    by_cases hlt : i < L.length
    · have hv := valB_small L i HB1.out (by omega)
      obtain ⟨ad1, e1, hx⟩ := Kd.at_int HC1.out i (by omega) (by omega)
      subst e1
      rw [Int.toNat_natCast] at hx
      have hxb := HB1.out _ (rd_mem (l := L) (i := (i : Int)) (by omega) (by omega))
      have HS := Aside0.mk (valB_step L i hlt)
      generalize rd L i = y at hx hxb HS
      obtain ⟨y0, y1⟩ := hxb
      generalize valB (L.take i) = v at hv HS ⊢
      obtain ⟨v0, v1⟩ := hv
      have hor := or_val v y v0 v1 y0 y1
      go_wp2
      exact ⟨⟨i + 1, by go_num, by omega, by rw [HS.out]⟩, by simp [intOf]; omega⟩
    · have hi2 : i = L.length := by omega
      subst hi2
      rw [List.take_length]
      obtain ⟨v0, v1⟩ := HVB.out
      have hgt := HQ.out
      go_wp2_with (first | (go_at_call 63; refine (rfail_any w HH.out).mono ?_; rintro e w2 ⟨rfl, q1, q2⟩; have H1 := Aside0.mk q1; have H2 := Aside0.mk q2; clear q1 q2))
      go_ret2
      exact ⟨rfl, H1.out, H2.out⟩
set_option maxHeartbeats 4000000 in
set_option maxRecDepth 100000 in
theorem rnum_more_le_true (most : Int) (w : World) (h : RdAt 127 m w rb (bs, bad)) (m0 : 0 ≤ most) (m1 : most < 18446744073709551616) (hp : 0 < bs.length) (h1 : ¬ 8 < rd bs 0 % 128) (h2 : ¬ (bs.length : Int) ≤ rd bs 0 % 128) (h3 : 0 < rd bs 0 % 128) (h4 : rd bs 1 ≠ 0) (hq : ¬ most < valB ((bs.take (rd bs 0 % 128 + 1).toNat).drop 1)) :
    Calls Tryz.prog 113 #[.pointer (some ⟨rb, 0, none⟩), .int .u64 most, .bool true] w fun e w' => e = .returned (.tuple #[.int .u64 (valB ((bs.take (rd bs 0 % 128 + 1).toNat).drop 1)), .bool (decide (128 ≤ rd bs 0))]) ∧ RdAt 127 m w' rb (bs.drop (rd bs 0 % 128 + 1).toNat, bad) ∧ Upd rb w w' := by
  obtain ⟨A, c, h⟩ := h
  have HH : Aside0 (RdAt 127 m w rb (bs, bad)) := ⟨A, c, h⟩
  have c0 : w.cell? ⟨rb, 0, none⟩ = some (.slice A bs.length c) := h.g0
  obtain ⟨ad, rfl, hx0⟩ := Kd.at_int h.row 0 (Int.le_refl _) (show (0 : Int) < (bs.length : Nat) by omega)
  rw [add0] at hx0
  have hz := h.byte _ (rd_mem (Int.le_refl 0) (show (0 : Int) < bs.length by omega))
  have hm : bs.length ≤ 9223372036854775807 := h.row.2.1
  have p0 : (0 : Int) < bs.length := by omega
  have hne : ((bs.length : Int) == 0) = false := beq_eq_false_iff_ne.mpr (by omega)
  have HV := Aside0.mk h
  obtain ⟨ad', e', hx1⟩ := Kd.at_int h.row 1 (by omega) (show (1 : Int) < (bs.length : Nat) by omega)
  cases e'
  rw [show (1 : Int).toNat = 1 from rfl, add1] at hx1
  have p1 : (1 : Int) < bs.length := by omega
  have hb1 : (rd bs 1 == 0) = false := beq_eq_false_iff_ne.mpr h4
  generalize rd bs 1 = y at hx1 hb1 h4
  clear h4
  clear h
  generalize rd bs 0 = z at hx0 hz h1 h2 h3 hq ⊢
  obtain ⟨z0, z1⟩ := hz
  have d1 : decide (8 < z % 128) = false := decide_eq_false h1
  have d2 : decide ((bs.length : Int) ≤ z % 128) = false := decide_eq_false h2
  have d3 : decide (0 < z % 128) = _ := decide_eq_true h3
  obtain ⟨A1, c1, hs1, hr1⟩ := mid_run (some ad) c bs (z % 128 + 1) (by omega) (by omega) HV.out.cap
  have HC1 := Aside0.mk (hr1 w HV.out.row)
  have hlen : ((bs.take (z % 128 + 1).toNat).drop 1).length = (z % 128).toNat := by rw [List.length_drop, List.length_take]; omega
  have HB1 : Aside0 (∀ x, x ∈ (bs.take (z % 128 + 1).toNat).drop 1 → 0 ≤ x ∧ x ≤ 255) := ⟨fun x hx => HV.out.byte x (List.mem_of_mem_take (List.mem_of_mem_drop hx))⟩
  obtain ⟨A2, c2, hs2, hr2, hc2, hf2⟩ := from_run (some ad) c bs (z % 128 + 1) (by omega) (by omega) HV.out.cap
  have HC2 := Aside0.mk (HV.out.cut (hr2 w HV.out.row) hc2 (fun ad' e => by obtain ⟨ad0, e0, e1⟩ := hf2 ad' e; rw [e1]; exact HV.out.far ad0 e0) (fun x hx => List.mem_of_mem_drop hx))
  have f0 := HV.out.f0
  clear hr1 hr2 hc2 hf2 HV
  generalize (bs.take (z % 128 + 1).toNat).drop 1 = L at hs1 HC1 hlen HB1 hq ⊢
  have HQ := Aside0.mk hq
  clear hq
  have HVB := Aside0.mk (valB_big L HB1.out (by omega))
  generalize bs.drop (z % 128 + 1).toNat = D at hs2 HC2 ⊢
  go_enter Tryz.func113, Tryz.ntmps113
  go_wp2_with (first | (go_at_call 21; refine (rleft_any w HH.out).mono ?_; rintro e w2 ⟨rfl, rfl⟩))
  go_loop [62, 6] (fun v y => ∃ i : Nat, v = .int .i64 i ∧ i ≤ L.length ∧ y = .int .u64 (valB (L.take i))) (fun v _ => L.length - (intOf v).toNat)
  case atStart => exact ⟨0, rfl, Nat.zero_le _, rfl⟩
  case round =>
    obtain ⟨i, rfl, hi, rfl⟩ := hrel
    by_cases hlt : i < L.length
    · have hv := valB_small L i HB1.out (by omega)
      obtain ⟨ad1, e1, hx⟩ := Kd.at_int HC1.out i (by omega) (by omega)
      subst e1
      rw [Int.toNat_natCast] at hx
      have hxb := HB1.out _ (rd_mem (l := L) (i := (i : Int)) (by omega) (by omega))
      have HS := Aside0.mk (valB_step L i hlt)
      generalize rd L i = y at hx hxb HS
      obtain ⟨y0, y1⟩ := hxb
      generalize valB (L.take i) = v at hv HS ⊢
      obtain ⟨v0, v1⟩ := hv
      have hor := or_val v y v0 v1 y0 y1
      go_wp2
      exact ⟨⟨i + 1, by go_num, by omega, by rw [HS.out]⟩, by simp [intOf]; omega⟩
    · have hi2 : i = L.length := by omega
      subst hi2
      rw [List.take_length]
      obtain ⟨v0, v1⟩ := HVB.out
      have hgt := HQ.out
      go_wp2
      go_ret2
      exact ⟨rfl, ⟨A2, c2, HC2.out.1⟩, HC2.out.2⟩
end Go.Proofs.YtepldlnmeenlbaaGreat.Own
namespace Go.Proofs.YtepldlnmeenlbaaGreat.Own
open Go.RowKit Go.Proofs Go.Proofs.YtepldlnmeenlbaaGreatW.PrintWords Go.Proofs.YtepldlnmeenlbaaGreatW.PrintLast Go.Proofs.YtepldlnmeenlbaaGreatW.PrintMore Go.Proofs.YtepldlnmeenlbaaGreat.Base
variable {t : TypeId} {m rb c : Nat} {w w' : World} {A : Option Addr} {s : List Int × Bool} {bs : List Int} {bad : Bool}
theorem rdN_none {mk : Bool} {most : Int} (h : numR mk most s.1 = none) : rdN mk most s = ((0, false), ([], true)) := by unfold rdN; rw [h]
theorem rdN_some {mk : Bool} {most : Int} {x : Int} {b : Bool} {r : List Int} (h : numR mk most s.1 = some (x, b, r)) : rdN mk most s = ((x, b), (r, s.2)) := by unfold rdN; rw [h]
theorem rnumber_any (mk : Bool) (most : Int) (w : World) (h : RdAt 127 m w rb s) (m0 : 0 ≤ most) (m1 : most < 18446744073709551616) :
    Calls Tryz.prog 113 #[.pointer (some ⟨rb, 0, none⟩), .int .u64 most, .bool mk] w fun e w' => e = .returned (.tuple #[.int .u64 (rdN mk most s).1.1, .bool (rdN mk most s).1.2]) ∧ RdAt 127 m w' rb (rdN mk most s).2 ∧ Upd rb w w' := by
  obtain ⟨bs, bad⟩ := s
  by_cases hb : bs = []
  · rw [rdN_none (s := (bs, bad)) (by subst hb; rfl)]
    cases mk with
    | false => exact rnum_nil_false most w h m0 m1 hb
    | true => exact rnum_nil_true most w h m0 m1 hb
  · have hp : 0 < bs.length := by rcases bs with _ | ⟨x, r⟩; exact absurd rfl hb; simp
    have hz : 0 ≤ rd bs 0 ∧ rd bs 0 ≤ 255 := by
      obtain ⟨A, c, h⟩ := h
      exact h.byte _ (rd_mem (Int.le_refl 0) (show (0 : Int) < bs.length by omega))
    have h0 : 0 ≤ szR mk bs := by unfold szR; split <;> omega
    have hn := numR_rd (mk := mk) (most := most) hp h0
    have no : (8 < szR mk bs ∨ (bs.length : Int) ≤ szR mk bs ∨ 0 < szR mk bs ∧ rd bs 1 = 0) → rdN mk most (bs, bad) = ((0, false), ([], true)) := fun hc => rdN_none (by rw [show (bs, bad).1 = bs from rfl, hn, if_pos hc])
    by_cases h1 : 8 < szR mk bs
    · rw [no (.inl h1)]
      cases mk with
      | false => exact rnum_big_false most w h m0 m1 hp h1
      | true => exact rnum_big_true most w h m0 m1 hp h1
    by_cases h2 : (bs.length : Int) ≤ szR mk bs
    · rw [no (.inr (.inl h2))]
      cases mk with
      | false => exact rnum_short_false most w h m0 m1 hp h1 h2
      | true => exact rnum_short_true most w h m0 m1 hp h1 h2
    by_cases h34 : 0 < szR mk bs ∧ rd bs 1 = 0
    · rw [no (.inr (.inr h34))]
      cases mk with
      | false => exact rnum_lead_false most w h m0 m1 hp h1 h2 h34.1 h34.2
      | true => exact rnum_lead_true most w h m0 m1 hp h1 h2 h34.1 h34.2
    rw [if_neg (by rintro (x | x | x); exact h1 x; exact h2 x; exact h34 x)] at hn
    by_cases hq : most < valB ((bs.take (szR mk bs + 1).toNat).drop 1)
    · rw [if_pos hq] at hn
      rw [rdN_none (s := (bs, bad)) hn]
      by_cases h3 : 0 < szR mk bs
      · cases mk with
        | false => exact rnum_more_gt_false most w h m0 m1 hp h1 h2 h3 (fun e => h34 ⟨h3, e⟩) hq
        | true => exact rnum_more_gt_true most w h m0 m1 hp h1 h2 h3 (fun e => h34 ⟨h3, e⟩) hq
      · cases mk with
        | false => exact rnum_zero_gt_false most w h m0 m1 hp h1 h2 h3 hq
        | true => exact rnum_zero_gt_true most w h m0 m1 hp h1 h2 h3 hq
    · rw [if_neg hq] at hn
      rw [rdN_some (s := (bs, bad)) hn]
      by_cases h3 : 0 < szR mk bs
      · cases mk with
        | false => exact rnum_more_le_false most w h m0 m1 hp h1 h2 h3 (fun e => h34 ⟨h3, e⟩) hq
        | true => exact rnum_more_le_true most w h m0 m1 hp h1 h2 h3 (fun e => h34 ⟨h3, e⟩) hq
      · cases mk with
        | false => exact rnum_zero_le_false most w h m0 m1 hp h1 h2 h3 hq
        | true => exact rnum_zero_le_true most w h m0 m1 hp h1 h2 h3 hq
theorem rdN_bound {mk : Bool} {most : Int} (h : ∀ x, x ∈ s.1 → 0 ≤ x ∧ x ≤ 255) (m0 : 0 ≤ most) : 0 ≤ (rdN mk most s).1.1 ∧ (rdN mk most s).1.1 ≤ most := by
  unfold rdN
  cases hn : numR mk most s.1 with
  | none => exact ⟨Int.le_refl _, m0⟩
  | some r =>
    obtain ⟨x, b, r⟩ := r
    obtain ⟨l, g⟩ := s
    rcases l with _ | ⟨c, t⟩
    · cases hn
    · simp only [numR] at hn
      generalize (if mk = true then c % 128 else c) = z at hn
      split at hn
      · cases hn
      · by_cases hq : most < valB (t.take z.toNat)
        · rw [if_pos hq] at hn; cases hn
        · rw [if_neg hq] at hn
          injection hn with hn
          injection hn with hn _
          subst hn
          exact ⟨(valB_bound _ (fun x hx => h x (List.mem_cons_of_mem _ (List.mem_of_mem_take hx)))).1, Int.not_lt.1 hq⟩
set_option maxHeartbeats 1600000 in
set_option maxRecDepth 100000 in
theorem rnum_any (most : Int) (w : World) (h : RdAt 127 m w rb s) (m0 : 0 ≤ most) (m1 : most < 18446744073709551616) :
    Calls Tryz.prog 61 #[.pointer (some ⟨rb, 0, none⟩), .int .u64 most] w fun e w' => e = .returned (.int .u64 (rdNum most s).1) ∧ RdAt 127 m w' rb (rdNum most s).2 ∧ Upd rb w w' := by
  have HH := Aside0.mk h
  clear h
  go_enter Tryz.func61, Tryz.ntmps61
  go_wp2_with (go_at_call 113; refine (rnumber_any false most w HH.out m0 m1).mono ?_; rintro e w2 ⟨rfl, q1, q2⟩; have H1 := Aside0.mk q1; have H2 := Aside0.mk q2; clear q1 q2)
  go_ret
  exact ⟨rfl, H1.out, H2.out⟩
set_option maxHeartbeats 1600000 in
set_option maxRecDepth 100000 in
theorem rint_any (w : World) (h : RdAt 127 m w rb s) :
    Calls Tryz.prog 60 #[.pointer (some ⟨rb, 0, none⟩)] w fun e w' => e = .returned (.int .i64 (rdInt s).1) ∧ RdAt 127 m w' rb (rdInt s).2 ∧ Upd rb w w' := by
  have hb := rdN_bound (s := s) (mk := true) (most := 9223372036854775807) (by obtain ⟨A, c, h⟩ := h; exact h.byte) (by omega)
  have HH := Aside0.mk (rnumber_any true 9223372036854775807 w h (by omega) (by omega))
  have HI : Aside0 ((rdInt s).1 = if (rdN true 9223372036854775807 s).1.2 = true then -1 - (rdN true 9223372036854775807 s).1.1 else (rdN true 9223372036854775807 s).1.1) := ⟨rfl⟩
  have HS : Aside0 ((rdInt s).2 = (rdN true 9223372036854775807 s).2) := ⟨rfl⟩
  clear h
  generalize rdInt s = I at HI HS ⊢
  generalize rdN true 9223372036854775807 s = q at hb HH HI HS
  obtain ⟨⟨x, b⟩, r⟩ := q
  obtain ⟨i1, i2⟩ := I
  simp only at hb HH HI HS ⊢
  obtain ⟨x0, x1⟩ := hb
  cases b with
  | true =>
    have e1 : i1 = -1 - x := by simpa using HI.out
    have e2 : i2 = r := HS.out
    subst e1 e2
    clear HI HS
    go_enter Tryz.func60, Tryz.ntmps60
    go_wp2_with (go_at_call 113; refine HH.out.mono ?_; rintro e w2 ⟨rfl, q1, q2⟩; have H1 := Aside0.mk q1; have H2 := Aside0.mk q2; clear q1 q2)
    go_ret
    exact ⟨rfl, H1.out, H2.out⟩
  | false =>
    have e1 : i1 = x := by simpa using HI.out
    have e2 : i2 = r := HS.out
    subst e1 e2
    clear HI HS
    go_enter Tryz.func60, Tryz.ntmps60
    go_wp2_with (go_at_call 113; refine HH.out.mono ?_; rintro e w2 ⟨rfl, q1, q2⟩; have H1 := Aside0.mk q1; have H2 := Aside0.mk q2; clear q1 q2)
    go_ret
    exact ⟨rfl, H1.out, H2.out⟩
end Go.Proofs.YtepldlnmeenlbaaGreat.Own
namespace Go.Proofs.YtepldlnmeenlbaaGreat.Own
open Go.RowKit Go.Proofs Go.Proofs.YtepldlnmeenlbaaGreatW.PrintWords Go.Proofs.YtepldlnmeenlbaaGreatW.PrintLast Go.Proofs.YtepldlnmeenlbaaGreatW.PrintMore Go.Proofs.YtepldlnmeenlbaaGreat.Base
variable {t : TypeId} {m rb c : Nat} {w w' : World} {A : Option Addr} {s : List Int × Bool} {bs : List Int} {bad : Bool}
set_option maxHeartbeats 1600000 in
set_option maxRecDepth 100000 in
theorem dfail_any (w : World) (h : RdAt 42 m w rb s) : Calls Tryz.prog 69 #[.pointer (some ⟨rb, 0, none⟩)] w fun e w' => e = .returned (.tuple #[]) ∧ RdAt 42 m w' rb ([], true) ∧ Upd rb w w' := by
  obtain ⟨A, c, h⟩ := h
  have c0 := h.g0
  have c1 := h.g1
  have f0 := h.f0
  have f1 := h.f1
  have HF := Aside0.mk h.failed
  clear h
  go_enter Tryz.func69, Tryz.ntmps69
  go_wp2
  go_end0
  exact ⟨rfl, ⟨none, 0, HF.out.1⟩, HF.out.2⟩
set_option maxHeartbeats 1600000 in
set_option maxRecDepth 100000 in
theorem dfirst_nil (w : World) (h : RdAt 42 m w rb ([], bad)) : Calls Tryz.prog 114 #[.pointer (some ⟨rb, 0, none⟩)] w fun e w' => e = .returned (.tuple #[.int .u8 0, .bool false]) ∧ w = w' := by
  obtain ⟨A, c, h⟩ := h
  have c0 : w.cell? ⟨rb, 0, none⟩ = some (.slice A 0 c) := h.g0
  clear h
  go_enter Tryz.func114, Tryz.ntmps114
  go_wp2
  go_ret2
  exact ⟨rfl, rfl⟩
set_option maxHeartbeats 1600000 in
set_option maxRecDepth 100000 in
theorem dfirst_cons (w : World) (hp : 0 < bs.length) (h : RdAt 42 m w rb (bs, bad)) : Calls Tryz.prog 114 #[.pointer (some ⟨rb, 0, none⟩)] w fun e w' => e = .returned (.tuple #[.int .u8 (rd bs 0), .bool true]) ∧ RdAt 42 m w' rb (bs.drop 1, bad) ∧ Upd rb w w' := by
  obtain ⟨A, c, h⟩ := h
  have c0 : w.cell? ⟨rb, 0, none⟩ = some (.slice A bs.length c) := h.g0
  obtain ⟨ad, rfl, hx0⟩ := Kd.at_int h.row 0 (Int.le_refl _) (show (0 : Int) < (bs.length : Nat) by omega)
  rw [add0] at hx0
  have hm : bs.length ≤ 9223372036854775807 := h.row.2.1
  have p0 : (0 : Int) < bs.length := by omega
  have hne : ((bs.length : Int) == 0) = false := beq_eq_false_iff_ne.mpr (by omega)
  obtain ⟨A2, c2, hs2, hr2, hc2, hf2⟩ := from_run (some ad) c bs 1 (by omega) (by omega) h.cap
  rw [show (1 : Int).toNat = 1 from rfl] at hs2 hr2 hc2
  have HC2 := Aside0.mk (h.cut (hr2 w h.row) hc2 (fun ad' e => by obtain ⟨ad0, e0, e1⟩ := hf2 ad' e; rw [e1]; exact h.far ad0 e0) (fun x hx => List.mem_of_mem_drop hx))
  have f0 := h.f0
  clear hr2 hc2 hf2 h
  generalize bs.drop 1 = D at hs2 HC2 ⊢
  go_enter Tryz.func114, Tryz.ntmps114
  go_wp2
  go_ret2
  exact ⟨rfl, ⟨A2, c2, HC2.out.1⟩, HC2.out.2⟩
set_option maxHeartbeats 4000000 in
set_option maxRecDepth 100000 in
theorem dnum_big (n : Int) (w : World) (h : RdAt 42 m w rb (bs, bad)) (n0 : 0 ≤ n) (n1 : n ≤ 255) (h1 : 8 < n) :
    Calls Tryz.prog 115 #[.pointer (some ⟨rb, 0, none⟩), .int .i64 n] w fun e w' => e = .returned (.tuple #[.int .u64 0, .bool false]) ∧ w = w' := by
  obtain ⟨A, c, h⟩ := h
  have c0 : w.cell? ⟨rb, 0, none⟩ = some (.slice A bs.length c) := h.g0
  have hm : bs.length ≤ 9223372036854775807 := h.row.2.1
  have d1 : decide (8 < n) = true := decide_eq_true h1
  clear h
  go_enter Tryz.func115, Tryz.ntmps115
  go_wp2
  go_ret2
  exact ⟨rfl, rfl⟩
set_option maxHeartbeats 4000000 in
set_option maxRecDepth 100000 in
theorem dnum_short (n : Int) (w : World) (h : RdAt 42 m w rb (bs, bad)) (n0 : 0 ≤ n) (n1 : n ≤ 255) (h1 : ¬ 8 < n) (h2 : (bs.length : Int) < n) :
    Calls Tryz.prog 115 #[.pointer (some ⟨rb, 0, none⟩), .int .i64 n] w fun e w' => e = .returned (.tuple #[.int .u64 0, .bool false]) ∧ w = w' := by
  obtain ⟨A, c, h⟩ := h
  have c0 : w.cell? ⟨rb, 0, none⟩ = some (.slice A bs.length c) := h.g0
  have hm : bs.length ≤ 9223372036854775807 := h.row.2.1
  have d1 : decide (8 < n) = false := decide_eq_false h1
  have d2 : decide ((bs.length : Int) < n) = true := decide_eq_true h2
  clear h
  go_enter Tryz.func115, Tryz.ntmps115
  go_wp2
  go_ret2
  exact ⟨rfl, rfl⟩
set_option maxHeartbeats 4000000 in
set_option maxRecDepth 100000 in
theorem dnum_lead (n : Int) (w : World) (h : RdAt 42 m w rb (bs, bad)) (n0 : 0 ≤ n) (n1 : n ≤ 255) (h1 : ¬ 8 < n) (h2 : ¬ (bs.length : Int) < n) (h3 : 0 < n) (h4 : rd bs 0 = 0) :
    Calls Tryz.prog 115 #[.pointer (some ⟨rb, 0, none⟩), .int .i64 n] w fun e w' => e = .returned (.tuple #[.int .u64 0, .bool false]) ∧ w = w' := by
  obtain ⟨A, c, h⟩ := h
  have c0 : w.cell? ⟨rb, 0, none⟩ = some (.slice A bs.length c) := h.g0
  have hm : bs.length ≤ 9223372036854775807 := h.row.2.1
  obtain ⟨ad, rfl, hx0⟩ := Kd.at_int h.row 0 (Int.le_refl _) (show (0 : Int) < (bs.length : Nat) by omega)
  rw [add0] at hx0
  have p0 : (0 : Int) < bs.length := by omega
  rw [h4] at hx0
  clear h4 h
  have d1 : decide (8 < n) = false := decide_eq_false h1
  have d2 : decide ((bs.length : Int) < n) = false := decide_eq_false h2
  have d3 : decide (0 < n) = _ := decide_eq_true h3
  go_enter Tryz.func115, Tryz.ntmps115
  go_wp2
  go_ret2
  exact ⟨rfl, rfl⟩
set_option maxHeartbeats 4000000 in
set_option maxRecDepth 100000 in
theorem dnum_zero (n : Int) (w : World) (h : RdAt 42 m w rb (bs, bad)) (n0 : 0 ≤ n) (n1 : n ≤ 255) (h1 : ¬ 8 < n) (h2 : ¬ (bs.length : Int) < n) (h3 : ¬ 0 < n) :
    Calls Tryz.prog 115 #[.pointer (some ⟨rb, 0, none⟩), .int .i64 n] w fun e w' => e = .returned (.tuple #[.int .u64 (valB (bs.take n.toNat)), .bool true]) ∧ RdAt 42 m w' rb (bs.drop n.toNat, bad) ∧ Upd rb w w' := by
  obtain ⟨A, c, h⟩ := h
  have c0 : w.cell? ⟨rb, 0, none⟩ = some (.slice A bs.length c) := h.g0
  have hm : bs.length ≤ 9223372036854775807 := h.row.2.1
  have HB1 : Aside0 (∀ x, x ∈ bs.take n.toNat → 0 ≤ x ∧ x ≤ 255) := ⟨fun x hx => h.byte x (List.mem_of_mem_take hx)⟩
  have HBB : Aside0 (∀ x, x ∈ bs → 0 ≤ x ∧ x ≤ 255) := ⟨fun x hx => h.byte x hx⟩
  have HC1 := Aside0.mk h.row
  obtain ⟨A2, c2, hs2, hr2, hc2, hf2⟩ := from_run A c bs n n0 (by omega) h.cap
  have HC2 := Aside0.mk (h.cut (hr2 w h.row) hc2 (fun ad' e => by obtain ⟨ad0, e0, e1⟩ := hf2 ad' e; rw [e1]; exact h.far ad0 e0) (fun x hx => List.mem_of_mem_drop hx))
  have f0 := h.f0
  clear hr2 hc2 hf2 h
  generalize bs.drop n.toNat = D at hs2 HC2 ⊢
  have d1 : decide (8 < n) = false := decide_eq_false h1
  have d2 : decide ((bs.length : Int) < n) = false := decide_eq_false h2
  have d3 : decide (0 < n) = _ := decide_eq_false h3
  go_enter Tryz.func115, Tryz.ntmps115
  go_wp2
  go_loop [6, 7] (fun y v => ∃ i : Nat, v = .int .i64 i ∧ (i : Int) ≤ n ∧ y = .int .u64 (valB (bs.take i))) (fun _ v => n.toNat - (intOf v).toNat)
  case atStart => exact ⟨0, rfl, by omega, rfl⟩
  case round =>
    obtain ⟨i, rfl, hi, rfl⟩ := hrel
    by_cases hlt : (i : Int) < n
    · exfalso; omega
    · have hi2 : (i : Int) = n := by omega
      have HE : Aside0 (valB (bs.take i) = valB (bs.take n.toNat)) := ⟨by rw [← hi2, Int.toNat_natCast]⟩
      go_wp2
      go_ret2
      exact ⟨by rw [HE.out]; rfl, ⟨A2, c2, HC2.out.1⟩, HC2.out.2⟩
set_option maxHeartbeats 4000000 in
set_option maxRecDepth 100000 in
theorem dnum_more (n : Int) (w : World) (h : RdAt 42 m w rb (bs, bad)) (n0 : 0 ≤ n) (n1 : n ≤ 255) (h1 : ¬ 8 < n) (h2 : ¬ (bs.length : Int) < n) (h3 : 0 < n) (h4 : rd bs 0 ≠ 0) :
    Calls Tryz.prog 115 #[.pointer (some ⟨rb, 0, none⟩), .int .i64 n] w fun e w' => e = .returned (.tuple #[.int .u64 (valB (bs.take n.toNat)), .bool true]) ∧ RdAt 42 m w' rb (bs.drop n.toNat, bad) ∧ Upd rb w w' := by
  obtain ⟨A, c, h⟩ := h
  have c0 : w.cell? ⟨rb, 0, none⟩ = some (.slice A bs.length c) := h.g0
  have hm : bs.length ≤ 9223372036854775807 := h.row.2.1
  obtain ⟨ad, rfl, hx0⟩ := Kd.at_int h.row 0 (Int.le_refl _) (show (0 : Int) < (bs.length : Nat) by omega)
  rw [add0] at hx0
  have p0 : (0 : Int) < bs.length := by omega
  have hb1 : (rd bs 0 == 0) = false := beq_eq_false_iff_ne.mpr h4
  have HH4 := Aside0.mk h4
  have HB1 : Aside0 (∀ x, x ∈ bs.take n.toNat → 0 ≤ x ∧ x ≤ 255) := ⟨fun x hx => h.byte x (List.mem_of_mem_take hx)⟩
  have HBB : Aside0 (∀ x, x ∈ bs → 0 ≤ x ∧ x ≤ 255) := ⟨fun x hx => h.byte x hx⟩
  have HC1 := Aside0.mk h.row
  obtain ⟨A2, c2, hs2, hr2, hc2, hf2⟩ := from_run (some ad) c bs n n0 (by omega) h.cap
  have HC2 := Aside0.mk (h.cut (hr2 w h.row) hc2 (fun ad' e => by obtain ⟨ad0, e0, e1⟩ := hf2 ad' e; rw [e1]; exact h.far ad0 e0) (fun x hx => List.mem_of_mem_drop hx))
  have f0 := h.f0
  clear hr2 hc2 hf2 h
  generalize bs.drop n.toNat = D at hs2 HC2 ⊢
  generalize hy : rd bs 0 = y0 at hx0 hb1
  have HY := Aside0.mk hy
  clear hy h4
  have d1 : decide (8 < n) = false := decide_eq_false h1
  have d2 : decide ((bs.length : Int) < n) = false := decide_eq_false h2
  have d3 : decide (0 < n) = _ := decide_eq_true h3
  go_enter Tryz.func115, Tryz.ntmps115
  go_wp2
  go_loop [6, 7] (fun y v => ∃ i : Nat, v = .int .i64 i ∧ (i : Int) ≤ n ∧ y = .int .u64 (valB (bs.take i))) (fun _ v => n.toNat - (intOf v).toNat)
  case atStart => exact ⟨0, rfl, by omega, rfl⟩
  case round =>
    obtain ⟨i, rfl, hi, rfl⟩ := hrel
    by_cases hlt : (i : Int) < n
    · have hv := valB_small bs i HBB.out (by omega)
      obtain ⟨ad1, e1, hx⟩ := Kd.at_int HC1.out i (by omega) (by omega)
      cases e1
      rw [Int.toNat_natCast] at hx
      have hxb := HBB.out _ (rd_mem (l := bs) (i := (i : Int)) (by omega) (by omega))
      have HS := Aside0.mk (valB_step bs i (by omega))
      have q0 : (0 : Int) ≤ i := by omega
      have q1 : (i : Int) < bs.length := by omega
      generalize rd bs i = y at hx hxb HS
      obtain ⟨y0, y1⟩ := hxb
      generalize valB (bs.take i) = v at hv HS ⊢
      obtain ⟨v0, v1⟩ := hv
      go_wp2
      exact ⟨⟨i + 1, by go_num, by omega, by rw [HS.out]⟩, by simp [intOf]; omega⟩
    · have hi2 : (i : Int) = n := by omega
      have HE : Aside0 (valB (bs.take i) = valB (bs.take n.toNat)) := ⟨by rw [← hi2, Int.toNat_natCast]⟩
      go_wp2
      go_ret2
      exact ⟨by rw [HE.out]; rfl, ⟨A2, c2, HC2.out.1⟩, HC2.out.2⟩
end Go.Proofs.YtepldlnmeenlbaaGreat.Own
namespace Go.Proofs.YtepldlnmeenlbaaGreat.Own
open Go.RowKit Go.Proofs Go.Proofs.YtepldlnmeenlbaaGreatW.PrintWords Go.Proofs.YtepldlnmeenlbaaGreatW.PrintLast Go.Proofs.YtepldlnmeenlbaaGreatW.PrintMore Go.Proofs.YtepldlnmeenlbaaGreat.Base
variable {t : TypeId} {m rb c : Nat} {w w' : World} {A : Option Addr} {s : List Int × Bool} {bs : List Int} {bad : Bool}
theorem dnumber_no (n : Int) (w : World) (h : RdAt 42 m w rb (bs, bad)) (n0 : 0 ≤ n) (n1 : n ≤ 255) (hc : 8 < n ∨ (bs.length : Int) < n ∨ 0 < n ∧ bs[0]? = some 0) :
    Calls Tryz.prog 115 #[.pointer (some ⟨rb, 0, none⟩), .int .i64 n] w fun e w' => e = .returned (.tuple #[.int .u64 0, .bool false]) ∧ w = w' := by
  by_cases h1 : 8 < n
  · exact dnum_big n w h n0 n1 h1
  by_cases h2 : (bs.length : Int) < n
  · exact dnum_short n w h n0 n1 h1 h2
  rcases hc with x | x | ⟨x, y⟩
  · exact absurd x h1
  · exact absurd x h2
  · rcases bs with _ | ⟨d, r⟩
    · cases y
    · injection y with y; subst y; exact dnum_lead n w h n0 n1 h1 h2 x rfl
theorem dnumber_ok (n : Int) (w : World) (h : RdAt 42 m w rb (bs, bad)) (n0 : 0 ≤ n) (n1 : n ≤ 255) (hc : ¬ (8 < n ∨ (bs.length : Int) < n ∨ 0 < n ∧ bs[0]? = some 0)) :
    Calls Tryz.prog 115 #[.pointer (some ⟨rb, 0, none⟩), .int .i64 n] w fun e w' => e = .returned (.tuple #[.int .u64 (valB (bs.take n.toNat)), .bool true]) ∧ RdAt 42 m w' rb (bs.drop n.toNat, bad) ∧ Upd rb w w' := by
  by_cases h3 : 0 < n
  · refine dnum_more n w h n0 n1 (fun x => hc (.inl x)) (fun x => hc (.inr (.inl x))) h3 (fun e => hc (.inr (.inr ⟨h3, ?_⟩)))
    rcases bs with _ | ⟨d, r⟩
    · exact absurd (show ((([] : List Int).length : Nat) : Int) < n by simpa using h3) (fun x => hc (.inr (.inl x)))
    · rw [rd_cons] at e; subst e; rfl
  · exact dnum_zero n w h n0 n1 (fun x => hc (.inl x)) (fun x => hc (.inr (.inl x))) h3
theorem dfirst_c (c : Int) (r : List Int) (w : World) (h : RdAt 42 m w rb (c :: r, bad)) : Calls Tryz.prog 114 #[.pointer (some ⟨rb, 0, none⟩)] w fun e w' => e = .returned (.tuple #[.int .u8 c, .bool true]) ∧ RdAt 42 m w' rb (r, bad) ∧ Upd rb w w' :=
  dfirst_cons (bs := c :: r) w (by simp) h
set_option maxHeartbeats 1600000 in
set_option maxRecDepth 100000 in
theorem dn_nil (most : Int) (w : World)  (h : RdAt 42 m w rb ([], bad)) (m0 : 0 ≤ most) (m1 : most < 18446744073709551616) :
    Calls Tryz.prog 76 #[.pointer (some ⟨rb, 0, none⟩), .int .u64 most] w fun e w' => e = .returned (.int .u64 0) ∧ RdAt 42 m w' rb ([], true) ∧ Upd rb w w' := by
  have HH := Aside0.mk h
  clear h
  go_enter Tryz.func76, Tryz.ntmps76
  go_wp2_with (first | (go_at_call 114; refine (dfirst_nil w HH.out).mono ?_; rintro e w2 ⟨rfl, rfl⟩) | (go_at_call 69; refine (dfail_any w HH.out).mono ?_; rintro e w9 ⟨rfl, q1, q2⟩; have H9 := Aside0.mk q1; have U9 := Aside0.mk q2; clear q1 q2))
  go_ret
  exact ⟨rfl, H9.out, U9.out⟩
set_option maxHeartbeats 1600000 in
set_option maxRecDepth 100000 in
theorem dn_no (most : Int) (w : World) (c : Int) (r : List Int) (h : RdAt 42 m w rb (c :: r, bad)) (m0 : 0 ≤ most) (m1 : most < 18446744073709551616) (hc : 8 < c ∨ (r.length : Int) < c ∨ 0 < c ∧ r[0]? = some 0) :
    Calls Tryz.prog 76 #[.pointer (some ⟨rb, 0, none⟩), .int .u64 most] w fun e w' => e = .returned (.int .u64 0) ∧ RdAt 42 m w' rb ([], true) ∧ Upd rb w w' := by
  have HH := Aside0.mk h
  have hcb : 0 ≤ c ∧ c ≤ 255 := by obtain ⟨A, k, h⟩ := h; exact h.byte c (by simp)
  obtain ⟨z0, z1⟩ := hcb
  clear h
  have HC := Aside0.mk hc
  clear hc
  go_enter Tryz.func76, Tryz.ntmps76
  go_wp2_with (first | (go_at_call 114; refine (dfirst_c c r w HH.out).mono ?_; rintro e w2 ⟨rfl, q1, q2⟩; have H1 := Aside0.mk q1; have U1 := Aside0.mk q2; clear q1 q2) | (go_at_call 115; refine (dnumber_no (c) w2 H1.out (by omega) (by omega) HC.out).mono ?_; rintro e w3 ⟨rfl, rfl⟩) | (go_at_call 69; refine (dfail_any w2 H1.out).mono ?_; rintro e w9 ⟨rfl, q1, q2⟩; have H9 := Aside0.mk q1; have U9 := Aside0.mk (U1.out.trans q2); clear q1 q2))
  go_ret
  exact ⟨rfl, H9.out, U9.out⟩
set_option maxHeartbeats 1600000 in
set_option maxRecDepth 100000 in
theorem dn_big (most : Int) (w : World) (c : Int) (r : List Int) (h : RdAt 42 m w rb (c :: r, bad)) (m0 : 0 ≤ most) (m1 : most < 18446744073709551616) (hc : ¬ (8 < c ∨ (r.length : Int) < c ∨ 0 < c ∧ r[0]? = some 0)) (v : Int) (hv : valB (r.take (c).toNat) = v) (v0 : 0 ≤ v) (v1 : v < 18446744073709551616) (hq : most < v) :
    Calls Tryz.prog 76 #[.pointer (some ⟨rb, 0, none⟩), .int .u64 most] w fun e w' => e = .returned (.int .u64 0) ∧ RdAt 42 m w' rb ([], true) ∧ Upd rb w w' := by
  have HH := Aside0.mk h
  have hcb : 0 ≤ c ∧ c ≤ 255 := by obtain ⟨A, k, h⟩ := h; exact h.byte c (by simp)
  obtain ⟨z0, z1⟩ := hcb
  clear h
  have HC := Aside0.mk hc
  have HV := Aside0.mk hv
  clear hc hv
  have dq : decide (v ≤ most) = false := decide_eq_false (by omega)
  go_enter Tryz.func76, Tryz.ntmps76
  go_wp2_with (first | (go_at_call 114; refine (dfirst_c c r w HH.out).mono ?_; rintro e w2 ⟨rfl, q1, q2⟩; have H1 := Aside0.mk q1; have U1 := Aside0.mk q2; clear q1 q2) | (go_at_call 115; refine (dnumber_ok (c) w2 H1.out (by omega) (by omega) HC.out).mono ?_; rintro e w3 ⟨rfl, q1, q2⟩; have H2 := Aside0.mk q1; have U2 := Aside0.mk (U1.out.trans q2); clear q1 q2; rw [HV.out]) | (go_at_call 69; refine (dfail_any w3 H2.out).mono ?_; rintro e w9 ⟨rfl, q1, q2⟩; have H9 := Aside0.mk q1; have U9 := Aside0.mk (U2.out.trans q2); clear q1 q2))
  go_ret
  exact ⟨rfl, H9.out, U9.out⟩
set_option maxHeartbeats 1600000 in
set_option maxRecDepth 100000 in
theorem dn_ok (most : Int) (w : World) (c : Int) (r : List Int) (h : RdAt 42 m w rb (c :: r, bad)) (m0 : 0 ≤ most) (m1 : most < 18446744073709551616) (hc : ¬ (8 < c ∨ (r.length : Int) < c ∨ 0 < c ∧ r[0]? = some 0)) (v : Int) (hv : valB (r.take (c).toNat) = v) (v0 : 0 ≤ v) (v1 : v < 18446744073709551616) (hq : ¬ most < v) :
    Calls Tryz.prog 76 #[.pointer (some ⟨rb, 0, none⟩), .int .u64 most] w fun e w' => e = .returned (.int .u64 v) ∧ RdAt 42 m w' rb (r.drop (c).toNat, bad) ∧ Upd rb w w' := by
  have HH := Aside0.mk h
  have hcb : 0 ≤ c ∧ c ≤ 255 := by obtain ⟨A, k, h⟩ := h; exact h.byte c (by simp)
  obtain ⟨z0, z1⟩ := hcb
  clear h
  have HC := Aside0.mk hc
  have HV := Aside0.mk hv
  clear hc hv
  have dq : decide (v ≤ most) = true := decide_eq_true (by omega)
  go_enter Tryz.func76, Tryz.ntmps76
  go_wp2_with (first | (go_at_call 114; refine (dfirst_c c r w HH.out).mono ?_; rintro e w2 ⟨rfl, q1, q2⟩; have H1 := Aside0.mk q1; have U1 := Aside0.mk q2; clear q1 q2) | (go_at_call 115; refine (dnumber_ok (c) w2 H1.out (by omega) (by omega) HC.out).mono ?_; rintro e w3 ⟨rfl, q1, q2⟩; have H2 := Aside0.mk q1; have U2 := Aside0.mk (U1.out.trans q2); clear q1 q2; rw [HV.out]))
  go_ret
  exact ⟨rfl, H2.out, U2.out⟩
set_option maxHeartbeats 1600000 in
set_option maxRecDepth 100000 in
theorem di_nil (w : World)  (h : RdAt 42 m w rb ([], bad)) :
    Calls Tryz.prog 67 #[.pointer (some ⟨rb, 0, none⟩)] w fun e w' => e = .returned (.int .i64 0) ∧ RdAt 42 m w' rb ([], true) ∧ Upd rb w w' := by
  have HH := Aside0.mk h
  clear h
  go_enter Tryz.func67, Tryz.ntmps67
  go_wp2_with (first | (go_at_call 114; refine (dfirst_nil w HH.out).mono ?_; rintro e w2 ⟨rfl, rfl⟩) | (go_at_call 69; refine (dfail_any w HH.out).mono ?_; rintro e w9 ⟨rfl, q1, q2⟩; have H9 := Aside0.mk q1; have U9 := Aside0.mk q2; clear q1 q2))
  go_ret
  exact ⟨rfl, H9.out, U9.out⟩
set_option maxHeartbeats 1600000 in
set_option maxRecDepth 100000 in
theorem di_no (w : World) (c : Int) (r : List Int) (h : RdAt 42 m w rb (c :: r, bad)) (hc : 8 < c % 128 ∨ (r.length : Int) < c % 128 ∨ 0 < c % 128 ∧ r[0]? = some 0) :
    Calls Tryz.prog 67 #[.pointer (some ⟨rb, 0, none⟩)] w fun e w' => e = .returned (.int .i64 0) ∧ RdAt 42 m w' rb ([], true) ∧ Upd rb w w' := by
  have HH := Aside0.mk h
  have hcb : 0 ≤ c ∧ c ≤ 255 := by obtain ⟨A, k, h⟩ := h; exact h.byte c (by simp)
  obtain ⟨z0, z1⟩ := hcb
  clear h
  have HC := Aside0.mk hc
  clear hc
  go_enter Tryz.func67, Tryz.ntmps67
  go_wp2_with (first | (go_at_call 114; refine (dfirst_c c r w HH.out).mono ?_; rintro e w2 ⟨rfl, q1, q2⟩; have H1 := Aside0.mk q1; have U1 := Aside0.mk q2; clear q1 q2) | (go_at_call 115; refine (dnumber_no (c % 128) w2 H1.out (by omega) (by omega) HC.out).mono ?_; rintro e w3 ⟨rfl, rfl⟩) | (go_at_call 69; refine (dfail_any w2 H1.out).mono ?_; rintro e w9 ⟨rfl, q1, q2⟩; have H9 := Aside0.mk q1; have U9 := Aside0.mk (U1.out.trans q2); clear q1 q2))
  go_ret
  exact ⟨rfl, H9.out, U9.out⟩
set_option maxHeartbeats 1600000 in
set_option maxRecDepth 100000 in
theorem di_big (w : World) (c : Int) (r : List Int) (h : RdAt 42 m w rb (c :: r, bad)) (hc : ¬ (8 < c % 128 ∨ (r.length : Int) < c % 128 ∨ 0 < c % 128 ∧ r[0]? = some 0)) (v : Int) (hv : valB (r.take (c % 128).toNat) = v) (v0 : 0 ≤ v) (v1 : v < 18446744073709551616) (hq : 9223372036854775807 < v) :
    Calls Tryz.prog 67 #[.pointer (some ⟨rb, 0, none⟩)] w fun e w' => e = .returned (.int .i64 0) ∧ RdAt 42 m w' rb ([], true) ∧ Upd rb w w' := by
  have HH := Aside0.mk h
  have hcb : 0 ≤ c ∧ c ≤ 255 := by obtain ⟨A, k, h⟩ := h; exact h.byte c (by simp)
  obtain ⟨z0, z1⟩ := hcb
  clear h
  have HC := Aside0.mk hc
  have HV := Aside0.mk hv
  clear hc hv
  have dq : decide (v ≤ 9223372036854775807) = false := decide_eq_false (by omega)
  go_enter Tryz.func67, Tryz.ntmps67
  go_wp2_with (first | (go_at_call 114; refine (dfirst_c c r w HH.out).mono ?_; rintro e w2 ⟨rfl, q1, q2⟩; have H1 := Aside0.mk q1; have U1 := Aside0.mk q2; clear q1 q2) | (go_at_call 115; refine (dnumber_ok (c % 128) w2 H1.out (by omega) (by omega) HC.out).mono ?_; rintro e w3 ⟨rfl, q1, q2⟩; have H2 := Aside0.mk q1; have U2 := Aside0.mk (U1.out.trans q2); clear q1 q2; rw [HV.out]) | (go_at_call 69; refine (dfail_any w3 H2.out).mono ?_; rintro e w9 ⟨rfl, q1, q2⟩; have H9 := Aside0.mk q1; have U9 := Aside0.mk (U2.out.trans q2); clear q1 q2))
  go_ret
  exact ⟨rfl, H9.out, U9.out⟩
set_option maxHeartbeats 1600000 in
set_option maxRecDepth 100000 in
theorem di_pos (w : World) (c : Int) (r : List Int) (h : RdAt 42 m w rb (c :: r, bad)) (hc : ¬ (8 < c % 128 ∨ (r.length : Int) < c % 128 ∨ 0 < c % 128 ∧ r[0]? = some 0)) (v : Int) (hv : valB (r.take (c % 128).toNat) = v) (v0 : 0 ≤ v) (v1 : v < 18446744073709551616) (hq : ¬ 9223372036854775807 < v) (hs : ¬ 128 ≤ c) :
    Calls Tryz.prog 67 #[.pointer (some ⟨rb, 0, none⟩)] w fun e w' => e = .returned (.int .i64 v) ∧ RdAt 42 m w' rb (r.drop (c % 128).toNat, bad) ∧ Upd rb w w' := by
  have HH := Aside0.mk h
  have hcb : 0 ≤ c ∧ c ≤ 255 := by obtain ⟨A, k, h⟩ := h; exact h.byte c (by simp)
  obtain ⟨z0, z1⟩ := hcb
  clear h
  have HC := Aside0.mk hc
  have HV := Aside0.mk hv
  clear hc hv
  have dq : decide (v ≤ 9223372036854775807) = true := decide_eq_true (by omega)
  have ds : decide (128 ≤ c) = false := decide_eq_false hs
  go_enter Tryz.func67, Tryz.ntmps67
  go_wp2_with (first | (go_at_call 114; refine (dfirst_c c r w HH.out).mono ?_; rintro e w2 ⟨rfl, q1, q2⟩; have H1 := Aside0.mk q1; have U1 := Aside0.mk q2; clear q1 q2) | (go_at_call 115; refine (dnumber_ok (c % 128) w2 H1.out (by omega) (by omega) HC.out).mono ?_; rintro e w3 ⟨rfl, q1, q2⟩; have H2 := Aside0.mk q1; have U2 := Aside0.mk (U1.out.trans q2); clear q1 q2; rw [HV.out]))
  go_ret
  exact ⟨rfl, H2.out, U2.out⟩
set_option maxHeartbeats 1600000 in
set_option maxRecDepth 100000 in
theorem di_neg (w : World) (c : Int) (r : List Int) (h : RdAt 42 m w rb (c :: r, bad)) (hc : ¬ (8 < c % 128 ∨ (r.length : Int) < c % 128 ∨ 0 < c % 128 ∧ r[0]? = some 0)) (v : Int) (hv : valB (r.take (c % 128).toNat) = v) (v0 : 0 ≤ v) (v1 : v < 18446744073709551616) (hq : ¬ 9223372036854775807 < v) (hs : 128 ≤ c) :
    Calls Tryz.prog 67 #[.pointer (some ⟨rb, 0, none⟩)] w fun e w' => e = .returned (.int .i64 (-1 - v)) ∧ RdAt 42 m w' rb (r.drop (c % 128).toNat, bad) ∧ Upd rb w w' := by
  have HH := Aside0.mk h
  have hcb : 0 ≤ c ∧ c ≤ 255 := by obtain ⟨A, k, h⟩ := h; exact h.byte c (by simp)
  obtain ⟨z0, z1⟩ := hcb
  clear h
  have HC := Aside0.mk hc
  have HV := Aside0.mk hv
  clear hc hv
  have dq : decide (v ≤ 9223372036854775807) = true := decide_eq_true (by omega)
  have ds : decide (128 ≤ c) = true := decide_eq_true hs
  go_enter Tryz.func67, Tryz.ntmps67
  go_wp2_with (first | (go_at_call 114; refine (dfirst_c c r w HH.out).mono ?_; rintro e w2 ⟨rfl, q1, q2⟩; have H1 := Aside0.mk q1; have U1 := Aside0.mk q2; clear q1 q2) | (go_at_call 115; refine (dnumber_ok (c % 128) w2 H1.out (by omega) (by omega) HC.out).mono ?_; rintro e w3 ⟨rfl, q1, q2⟩; have H2 := Aside0.mk q1; have U2 := Aside0.mk (U1.out.trans q2); clear q1 q2; rw [HV.out]))
  go_ret
  exact ⟨rfl, H2.out, U2.out⟩
theorem dNum_any (most : Int) (w : World) (h : RdAt 42 m w rb s) (m0 : 0 ≤ most) (m1 : most < 18446744073709551616) :
    Calls Tryz.prog 76 #[.pointer (some ⟨rb, 0, none⟩), .int .u64 most] w fun e w' => e = .returned (.int .u64 (rdNum most s).1) ∧ RdAt 42 m w' rb (rdNum most s).2 ∧ Upd rb w w' := by
  obtain ⟨bs, bad⟩ := s
  unfold rdNum
  rcases bs with _ | ⟨c, r⟩
  · rw [rdN_none (s := ([], bad)) rfl]
    exact dn_nil most w h m0 m1
  · have hb : ∀ x, x ∈ c :: r → 0 ≤ x ∧ x ≤ 255 := by obtain ⟨A, k, h⟩ := h; exact h.byte
    have hn : numR false most (c :: r) = if 8 < c ∨ (r.length : Int) < c ∨ 0 < c ∧ r[0]? = some 0 then none else if most < valB (r.take c.toNat) then none else some (valB (r.take c.toNat), false && decide (128 ≤ c), r.drop c.toNat) := rfl
    by_cases hc : 8 < c ∨ (r.length : Int) < c ∨ 0 < c ∧ r[0]? = some 0
    · rw [if_pos hc] at hn
      rw [rdN_none (s := (c :: r, bad)) hn]
      exact dn_no most w c r h m0 m1 hc
    · rw [if_neg hc] at hn
      have hv := valB_big (r.take c.toNat) (fun x hx => hb x (List.mem_cons_of_mem _ (List.mem_of_mem_take hx))) (by rw [List.length_take]; omega)
      by_cases hq : most < valB (r.take c.toNat)
      · rw [if_pos hq] at hn
        rw [rdN_none (s := (c :: r, bad)) hn]
        exact dn_big most w c r h m0 m1 hc _ rfl hv.1 hv.2 hq
      · rw [if_neg hq] at hn
        rw [rdN_some (s := (c :: r, bad)) hn]
        exact dn_ok most w c r h m0 m1 hc _ rfl hv.1 hv.2 hq
theorem dInt_any (w : World) (h : RdAt 42 m w rb s) :
    Calls Tryz.prog 67 #[.pointer (some ⟨rb, 0, none⟩)] w fun e w' => e = .returned (.int .i64 (rdInt s).1) ∧ RdAt 42 m w' rb (rdInt s).2 ∧ Upd rb w w' := by
  obtain ⟨bs, bad⟩ := s
  unfold rdInt
  rcases bs with _ | ⟨c, r⟩
  · rw [rdN_none (s := ([], bad)) rfl]
    exact di_nil w h
  · have hb : ∀ x, x ∈ c :: r → 0 ≤ x ∧ x ≤ 255 := by obtain ⟨A, k, h⟩ := h; exact h.byte
    have hn : numR true 9223372036854775807 (c :: r) = if 8 < c % 128 ∨ (r.length : Int) < c % 128 ∨ 0 < c % 128 ∧ r[0]? = some 0 then none else if 9223372036854775807 < valB (r.take (c % 128).toNat) then none else some (valB (r.take (c % 128).toNat), true && decide (128 ≤ c), r.drop (c % 128).toNat) := rfl
    by_cases hc : 8 < c % 128 ∨ (r.length : Int) < c % 128 ∨ 0 < c % 128 ∧ r[0]? = some 0
    · rw [if_pos hc] at hn
      rw [rdN_none (s := (c :: r, bad)) hn]
      exact di_no w c r h hc
    · rw [if_neg hc] at hn
      have hv := valB_big (r.take (c % 128).toNat) (fun x hx => hb x (List.mem_cons_of_mem _ (List.mem_of_mem_take hx))) (by rw [List.length_take]; omega)
      by_cases hq : 9223372036854775807 < valB (r.take (c % 128).toNat)
      · rw [if_pos hq] at hn
        rw [rdN_none (s := (c :: r, bad)) hn]
        exact di_big w c r h hc _ rfl hv.1 hv.2 hq
      · rw [if_neg hq] at hn
        rw [rdN_some (s := (c :: r, bad)) hn]
        by_cases hs : 128 ≤ c
        · simp only [decide_eq_true hs, Bool.true_and, if_true]
          exact di_neg w c r h hc _ rfl hv.1 hv.2 hq hs
        · simp only [decide_eq_false hs, Bool.true_and, Bool.false_eq_true, if_false]
          exact di_pos w c r h hc _ rfl hv.1 hv.2 hq hs
end Go.Proofs.YtepldlnmeenlbaaGreat.Own
namespace Go.Proofs.YtepldlnmeenlbaaGreat.Own
open Go.RowKit Go.Proofs Go.Proofs.YtepldlnmeenlbaaGreatW.PrintWords Go.Proofs.YtepldlnmeenlbaaGreatW.PrintLast Go.Proofs.YtepldlnmeenlbaaGreatW.PrintMore Go.Proofs.YtepldlnmeenlbaaGreat.Base
variable {t : TypeId} {m rb c : Nat} {w w' : World} {A : Option Addr} {s : List Int × Bool}
theorem RdAt.lt (h : RdAt t m w rb s) : rb < w.heap.size := by obtain ⟨A, c, h⟩ := h; exact blk_lt h.blk
theorem RdAt.mle (h : RdAt t m w rb s) : m ≤ rb := by obtain ⟨A, c, h⟩ := h; exact h.mrb
theorem RdAt.byte (h : RdAt t m w rb s) : ∀ x, x ∈ s.1 → 0 ≤ x ∧ x ≤ 255 := by obtain ⟨A, c, h⟩ := h; exact h.byte
theorem upd_set1 (w : World) (b i : Nat) (v : Value) : Upd b w (w.setCell ⟨b, i, none⟩ v) := (Upd.refl b w).set i v
theorem RdAt.seti (h : RdAt t m w rb s) {b : Nat} (i : Nat) (v : Value) (hb : m ≤ b) (hne : rb ≠ b) : RdAt t m (w.setCell ⟨b, i, none⟩ v) rb s := h.upd (upd_set1 w b i v) hb hne
theorem Upd.seti {W : World} {cb : Nat} (hu : Upd cb w W) {b : Nat} (hb : w.heap.size ≤ b) (i : Nat) (v : Value) : Upd cb w (W.setCell ⟨b, i, none⟩ v) :=
  ⟨hu.os, hu.tape, hu.output, by simpa using hu.size, fun k hk hne => (Below.heap_setCell _ _ _ _ (by show k ≠ b; omega)).trans (hu.block k hk hne)⟩
theorem rdNum_range {most : Int} {x : Int} {s' : List Int × Bool} (hb : ∀ x, x ∈ s.1 → 0 ≤ x ∧ x ≤ 255) (m0 : 0 ≤ most) (h : rdNum most s = (x, s')) : (0 ≤ x ∧ x ≤ most) ∧ ∀ x, x ∈ s'.1 → 0 ≤ x ∧ x ≤ 255 := by
  have h1 : (rdN false most s).1.1 = x := congrArg Prod.fst h
  have h2 : (rdN false most s).2 = s' := congrArg Prod.snd h
  refine ⟨h1 ▸ rdN_bound hb m0, ?_⟩
  rw [← h2]
  unfold rdN
  cases hn : numR false most s.1 with
  | none => intro x hx; cases hx
  | some r =>
    obtain ⟨k, hk⟩ := numR_rest hn
    obtain ⟨y, b, l⟩ := r
    intro x hx
    simp only at hk hx
    rw [hk] at hx
    exact hb x (List.mem_of_mem_drop hx)
end Go.Proofs.YtepldlnmeenlbaaGreat.Own
namespace Go.Proofs.YtepldlnmeenlbaaGreat.Own
open Go.RowKit Go.Proofs Go.Proofs.YtepldlnmeenlbaaGreatW.PrintWords Go.Proofs.YtepldlnmeenlbaaGreatW.PrintLast Go.Proofs.YtepldlnmeenlbaaGreatW.PrintMore Go.Proofs.YtepldlnmeenlbaaGreat.Base
theorem map_at {k : IntKind} (l : List Int) (i : Nat) (h : i < l.length) : (l.map (Value.int k)).toArray[i]? = some (.int k (l.getD i 0)) := by
  simp [List.getD_eq_getElem?_getD, List.getElem?_eq_getElem h, h]
def numsB (l : List Int) : List Int := l.flatMap (numB 0)
theorem numsB_take (l : List Int) (i : Nat) (h : i < l.length) : numsB (l.take (i + 1)) = numsB (l.take i) ++ numB 0 (l.getD i 0) := by
  unfold numsB
  rw [List.take_add_one, List.flatMap_append]
  simp [List.getD_eq_getElem?_getD, List.getElem?_eq_getElem h]
theorem numsB_len (l : List Int) (h : ∀ x, x ∈ l → 0 ≤ x ∧ x < 18446744073709551616) : (numsB l).length ≤ 9 * l.length := by
  induction l with
  | nil => simp [numsB]
  | cons x r ih =>
    have h1 := numB_len 0 x (h x (by simp)).1 (h x (by simp)).2
    have h2 := ih (fun y hy => h y (List.mem_cons_of_mem _ hy))
    unfold numsB at h2 ⊢
    simp only [List.flatMap_cons, List.length_append, List.length_cons]
    omega
theorem getD_mem {l : List Int} {i : Nat} (h : i < l.length) : l.getD i 0 ∈ l := by
  rw [List.getD_eq_getElem?_getD, List.getElem?_eq_getElem h]; exact List.getElem_mem h
set_option maxHeartbeats 1600000 in
set_option maxRecDepth 100000 in
theorem wnums_any (g n wb : Nat) (bs l : List Int) (w : World) (h : WrAt w n wb bs) (hg : w.heap[g]? = some (.cells (l.map (Value.int .u64)).toArray 120 (0, 0))) (hr : ∀ x, x ∈ l → 0 ≤ x ∧ x < 18446744073709551616) (hl : bs.length + 9 * l.length ≤ 140737488355328) :
    Calls Tryz.prog 59 #[.pointer (some ⟨wb, 0, none⟩), .slice (some ⟨g, 0, none⟩) l.length l.length] w fun e w' => e = .returned (.tuple #[]) ∧ WrAt w' n wb (bs ++ numsB l) ∧ WUpd n wb w w' := by
  have hgw : g ≠ wb := by
    obtain ⟨v, hv⟩ := h
    rintro rfl
    rw [hv.blk] at hg
    injection hg with hg
    injection hg with _ hg
    revert hg
    decide
  have HG := Aside0.mk hg
  have HA0 := Aside0.mk h
  have HR := Aside0.mk hr
  clear hg h hr
  go_enter Tryz.func59, Tryz.ntmps59
  go_wp2
  go_loopw [10] (fun y wr => ∃ i : Nat, y = .int .i64 i ∧ i ≤ l.length ∧ Aside0 (WrAt wr n wb (bs ++ numsB (l.take i))) ∧ Aside0 (WUpd n wb w wr)) (fun y _ => l.length - (intOf y).toNat)
  case atStart => exact ⟨0, rfl, by omega, ⟨by simpa [numsB] using HA0.out⟩, ⟨WUpd.refl _ _ _⟩⟩
  case round =>
    obtain ⟨i, rfl, hi, HA, HU⟩ := hrel
    by_cases hlt : i < l.length
    · have hx := HR.out _ (getD_mem hlt)
      have hb : wr.heap[g]? = _ := HU.out.blk HG.out hgw (by decide)
      have c0 : wr.cell? ⟨g, i, none⟩ = some (.int .u64 (l.getD i 0)) := (blk_cell hb i).trans (map_at l i hlt)
      have hlen := numsB_len (l.take i) (fun y hy => HR.out y (List.mem_of_mem_take hy))
      have hll : (bs ++ numsB (l.take i)).length + 9 ≤ 140737488355328 := by rw [List.length_append]; rw [List.length_take] at hlen; omega
      have HN := Aside0.mk (numsB_take l i hlt)
      generalize l.getD i 0 = x at hx c0 HN
      obtain ⟨x0, x1⟩ := hx
      have p0 : (0 : Int) ≤ i := by omega
      have p1 : (i : Int) < l.length := by omega
      clear hb hlen
      go_wp2_with (go_at_call 112; refine (wnumber_any n wb _ x 0 wr HA.out x0 x1 (Int.le_refl _) (by omega) hll).mono ?_; rintro e w2 ⟨rfl, h2, u2⟩; have HA2 := Aside0.mk h2; have HU2 := Aside0.mk (HU.out.trans u2); clear h2 u2)
      exact ⟨⟨i + 1, by go_num, by omega, ⟨by rw [HN.out, ← List.append_assoc]; exact HA2.out⟩, HU2⟩, by simp [intOf]; omega⟩
    · have hi2 : i = l.length := by omega
      have HA2 : Aside0 (WrAt wr n wb (bs ++ numsB l)) := ⟨by have := HA.out; rw [hi2, List.take_length] at this; exact this⟩
      clear HA hi2
      go_wp2
      go_end0
      exact ⟨rfl, HA2.out, HU.out⟩
set_option maxHeartbeats 1600000 in
set_option maxRecDepth 100000 in
theorem wint_any (n wb : Nat) (bs : List Int) (x : Int) (w : World) (h : WrAt w n wb bs) (x0 : -9223372036854775808 ≤ x) (x1 : x ≤ 9223372036854775807) (hl : bs.length + 9 ≤ 140737488355328) :
    Calls Tryz.prog 58 #[.pointer (some ⟨wb, 0, none⟩), .slice (some ⟨w.heap.size, 0, none⟩) 1 1] (w.alloc (.cells #[.int .i64 x] 2)) fun e w' => e = .returned (.tuple #[]) ∧ WrAt w' n wb (bs ++ intB x) ∧ WUpd n wb w w' := by
  have hb0 : Below w.heap.size w (w.alloc (.cells #[.int .i64 x] 2)) := below_alloc (Below.refl _ _) _
  have HA := Aside0.mk (h.below hb0)
  have HU : Aside0 (WUpd n wb w (w.alloc (.cells #[.int .i64 x] 2))) := ⟨WUpd.of_below hb0⟩
  have c0 : (w.alloc (.cells #[.int .i64 x] 2)).cell? ⟨w.heap.size, 0, none⟩ = some (.int .i64 x) := (blk_cell (blk_new w _) 0).trans rfl
  clear h hb0
  generalize w.heap.size = g at c0 ⊢
  generalize w.alloc (.cells #[.int .i64 x] 2) = w1 at HA HU c0 ⊢
  by_cases hx : x < 0
  · have HE : Aside0 (intB x = numB 128 (-1 - x)) := ⟨by unfold intB; rw [if_pos hx]⟩
    go_enter Tryz.func58, Tryz.ntmps58
    go_wp2
    go_loopw [10] (fun y wr => (y = .int .i64 0 ∧ wr = w1) ∨ (y = .int .i64 1 ∧ Aside0 (WrAt wr n wb (bs ++ intB x) ∧ WUpd n wb w wr))) (fun y _ => 1 - (intOf y).toNat)
    case atStart => exact .inl ⟨rfl, rfl⟩
    case round =>
      rcases hrel with ⟨rfl, rfl⟩ | ⟨rfl, HF⟩
      · go_wp2_with (go_at_call 112; refine (wnumber_any n wb _ (-1 - x) 128 wr HA.out (by omega) (by omega) (by omega) (by omega) hl).mono ?_; rintro e w2 ⟨rfl, h2, u2⟩; have HA2 := Aside0.mk h2; have HU2 := Aside0.mk (HU.out.trans u2); clear h2 u2)
        exact ⟨.inr ⟨rfl, ⟨by rw [HE.out]; exact ⟨HA2.out, HU2.out⟩⟩⟩, by simp [intOf]⟩
      · clear HA HU c0
        go_wp2
        go_end0
        exact ⟨rfl, HF.out.1, HF.out.2⟩
  · have HE : Aside0 (intB x = numB 0 x) := ⟨by unfold intB; rw [if_neg hx]⟩
    go_enter Tryz.func58, Tryz.ntmps58
    go_wp2
    go_loopw [10] (fun y wr => (y = .int .i64 0 ∧ wr = w1) ∨ (y = .int .i64 1 ∧ Aside0 (WrAt wr n wb (bs ++ intB x) ∧ WUpd n wb w wr))) (fun y _ => 1 - (intOf y).toNat)
    case atStart => exact .inl ⟨rfl, rfl⟩
    case round =>
      rcases hrel with ⟨rfl, rfl⟩ | ⟨rfl, HF⟩
      · go_wp2_with (go_at_call 112; refine (wnumber_any n wb _ x 0 wr HA.out (by omega) (by omega) (by omega) (by omega) hl).mono ?_; rintro e w2 ⟨rfl, h2, u2⟩; have HA2 := Aside0.mk h2; have HU2 := Aside0.mk (HU.out.trans u2); clear h2 u2)
        exact ⟨.inr ⟨rfl, ⟨by rw [HE.out]; exact ⟨HA2.out, HU2.out⟩⟩⟩, by simp [intOf]⟩
      · clear HA HU c0
        go_wp2
        go_end0
        exact ⟨rfl, HF.out.1, HF.out.2⟩
end Go.Proofs.YtepldlnmeenlbaaGreat.Own
namespace Go.Proofs.YtepldlnmeenlbaaGreat.Own
open Go.RowKit Go.Proofs Go.Proofs.YtepldlnmeenlbaaGreatW.PrintWords Go.Proofs.YtepldlnmeenlbaaGreatW.PrintLast Go.Proofs.YtepldlnmeenlbaaGreatW.PrintMore Go.Proofs.YtepldlnmeenlbaaGreat.Base
theorem wnum1 (n wb : Nat) (bs : List Int) (a0 : Int) (w : World) (g : Nat) (h : WrAt w n wb bs) (hg : g = w.heap.size) (hr : ∀ x, x ∈ [a0] → 0 ≤ x ∧ x < 18446744073709551616) (hl : bs.length + 9 ≤ 140737488355328) :
    Calls Tryz.prog 59 #[.pointer (some ⟨wb, 0, none⟩), .slice (some ⟨g, 0, none⟩) 1 1] (w.alloc (.cells #[.int .u64 a0] 120)) fun e w' => e = .returned (.tuple #[]) ∧ WrAt w' n wb (bs ++ numsB [a0]) ∧ WUpd n wb w w' := by
  subst hg
  have hb0 : Below w.heap.size w (w.alloc (.cells #[.int .u64 a0] 120)) := below_alloc (Below.refl _ _) _
  exact (wnums_any w.heap.size n wb bs [a0] (w.alloc (.cells #[.int .u64 a0] 120)) (h.below hb0) (blk_new w (.cells #[.int .u64 a0] 120)) hr (by simpa using hl)).mono fun e w' ⟨h1, h2, h3⟩ => ⟨h1, h2, (WUpd.of_below hb0).trans h3⟩
theorem wnum2 (n wb : Nat) (bs : List Int) (a0 a1 : Int) (w : World) (g : Nat) (h : WrAt w n wb bs) (hg : g = w.heap.size) (hr : ∀ x, x ∈ [a0, a1] → 0 ≤ x ∧ x < 18446744073709551616) (hl : bs.length + 18 ≤ 140737488355328) :
    Calls Tryz.prog 59 #[.pointer (some ⟨wb, 0, none⟩), .slice (some ⟨g, 0, none⟩) 2 2] (w.alloc (.cells #[.int .u64 a0, .int .u64 a1] 120)) fun e w' => e = .returned (.tuple #[]) ∧ WrAt w' n wb (bs ++ numsB [a0, a1]) ∧ WUpd n wb w w' := by
  subst hg
  have hb0 : Below w.heap.size w (w.alloc (.cells #[.int .u64 a0, .int .u64 a1] 120)) := below_alloc (Below.refl _ _) _
  exact (wnums_any w.heap.size n wb bs [a0, a1] (w.alloc (.cells #[.int .u64 a0, .int .u64 a1] 120)) (h.below hb0) (blk_new w (.cells #[.int .u64 a0, .int .u64 a1] 120)) hr (by simpa using hl)).mono fun e w' ⟨h1, h2, h3⟩ => ⟨h1, h2, (WUpd.of_below hb0).trans h3⟩
theorem WrAt.lt {w : World} {n wb : Nat} {bs : List Int} (h : WrAt w n wb bs) : wb < w.heap.size := blk_lt h.choose_spec.blk
end Go.Proofs.YtepldlnmeenlbaaGreat.Own
namespace Go.Proofs.YtepldlnmeenlbaaGreat.Own
open Go.RowKit Go.Proofs Go.Proofs.YtepldlnmeenlbaaGreatW.PrintWords Go.Proofs.YtepldlnmeenlbaaGreatW.PrintLast Go.Proofs.YtepldlnmeenlbaaGreatW.PrintMore Go.Proofs.YtepldlnmeenlbaaGreat.Base
set_option maxRecDepth 100000 in
theorem clone_any (A : Option Addr) (c : Nat) (l : List S114) (w : World) (hr : Kd.C k114 w A l.length l) (hc : l.length ≤ c) (hl : l.length ≤ 32) :
    Calls Tryz.prog 120 #[.slice A l.length c] w fun e w' => ∃ A' c', e = .returned (.slice A' l.length c') ∧ l.length ≤ c' ∧ Kd.R k114 114 w' w.heap.size (fun _ => True) (.slice A' l.length c') l ∧ Below w.heap.size w w' := by
  have HR := Aside0.mk hr
  clear hr
  rcases A with _ | ad
  · have heq : ∀ W : World, (binOp .eql 22 (.slice none 0 c) (.slice none 0 0)).run Tryz.prog W = .ok (.bool true) W := fun W => Lib.run_eql_slice_nil W 22 114 none _ _ _ _ Tryz.underlying22
    have h0 : l = [] := by
      rcases l with _ | ⟨s, r⟩
      · rfl
      · obtain ⟨_, h, _⟩ := HR.out.2.2 (by simp)
        cases h
    subst h0
    simp only [List.length_nil]
    clear HR hc hl
    go_enter Tryz.func120, Tryz.ntmps120
    go_wp2
    go_ret
    exact ⟨none, 0, rfl, by simp, Kd.R_nil _ _ _ _ _, Below.refl _ _⟩
  · have heq : ∀ W : World, (binOp .eql 22 (.slice (some ad) l.length c) (.slice none 0 0)).run Tryz.prog W = .ok (.bool false) W := fun W => Lib.run_eql_slice_nil W 22 114 (some ad) _ _ _ _ Tryz.underlying22
    go_enter Tryz.func120, Tryz.ntmps120
    have HO : Aside0 (Kd.R k114 114 (w.alloc (.cells #[] 114)) w.heap.size (fun _ => True) (.slice (some ⟨w.heap.size, 0, none⟩) 0 0) ([] : List S114)) :=
      ⟨⟨fun _ _ => trivial, [], World.ownsRow_made w #[] 0 (Nat.le_refl _) (by unfold maxLen; omega) (by simp), by simp [Reps]⟩⟩
    have HR1 := Aside0.mk (Kd.C_below HR.out (below_alloc (Below.refl _ _) (.cells #[] 114)))
    have HB := Aside0.mk (below_alloc (Below.refl w.heap.size w) (.cells #[] 114))
    go_wp2_with (at_builtin; refine Kd.R_append_rows k114 (Rr := k114.K (w.alloc (.cells #[] 114))) w.heap.size rfl (.tmp 5) (.tmp 6) 22 114 (.agg #[.int .i64 0, .int .i64 0]) 16 rfl Tryz.underlying22 info114 rfl (by decide) (by omega) (.slice (some ⟨w.heap.size, 0, none⟩) 0 0) [] l (some ad) l.length c (fun _ => True) (fun _ => False) rfl rfl HO.out HR1.out ?hKM ?hokp ?hfr HB.out HB.out.size ?hl ?_; (case hKM => intro x cs h; obtain rfl := k114_open h; exact k114_mkM _ _ _ _); (case hokp => exact fun _ h => h.elim); (case hfr => exact fun _ _ => trivial); (case hl => simp; omega); intro v1 w1 ho hb _ _; obtain ⟨A1, c1, rfl, hl1, _⟩ := Kd.R_reads ho; have HO1 := Aside0.mk ho; have HB1 := Aside0.mk hb; clear ho hb)
    go_ret
    exact ⟨A1, c1, rfl, hl1, HO1.out, HB1.out⟩
theorem lazy_new (fn : Fn) (first cap : Array Value) (w : World) :
    Calls Tryz.prog 121 #[.func fn first cap] w fun e w' => e = .returned (.pointer (some ⟨w.heap.size, 0, none⟩)) ∧ w' = w.alloc (cellObj 0 0 0 0 (.func fn first cap) (.slice none 0 0)) := by
  go_enter Tryz.func121, Tryz.ntmps121
  go_wp2
  go_ret
  exact ⟨rfl, rfl⟩
end Go.Proofs.YtepldlnmeenlbaaGreat.Own
namespace Go.Proofs.YtepldlnmeenlbaaGreat.Own
open Go.RowKit Go.Proofs Go.Proofs.YtepldlnmeenlbaaGreatW.PrintWords Go.Proofs.YtepldlnmeenlbaaGreatW.PrintLast Go.Proofs.YtepldlnmeenlbaaGreatW.PrintMore Go.Proofs.YtepldlnmeenlbaaGreat.Base
set_option maxRecDepth 100000 in
theorem weeknew_no (A : Option Addr) (c : Nat) (l : List S114) (w : World) (hr : Kd.C k114 w A l.length l) (hc : l.length ≤ c) (he : weekErr l ≠ 0) :
    Calls Tryz.prog 81 #[.slice A l.length c] w fun e w' => e = .returned (.tuple #[.pointer none, .int .i64 (weekErr l)]) ∧ Below w.heap.size w w' := by
  have HR := Aside0.mk hr
  have HB := Aside0.mk (Below.refl w.heap.size w)
  clear hr
  by_cases h0 : rowErr l = 0
  · have hz : weekErr l = 2 ∧ 604800 < lastEnd l := by
      unfold weekErr at he ⊢
      rw [if_pos h0] at he ⊢
      split at he
      · exact ⟨by rw [if_pos ‹_›], ‹_›⟩
      · exact absurd rfl he
    obtain ⟨hz, hlast⟩ := hz
    have hpos : 0 < l.length := by
      rcases l with _ | ⟨s, r⟩
      · simp [lastEnd] at hlast
      · simp
    have hl32 := (rowErr_ok h0).len
    rw [lastEnd_rd hpos] at hlast
    obtain ⟨ad, e, hx0, hx1⟩ := at_T114 HR.out ((l.length : Int) - 1) (by omega) (by omega)
    cases e
    rw [show ((l.length : Int) - 1).toNat = l.length - 1 by omega] at hx0 hx1
    have H0 := Aside0.mk h0
    have HL := Aside0.mk hlast
    have p0 : (0 : Int) ≤ (l.length : Int) - 1 := by omega
    have p1 : (l.length : Int) - 1 < l.length := by omega
    have hgt : (0 : Int) < (l.length : Int) := by omega
    have hd : decide ((0 : Int) < (l.length : Int)) = true := decide_eq_true hgt
    rw [hz]
    clear h0 he hz
    go_enter Tryz.func81, Tryz.ntmps81
    go_wp2_with (go_at_call 119; refine (row_any _ c l _ HR.out hc).mono ?_; rintro e w1 ⟨rfl, hb⟩; rw [H0.out]; have n0 := Aside0.mk (HB.out.trans hb); clear HB; have HB := n0; clear n0; replace hx0 := (hb.cell (World.block_lt_of_cell? w _ hx0)).trans hx0; replace hx1 := (hb.cell (World.block_lt_of_cell? w _ hx1)).trans hx1; clear hb)
    go_ret2
    exact ⟨rfl, HB.out⟩
  · have hz : weekErr l = rowErr l := by unfold weekErr; rw [if_neg h0]
    rw [hz]
    have hne : (rowErr l != 0) = true := bne_iff_ne.mpr h0
    have hne' : (rowErr l == 0) = false := beq_eq_false_iff_ne.mpr h0
    clear he hz h0
    go_enter Tryz.func81, Tryz.ntmps81
    go_wp2_with (go_at_call 119; refine (row_any _ c l _ HR.out hc).mono ?_; rintro e w1 ⟨rfl, hb⟩; have n0 := Aside0.mk (HB.out.trans hb); clear HB; have HB := n0; clear n0; clear hb)
    go_ret2
    exact ⟨rfl, HB.out⟩
set_option maxHeartbeats 1600000 in
set_option maxRecDepth 100000 in
theorem weeknew_yes (A : Option Addr) (c : Nat) (l : List S114) (w : World) (hr : Kd.C k114 w A l.length l) (hc : l.length ≤ c) (he : weekErr l = 0) :
    Calls Tryz.prog 81 #[.slice A l.length c] w fun e w' => ∃ pb cb, e = .returned (.tuple #[.pointer (some ⟨pb, 0, none⟩), .int .i64 0]) ∧ PlanAt w' w.heap.size pb cb l ∧ Below w.heap.size w w' := by
  have HR := Aside0.mk hr
  have HB := Aside0.mk (Below.refl w.heap.size w)
  have HOK := Aside0.mk (weekErr_ok he)
  have H0 : Aside0 (rowErr l = 0) := ⟨by unfold weekErr at he; split at he <;> omega⟩
  have hmf : ∀ (fn : Fn) (first cap : Array Value) (w : World), (Instr.makeFunc fn first cap).run Tryz.prog w = .ok (.func fn first cap) w := fun _ _ _ _ => rfl
  have hl32 := HOK.out.len
  clear hr he
  by_cases hpos : 0 < l.length
  · have hlast : ¬ 604800 < (rd_T114 l ((l.length : Int) - 1)).f1 := by
      have h1 := HOK.out.top (rd_T114 l ((l.length : Int) - 1)) (by rw [show (l.length : Int) - 1 = ((l.length - 1 : Nat) : Int) by omega, rd_at l (l.length - 1) (by omega)]; exact List.getElem_mem _)
      omega
    obtain ⟨ad, e, hx0, hx1⟩ := at_T114 HR.out ((l.length : Int) - 1) (by omega) (by omega)
    cases e
    rw [show ((l.length : Int) - 1).toNat = l.length - 1 by omega] at hx0 hx1
    have p0 : (0 : Int) ≤ (l.length : Int) - 1 := by omega
    have p1 : (l.length : Int) - 1 < l.length := by omega
    have hgt : (0 : Int) < (l.length : Int) := by omega
    have hd : decide ((0 : Int) < (l.length : Int)) = true := decide_eq_true hgt
    go_enter Tryz.func81, Tryz.ntmps81
    go_wp2_with (first | (go_at_call 119; refine (row_any _ c l _ HR.out hc).mono ?_; rintro e w1 ⟨rfl, hb⟩; rw [H0.out]; have n0 := Aside0.mk (HB.out.trans hb); clear HB; have HB := n0; clear n0; replace hx0 := (hb.cell (World.block_lt_of_cell? w _ hx0)).trans hx0; replace hx1 := (hb.cell (World.block_lt_of_cell? w _ hx1)).trans hx1; clear hb) | (go_at_call 120; refine (clone_any _ c l _ (Kd.C_below HR.out HB.out) hc hl32).mono ?_; rintro e w2 ⟨A2, c2, rfl, hc2, hR2, hb⟩; have HR2 := Aside0.mk (Kd.R_lower hR2 HB.out.size); have n0 := Aside0.mk (below_step HB.out hb); clear HB; have HB := n0; clear n0 hR2 hb))
    clear hx0 hx1 hlast p0 p1 hgt hd
    have BP := Aside0.mk (blk_new w2 (.cells #[.slice A2 l.length c2, .pointer none] 199))
    have HB3 := Aside0.mk (below_alloc HB.out (.cells #[.slice A2 l.length c2, .pointer none] 199))
    have HR3 := Aside0.mk (Kd.R_alloc HR2.out (.cells #[.slice A2 l.length c2, .pointer none] 199))
    have HS3 : Aside0 (w.heap.size ≤ w2.heap.size) := ⟨HB.out.size⟩
    have HS4 : Aside0 ((w2.alloc (.cells #[.slice A2 l.length c2, .pointer none] 199)).heap.size = w2.heap.size + 1) := ⟨by simp⟩
    generalize (w2.alloc (.cells #[.slice A2 l.length c2, .pointer none] 199)) = w3 at BP HB3 HR3 HS4 ⊢
    generalize w2.heap.size = pb at BP HS3 HS4 ⊢
    refine (lazy_new _ _ _ w3).mono ?_
    rintro e w4 ⟨rfl, rfl⟩
    have BP4 := Aside0.mk (blk_alloc BP.out (cellObj 0 0 0 0 (sumsFn pb) (.slice none 0 0)))
    have BC4 := Aside0.mk (blk_new w3 (cellObj 0 0 0 0 (sumsFn pb) (.slice none 0 0)))
    have HB4 := Aside0.mk (below_alloc HB3.out (cellObj 0 0 0 0 (sumsFn pb) (.slice none 0 0)))
    have HR4 := Aside0.mk (Kd.R_alloc HR3.out (cellObj 0 0 0 0 (sumsFn pb) (.slice none 0 0)))
    unfold sumsFn at BP4 BC4 HB4 HR4
    generalize (w3.alloc (cellObj 0 0 0 0 (.func (.func 122) #[.pointer (some ⟨pb, 0, none⟩)] #[]) (.slice none 0 0))) = w4 at BP4 BC4 HB4 HR4 ⊢
    generalize w3.heap.size = cb at BC4 HS4 ⊢
    have c1 : w4.cell? ⟨pb, 1, none⟩ = some (.pointer none) := (blk_cell BP4.out 1).trans rfl
    have f1 : w4.frozen? ⟨pb, 1, none⟩ = false := blk_frozen BP4.out 1
    go_wp2
    go_ret2
    have hne : pb ≠ cb := by have := HS4.out; omega
    refine ⟨pb, cb, rfl, ⟨HOK.out, HS3.out, by have := HS3.out; have := HS4.out; omega, hne, ⟨A2, c2, blk_put (cs := #[.slice A2 l.length c2, .pointer none]) BP4.out 1 _ rfl, hc2, ?_⟩, ⟨0, 0, .inl ⟨_, blk_far (p := ⟨pb, 1, none⟩) BC4.out (fun e => hne e.symm) _⟩⟩⟩, below_set HB4.out HS3.out⟩
    exact Kd.R_mono (Kd.R_far (p := ⟨pb, 1, none⟩) (Kd.R_mono (Kd.R_types (Kd.R_types HR4.out BC4.out (by decide)) BP4.out (by decide)) (ok' := fun k => k ≠ cb ∧ k ≠ pb) (fun _ h => ⟨h.1.2, h.2⟩)) (fun _ h => h.2) _) (fun _ h => h.1)
  · have h0 : l = [] := List.eq_nil_of_length_eq_zero (by omega)
    have hgt : ¬ (0 : Int) < (l.length : Int) := by omega
    have hd : decide ((0 : Int) < (l.length : Int)) = false := decide_eq_false hgt
    have hd2 : decide (0 < l.length) = false := decide_eq_false (by omega)
    clear h0
    go_enter Tryz.func81, Tryz.ntmps81
    go_wp2_with (first | (go_at_call 119; refine (row_any _ c l _ HR.out hc).mono ?_; rintro e w1 ⟨rfl, hb⟩; rw [H0.out]; have n0 := Aside0.mk (HB.out.trans hb); clear HB; have HB := n0; clear n0; clear hb) | (go_at_call 120; refine (clone_any _ c l _ (Kd.C_below HR.out HB.out) hc hl32).mono ?_; rintro e w2 ⟨A2, c2, rfl, hc2, hR2, hb⟩; have HR2 := Aside0.mk (Kd.R_lower hR2 HB.out.size); have n0 := Aside0.mk (below_step HB.out hb); clear HB; have HB := n0; clear n0 hR2 hb))
    clear hgt hd hd2
    have BP := Aside0.mk (blk_new w2 (.cells #[.slice A2 l.length c2, .pointer none] 199))
    have HB3 := Aside0.mk (below_alloc HB.out (.cells #[.slice A2 l.length c2, .pointer none] 199))
    have HR3 := Aside0.mk (Kd.R_alloc HR2.out (.cells #[.slice A2 l.length c2, .pointer none] 199))
    have HS3 : Aside0 (w.heap.size ≤ w2.heap.size) := ⟨HB.out.size⟩
    have HS4 : Aside0 ((w2.alloc (.cells #[.slice A2 l.length c2, .pointer none] 199)).heap.size = w2.heap.size + 1) := ⟨by simp⟩
    generalize (w2.alloc (.cells #[.slice A2 l.length c2, .pointer none] 199)) = w3 at BP HB3 HR3 HS4 ⊢
    generalize w2.heap.size = pb at BP HS3 HS4 ⊢
    refine (lazy_new _ _ _ w3).mono ?_
    rintro e w4 ⟨rfl, rfl⟩
    have BP4 := Aside0.mk (blk_alloc BP.out (cellObj 0 0 0 0 (sumsFn pb) (.slice none 0 0)))
    have BC4 := Aside0.mk (blk_new w3 (cellObj 0 0 0 0 (sumsFn pb) (.slice none 0 0)))
    have HB4 := Aside0.mk (below_alloc HB3.out (cellObj 0 0 0 0 (sumsFn pb) (.slice none 0 0)))
    have HR4 := Aside0.mk (Kd.R_alloc HR3.out (cellObj 0 0 0 0 (sumsFn pb) (.slice none 0 0)))
    unfold sumsFn at BP4 BC4 HB4 HR4
    generalize (w3.alloc (cellObj 0 0 0 0 (.func (.func 122) #[.pointer (some ⟨pb, 0, none⟩)] #[]) (.slice none 0 0))) = w4 at BP4 BC4 HB4 HR4 ⊢
    generalize w3.heap.size = cb at BC4 HS4 ⊢
    have c1 : w4.cell? ⟨pb, 1, none⟩ = some (.pointer none) := (blk_cell BP4.out 1).trans rfl
    have f1 : w4.frozen? ⟨pb, 1, none⟩ = false := blk_frozen BP4.out 1
    go_wp2
    go_ret2
    have hne : pb ≠ cb := by have := HS4.out; omega
    refine ⟨pb, cb, rfl, ⟨HOK.out, HS3.out, by have := HS3.out; have := HS4.out; omega, hne, ⟨A2, c2, blk_put (cs := #[.slice A2 l.length c2, .pointer none]) BP4.out 1 _ rfl, hc2, ?_⟩, ⟨0, 0, .inl ⟨_, blk_far (p := ⟨pb, 1, none⟩) BC4.out (fun e => hne e.symm) _⟩⟩⟩, below_set HB4.out HS3.out⟩
    exact Kd.R_mono (Kd.R_far (p := ⟨pb, 1, none⟩) (Kd.R_mono (Kd.R_types (Kd.R_types HR4.out BC4.out (by decide)) BP4.out (by decide)) (ok' := fun k => k ≠ cb ∧ k ≠ pb) (fun _ h => ⟨h.1.2, h.2⟩)) (fun _ h => h.2) _) (fun _ h => h.1)
end Go.Proofs.YtepldlnmeenlbaaGreat.Own
namespace Go.Proofs.YtepldlnmeenlbaaGreat.Own
open Go.RowKit Go.Proofs Go.Proofs.YtepldlnmeenlbaaGreatW.PrintWords Go.Proofs.YtepldlnmeenlbaaGreatW.PrintLast Go.Proofs.YtepldlnmeenlbaaGreatW.PrintMore Go.Proofs.YtepldlnmeenlbaaGreat.Base
def atP (l : List S114) (t : Int) : Nat := l.findIdx fun s => decide (t < s.f1)
theorem atP_le (l : List S114) (t : Int) : atP l t ≤ l.length := List.findIdx_le_length
theorem atP_lt {l : List S114} {t : Int} {j : Nat} (h : j < atP l t) (hj : j < l.length) : (l[j]).f1 ≤ t := by
  have := List.not_of_lt_findIdx h
  simpa using this
theorem atP_at {l : List S114} {t : Int} (h : atP l t < l.length) : t < (l[atP l t]).f1 := by
  exact of_decide_eq_true (List.findIdx_getElem (p := fun s : S114 => decide (t < s.f1)) (w := h))
theorem RowFrom.ends {lo : Int} {l : List S114} (h : RowFrom lo l) : ∀ (i j : Nat) (hi : i ≤ j) (hj : j < l.length), (l[i]).f1 ≤ (l[j]).f1 := by
  induction l generalizing lo with
  | nil => intro i j _ hj; simp at hj
  | cons s r ih =>
    intro i j hi hj
    rcases i with _ | i
    · rcases j with _ | j
      · exact Int.le_refl _
      · simp only [List.getElem_cons_zero, List.getElem_cons_succ]
        have h1 : ∀ (m : Nat) (hm : m < r.length), s.f1 ≤ (r[m]).f1 := by
          intro m hm
          have h2 := ih h.2.2 0 m (Nat.zero_le _) hm
          have h3 : RowFrom s.f1 r := h.2.2
          cases r with
          | nil => simp at hm
          | cons u v => have h4 := h3.1; have h5 := h3.2.1; simp only [List.getElem_cons_zero] at h2; omega
        exact h1 j (by simpa using hj)
    · rcases j with _ | j
      · omega
      · simp only [List.getElem_cons_succ]
        exact ih h.2.2 i j (by omega) (by simpa using hj)
theorem atP_gt {lo : Int} {l : List S114} {t : Int} (h : RowFrom lo l) {j : Nat} (hj : j < l.length) (ht : (l[j]).f1 ≤ t) : j < atP l t := by
  apply Nat.lt_of_not_le
  intro hle
  have h1 := atP_at (l := l) (t := t) (by omega)
  have h2 := h.ends (atP l t) j hle hj
  omega
theorem atP_ge {l : List S114} {t : Int} {j : Nat} (hj : j < l.length) (ht : t < (l[j]).f1) : atP l t ≤ j := by
  apply Nat.le_of_not_lt
  intro hlt
  have := atP_lt hlt hj
  omega
set_option maxHeartbeats 1600000 in
set_option maxRecDepth 100000 in
theorem search_any (A : Option Addr) (c : Nat) (l : List S114) (t : Int) (w : World) (hr : Kd.C k114 w A l.length l) (hc : l.length ≤ c) {hi : Int} (hok : RowOk hi l) :
    Calls Tryz.prog 158 #[.slice A l.length c, .int .i64 t, .func (.func 159) #[] #[]] w fun e w' => e = .returned (.tuple #[.int .i64 (atP l t : Int), .bool false]) ∧ Below w.heap.size w w' := by
  have HR := Aside0.mk hr
  have HB := Aside0.mk (Below.refl w.heap.size w)
  have HOK := Aside0.mk hok
  have hl := hok.len
  clear hr hok
  go_enter Tryz.func158, Tryz.ntmps158
  go_wp2
  go_loopg [9, 10] l.length (fun g v9 v10 w' => ∃ i j : Int, v9 = .int .i64 i ∧ v10 = .int .i64 j ∧ Aside0 (0 ≤ i ∧ i ≤ atP l t ∧ (atP l t : Int) ≤ j ∧ j ≤ l.length ∧ (g : Int) = j - i) ∧ Aside0 (Below w.heap.size w w'))
  case atStart => exact ⟨0, l.length, rfl, rfl, ⟨by omega, by omega, by have := atP_le l t; omega, by omega, by omega⟩, HB⟩
  case round =>
    clear HB
    obtain ⟨i, j, rfl, rfl, HI, HB⟩ := hrel
    have hI := HI.out
    by_cases hlt : i < j
    · have p0 : 0 ≤ i := hI.1
      have p1 : i ≤ 32 := by omega
      have p2 : 0 ≤ j := by omega
      have p3 : j ≤ 32 := by omega
      have p4 : 0 ≤ (i + j) / 2 := by omega
      have p5 : (i + j) / 2 < l.length := by omega
      obtain ⟨ad, e, hx0, hx1⟩ := at_T114 HR.out ((i + j) / 2) p4 p5
      cases e
      replace hx0 := (HB.out.cell (World.block_lt_of_cell? w _ hx0)).trans hx0
      replace hx1 := (HB.out.cell (World.block_lt_of_cell? w _ hx1)).trans hx1
      have hrd : rd_T114 l ((i + j) / 2) = l[((i + j) / 2).toNat]'(by omega) := by
        rw [← rd_at l ((i + j) / 2).toNat (by omega)]
        congr 1
        omega
      have HRD := Aside0.mk hrd
      clear hI hrd
      go_wp2
      · have hle : (rd_T114 l ((i + j) / 2)).f1 ≤ t := by assumption
        rw [HRD.out] at hle
        have h1 := atP_gt HOK.out.row (by have := HI.out; omega) hle
        go_roundg (j - ((i + j) / 2 + 1)).toNat
        case measure => have := HI.out; omega
        case rel => exact ⟨(i + j) / 2 + 1, j, rfl, rfl, ⟨by have := HI.out; omega, by omega, by have := HI.out; omega, by have := HI.out; omega, by have := HI.out; omega⟩, ⟨by repeat (first | exact HB.out | apply below_alloc)⟩⟩
      · have hle : t < (rd_T114 l ((i + j) / 2)).f1 := by assumption
        rw [HRD.out] at hle
        have h1 := atP_ge (by have := HI.out; omega) hle
        go_roundg ((i + j) / 2 - i).toNat
        case measure => have := HI.out; omega
        case rel => exact ⟨i, (i + j) / 2, rfl, rfl, ⟨by have := HI.out; omega, by have := HI.out; omega, by omega, by have := HI.out; omega, by have := HI.out; omega⟩, ⟨by repeat (first | exact HB.out | apply below_alloc)⟩⟩
    · have hi' : i = atP l t := by omega
      subst hi'
      by_cases hat : atP l t < l.length
      · have p0 : (0 : Int) ≤ atP l t := by omega
        have p1 : (atP l t : Int) < l.length := by omega
        obtain ⟨ad, e, hx0, hx1⟩ := at_T114 HR.out (atP l t) p0 p1
        cases e
        replace hx0 := (HB.out.cell (World.block_lt_of_cell? w _ hx0)).trans hx0
        replace hx1 := (HB.out.cell (World.block_lt_of_cell? w _ hx1)).trans hx1
        rw [Int.toNat_natCast] at hx0 hx1
        have hd : decide (atP l t < l.length) = true := decide_eq_true hat
        have hlt2 : t < (rd_T114 l (atP l t)).f1 := by rw [rd_at l _ hat]; exact atP_at hat
        clear hI
        go_wp2
        go_ret2
        exact ⟨rfl, below_alloc HB.out _⟩
      · have hd : decide (atP l t < l.length) = false := decide_eq_false hat
        have hge : ¬ (atP l t : Int) < l.length := by omega
        clear hI
        go_wp2
        go_ret2
        exact ⟨rfl, HB.out⟩
set_option maxRecDepth 100000 in
theorem at_any (n pb cb : Nat) (row : List S114) (t : Int) (w : World) (h : PlanAt w n pb cb row) :
    Calls Tryz.prog 141 #[.pointer (some ⟨pb, 0, none⟩), .int .i64 t] w fun e w' => e = .returned (.int .i64 (atP row t : Int)) ∧ Below w.heap.size w w' := by
  obtain ⟨A, c, hb, hc, hr⟩ := h.blk
  have c0 : w.cell? ⟨pb, 0, none⟩ = some (.slice A row.length c) := (blk_cell hb 0).trans rfl
  have HR := Aside0.mk (Kd.R_reads' hr).2.2
  have HOK := Aside0.mk h.ok
  clear hb hr h
  go_enter Tryz.func141, Tryz.ntmps141
  go_wp2_with (go_at_call 158; refine (search_any A c row t _ HR.out hc HOK.out).mono ?_; rintro e w1 ⟨rfl, hb⟩; have HB := Aside0.mk hb; clear hb)
  go_ret
  exact ⟨rfl, HB.out⟩
theorem plannone_any (n pb cb : Nat) (row : List S114) (w : World) (h : PlanAt w n pb cb row) :
    Calls Tryz.prog 136 #[.pointer (some ⟨pb, 0, none⟩)] w fun e w' => e = .returned (.bool false) ∧ w = w' := by
  obtain ⟨A, c, hb, hc, hr⟩ := h.blk
  have c1 : w.cell? ⟨pb, 1, none⟩ = some (.pointer (some ⟨cb, 0, none⟩)) := (blk_cell hb 1).trans rfl
  clear hb hr h
  go_enter Tryz.func136, Tryz.ntmps136
  go_wp2
  go_ret
  exact ⟨rfl, rfl⟩
end Go.Proofs.YtepldlnmeenlbaaGreat.Own
namespace Go.Proofs.YtepldlnmeenlbaaGreat.Own
open Go.RowKit Go.Proofs Go.Proofs.YtepldlnmeenlbaaGreatW.PrintWords Go.Proofs.YtepldlnmeenlbaaGreatW.PrintLast Go.Proofs.YtepldlnmeenlbaaGreatW.PrintMore
theorem wpAnyLast_switch {P : Program} {ops : Array Oper} {Q : Exit → Act → World → Prop} {md : Region.Mode} {S : World → Prop} {ds : List Nat} (w1 : World) :
    ∀ (fuel : Nat) (l : Array Bool) (a : Act) (w : World), w = w1 → wpAnyLast P md ops Q (fun w' => w' = w1) [] fuel l a w → wpAnyLast P md ops Q S ds fuel l a w
  | 0, _, _, _, _, h => h
  | fuel + 1, l, a, w, he, h => by
    refine ⟨h.1, fun i hi => wpOp_mono (fun a' w' h' => ?_) (h.2 i hi)⟩
    have h1 : w' = w1 := h'.1 (by simp) he
    exact ⟨fun _ hS => by rw [h1, ← he]; exact hS, wpAnyLast_switch w1 fuel _ a' w' h1 h'.2⟩
theorem switch_ {P : Program} {ops : Array Oper} {Q : Exit → Act → World → Prop} {md : Region.Mode} {S : World → Prop} {ds : List Nat} {fuel : Nat} {l : Array Bool} {a : Act} {w : World}
    (h : w = w → wpAnyLast P md ops Q (fun w' => w' = w) [] fuel l a w) : wpAnyLast P md ops Q S ds fuel l a w := wpAnyLast_switch w fuel l a w rfl (h rfl)
end Go.Proofs.YtepldlnmeenlbaaGreat.Own
namespace Go.Proofs.YtepldlnmeenlbaaGreat.Own
open Go.RowKit Go.Proofs Go.Proofs.YtepldlnmeenlbaaGreatW.PrintWords Go.Proofs.YtepldlnmeenlbaaGreatW.PrintLast Go.Proofs.YtepldlnmeenlbaaGreatW.PrintMore Go.Proofs.YtepldlnmeenlbaaGreat.Base
theorem max2_mx (k k' : IntKind) (x y : Int) : Builtin.max2 (.int k x) (.int k' y) = pure (.int k (mx x y)) := max2_int k k' x y
theorem min2_mn (k k' : IntKind) (x y : Int) : Builtin.min2 (.int k x) (.int k' y) = pure (.int k (mn x y)) := min2_int k k' x y
attribute [local go_sem] max2_mx min2_mn max_two min_two
def total_T3 : Bool × List (List Nat × List Nat) := (true, [([], []), ([0], [0]), ([1], [1]), ([2], [2]), ([3], [3]), ([], []), ([5], [5]), ([6], [6]), ([7], [7]), ([8], [8]), ([4, 9], [4, 9]), ([10], [10]), ([11, 4, 0, 1, 2, 3, 4, 5, 6, 7, 8, 9, 10, 11], [11])])
def total_B3 : List Nat := [0, 1, 3, 7, 15, 0, 32, 96, 224, 480, 1023, 2047, 4095]
theorem total_tab3 : rtab .any (opsOf Tryz.f105 3) = total_T3 := by kernel_rfl
theorem total_bits3 : waitsOk total_T3.2 total_B3 = true := by kernel_rfl
theorem psums_rd (l : List S114) (i : Nat) (h : i ≤ l.length) : rd (psums l) i = secs (l.take i) := by
  unfold rd
  rw [List.getD_eq_getElem?_getD, Int.toNat_natCast, psums_get _ _ h]
  rfl
set_option maxHeartbeats 1600000 in
set_option maxRecDepth 100000 in
theorem total_any (n pb cb : Nat) (row : List S114) (w : World) (h : PlanAt w n pb cb row) (hn : n ≤ w.heap.size) :
    Calls Tryz.prog 105 #[.pointer (some ⟨pb, 0, none⟩)] w fun e w' => e = .returned (.int .i64 (secs row)) ∧ PlanAt w' n pb cb row ∧ Upd cb w w' := by
  obtain ⟨A, c, hb, hc, hr⟩ := h.blk
  have c0 : w.drew.cell? ⟨pb, 0, none⟩ = some (.slice A row.length c) := (blk_cell hb 0).trans rfl
  have c1 : w.drew.cell? ⟨pb, 1, none⟩ = some (.pointer (some ⟨cb, 0, none⟩)) := (blk_cell hb 1).trans rfl
  have HBK := Aside0.mk (blk_drew hb)
  have HP := Aside0.mk h
  have HP1 : Aside0 (PlanAt w.drew n pb cb row) := ⟨h.keep (fun _ _ _ => rfl)⟩
  have HU1 : Aside0 (Upd cb w w.drew) := ⟨(Upd.refl cb w).drew⟩
  have HN1 : Aside0 (n ≤ w.drew.heap.size) := ⟨hn⟩
  clear hb hr h
  go_enter Tryz.func105, Tryz.ntmps105
  go_wp2_with (go_at_call 136; refine (plannone_any n pb cb row _ HP.out).mono ?_; rintro e w1 ⟨rfl, rfl⟩)
  refine start_ (n := 13) (S := fun w' => w'.cell? ⟨pb, 0, none⟩ = some (.slice A row.length c) ∧ w'.cell? ⟨pb, 1, none⟩ = some (.pointer (some ⟨cb, 0, none⟩))) (ds := []) #[false, false, false, false, false, false, false, false, false, false, false, false, false] (by kernel_rfl) rfl rfl ⟨c0, c1⟩ (fun hHeld => ?_); refine with_tabW total_tab3 total_bits3 (fun HT_ HW_ => ?_)
  refine pure_ (i := 0) (N := some 5) (v := ?_) (a' := ?_) #[true, false, false, false, false, false, false, false, false, false, false, false, false] rfl rfl (any_of HT_.out (by kernel_rfl)) (fun _ _ _ h => h) (Or.inl ⟨by rfl, ?_⟩) ?_ ?_
  rotate_left
  · intro w'
    go_simp
    with_reducible rfl
  rotate_left
  · simp only [Act.put, List.setIfInBounds_toArray, List.set_cons_zero, List.set_cons_succ, i64_w, i32_w]
    rfl
  refine pure_ (i := 1) (N := some 6) (v := ?_) (a' := ?_) #[true, true, false, false, false, false, false, false, false, false, false, false, false] rfl rfl (any_of HT_.out (by kernel_rfl)) (fun _ _ _ h => h) (Or.inl ⟨by rfl, ?_⟩) ?_ ?_
  rotate_left
  · intro w'
    go_simp
    with_reducible rfl
  rotate_left
  · simp only [Act.put, List.setIfInBounds_toArray, List.set_cons_zero, List.set_cons_succ, i64_w, i32_w]
    rfl
  refine pure_ (i := 2) (N := some 7) (v := ?_) (a' := ?_) #[true, true, true, false, false, false, false, false, false, false, false, false, false] rfl rfl (any_of HT_.out (by kernel_rfl)) (fun _ _ _ h => h) (Or.inl ⟨by rfl, ?_⟩) ?_ ?_
  rotate_left
  · intro w'
    go_simp
    with_reducible rfl
  rotate_left
  · simp only [Act.put, List.setIfInBounds_toArray, List.set_cons_zero, List.set_cons_succ, i64_w, i32_w]
    rfl
  refine pure_ (i := 5) (N := some 10) (v := ?_) (a' := ?_) #[true, true, true, false, false, true, false, false, false, false, false, false, false] rfl rfl (any_of HT_.out (by kernel_rfl)) (fun _ _ _ h => h) (Or.inl ⟨by rfl, ?_⟩) ?_ ?_
  rotate_left
  · intro w'
    go_simp
    with_reducible rfl
  rotate_left
  · simp only [Act.put, List.setIfInBounds_toArray, List.set_cons_zero, List.set_cons_succ, i64_w, i32_w]
    rfl
  refine pure_ (i := 6) (N := some 11) (v := ?_) (a' := ?_) #[true, true, true, false, false, true, true, false, false, false, false, false, false] rfl rfl (any_of HT_.out (by kernel_rfl)) (fun _ _ _ h => h) (Or.inl ⟨by rfl, ?_⟩) ?_ ?_
  rotate_left
  · intro w'
    go_simp
    with_reducible rfl
  rotate_left
  · simp only [Act.put, List.setIfInBounds_toArray, List.set_cons_zero, List.set_cons_succ, i64_w, i32_w]
    rfl
  refine pure_ (i := 7) (N := some 12) (v := ?_) (a' := ?_) #[true, true, true, false, false, true, true, true, false, false, false, false, false] rfl rfl (any_of HT_.out (by kernel_rfl)) (fun _ _ _ h => h) (Or.inl ⟨by rfl, ?_⟩) ?_ ?_
  rotate_left
  · intro w'
    go_simp
    with_reducible rfl
  rotate_left
  · simp only [Act.put, List.setIfInBounds_toArray, List.set_cons_zero, List.set_cons_succ, i64_w, i32_w]
    rfl
  refine take_ (i := 3) (N := some 8) (v := ?_) (a' := ?_) #[true, true, true, true, false, true, true, true, false, false, false, false, false] rfl rfl (take_ofW HT_.out HW_.out (by kernel_rfl)) (fun _ _ _ h => h) (Or.inl ⟨by rfl, ?_⟩) hHeld ?_ ?_
  rotate_left
  · rintro w' ⟨s0, s1⟩
    go_simp
    with_reducible rfl
  rotate_left
  · simp only [Act.put, List.setIfInBounds_toArray, List.set_cons_zero, List.set_cons_succ, i64_w, i32_w]
    rfl
  refine take_ (i := 8) (N := some 13) (v := ?_) (a' := ?_) #[true, true, true, true, false, true, true, true, true, false, false, false, false] rfl rfl (take_ofW HT_.out HW_.out (by kernel_rfl)) (fun _ _ _ h => h) (Or.inl ⟨by rfl, ?_⟩) hHeld ?_ ?_
  rotate_left
  · rintro w' ⟨s0, s1⟩
    go_simp
    with_reducible rfl
  rotate_left
  · simp only [Act.put, List.setIfInBounds_toArray, List.set_cons_zero, List.set_cons_succ, i64_w, i32_w]
    rfl
  refine pure_ (i := 9) (N := some 14) (v := ?_) (a' := ?_) #[true, true, true, true, false, true, true, true, true, true, false, false, false] rfl rfl (any_of HT_.out (by kernel_rfl)) (fun _ _ _ h => h) (Or.inl ⟨by rfl, ?_⟩) ?_ ?_
  rotate_left
  · intro w'
    go_simp
    with_reducible rfl
  rotate_left
  · simp only [Act.put, List.setIfInBounds_toArray, List.set_cons_zero, List.set_cons_succ, i64_w, i32_w]
    rfl
  refine one_ (i := 4) (N := some 9) #[true, true, true, true, true, true, true, true, true, true, false, false, false] rfl rfl (one_of HT_.out (by kernel_rfl)) (by decide) (fun K hK => ?_)
  refine goes_ Tryz.func137 (by kernel_rfl) rfl #[.pointer (some ⟨cb, 0, none⟩)] (by rfl) rfl rfl (by (try simp only [List.map_toArray, List.map_cons, List.map_nil]); first | done | rfl) ?_
  refine (get_any cb pb n row _ HP1.out HN1.out).mono ?_
  rintro e w2 ⟨A2, k2, rfl, P2, hC2, hl2, U2⟩
  refine ⟨_, rfl, ?_⟩
  have hBK2 := U2.blk HBK.out HP1.out.ne
  have d0 : w2.cell? ⟨pb, 0, none⟩ = some (.slice A row.length c) := (blk_cell hBK2 0).trans rfl
  have d1 : w2.cell? ⟨pb, 1, none⟩ = some (.pointer (some ⟨cb, 0, none⟩)) := (blk_cell hBK2 1).trans rfl
  obtain ⟨ad2, e2, hx2⟩ := Kd.at_int hC2 row.length (by omega) (by rw [psums_length]; omega)
  cases e2
  rw [psums_rd row row.length (Nat.le_refl _), List.take_length, Int.toNat_natCast] at hx2
  have HP2 := Aside0.mk P2
  have HU2 := Aside0.mk (HU1.out.trans U2)
  have hlt : (row.length : Int) < ((psums row).length : Int) := by rw [psums_length]; omega
  have hlt' : row.length < (psums row).length := by omega
  clear hC2 P2 U2 hBK2
  refine hK.out _ _ ⟨d0, d1⟩ (fun hHeld => ?_)
  clear hK K
  refine norm_ (a' := ?_) ?_ ?_
  rotate_left
  · show Act.put _ (some 9) _ = _
    simp only [Act.put, List.setIfInBounds_toArray, List.set_cons_zero, List.set_cons_succ, i64_w, i32_w]
    rfl
  refine switch_ (fun hHeld => ?_)
  refine pure_ (i := 10) (N := some 15) (v := ?_) (a' := ?_) #[true, true, true, true, true, true, true, true, true, true, true, false, false] rfl rfl (any_of HT_.out (by kernel_rfl)) (fun _ _ _ h => h) (Or.inl ⟨by rfl, ?_⟩) ?_ ?_
  rotate_left
  · intro w'
    go_simp
    with_reducible rfl
  rotate_left
  · simp only [Act.put, List.setIfInBounds_toArray, List.set_cons_zero, List.set_cons_succ, i64_w, i32_w]
    rfl
  refine take_ (i := 11) (N := some 16) (v := ?_) (a' := ?_) #[true, true, true, true, true, true, true, true, true, true, true, true, false] rfl rfl (take_ofW HT_.out HW_.out (by kernel_rfl)) (fun _ _ _ h => h) (Or.inl ⟨by rfl, ?_⟩) hHeld ?_ ?_
  rotate_left
  · rintro w' rfl
    go_simp
    with_reducible rfl
  rotate_left
  · simp only [Act.put, List.setIfInBounds_toArray, List.set_cons_zero, List.set_cons_succ, i64_w, i32_w]
    rfl
  refine pure_ (i := 12) (N := some 2) (v := ?_) (a' := ?_) #[true, true, true, true, true, true, true, true, true, true, true, true, true] rfl rfl (any_of HT_.out (by kernel_rfl)) (fun _ _ _ h => h) (Or.inl ⟨by rfl, ?_⟩) ?_ ?_
  rotate_left
  · intro w'
    go_simp
    with_reducible rfl
  rotate_left
  · simp only [Act.put, List.setIfInBounds_toArray, List.set_cons_zero, List.set_cons_succ, i64_w, i32_w]
    rfl
  refine done_ (done_of HT_.out (by kernel_rfl)) ?_
  go_wp2
  go_ret
  exact ⟨rfl, HP2.out, HU2.out⟩
def untilP (row : List S114) (t : Int) : Int :=
  mn (mx t 0) 2251799813685248 / 604800 * secs row + secs (row.take (atP row (mn (mx t 0) 2251799813685248 % 604800))) +
    if atP row (mn (mx t 0) 2251799813685248 % 604800) < row.length then mx (mn (mx t 0) 2251799813685248 % 604800 - (rd_T114 row (atP row (mn (mx t 0) 2251799813685248 % 604800))).f0) 0 else 0
theorem clamp_bound (t : Int) : 0 ≤ mn (mx t 0) 2251799813685248 ∧ mn (mx t 0) 2251799813685248 ≤ 2251799813685248 := by
  unfold mn mx; split <;> split <;> omega
def until_T6 : Bool × List (List Nat × List Nat) := (true, [([], []), ([], []), ([1], [1]), ([0, 2], [0, 2]), ([], []), ([4], [4]), ([5], [5]), ([6], [6]), ([7, 2], [7]), ([], []), ([8, 9], [8, 9]), ([10], [10]), ([3, 11], [3, 11]), ([12, 8, 0, 1, 2, 3, 4, 5, 6, 7, 8, 9, 10, 11, 12], [12])])
def until_B6 : List Nat := [0, 0, 2, 7, 0, 16, 48, 112, 246, 0, 1014, 2038, 4095, 8191]
theorem until_tab6 : rtab .any (opsOf Tryz.f108 6) = until_T6 := by kernel_rfl
theorem until_bits6 : waitsOk until_T6.2 until_B6 = true := by kernel_rfl
set_option maxHeartbeats 4000000 in
set_option maxRecDepth 100000 in
theorem until_any (n pb cb : Nat) (row : List S114) (t : Int) (w : World) (h : PlanAt w n pb cb row) (hn : n ≤ w.heap.size) :
    Calls Tryz.prog 108 #[.pointer (some ⟨pb, 0, none⟩), .int .i64 t] w fun e w' => e = .returned (.int .i64 (untilP row t)) ∧ PlanAt w' n pb cb row ∧ Upd cb w w' := by
  obtain ⟨A, c, hb, hc, hr⟩ := h.blk
  have HBK0 := Aside0.mk hb
  have HP0 := Aside0.mk h
  have HN0 := Aside0.mk hn
  have HU0 := Aside0.mk (Upd.refl cb w)
  have HR0 := Aside0.mk (Kd.R_reads' hr).2.2
  have HRR := Aside0.mk hr
  have HOK := Aside0.mk h.ok
  clear hb hr h hn
  have HUE : Aside0 (untilP row t = mn (mx t 0) 2251799813685248 / 604800 * secs row + secs (row.take (atP row (mn (mx t 0) 2251799813685248 % 604800))) +
    if atP row (mn (mx t 0) 2251799813685248 % 604800) < row.length then mx (mn (mx t 0) 2251799813685248 % 604800 - (rd_T114 row (atP row (mn (mx t 0) 2251799813685248 % 604800))).f0) 0 else 0) := ⟨rfl⟩
  generalize untilP row t = U at HUE ⊢
  obtain ⟨b0, b1⟩ := clamp_bound t
  go_enter Tryz.func108, Tryz.ntmps108
  go_wp2_with (go_at_call 136; refine (plannone_any n pb cb row _ HP0.out).mono ?_; rintro e w1 ⟨rfl, rfl⟩)
  generalize mn (mx t 0) 2251799813685248 = x at b0 b1 HUE ⊢
  go_wp2_with (go_at_call 141; refine (at_any n pb cb row (x % 604800) _ HP0.out).mono ?_; rintro e w1 ⟨rfl, hb⟩; have HP1 := Aside0.mk (HP0.out.below hb); have HBK1 := Aside0.mk (blk_below HBK0.out hb); have HU1 := Aside0.mk (HU0.out.then hb); clear hb)
  have hat := atP_le row (x % 604800)
  generalize atP row (x % 604800) = i at hat HUE ⊢
  have HP2 : Aside0 (PlanAt w1.drew n pb cb row) := ⟨HP1.out.keep (fun _ _ _ => rfl)⟩
  have HU2 : Aside0 (Upd cb w w1.drew) := ⟨HU1.out.drew⟩
  have HN2 : Aside0 (n ≤ w1.drew.heap.size) := ⟨Nat.le_trans HN0.out HU2.out.size⟩
  have HBK2 := Aside0.mk (blk_drew HBK1.out)
  have c1 : w1.drew.cell? ⟨pb, 1, none⟩ = some (.pointer (some ⟨cb, 0, none⟩)) := (blk_cell HBK2.out 1).trans rfl
  refine start_ (n := 14) (S := fun w' => w'.cell? ⟨pb, 1, none⟩ = some (.pointer (some ⟨cb, 0, none⟩))) (ds := []) #[false, false, false, false, false, false, false, false, false, false, false, false, false, false] (by kernel_rfl) rfl rfl c1 (fun hHeld => ?_); refine with_tabW until_tab6 until_bits6 (fun HT_ HW_ => ?_)
  refine pure_ (i := 0) (N := some 21) (v := ?_) (a' := ?_) #[true, false, false, false, false, false, false, false, false, false, false, false, false, false] rfl rfl (any_of HT_.out (by kernel_rfl)) (fun _ _ _ h => h) (Or.inl ⟨by rfl, ?_⟩) ?_ ?_
  rotate_left
  · intro w'
    go_simp
    with_reducible rfl
  rotate_left
  · simp only [Act.put, List.setIfInBounds_toArray, List.set_cons_zero, List.set_cons_succ, i64_w, i32_w]
    rfl
  refine pure_ (i := 1) (N := some 22) (v := ?_) (a' := ?_) #[true, true, false, false, false, false, false, false, false, false, false, false, false, false] rfl rfl (any_of HT_.out (by kernel_rfl)) (fun _ _ _ h => h) (Or.inl ⟨by rfl, ?_⟩) ?_ ?_
  rotate_left
  · intro w'
    go_simp
    with_reducible rfl
  rotate_left
  · simp only [Act.put, List.setIfInBounds_toArray, List.set_cons_zero, List.set_cons_succ, i64_w, i32_w]
    rfl
  refine pure_ (i := 4) (N := some 25) (v := ?_) (a' := ?_) #[true, true, false, false, true, false, false, false, false, false, false, false, false, false] rfl rfl (any_of HT_.out (by kernel_rfl)) (fun _ _ _ h => h) (Or.inl ⟨by rfl, ?_⟩) ?_ ?_
  rotate_left
  · intro w'
    go_simp
    with_reducible rfl
  rotate_left
  · simp only [Act.put, List.setIfInBounds_toArray, List.set_cons_zero, List.set_cons_succ, i64_w, i32_w]
    rfl
  refine pure_ (i := 5) (N := some 26) (v := ?_) (a' := ?_) #[true, true, false, false, true, true, false, false, false, false, false, false, false, false] rfl rfl (any_of HT_.out (by kernel_rfl)) (fun _ _ _ h => h) (Or.inl ⟨by rfl, ?_⟩) ?_ ?_
  rotate_left
  · intro w'
    go_simp
    with_reducible rfl
  rotate_left
  · simp only [Act.put, List.setIfInBounds_toArray, List.set_cons_zero, List.set_cons_succ, i64_w, i32_w]
    rfl
  refine pure_ (i := 6) (N := some 27) (v := ?_) (a' := ?_) #[true, true, false, false, true, true, true, false, false, false, false, false, false, false] rfl rfl (any_of HT_.out (by kernel_rfl)) (fun _ _ _ h => h) (Or.inl ⟨by rfl, ?_⟩) ?_ ?_
  rotate_left
  · intro w'
    go_simp
    with_reducible rfl
  rotate_left
  · simp only [Act.put, List.setIfInBounds_toArray, List.set_cons_zero, List.set_cons_succ, i64_w, i32_w]
    rfl
  refine pure_ (i := 9) (N := some 30) (v := ?_) (a' := ?_) #[true, true, false, false, true, true, true, false, false, true, false, false, false, false] rfl rfl (any_of HT_.out (by kernel_rfl)) (fun _ _ _ h => h) (Or.inl ⟨by rfl, ?_⟩) ?_ ?_
  rotate_left
  · intro w'
    go_simp
    with_reducible rfl
  rotate_left
  · simp only [Act.put, List.setIfInBounds_toArray, List.set_cons_zero, List.set_cons_succ, i64_w, i32_w]
    rfl
  refine take_ (i := 7) (N := some 28) (v := ?_) (a' := ?_) #[true, true, false, false, true, true, true, true, false, true, false, false, false, false] rfl rfl (take_ofW HT_.out HW_.out (by kernel_rfl)) (fun _ _ _ h => h) (Or.inl ⟨by rfl, ?_⟩) hHeld ?_ ?_
  rotate_left
  · rintro w' s0
    go_simp
    with_reducible rfl
  rotate_left
  · simp only [Act.put, List.setIfInBounds_toArray, List.set_cons_zero, List.set_cons_succ, i64_w, i32_w]
    rfl
  refine one_ (i := 2) (N := some 23) #[true, true, true, false, true, true, true, true, false, true, false, false, false, false] rfl rfl (one_of HT_.out (by kernel_rfl)) (by decide) (fun K hK => ?_)
  refine goes_ Tryz.func105 (by kernel_rfl) rfl #[.pointer (some ⟨pb, 0, none⟩)] (by rfl) rfl rfl (by (try simp only [List.map_toArray, List.map_cons, List.map_nil]); first | done | rfl) ?_
  refine (total_any n pb cb row _ HP2.out HN2.out).mono ?_
  rintro e w3 ⟨rfl, P3, U3⟩
  refine ⟨_, rfl, ?_⟩
  have HBK3 := Aside0.mk (U3.blk HBK2.out HP2.out.ne)
  have d1 : w3.cell? ⟨pb, 1, none⟩ = some (.pointer (some ⟨cb, 0, none⟩)) := (blk_cell HBK3.out 1).trans rfl
  have HP3 := Aside0.mk P3
  have HU3 := Aside0.mk (HU2.out.trans U3)
  have HN3 : Aside0 (n ≤ w3.heap.size) := ⟨Nat.le_trans HN0.out HU3.out.size⟩
  clear P3 U3
  refine hK.out _ _ d1 (fun hHeld => ?_)
  clear hK K
  refine norm_ (a' := ?_) ?_ ?_
  rotate_left
  · show Act.put _ (some 23) _ = _
    simp only [Act.put, List.setIfInBounds_toArray, List.set_cons_zero, List.set_cons_succ, i64_w, i32_w]
    rfl
  refine pure_ (i := 3) (N := some 24) (v := ?_) (a' := ?_) #[true, true, true, true, true, true, true, true, false, true, false, false, false, false] rfl rfl (any_of HT_.out (by kernel_rfl)) (fun _ _ _ h => h) (Or.inl ⟨by rfl, ?_⟩) ?_ ?_
  rotate_left
  · intro w'
    go_simp
    with_reducible rfl
  rotate_left
  · simp only [Act.put, List.setIfInBounds_toArray, List.set_cons_zero, List.set_cons_succ, i64_w, i32_w]
    rfl
  refine one_ (i := 8) (N := some 29) #[true, true, true, true, true, true, true, true, true, true, false, false, false, false] rfl rfl (one_of HT_.out (by kernel_rfl)) (by decide) (fun K hK => ?_)
  refine goes_ Tryz.func137 (by kernel_rfl) rfl #[.pointer (some ⟨cb, 0, none⟩)] (by rfl) rfl rfl (by (try simp only [List.map_toArray, List.map_cons, List.map_nil]); first | done | rfl) ?_
  refine (get_any cb pb n row _ HP3.out HN3.out).mono ?_
  rintro e w4 ⟨A2, k2, rfl, P4, hC4, hl4, U4⟩
  refine ⟨_, rfl, ?_⟩
  have HBK4 := Aside0.mk (U4.blk HBK3.out HP3.out.ne)
  have d0 : w4.cell? ⟨pb, 0, none⟩ = some (.slice A row.length c) := (blk_cell HBK4.out 0).trans rfl
  have d1 : w4.cell? ⟨pb, 1, none⟩ = some (.pointer (some ⟨cb, 0, none⟩)) := (blk_cell HBK4.out 1).trans rfl
  obtain ⟨ad2, e2, hx2⟩ := Kd.at_int hC4 i (by omega) (by rw [psums_length]; omega)
  cases e2
  rw [psums_rd row i hat, Int.toNat_natCast] at hx2
  have HP4 := Aside0.mk P4
  have HU4 := Aside0.mk (HU3.out.trans U4)
  have hlt : (i : Int) < ((psums row).length : Int) := by rw [psums_length]; omega
  have hlt' : i < (psums row).length := by omega
  clear hC4 P4 U4
  refine hK.out _ _ d1 (fun hHeld => ?_)
  clear hK K
  refine norm_ (a' := ?_) ?_ ?_
  rotate_left
  · show Act.put _ (some 29) _ = _
    simp only [Act.put, List.setIfInBounds_toArray, List.set_cons_zero, List.set_cons_succ, i64_w, i32_w]
    rfl
  refine switch_ (fun hHeld => ?_)
  refine pure_ (i := 10) (N := some 31) (v := ?_) (a' := ?_) #[true, true, true, true, true, true, true, true, true, true, true, false, false, false] rfl rfl (any_of HT_.out (by kernel_rfl)) (fun _ _ _ h => h) (Or.inl ⟨by rfl, ?_⟩) ?_ ?_
  rotate_left
  · intro w'
    go_simp
    with_reducible rfl
  rotate_left
  · simp only [Act.put, List.setIfInBounds_toArray, List.set_cons_zero, List.set_cons_succ, i64_w, i32_w]
    rfl
  refine take_ (i := 11) (N := some 32) (v := ?_) (a' := ?_) #[true, true, true, true, true, true, true, true, true, true, true, true, false, false] rfl rfl (take_ofW HT_.out HW_.out (by kernel_rfl)) (fun _ _ _ h => h) (Or.inl ⟨by rfl, ?_⟩) hHeld ?_ ?_
  rotate_left
  · rintro w' rfl
    go_simp
    with_reducible rfl
  rotate_left
  · simp only [Act.put, List.setIfInBounds_toArray, List.set_cons_zero, List.set_cons_succ, i64_w, i32_w]
    rfl
  refine pure_ (i := 12) (N := some 33) (v := ?_) (a' := ?_) #[true, true, true, true, true, true, true, true, true, true, true, true, true, false] rfl rfl (any_of HT_.out (by kernel_rfl)) (fun _ _ _ h => h) (Or.inl ⟨by rfl, ?_⟩) ?_ ?_
  rotate_left
  · intro w'
    go_simp
    with_reducible rfl
  rotate_left
  · simp only [Act.put, List.setIfInBounds_toArray, List.set_cons_zero, List.set_cons_succ, i64_w, i32_w]
    rfl
  refine pure_ (i := 13) (N := some 8) (v := ?_) (a' := ?_) #[true, true, true, true, true, true, true, true, true, true, true, true, true, true] rfl rfl (any_of HT_.out (by kernel_rfl)) (fun _ _ _ h => h) (Or.inl ⟨by rfl, ?_⟩) ?_ ?_
  rotate_left
  · intro w'
    go_simp
    with_reducible rfl
  rotate_left
  · simp only [Act.put, List.setIfInBounds_toArray, List.set_cons_zero, List.set_cons_succ, i64_w, i32_w]
    rfl
  refine done_ (done_of HT_.out (by kernel_rfl)) ?_
  have s0 := HOK.out.secs (by omega)
  have s1 := (HOK.out.take i).secs (by omega)
  have q0 : 0 ≤ x / 604800 ∧ x / 604800 ≤ 3723213977 := by omega
  have m0 : 0 ≤ x / 604800 * secs row := Int.mul_nonneg q0.1 s0.1
  have m1 : x / 604800 * secs row ≤ 3723213977 * 604800 := Int.mul_le_mul q0.2 s0.2 s0.1 (by omega)
  have hv : wrap64 (wrap64 (x / 604800 * secs row) + secs (row.take i)) = x / 604800 * secs row + secs (row.take i) := by
    rw [wrap_id (x := x / 604800 * secs row) (by omega) (by omega), wrap_id (by omega) (by omega)]
  rw [hv]
  have v0 : 0 ≤ x / 604800 * secs row + secs (row.take i) := by omega
  have v1 : x / 604800 * secs row + secs (row.take i) ≤ 2251799813685248 + 1209600 := by omega
  generalize x / 604800 * secs row + secs (row.take i) = V at v0 v1 HUE ⊢
  clear hv m0 m1 q0 s0 s1
  by_cases hi : i < row.length
  · have p0 : (0 : Int) ≤ i := by omega
    have p1 : (i : Int) < row.length := by omega
    have hd : decide (i < row.length) = true := decide_eq_true hi
    have hmem := HOK.out.mem (rd_T114 row i) (by rw [rd_at row i hi]; exact List.getElem_mem _)
    obtain ⟨m0, m1, m2⟩ := hmem
    have hrC := (Kd.R_reads' (Kd.R_grown HRR.out HU4.out (fun k hk e => hk (by injection e)))).2.2
    obtain ⟨ad, e, hx0, hx1⟩ := at_T114 hrC i p0 p1
    cases e
    rw [Int.toNat_natCast] at hx0 hx1
    have hmx : 0 ≤ mx (x % 604800 - (rd_T114 row i).f0) 0 ∧ mx (x % 604800 - (rd_T114 row i).f0) 0 ≤ 604800 := by unfold mx; split <;> omega
    obtain ⟨mm0, mm1⟩ := hmx
    have HE : Aside0 (U = V + mx (x % 604800 - (rd_T114 row i).f0) 0) := ⟨by rw [HUE.out, if_pos hi]⟩
    clear hrC hx1 HUE
    go_wp2
    go_ret
    exact ⟨by rw [HE.out]; rfl, HP4.out, HU4.out⟩
  · have hd : decide (i < row.length) = false := decide_eq_false hi
    have p1 : ¬ (i : Int) < row.length := by omega
    have HE : Aside0 (U = V) := ⟨by rw [HUE.out, if_neg hi]; omega⟩
    clear HUE
    go_wp2
    go_ret
    exact ⟨by rw [HE.out]; rfl, HP4.out, HU4.out⟩
end Go.Proofs.YtepldlnmeenlbaaGreat.Own
namespace Go.Proofs.YtepldlnmeenlbaaGreat.Own
open Go.RowKit Go.Proofs Go.Proofs.YtepldlnmeenlbaaGreatW.PrintWords Go.Proofs.YtepldlnmeenlbaaGreatW.PrintLast Go.Proofs.YtepldlnmeenlbaaGreatW.PrintMore Go.Proofs.YtepldlnmeenlbaaGreat.Base
attribute [local go_sem] max2_mx min2_mn max_two min_two
theorem until_bound {row : List S114} (h : RowOk 604800 row) (t : Int) : 0 ≤ untilP row t ∧ untilP row t ≤ 2251799815500000 := by
  unfold untilP
  obtain ⟨b0, b1⟩ := clamp_bound t
  generalize mn (mx t 0) 2251799813685248 = x at b0 b1 ⊢
  have hat := atP_le row (x % 604800)
  generalize atP row (x % 604800) = i at hat ⊢
  have s0 := h.secs (by omega)
  have s1 := (h.take i).secs (by omega)
  have q0 : 0 ≤ x / 604800 ∧ x / 604800 ≤ 3723213977 := by omega
  have m0 : 0 ≤ x / 604800 * secs row := Int.mul_nonneg q0.1 s0.1
  have m1 : x / 604800 * secs row ≤ 3723213977 * 604800 := Int.mul_le_mul q0.2 s0.2 s0.1 (by omega)
  split
  · rename_i hi
    have hmem := h.mem (rd_T114 row i) (by rw [rd_at row i hi]; exact List.getElem_mem _)
    have hmx : 0 ≤ mx (x % 604800 - (rd_T114 row i).f0) 0 ∧ mx (x % 604800 - (rd_T114 row i).f0) 0 ≤ 604800 := by unfold mx; split <;> omega
    omega
  · omega
def betweenP (row : List S114) (a b : Int) : Int := mx (untilP row b - untilP row a) 0
theorem between_bound {row : List S114} (h : RowOk 604800 row) (a b : Int) : 0 ≤ betweenP row a b ∧ betweenP row a b ≤ 2251799815500000 := by
  have h1 := until_bound h a
  have h2 := until_bound h b
  unfold betweenP mx
  split <;> omega
set_option maxHeartbeats 1600000 in
set_option maxRecDepth 100000 in
theorem between_any (n pb cb : Nat) (row : List S114) (a b : Int) (w : World) (h : PlanAt w n pb cb row) (hn : n ≤ w.heap.size) :
    Calls Tryz.prog 124 #[.pointer (some ⟨pb, 0, none⟩), .int .i64 a, .int .i64 b] w fun e w' => e = .returned (.int .i64 (betweenP row a b)) ∧ PlanAt w' n pb cb row ∧ Upd cb w w' := by
  have HP := Aside0.mk h
  have HN := Aside0.mk hn
  have HU := Aside0.mk (Upd.refl cb w)
  obtain ⟨a0, a1⟩ := until_bound h.ok a
  obtain ⟨b0, b1⟩ := until_bound h.ok b
  have hmf : ∀ (fn : Fn) (first cap : Array Value) (w : World), (Instr.makeFunc fn first cap).run Tryz.prog w = .ok (.func fn first cap) w := fun _ _ _ _ => rfl
  clear h hn
  go_enter Tryz.func124, Tryz.ntmps124
  go_wp2_with (go_at_call 108; refine (until_any n pb cb row _ _ HP.out HN.out).mono ?_; rintro e w1 ⟨rfl, P1, U1⟩; have n0 := Aside0.mk P1; have n1 := Aside0.mk (HU.out.trans U1); have n2 := Aside0.mk (Nat.le_trans HN.out U1.size); clear HP HU HN P1 U1; have HP := n0; have HU := n1; have HN := n2; clear n0 n1 n2)
  go_ret
  exact ⟨rfl, HP.out, HU.out⟩
end Go.Proofs.YtepldlnmeenlbaaGreat.Own
namespace Go.Proofs.YtepldlnmeenlbaaGreat.Own
open Go.RowKit Go.Proofs Go.Proofs.YtepldlnmeenlbaaGreatW.PrintWords Go.Proofs.YtepldlnmeenlbaaGreatW.PrintLast Go.Proofs.YtepldlnmeenlbaaGreatW.PrintMore Go.Proofs.YtepldlnmeenlbaaGreat.Base
def geP (l : List Int) (t : Int) : Nat := l.findIdx fun x => decide (t ≤ x)
theorem geP_le (l : List Int) (t : Int) : geP l t ≤ l.length := List.findIdx_le_length
theorem geP_lt {l : List Int} {t : Int} {j : Nat} (h : j < geP l t) (hj : j < l.length) : l[j] < t := by
  have := List.not_of_lt_findIdx h
  simpa using this
theorem geP_at {l : List Int} {t : Int} (h : geP l t < l.length) : t ≤ l[geP l t] := of_decide_eq_true (List.findIdx_getElem (p := fun x : Int => decide (t ≤ x)) (w := h))
def Rising (l : List Int) : Prop := ∀ (i j : Nat) (_ : i ≤ j) (hj : j < l.length), l[i] ≤ l[j]
theorem geP_gt {l : List Int} {t : Int} (h : Rising l) {j : Nat} (hj : j < l.length) (ht : l[j] < t) : j < geP l t := by
  apply Nat.lt_of_not_le
  intro hle
  have h1 := geP_at (l := l) (t := t) (by omega)
  have h2 := h (geP l t) j hle hj
  omega
theorem geP_ge {l : List Int} {t : Int} {j : Nat} (hj : j < l.length) (ht : t ≤ l[j]) : geP l t ≤ j := by
  apply Nat.le_of_not_lt
  intro hlt
  have := geP_lt hlt hj
  omega
theorem less_eq (a b : Int) : cmp_Less_int64.f a b = some (decide (a < b)) := by
  simp [cmp_Less_int64.f, cmp_isNaN_int64.f]
theorem rdi_at (l : List Int) (i : Int) (h0 : 0 ≤ i) (h : i < l.length) : rd l i = l[i.toNat]'(by omega) := by
  unfold rd
  rw [List.getD_eq_getElem?_getD, List.getElem?_eq_getElem (by omega)]
  rfl
theorem bs_l0 (l : List Int) (t : Int) (hs : Rising l) (hl : l.length ≤ 100) : ∀ (d k : Nat) (i j : Int), 0 ≤ i → i ≤ geP l t → (geP l t : Int) ≤ j → j ≤ l.length → j - i ≤ d → d < k →
    ∃ b, slices_BinarySearch_int64_int64.l0 k l t (l.length : Int) i j = some ((geP l t : Int), b) := by
  intro d
  induction d with
  | zero =>
    intro k i j h0 h1 h2 h3 hd hk
    obtain ⟨k, rfl⟩ : ∃ m, k = m + 1 := ⟨k - 1, by omega⟩
    have hi : i = geP l t := by omega
    subst hi
    simp only [slices_BinarySearch_int64_int64.l0]
    rw [if_neg (by omega)]
    by_cases hlt : (geP l t : Int) < l.length
    · rw [if_pos hlt, if_pos (by omega), if_pos hlt]
      by_cases he : rd l (geP l t) = t
      · rw [if_pos he]; exact ⟨_, rfl⟩
      · rw [if_neg he]
        simp [slices_isNaN_int64.f]
    · rw [if_neg hlt]; exact ⟨_, rfl⟩
  | succ d ih =>
    intro k i j h0 h1 h2 h3 hd hk
    obtain ⟨k, rfl⟩ : ∃ m, k = m + 1 := ⟨k - 1, by omega⟩
    by_cases hij : i < j
    · have hw : wrap64 ((IntKind.u64.wrap (wrap64 (i + j))) / 2) = (i + j) / 2 := by
        rw [wrap_id (x := i + j) (by omega) (by omega), IntWalk.u64_in _ (by omega), wrap_id (by omega) (by omega)]
      simp only [slices_BinarySearch_int64_int64.l0]
      rw [if_pos hij, hw, if_pos (by omega), if_pos (by omega), less_eq, rdi_at l _ (by omega) (by omega), wrap_id (by omega) (by omega)]
      simp only [Option.bind_some, decide_eq_true_eq]
      by_cases hlt : l[((i + j) / 2).toNat]'(by omega) < t
      · rw [if_pos hlt]
        have := geP_gt hs (by omega) hlt
        exact ih k _ j (by omega) (by omega) h2 h3 (by omega) (by omega)
      · rw [if_neg hlt]
        have := geP_ge (l := l) (t := t) (j := ((i + j) / 2).toNat) (by omega) (by omega)
        exact ih k i _ h0 h1 (by omega) (by omega) (by omega) (by omega)
    · exact ih (k + 1) i j h0 h1 h2 h3 (by omega) (by omega)
theorem bs_eq (l : List Int) (t : Int) (hs : Rising l) (hl : l.length ≤ 100) : ∃ b, slices_BinarySearch_int64_int64.f 200 l t = some ((geP l t : Int), b) := by
  unfold slices_BinarySearch_int64_int64.f
  exact bs_l0 l t hs hl 150 200 0 l.length (by omega) (by omega) (by have := geP_le l t; omega) (by omega) (by omega) (by omega)
theorem secs_take_le {lo hi : Int} {l : List S114} (h : RowFrom lo l) (ht : ∀ s, s ∈ l → s.f1 ≤ hi) (i j : Nat) (hij : i ≤ j) : secs (l.take i) ≤ secs (l.take j) := by
  induction l generalizing lo i j with
  | nil => simp
  | cons s r ih =>
    rcases j with _ | j
    · rw [show i = 0 by omega]; exact Int.le_refl _
    · rcases i with _ | i
      · have h1 := (secs_bound (h.take (j + 1)) (fun s hs => ht s (List.mem_of_mem_take hs))).1
        simpa [secs] using h1
      · simp only [List.take_succ_cons, secs]
        have := ih h.2.2 (fun s hs => ht s (List.mem_cons_of_mem _ hs)) i j (by omega)
        omega
theorem psums_rising {hi : Int} {l : List S114} (h : RowOk hi l) : Rising (psums l) := by
  intro i j hij hj
  have hj' : j ≤ l.length := by rw [psums_length] at hj; omega
  have e1 := psums_get l i (by omega)
  have e2 := psums_get l j hj'
  rw [List.getElem?_eq_getElem (by omega)] at e1 e2
  injection e1 with e1
  injection e2 with e2
  rw [e1, e2]
  exact secs_take_le h.row h.top i j hij
end Go.Proofs.YtepldlnmeenlbaaGreat.Own
namespace Go.Proofs.YtepldlnmeenlbaaGreat.Own
open Go.RowKit Go.Proofs Go.Proofs.YtepldlnmeenlbaaGreatW.PrintWords Go.Proofs.YtepldlnmeenlbaaGreatW.PrintLast Go.Proofs.YtepldlnmeenlbaaGreatW.PrintMore Go.Proofs.YtepldlnmeenlbaaGreat.Base
def nthI (row : List S114) (n : Int) : Nat := geP (psums row) (n % secs row + 1) - 1
def nthP (row : List S114) (n : Int) : Int := n / secs row * 604800 + (rd_T114 row (nthI row n)).f0 + n % secs row - secs (row.take (nthI row n))
theorem nthI_spec {row : List S114} (h : RowOk 604800 row) (n : Int) (hs : 0 < secs row) (h0 : 0 ≤ n) :
    nthI row n < row.length ∧ geP (psums row) (n % secs row + 1) = nthI row n + 1 ∧ secs (row.take (nthI row n)) ≤ n % secs row ∧ n % secs row < secs (row.take (nthI row n + 1)) := by
  have hr0 := Int.emod_nonneg n (show secs row ≠ 0 by omega)
  have hr1 := Int.emod_lt_of_pos n hs
  generalize hrest : n % secs row = rest at hr0 hr1
  have hpl := psums_length row
  have hg : ∀ (j : Nat) (hj : j < (psums row).length), (psums row)[j] = secs (row.take j) := by
    intro j hj
    have e := psums_get row j (by omega)
    rw [List.getElem?_eq_getElem hj] at e
    injection e
  have h1 : 0 < geP (psums row) (rest + 1) := by
    refine geP_gt (psums_rising h) (j := 0) (by omega) ?_
    rw [hg]; simp [secs]; omega
  have h2 : geP (psums row) (rest + 1) ≤ row.length := by
    refine geP_ge (j := row.length) (by omega) ?_
    rw [hg, List.take_length]; omega
  have hI : nthI row n = geP (psums row) (rest + 1) - 1 := by unfold nthI; rw [hrest]
  refine ⟨by omega, by omega, ?_, ?_⟩
  · have := geP_lt (l := psums row) (t := rest + 1) (j := nthI row n) (by omega) (by omega)
    rw [hg] at this
    omega
  · have := geP_at (l := psums row) (t := rest + 1) (by omega)
    rw [hg] at this
    rw [show nthI row n + 1 = geP (psums row) (rest + 1) by omega]
    omega
def nth_T12 : Bool × List (List Nat × List Nat) := (true, [([], []), ([], []), ([0, 1], [0, 1]), ([2], [2]), ([], []), ([4], [4]), ([5], [5]), ([6], [6]), ([], []), ([8], [8]), ([7, 9], [7, 9]), ([10], [10]), ([11], [11]), ([3, 12], [3, 12]), ([], []), ([13, 14], [13, 14]), ([], []), ([16], [16]), ([17], [17]), ([18], [18]), ([19], [19]), ([], []), ([21], [21]), ([20, 22], [20, 22]), ([23], [23]), ([15, 24], [15, 24]), ([25, 20, 0, 1, 2, 3, 4, 5, 6, 7, 8, 9, 10, 11, 12, 13, 14, 15, 16, 17, 18, 19, 20, 21, 22, 23, 24, 25], [25])])
def nth_B12 : List Nat := [0, 0, 3, 7, 0, 16, 48, 112, 0, 256, 1008, 2032, 4080, 8191, 0, 32767, 0, 65536, 196608, 458752, 983040, 0, 2097152, 8323072, 16711680, 33554431, 67108863]
theorem nth_tab12 : rtab .any (opsOf Tryz.f107 12) = nth_T12 := by kernel_rfl
theorem nth_bits12 : waitsOk nth_T12.2 nth_B12 = true := by kernel_rfl
set_option maxHeartbeats 4000000 in
set_option maxRecDepth 100000 in
theorem nth_any (n pb cb : Nat) (row : List S114) (k : Int) (w : World) (h : PlanAt w n pb cb row) (hn : n ≤ w.heap.size)
    (hs : 0 < secs row) (h0 : 0 ≤ k) (hk : k / secs row ≤ 3723213977) (hk2 : nthP row k ≤ 2251799813685248) (hk3 : 0 ≤ nthP row k) :
    Calls Tryz.prog 107 #[.pointer (some ⟨pb, 0, none⟩), .int .i64 k] w fun e w' => e = .returned (.tuple #[.int .i64 (nthP row k), .int .i64 0]) ∧ PlanAt w' n pb cb row ∧ Upd cb w w' := by
  obtain ⟨i0, i1, i2, i3⟩ := nthI_spec h.ok k hs h0
  obtain ⟨A, c, hb, hc, hr⟩ := h.blk
  have HBK0 := Aside0.mk hb
  have HP0 := Aside0.mk h
  have HN0 := Aside0.mk hn
  have HU0 := Aside0.mk (Upd.refl cb w)
  have HRR := Aside0.mk hr
  have HOK := Aside0.mk h.ok
  have s0 := h.ok.secs (by omega)
  have HI1 := Aside0.mk i1
  have HI2 := Aside0.mk (And.intro i2 i3)
  have HE : Aside0 (nthP row k = k / secs row * 604800 + (rd_T114 row (nthI row k)).f0 + k % secs row - secs (row.take (nthI row k))) := ⟨rfl⟩
  obtain ⟨b, hbs⟩ := bs_eq (psums row) (k % secs row + 1) (psums_rising h.ok) (by rw [psums_length]; have := h.ok.len; omega)
  rw [i1] at hbs
  have HBS := Aside0.mk hbs
  have r0 := Int.emod_nonneg k (show secs row ≠ 0 by omega)
  have r1 := Int.emod_lt_of_pos k hs
  have q0 : 0 ≤ k / secs row := Int.ediv_nonneg h0 s0.1
  generalize nthP row k = U at HE hk2 hk3 ⊢
  have hwq : wrap64 (k.tdiv (secs row)) = k / secs row := by rw [Int.tdiv_eq_ediv_of_nonneg h0]; exact wrap_id (by omega) (by omega)
  have z1 : (secs row == 0) = false := beq_eq_false_iff_ne.mpr (by omega)
  have z2 : ¬ secs row = 0 := by omega
  clear hb hr h hn i1 i2 i3 hbs
  go_enter Tryz.func107, Tryz.ntmps107
  go_wp2_with (first | (go_at_call 105; refine (total_any n pb cb row _ HP0.out HN0.out).mono ?_; rintro e w1 ⟨rfl, P1, U1⟩; have n0 := Aside0.mk P1; have n1 := Aside0.mk (HU0.out.trans U1); have n2 := Aside0.mk (Nat.le_trans HN0.out U1.size); have n3 := Aside0.mk (U1.blk HBK0.out HP0.out.ne); clear HP0 HU0 HN0 HBK0 P1 U1; have HP0 := n0; have HU0 := n1; have HN0 := n2; have HBK0 := n3; clear n0 n1 n2 n3; have c1 : w1.cell? ⟨pb, 1, none⟩ = some (.pointer (some ⟨cb, 0, none⟩)) := (blk_cell HBK0.out 1).trans rfl) | (go_at_call 136; refine (plannone_any n pb cb row _ HP0.out).mono ?_; rintro e w1 ⟨rfl, rfl⟩) | (go_at_call 137; refine (get_any cb pb n row _ HP0.out HN0.out).mono ?_; rintro e w2 ⟨A2, k2, rfl, P2, hC2, hl2, U2⟩; have n0 := Aside0.mk P2; have n1 := Aside0.mk (HU0.out.trans U2); have n2 := Aside0.mk (Nat.le_trans HN0.out U2.size); have n3 := Aside0.mk (U2.blk HBK0.out HP0.out.ne); have HC2 := Aside0.mk hC2; clear HP0 HU0 HN0 HBK0 P2 U2 hC2; have HP0 := n0; have HU0 := n1; have HN0 := n2; have HBK0 := n3; clear n0 n1 n2 n3) | (go_at_call 140; refine (slices_BinarySearch_int64_int64.calls 200 A2 k2 (psums row) (k % secs row + 1) _ b _ HC2.out hl2 HBS.out).mono ?_; rintro e w3 ⟨rfl, hd⟩; have hb := hd.below; have n0 := Aside0.mk (HP0.out.below hb); have n1 := Aside0.mk (HU0.out.then hb); have n2 := Aside0.mk (Nat.le_trans HN0.out hb.size); have n3 := Aside0.mk (blk_below HBK0.out hb); clear HP0 HU0 HN0 HBK0 hb hd; have HP0 := n0; have HU0 := n1; have HN0 := n2; have HBK0 := n3; clear n0 n1 n2 n3))
  have HN4 : Aside0 (n ≤ w3.drew.heap.size) := ⟨HN0.out⟩
  have HP4 : Aside0 (PlanAt w3.drew n pb cb row) := ⟨HP0.out.keep (fun _ _ _ => rfl)⟩
  have HU4 : Aside0 (Upd cb w w3.drew) := ⟨HU0.out.drew⟩
  have HBK4 := Aside0.mk (blk_drew HBK0.out)
  have d0 : w3.drew.cell? ⟨pb, 0, none⟩ = some (.slice A row.length c) := (blk_cell HBK4.out 0).trans rfl
  have d1 : w3.drew.cell? ⟨pb, 1, none⟩ = some (.pointer (some ⟨cb, 0, none⟩)) := (blk_cell HBK4.out 1).trans rfl
  have hRR4 := (Kd.R_grown HRR.out HU4.out (fun k hk e => hk (by injection e)))
  have HRR4 := Aside0.mk hRR4
  obtain ⟨q, hq⟩ : ∃ q : Int, q = (nthI row k : Int) + 1 := ⟨_, rfl⟩
  rw [← hq]
  have hl32 := HOK.out.len
  have hmw : wrap64 (q - 1) = (nthI row k : Int) := by rw [wrap_id (by omega) (by omega)]; omega
  have p0 : 0 ≤ wrap64 (q - 1) := by rw [hmw]; omega
  have p1 : wrap64 (q - 1) < row.length := by rw [hmw]; omega
  have p2 : wrap64 (q - 1) < ((psums row).length : Int) := by rw [hmw, psums_length]; omega
  obtain ⟨ad, e, hx0, hx1⟩ := at_T114 (Kd.R_reads' hRR4).2.2 _ p0 p1
  cases e
  have HMW := Aside0.mk hmw
  have HRD := Aside0.mk (show (rd_T114 row (wrap64 (q - 1))).f0 = (rd_T114 row (nthI row k)).f0 by rw [hmw])
  have HI0 := Aside0.mk i0
  have p0' := eq_true p0
  have p1' := eq_true p1
  have p2' := eq_true p2
  clear hx1 hq hmw hRR4 hl32 i0 p0 p1 p2 s0 HBS
  refine start_ (n := 27) (S := fun w' => w'.cell? ⟨pb, 0, none⟩ = some (.slice (some ad) row.length c) ∧ w'.cell? ⟨pb, 1, none⟩ = some (.pointer (some ⟨cb, 0, none⟩)) ∧ w'.cell? (ad.add ((wrap64 (q - 1)).toNat * 2)) = some (.int .i64 (rd_T114 row (wrap64 (q - 1))).f0)) (ds := []) #[false, false, false, false, false, false, false, false, false, false, false, false, false, false, false, false, false, false, false, false, false, false, false, false, false, false, false] (by kernel_rfl) rfl rfl ⟨d0, d1, hx0⟩ (fun hHeld => ?_); refine with_tabW nth_tab12 nth_bits12 (fun HT_ HW_ => ?_)
  refine pure_ (i := 0) (N := some 41) (v := ?_) (a' := ?_) #[true, false, false, false, false, false, false, false, false, false, false, false, false, false, false, false, false, false, false, false, false, false, false, false, false, false, false] rfl rfl (any_of HT_.out (by kernel_rfl)) (fun _ _ _ h => h) (Or.inl ⟨by rfl, ?_⟩) ?_ ?_
  rotate_left
  · intro w'
    go_simp
    with_reducible rfl
  rotate_left
  · simp only [Act.put, List.setIfInBounds_toArray, List.set_cons_zero, List.set_cons_succ, i64_w, i32_w]
    rfl
  refine pure_ (i := 1) (N := some 42) (v := ?_) (a' := ?_) #[true, true, false, false, false, false, false, false, false, false, false, false, false, false, false, false, false, false, false, false, false, false, false, false, false, false, false] rfl rfl (any_of HT_.out (by kernel_rfl)) (fun _ _ _ h => h) (Or.inl ⟨by rfl, ?_⟩) ?_ ?_
  rotate_left
  · intro w'
    go_simp
    with_reducible rfl
  rotate_left
  · simp only [Act.put, List.setIfInBounds_toArray, List.set_cons_zero, List.set_cons_succ, i64_w, i32_w]
    rfl
  refine pure_ (i := 2) (N := some 43) (v := ?_) (a' := ?_) #[true, true, true, false, false, false, false, false, false, false, false, false, false, false, false, false, false, false, false, false, false, false, false, false, false, false, false] rfl rfl (any_of HT_.out (by kernel_rfl)) (fun _ _ _ h => h) (Or.inl ⟨by rfl, ?_⟩) ?_ ?_
  rotate_left
  · intro w'
    go_simp
    with_reducible rfl
  rotate_left
  · simp only [Act.put, List.setIfInBounds_toArray, List.set_cons_zero, List.set_cons_succ, i64_w, i32_w]
    rfl
  refine pure_ (i := 3) (N := some 44) (v := ?_) (a' := ?_) #[true, true, true, true, false, false, false, false, false, false, false, false, false, false, false, false, false, false, false, false, false, false, false, false, false, false, false] rfl rfl (any_of HT_.out (by kernel_rfl)) (fun _ _ _ h => h) (Or.inl ⟨by rfl, ?_⟩) ?_ ?_
  rotate_left
  · intro w'
    go_simp
    with_reducible rfl
  rotate_left
  · simp only [Act.put, List.setIfInBounds_toArray, List.set_cons_zero, List.set_cons_succ, i64_w, i32_w]
    rfl
  refine pure_ (i := 4) (N := some 45) (v := ?_) (a' := ?_) #[true, true, true, true, true, false, false, false, false, false, false, false, false, false, false, false, false, false, false, false, false, false, false, false, false, false, false] rfl rfl (any_of HT_.out (by kernel_rfl)) (fun _ _ _ h => h) (Or.inl ⟨by rfl, ?_⟩) ?_ ?_
  rotate_left
  · intro w'
    go_simp
    with_reducible rfl
  rotate_left
  · simp only [Act.put, List.setIfInBounds_toArray, List.set_cons_zero, List.set_cons_succ, i64_w, i32_w]
    rfl
  refine pure_ (i := 5) (N := some 46) (v := ?_) (a' := ?_) #[true, true, true, true, true, true, false, false, false, false, false, false, false, false, false, false, false, false, false, false, false, false, false, false, false, false, false] rfl rfl (any_of HT_.out (by kernel_rfl)) (fun _ _ _ h => h) (Or.inl ⟨by rfl, ?_⟩) ?_ ?_
  rotate_left
  · intro w'
    go_simp
    with_reducible rfl
  rotate_left
  · simp only [Act.put, List.setIfInBounds_toArray, List.set_cons_zero, List.set_cons_succ, i64_w, i32_w]
    rfl
  refine pure_ (i := 6) (N := some 47) (v := ?_) (a' := ?_) #[true, true, true, true, true, true, true, false, false, false, false, false, false, false, false, false, false, false, false, false, false, false, false, false, false, false, false] rfl rfl (any_of HT_.out (by kernel_rfl)) (fun _ _ _ h => h) (Or.inl ⟨by rfl, ?_⟩) ?_ ?_
  rotate_left
  · intro w'
    go_simp
    with_reducible rfl
  rotate_left
  · simp only [Act.put, List.setIfInBounds_toArray, List.set_cons_zero, List.set_cons_succ, i64_w, i32_w]
    rfl
  refine pure_ (i := 8) (N := some 49) (v := ?_) (a' := ?_) #[true, true, true, true, true, true, true, false, true, false, false, false, false, false, false, false, false, false, false, false, false, false, false, false, false, false, false] rfl rfl (any_of HT_.out (by kernel_rfl)) (fun _ _ _ h => h) (Or.inl ⟨by rfl, ?_⟩) ?_ ?_
  rotate_left
  · intro w'
    go_simp
    with_reducible rfl
  rotate_left
  · simp only [Act.put, List.setIfInBounds_toArray, List.set_cons_zero, List.set_cons_succ, i64_w, i32_w]
    rfl
  refine pure_ (i := 9) (N := some 50) (v := ?_) (a' := ?_) #[true, true, true, true, true, true, true, false, true, true, false, false, false, false, false, false, false, false, false, false, false, false, false, false, false, false, false] rfl rfl (any_of HT_.out (by kernel_rfl)) (fun _ _ _ h => h) (Or.inl ⟨by rfl, ?_⟩) ?_ ?_
  rotate_left
  · intro w'
    go_simp
    with_reducible rfl
  rotate_left
  · simp only [Act.put, List.setIfInBounds_toArray, List.set_cons_zero, List.set_cons_succ, i64_w, i32_w]
    rfl
  refine pure_ (i := 14) (N := some 55) (v := ?_) (a' := ?_) #[true, true, true, true, true, true, true, false, true, true, false, false, false, false, true, false, false, false, false, false, false, false, false, false, false, false, false] rfl rfl (any_of HT_.out (by kernel_rfl)) (fun _ _ _ h => h) (Or.inl ⟨by rfl, ?_⟩) ?_ ?_
  rotate_left
  · intro w'
    go_simp
    with_reducible rfl
  rotate_left
  · simp only [Act.put, List.setIfInBounds_toArray, List.set_cons_zero, List.set_cons_succ, i64_w, i32_w]
    rfl
  refine pure_ (i := 16) (N := some 57) (v := ?_) (a' := ?_) #[true, true, true, true, true, true, true, false, true, true, false, false, false, false, true, false, true, false, false, false, false, false, false, false, false, false, false] rfl rfl (any_of HT_.out (by kernel_rfl)) (fun _ _ _ h => h) (Or.inl ⟨by rfl, ?_⟩) ?_ ?_
  rotate_left
  · intro w'
    go_simp
    with_reducible rfl
  rotate_left
  · simp only [Act.put, List.setIfInBounds_toArray, List.set_cons_zero, List.set_cons_succ, i64_w, i32_w]
    rfl
  refine pure_ (i := 17) (N := some 58) (v := ?_) (a' := ?_) #[true, true, true, true, true, true, true, false, true, true, false, false, false, false, true, false, true, true, false, false, false, false, false, false, false, false, false] rfl rfl (any_of HT_.out (by kernel_rfl)) (fun _ _ _ h => h) (Or.inl ⟨by rfl, ?_⟩) ?_ ?_
  rotate_left
  · intro w'
    go_simp
    with_reducible rfl
  rotate_left
  · simp only [Act.put, List.setIfInBounds_toArray, List.set_cons_zero, List.set_cons_succ, i64_w, i32_w]
    rfl
  refine pure_ (i := 18) (N := some 59) (v := ?_) (a' := ?_) #[true, true, true, true, true, true, true, false, true, true, false, false, false, false, true, false, true, true, true, false, false, false, false, false, false, false, false] rfl rfl (any_of HT_.out (by kernel_rfl)) (fun _ _ _ h => h) (Or.inl ⟨by rfl, ?_⟩) ?_ ?_
  rotate_left
  · intro w'
    go_simp
    with_reducible rfl
  rotate_left
  · simp only [Act.put, List.setIfInBounds_toArray, List.set_cons_zero, List.set_cons_succ, i64_w, i32_w]
    rfl
  refine pure_ (i := 21) (N := some 62) (v := ?_) (a' := ?_) #[true, true, true, true, true, true, true, false, true, true, false, false, false, false, true, false, true, true, true, false, false, true, false, false, false, false, false] rfl rfl (any_of HT_.out (by kernel_rfl)) (fun _ _ _ h => h) (Or.inl ⟨by rfl, ?_⟩) ?_ ?_
  rotate_left
  · intro w'
    go_simp
    with_reducible rfl
  rotate_left
  · simp only [Act.put, List.setIfInBounds_toArray, List.set_cons_zero, List.set_cons_succ, i64_w, i32_w]
    rfl
  refine pure_ (i := 22) (N := some 63) (v := ?_) (a' := ?_) #[true, true, true, true, true, true, true, false, true, true, false, false, false, false, true, false, true, true, true, false, false, true, true, false, false, false, false] rfl rfl (any_of HT_.out (by kernel_rfl)) (fun _ _ _ h => h) (Or.inl ⟨by rfl, ?_⟩) ?_ ?_
  rotate_left
  · intro w'
    go_simp
    with_reducible rfl
  rotate_left
  · simp only [Act.put, List.setIfInBounds_toArray, List.set_cons_zero, List.set_cons_succ, i64_w, i32_w]
    rfl
  refine take_ (i := 7) (N := some 48) (v := ?_) (a' := ?_) #[true, true, true, true, true, true, true, true, true, true, false, false, false, false, true, false, true, true, true, false, false, true, true, false, false, false, false] rfl rfl (take_ofW HT_.out HW_.out (by kernel_rfl)) (fun _ _ _ h => h) (Or.inl ⟨by rfl, ?_⟩) hHeld ?_ ?_
  rotate_left
  · rintro w' ⟨s0, s1, s2⟩
    go_simp
    with_reducible rfl
  rotate_left
  · simp only [Act.put, List.setIfInBounds_toArray, List.set_cons_zero, List.set_cons_succ, i64_w, i32_w]
    rfl
  refine pure_ (i := 10) (N := some 51) (v := ?_) (a' := ?_) #[true, true, true, true, true, true, true, true, true, true, true, false, false, false, true, false, true, true, true, false, false, true, true, false, false, false, false] rfl rfl (any_of HT_.out (by kernel_rfl)) (fun _ _ _ h => h) (Or.inl ⟨by rfl, ?_⟩) ?_ ?_
  rotate_left
  · intro w'
    go_simp
    with_reducible rfl
  rotate_left
  · simp only [Act.put, List.setIfInBounds_toArray, List.set_cons_zero, List.set_cons_succ, i64_w, i32_w]
    rfl
  refine pure_ (i := 11) (N := some 52) (v := ?_) (a' := ?_) #[true, true, true, true, true, true, true, true, true, true, true, true, false, false, true, false, true, true, true, false, false, true, true, false, false, false, false] rfl rfl (any_of HT_.out (by kernel_rfl)) (fun _ _ _ h => h) (Or.inl ⟨by rfl, ?_⟩) ?_ ?_
  rotate_left
  · intro w'
    go_simp
    with_reducible rfl
  rotate_left
  · simp only [Act.put, List.setIfInBounds_toArray, List.set_cons_zero, List.set_cons_succ, i64_w, i32_w]
    rfl
  refine take_ (i := 12) (N := some 53) (v := ?_) (a' := ?_) #[true, true, true, true, true, true, true, true, true, true, true, true, true, false, true, false, true, true, true, false, false, true, true, false, false, false, false] rfl rfl (take_ofW HT_.out HW_.out (by kernel_rfl)) (fun _ _ _ h => h) (Or.inl ⟨by rfl, ?_⟩) hHeld ?_ ?_
  rotate_left
  · rintro w' ⟨s0, s1, s2⟩
    go_simp
    with_reducible rfl
  rotate_left
  · simp only [Act.put, List.setIfInBounds_toArray, List.set_cons_zero, List.set_cons_succ, i64_w, i32_w]
    rfl
  refine pure_ (i := 13) (N := some 54) (v := ?_) (a' := ?_) #[true, true, true, true, true, true, true, true, true, true, true, true, true, true, true, false, true, true, true, false, false, true, true, false, false, false, false] rfl rfl (any_of HT_.out (by kernel_rfl)) (fun _ _ _ h => h) (Or.inl ⟨by rfl, ?_⟩) ?_ ?_
  rotate_left
  · intro w'
    go_simp
    with_reducible rfl
  rotate_left
  · simp only [Act.put, List.setIfInBounds_toArray, List.set_cons_zero, List.set_cons_succ, i64_w, i32_w]
    rfl
  refine pure_ (i := 15) (N := some 56) (v := ?_) (a' := ?_) #[true, true, true, true, true, true, true, true, true, true, true, true, true, true, true, true, true, true, true, false, false, true, true, false, false, false, false] rfl rfl (any_of HT_.out (by kernel_rfl)) (fun _ _ _ h => h) (Or.inl ⟨by rfl, ?_⟩) ?_ ?_
  rotate_left
  · intro w'
    go_simp
    with_reducible rfl
  rotate_left
  · simp only [Act.put, List.setIfInBounds_toArray, List.set_cons_zero, List.set_cons_succ, i64_w, i32_w]
    rfl
  refine take_ (i := 19) (N := some 60) (v := ?_) (a' := ?_) #[true, true, true, true, true, true, true, true, true, true, true, true, true, true, true, true, true, true, true, true, false, true, true, false, false, false, false] rfl rfl (take_ofW HT_.out HW_.out (by kernel_rfl)) (fun _ _ _ h => h) (Or.inl ⟨by rfl, ?_⟩) hHeld ?_ ?_
  rotate_left
  · rintro w' ⟨s0, s1, s2⟩
    go_simp
    with_reducible rfl
  rotate_left
  · simp only [Act.put, List.setIfInBounds_toArray, List.set_cons_zero, List.set_cons_succ, i64_w, i32_w]
    rfl
  refine one_ (i := 20) (N := some 61) #[true, true, true, true, true, true, true, true, true, true, true, true, true, true, true, true, true, true, true, true, true, true, true, false, false, false, false] rfl rfl (one_of HT_.out (by kernel_rfl)) (by decide) (fun K hK => ?_)
  refine goes_ Tryz.func137 (by kernel_rfl) rfl #[.pointer (some ⟨cb, 0, none⟩)] (by rfl) rfl rfl (by (try simp only [List.map_toArray, List.map_cons, List.map_nil]); first | done | rfl) ?_
  refine (get_any cb pb n row _ HP4.out HN4.out).mono ?_
  rintro e w5 ⟨A5, k5, rfl, P5, hC5, hl5, U5⟩
  refine ⟨_, rfl, ?_⟩
  have HBK5 := Aside0.mk (U5.blk HBK4.out HP4.out.ne)
  have e0 : w5.cell? ⟨pb, 0, none⟩ = some (.slice (some ad) row.length c) := (blk_cell HBK5.out 0).trans rfl
  have e1 : w5.cell? ⟨pb, 1, none⟩ = some (.pointer (some ⟨cb, 0, none⟩)) := (blk_cell HBK5.out 1).trans rfl
  obtain ⟨ad4, ee, ex0, _⟩ := at_T114 (Kd.R_reads' (Kd.R_grown HRR4.out U5 (fun k hk e => hk (by injection e)))).2.2 (wrap64 (q - 1)) (of_eq_true p0') (of_eq_true p1')
  cases ee
  obtain ⟨ad2, e2, hx2⟩ := Kd.at_int hC5 (wrap64 (q - 1)) (of_eq_true p0') (of_eq_true p2')
  cases e2
  have HRS : Aside0 (rd (psums row) (wrap64 (q - 1)) = secs (row.take (nthI row k))) := ⟨by rw [HMW.out]; exact psums_rd row _ (by have := HI0.out; omega)⟩
  have HP5 := Aside0.mk P5
  have HU5 := Aside0.mk (HU4.out.trans U5)
  clear hC5 P5 U5
  refine hK.out _ _ ⟨e0, e1, ex0⟩ (fun hHeld => ?_)
  clear hK K
  refine norm_ (a' := ?_) ?_ ?_
  rotate_left
  · show Act.put _ (some 61) _ = _
    simp only [Act.put, List.setIfInBounds_toArray, List.set_cons_zero, List.set_cons_succ, i64_w, i32_w]
    rfl
  refine switch_ (fun hHeld => ?_)
  refine pure_ (i := 23) (N := some 64) (v := ?_) (a' := ?_) #[true, true, true, true, true, true, true, true, true, true, true, true, true, true, true, true, true, true, true, true, true, true, true, true, false, false, false] rfl rfl (any_of HT_.out (by kernel_rfl)) (fun _ _ _ h => h) (Or.inl ⟨by rfl, ?_⟩) ?_ ?_
  rotate_left
  · intro w'
    go_simp
    with_reducible rfl
  rotate_left
  · simp only [Act.put, List.setIfInBounds_toArray, List.set_cons_zero, List.set_cons_succ, i64_w, i32_w]
    rfl
  refine take_ (i := 24) (N := some 65) (v := ?_) (a' := ?_) #[true, true, true, true, true, true, true, true, true, true, true, true, true, true, true, true, true, true, true, true, true, true, true, true, true, false, false] rfl rfl (take_ofW HT_.out HW_.out (by kernel_rfl)) (fun _ _ _ h => h) (Or.inl ⟨by rfl, ?_⟩) hHeld ?_ ?_
  rotate_left
  · rintro w' rfl
    go_simp
    with_reducible rfl
  rotate_left
  · simp only [Act.put, List.setIfInBounds_toArray, List.set_cons_zero, List.set_cons_succ, i64_w, i32_w]
    rfl
  refine pure_ (i := 25) (N := some 66) (v := ?_) (a' := ?_) #[true, true, true, true, true, true, true, true, true, true, true, true, true, true, true, true, true, true, true, true, true, true, true, true, true, true, false] rfl rfl (any_of HT_.out (by kernel_rfl)) (fun _ _ _ h => h) (Or.inl ⟨by rfl, ?_⟩) ?_ ?_
  rotate_left
  · intro w'
    go_simp
    with_reducible rfl
  rotate_left
  · simp only [Act.put, List.setIfInBounds_toArray, List.set_cons_zero, List.set_cons_succ, i64_w, i32_w]
    rfl
  refine pure_ (i := 26) (N := some 10) (v := ?_) (a' := ?_) #[true, true, true, true, true, true, true, true, true, true, true, true, true, true, true, true, true, true, true, true, true, true, true, true, true, true, true] rfl rfl (any_of HT_.out (by kernel_rfl)) (fun _ _ _ h => h) (Or.inl ⟨by rfl, ?_⟩) ?_ ?_
  rotate_left
  · intro w'
    go_simp
    with_reducible rfl
  rotate_left
  · simp only [Act.put, List.setIfInBounds_toArray, List.set_cons_zero, List.set_cons_succ, i64_w, i32_w]
    rfl
  refine done_ (done_of HT_.out (by kernel_rfl)) ?_
  have hv : wrap64 (wrap64 (wrap64 (wrap64 (k / secs row * 604800) + (rd_T114 row (wrap64 (q - 1))).f0) + k % secs row) - rd (psums row) (wrap64 (q - 1))) = U := by
    have hmem := HOK.out.mem (rd_T114 row (nthI row k)) (by rw [rd_at row _ HI0.out]; exact List.getElem_mem _)
    have h2 := (HOK.out.take (nthI row k)).secs (by omega)
    rw [HRS.out, HRD.out, HE.out]
    have h3 := HOK.out.secs (by omega)
    rw [wrap_id (x := k / secs row * 604800) (by omega) (by omega), wrap_id (x := k / secs row * 604800 + (rd_T114 row (nthI row k)).f0) (by omega) (by omega), wrap_id (x := k / secs row * 604800 + (rd_T114 row (nthI row k)).f0 + k % secs row) (by omega) (by omega), wrap_id (by omega) (by omega)]
  rw [hv]
  have hgt : ¬ 2251799813685248 < U := by omega
  have hgd : decide (2251799813685248 < U) = false := decide_eq_false hgt
  clear hv hHeld
  go_wp2
  go_ret2
  exact ⟨rfl, HP5.out, HU5.out⟩
end Go.Proofs.YtepldlnmeenlbaaGreat.Own
namespace Go.Proofs.YtepldlnmeenlbaaGreat.Own
open Go.RowKit Go.Proofs Go.Proofs.YtepldlnmeenlbaaGreatW.PrintWords Go.Proofs.YtepldlnmeenlbaaGreatW.PrintLast Go.Proofs.YtepldlnmeenlbaaGreatW.PrintMore Go.Proofs.YtepldlnmeenlbaaGreat.Base
structure AlmAt (w : World) (n ab cb : Nat) (row : List S114) : Prop where
  ok : RowOk 1125899906842624 row
  nab : n ≤ ab
  ne : ab ≠ cb
  blk : ∃ A c, w.heap[ab]? = some (.cells #[.slice A row.length c] 203 (0, 0)) ∧ row.length ≤ c ∧ Kd.R k114 114 w n (fun k => k ≠ cb) (.slice A row.length c) row
theorem AlmAt.keep {w w' : World} {n ab cb : Nat} {row : List S114} (h : AlmAt w n ab cb row) (hm : ∀ k, k < w.heap.size → n ≤ k → k ≠ cb → w'.heap[k]? = w.heap[k]?) : AlmAt w' n ab cb row := by
  obtain ⟨A, c, hb, hc, hr⟩ := h.blk
  exact ⟨h.ok, h.nab, h.ne, ⟨A, c, (hm ab (blk_lt hb) h.nab h.ne).trans hb, hc, Kd.R_mono (Kd.R_step (Kd.R_bound hr) (fun k hk hlt => hm k hlt hk.2.1 hk.1)) (fun _ hk => hk.1)⟩⟩
theorem AlmAt.below {w w' : World} {n ab cb : Nat} {row : List S114} (h : AlmAt w n ab cb row) (hb : Below w.heap.size w w') : AlmAt w' n ab cb row := h.keep (fun k hk _ _ => hb.block k hk)
theorem AlmAt.upd {w w' : World} {n ab cb : Nat} {row : List S114} (h : AlmAt w n ab cb row) (hu : Upd cb w w') : AlmAt w' n ab cb row := h.keep (fun k hk _ hne => hu.block k hk (fun e => hne (by injection e)))
set_option maxRecDepth 100000 in
theorem almnew_no (A : Option Addr) (c : Nat) (l : List S114) (w : World) (hr : Kd.C k114 w A l.length l) (hc : l.length ≤ c) (he : rowErr l ≠ 0) :
    Calls Tryz.prog 82 #[.slice A l.length c] w fun e w' => e = .returned (.tuple #[.pointer none, .int .i64 (rowErr l)]) ∧ Below w.heap.size w w' := by
  have HR := Aside0.mk hr
  have hne : (rowErr l != 0) = true := bne_iff_ne.mpr he
  have hne' : (rowErr l == 0) = false := beq_eq_false_iff_ne.mpr he
  clear hr he
  go_enter Tryz.func82, Tryz.ntmps82
  go_wp2_with (go_at_call 119; refine (row_any _ c l _ HR.out hc).mono ?_; rintro e w1 ⟨rfl, hb⟩; have HB := Aside0.mk hb; clear hb)
  go_ret2
  exact ⟨rfl, HB.out⟩
set_option maxRecDepth 100000 in
theorem almnew_yes (A : Option Addr) (c : Nat) (l : List S114) (w : World) (hr : Kd.C k114 w A l.length l) (hc : l.length ≤ c) (he : rowErr l = 0) :
    Calls Tryz.prog 82 #[.slice A l.length c] w fun e w' => ∃ ab A' c', e = .returned (.tuple #[.pointer (some ⟨ab, 0, none⟩), .int .i64 0]) ∧ w'.heap[ab]? = some (.cells #[.slice A' l.length c'] 203 (0, 0)) ∧ l.length ≤ c' ∧ Kd.R k114 114 w' w.heap.size (fun _ => True) (.slice A' l.length c') l ∧ w.heap.size ≤ ab ∧ Below w.heap.size w w' := by
  have HR := Aside0.mk hr
  have HOK := Aside0.mk (rowErr_ok he)
  have H0 := Aside0.mk he
  have hl32 := HOK.out.len
  clear hr he
  go_enter Tryz.func82, Tryz.ntmps82
  go_wp2_with (first | (go_at_call 119; refine (row_any _ c l _ HR.out hc).mono ?_; rintro e w1 ⟨rfl, hb⟩; rw [H0.out]; have HB := Aside0.mk hb; clear hb) | (go_at_call 120; refine (clone_any _ c l _ (Kd.C_below HR.out HB.out) hc hl32).mono ?_; rintro e w2 ⟨A2, c2, rfl, hc2, hR2, hb⟩; have HR2 := Aside0.mk (Kd.R_lower hR2 HB.out.size); have n0 := Aside0.mk (below_step HB.out hb); clear HB; have HB := n0; clear n0 hR2 hb))
  go_ret2
  exact ⟨w2.heap.size, A2, c2, rfl, blk_new w2 _, hc2, Kd.R_alloc HR2.out _, HB.out.size, below_alloc HB.out _⟩
theorem all_any (n ab cb : Nat) (row : List S114) (A : Option Addr) (c : Nat) (w : World) (hb : w.heap[ab]? = some (.cells #[.slice A row.length c] 203 (0, 0))) :
    Calls Tryz.prog 126 #[.pointer (some ⟨ab, 0, none⟩)] w fun e w' => e = .returned (.slice A row.length c) ∧ w = w' := by
  have c0 : w.cell? ⟨ab, 0, none⟩ = some (.slice A row.length c) := (blk_cell hb 0).trans rfl
  clear hb
  go_enter Tryz.func126, Tryz.ntmps126
  go_wp2
  go_ret
  exact ⟨rfl, rfl⟩
set_option maxHeartbeats 1600000 in
set_option maxRecDepth 100000 in
theorem index_any (A : Option Addr) (c tb : Nat) (l : List S114) (t : Int) (w : World) (hr : Kd.C k114 w A l.length l) (hc : l.length ≤ c) (hl : l.length ≤ 32) (ht : w.cell? ⟨tb, 0, none⟩ = some (.int .i64 t)) :
    Calls Tryz.prog 154 #[.slice A l.length c, .func (.func 155) #[] #[.pointer (some ⟨tb, 0, none⟩)]] w fun e w' => e = .returned (.int .i64 (if atP l t < l.length then (atP l t : Int) else -1)) ∧ Below w.heap.size w w' := by
  have HR := Aside0.mk hr
  have HT := Aside0.mk ht
  have HB := Aside0.mk (Below.refl w.heap.size w)
  have HE : Aside0 ((if atP l t < l.length then (atP l t : Int) else -1) = (if atP l t < l.length then (atP l t : Int) else -1)) := ⟨rfl⟩
  generalize hU : (if atP l t < l.length then (atP l t : Int) else -1) = U
  have HU := Aside0.mk hU
  clear hr ht hU HE
  go_enter Tryz.func154, Tryz.ntmps154
  go_wp2
  go_loopg [8, 5] l.length (fun g v8 v5 w' => ∃ i : Int, v8 = .int .i64 i ∧ Aside0 (0 ≤ i ∧ i ≤ atP l t ∧ i ≤ l.length ∧ (g : Int) = l.length - i) ∧ Aside0 (Below w.heap.size w w'))
  case atStart => exact ⟨0, rfl, ⟨by omega, by omega, by omega, by omega⟩, HB⟩
  case round =>
    clear HB
    obtain ⟨i, rfl, HI, HB⟩ := hrel
    have hI := HI.out
    by_cases hlt : i < l.length
    · have p0 : 0 ≤ i := hI.1
      obtain ⟨ad, e, hx0, hx1⟩ := at_T114 HR.out i p0 hlt
      cases e
      replace hx0 := (HB.out.cell (World.block_lt_of_cell? w _ hx0)).trans hx0
      replace hx1 := (HB.out.cell (World.block_lt_of_cell? w _ hx1)).trans hx1
      have ct : wr.cell? ⟨tb, 0, none⟩ = some (.int .i64 t) := (HB.out.cell (World.block_lt_of_cell? w _ HT.out)).trans HT.out
      have htb : tb < wr.heap.size := World.block_lt_of_cell? _ _ ct
      have p1 : i ≤ 32 := by omega
      have hin : i.toNat < l.length := by omega
      have hrd : rd_T114 l i = l[i.toNat]'hin := by
        rw [← rd_at l i.toNat hin]
        congr 1
        omega
      have HRD := Aside0.mk hrd
      clear hI hrd
      go_wp2
      · have hle : t < (rd_T114 l i).f1 := by assumption
        rw [HRD.out] at hle
        have h1 := atP_ge hin hle
        have hU : U = i := by rw [← HU.out, if_pos (by have := HI.out; omega)]; have := HI.out; omega
        go_ret
        exact ⟨by rw [hU]; rfl, below_alloc HB.out _⟩
      · have hle : (rd_T114 l i).f1 ≤ t := by assumption
        rw [HRD.out] at hle
        have h1 : i.toNat < atP l t := by
          rcases Nat.lt_or_ge i.toNat (atP l t) with h | h
          · exact h
          · have h2 : i.toNat = atP l t := by have := HI.out; omega
            have h3 := atP_at (l := l) (t := t) (by omega)
            simp only [← h2] at h3
            omega
        go_roundg (gk - 1)
        case measure => have := HI.out; omega
        case rel => exact ⟨i + 1, by (first | rfl | go_num), ⟨by have := HI.out; omega, by omega, by omega, by have := HI.out; omega⟩, ⟨below_alloc HB.out _⟩⟩
    · have hU : U = -1 := by rw [← HU.out, if_neg (by omega)]
      have HU1 := Aside0.mk hU
      clear hI hU HU
      go_wp2
      go_ret
      exact ⟨by rw [HU1.out]; rfl, HB.out⟩
def nxtP (row : List S114) (t : Int) : S114 := if atP row t < row.length then rd_T114 row (atP row t) else ⟨0, 0⟩
set_option maxHeartbeats 1600000 in
set_option maxRecDepth 100000 in
theorem next_any (n ab cb : Nat) (row : List S114) (t : Int) (w : World) (h : AlmAt w n ab cb row) :
    Calls Tryz.prog 139 #[.pointer (some ⟨ab, 0, none⟩), .int .i64 t] w fun e w' => e = .returned (.tuple #[.agg #[.int .i64 (nxtP row t).f0, .int .i64 (nxtP row t).f1], .bool (decide (atP row t < row.length))]) ∧ Below w.heap.size w w' := by
  obtain ⟨A, c, hb, hc, hr⟩ := h.blk
  have hmf : ∀ (fn : Fn) (first cap : Array Value) (w : World), (Instr.makeFunc fn first cap).run Tryz.prog w = .ok (.func fn first cap) w := fun _ _ _ _ => rfl
  have hl := h.ok.len
  have HR := Aside0.mk (Kd.R_reads' hr).2.2
  have W2 : Aside0 (Below w.heap.size w ((w.alloc (.cells #[.int .i64 t] 2)).alloc (.cells #[.int .i64 0, .int .i64 0] 114))) := ⟨below_alloc (below_alloc (Below.refl _ _) _) _⟩
  have HBK := Aside0.mk (blk_below hb W2.out)
  have BT := Aside0.mk (blk_alloc (blk_new w (.cells #[.int .i64 t] 2)) (.cells #[.int .i64 0, .int .i64 0] 114))
  have BS := Aside0.mk (blk_new (w.alloc (.cells #[.int .i64 t] 2)) (.cells #[.int .i64 0, .int .i64 0] 114))
  have HSZ : Aside0 ((w.alloc (.cells #[.int .i64 t] 2)).heap.size = w.heap.size + 1) := ⟨by simp⟩
  have HRW := Aside0.mk (Kd.C_below HR.out W2.out)
  clear hb hr h
  rw [show (w.alloc (.cells #[.int .i64 t] 2)).heap.size = w.heap.size + 1 by simp] at BS
  have hat := atP_le row t
  have HIX := fun (w2 : World) (h1 : Kd.C k114 w2 A row.length row) (h2 : w2.cell? ⟨w.heap.size, 0, none⟩ = some (.int .i64 t)) => index_any A c w.heap.size row t w2 h1 hc hl h2
  have HX := Aside0.mk HIX
  clear HIX
  unfold nxtP
  generalize atP row t = i at hat HX ⊢
  by_cases hi : i < row.length
  · simp only [if_pos hi] at HX ⊢
    rw [decide_eq_true hi]
    have p0 : (0 : Int) ≤ i := by omega
    have p1 : (i : Int) < row.length := by omega
    obtain ⟨ad, e, hx0, hx1⟩ := at_T114 HRW.out i p0 p1
    cases e
    rw [Int.toNat_natCast] at hx0 hx1
    go_enter Tryz.func139, Tryz.ntmps139
    go_wp2_with fail
    generalize ((w.alloc (.cells #[.int .i64 t] 2)).alloc (.cells #[.int .i64 0, .int .i64 0] 114)) = w2 at W2 HBK BT BS HRW hx0 hx1 ⊢
    go_wp2_with (first | (go_at_call 126; refine (all_any n ab cb row _ c _ HBK.out).mono ?_; rintro e w1 ⟨rfl, rfl⟩) | (go_at_call 154; refine (HX.out _ HRW.out ((blk_cell BT.out 0).trans rfl)).mono ?_; rintro e w3 ⟨rfl, hb⟩; have B3 := Aside0.mk (below_step W2.out hb); have BS3 := Aside0.mk (blk_below BS.out hb); replace hx0 := (hb.cell (World.block_lt_of_cell? _ _ hx0)).trans hx0; replace hx1 := (hb.cell (World.block_lt_of_cell? _ _ hx1)).trans hx1; clear hb; have d0 : w3.cell? ⟨w.heap.size + 1, 0, none⟩ = some (.int .i64 0) := (blk_cell BS3.out 0).trans rfl; have d1 : w3.cell? ⟨w.heap.size + 1, 1, none⟩ = some (.int .i64 0) := (blk_cell BS3.out 1).trans rfl; have f0 : w3.frozen? ⟨w.heap.size + 1, 0, none⟩ = false := blk_frozen BS3.out 0; have f1 : w3.frozen? ⟨w.heap.size + 1, 1, none⟩ = false := blk_frozen BS3.out 1))
    refine bodyPost_ret (v := .tuple #[.agg #[.int .i64 (rd_T114 row i).f0, .int .i64 (rd_T114 row i).f1], .bool true]) (by simp [results, Tryz.results139, go_sem, d0, d1]) rfl ⟨rfl, ?_⟩
    repeat (first | exact B3.out | refine below_set ?_ (Nat.le_succ _))
  · simp only [if_neg hi] at HX ⊢
    rw [decide_eq_false hi]
    go_enter Tryz.func139, Tryz.ntmps139
    go_wp2_with fail
    generalize ((w.alloc (.cells #[.int .i64 t] 2)).alloc (.cells #[.int .i64 0, .int .i64 0] 114)) = w2 at W2 HBK BT BS HRW ⊢
    go_wp2_with (first | (go_at_call 126; refine (all_any n ab cb row _ c _ HBK.out).mono ?_; rintro e w1 ⟨rfl, rfl⟩) | (go_at_call 154; refine (HX.out _ HRW.out ((blk_cell BT.out 0).trans rfl)).mono ?_; rintro e w3 ⟨rfl, hb⟩; have B3 := Aside0.mk (below_step W2.out hb); have BS3 := Aside0.mk (blk_below BS.out hb); clear hb; have d0 : w3.cell? ⟨w.heap.size + 1, 0, none⟩ = some (.int .i64 0) := (blk_cell BS3.out 0).trans rfl; have d1 : w3.cell? ⟨w.heap.size + 1, 1, none⟩ = some (.int .i64 0) := (blk_cell BS3.out 1).trans rfl; have f0 : w3.frozen? ⟨w.heap.size + 1, 0, none⟩ = false := blk_frozen BS3.out 0; have f1 : w3.frozen? ⟨w.heap.size + 1, 1, none⟩ = false := blk_frozen BS3.out 1))
    refine bodyPost_ret (v := .tuple #[.agg #[.int .i64 0, .int .i64 0], .bool false]) (by simp [results, Tryz.results139, go_sem, d0, d1]) rfl ⟨rfl, ?_⟩
    repeat (first | exact B3.out | refine below_set ?_ (Nat.le_succ _))
end Go.Proofs.YtepldlnmeenlbaaGreat.Own
namespace Go.Proofs.YtepldlnmeenlbaaGreat.Own
open Go.RowKit Go.Proofs Go.Proofs.YtepldlnmeenlbaaGreatW.PrintWords Go.Proofs.YtepldlnmeenlbaaGreatW.PrintLast Go.Proofs.YtepldlnmeenlbaaGreatW.PrintMore Go.Proofs.YtepldlnmeenlbaaGreat.Base
attribute [local go_sem] max2_mx min2_mn max_two min_two
structure ClkAt (w : World) (n kb ab pb cb : Nat) (off : Int) (week closed : List S114) : Prop where
  lo : 0 ≤ off
  hi : off < 604800
  nkb : n ≤ kb
  ne : kb ≠ cb
  blk : w.heap[kb]? = some (.cells #[.pointer (some ⟨ab, 0, none⟩), .pointer (some ⟨pb, 0, none⟩), .int .i64 (604800 - off)] 149 (0, 0))
  alm : AlmAt w n ab cb closed
  plan : PlanAt w n pb cb week
variable {w w' : World} {n kb ab pb cb : Nat} {off : Int} {week closed : List S114}
theorem ClkAt.below (h : ClkAt w n kb ab pb cb off week closed) (hb : Below w.heap.size w w') : ClkAt w' n kb ab pb cb off week closed :=
  ⟨h.lo, h.hi, h.nkb, h.ne, blk_below h.blk hb, h.alm.below hb, h.plan.below hb⟩
theorem ClkAt.upd (h : ClkAt w n kb ab pb cb off week closed) (hu : Upd cb w w') (hp : PlanAt w' n pb cb week) : ClkAt w' n kb ab pb cb off week closed :=
  ⟨h.lo, h.hi, h.nkb, h.ne, hu.blk h.blk h.ne, h.alm.upd hu, hp⟩
theorem ClkAt.drew (h : ClkAt w n kb ab pb cb off week closed) : ClkAt w.drew n kb ab pb cb off week closed := h.below (below_drew (Below.refl _ _))
theorem clknone_any (w : World) (h : ClkAt w n kb ab pb cb off week closed) :
    Calls Tryz.prog 86 #[.pointer (some ⟨kb, 0, none⟩)] w fun e w' => e = .returned (.bool false) ∧ w = w' := by
  have c1 : w.cell? ⟨kb, 1, none⟩ = some (.pointer (some ⟨pb, 0, none⟩)) := (blk_cell h.blk 1).trans rfl
  clear h
  go_enter Tryz.func86, Tryz.ntmps86
  go_wp2
  go_ret
  exact ⟨rfl, rfl⟩
def instB (t : Int) : Bool := decide (0 ≤ t ∧ t ≤ 1125899906842624)
theorem instant_any (t : Int) (w : World) : Calls Tryz.prog 87 #[.int .i64 t] w fun e w' => e = .returned (.bool (instB t)) ∧ Below w.heap.size w w' :=
  (calendar_instant.calls t (instB t) w (by unfold calendar_instant.f instB; by_cases h : 0 ≤ t <;> simp [h])).mono fun _ _ h => ⟨h.1, h.2.below⟩
def weekly_T1 : Bool × List (List Nat × List Nat) := (true, [([], []), ([0], [0]), ([1], [1]), ([2], [2]), ([], []), ([], []), ([5], [5]), ([6], [6]), ([7], [7]), ([4, 8], [4, 8]), ([], []), ([], []), ([11], [11]), ([12], [12]), ([13], [13]), ([10, 14], [10, 14]), ([3, 9, 15], [3, 9, 15]), ([16, 16, 0, 1, 2, 3, 4, 5, 6, 7, 8, 9, 10, 11, 12, 13, 14, 15, 16], [16])])
def weekly_B1 : List Nat := [0, 1, 3, 7, 0, 0, 32, 96, 224, 496, 0, 0, 2048, 6144, 14336, 31744, 65535, 131071]
theorem weekly_tab1 : rtab .any (opsOf Tryz.f88 1) = weekly_T1 := by kernel_rfl
theorem weekly_bits1 : waitsOk weekly_T1.2 weekly_B1 = true := by kernel_rfl
def weeklyP (off : Int) (week : List S114) (a b : Int) : Int := betweenP week (a + (604800 - off)) (b + (604800 - off))
set_option maxHeartbeats 1600000 in
set_option maxRecDepth 100000 in
theorem weekly_any (a b : Int) (w : World) (h : ClkAt w n kb ab pb cb off week closed) (hn : n ≤ w.heap.size) (a0 : 0 ≤ a) (a1 : a ≤ 1125899906842624) (b0 : 0 ≤ b) (b1 : b ≤ 1125899906842624) :
    Calls Tryz.prog 88 #[.pointer (some ⟨kb, 0, none⟩), .int .i64 a, .int .i64 b] w fun e w' => e = .returned (.int .i64 (weeklyP off week a b)) ∧ ClkAt w' n kb ab pb cb off week closed ∧ Upd cb w w' := by
  have HC := Aside0.mk h.drew
  have HN : Aside0 (n ≤ w.drew.heap.size) := ⟨hn⟩
  have HU : Aside0 (Upd cb w w.drew) := ⟨(Upd.refl cb w).drew⟩
  have c1 : w.drew.cell? ⟨kb, 1, none⟩ = some (.pointer (some ⟨pb, 0, none⟩)) := (blk_cell HC.out.blk 1).trans rfl
  have c2 : w.drew.cell? ⟨kb, 2, none⟩ = some (.int .i64 (604800 - off)) := (blk_cell HC.out.blk 2).trans rfl
  have hlo := h.lo
  have hhi := h.hi
  have HE : Aside0 (weeklyP off week a b = betweenP week (wrap64 (a + (604800 - off))) (wrap64 (b + (604800 - off)))) := ⟨by rw [wrap_id (by omega) (by omega), wrap_id (by omega) (by omega)]; rfl⟩
  rw [HE.out]
  clear h hn HE
  go_enter Tryz.func88, Tryz.ntmps88
  go_wp2
  refine start_ (n := 18) (S := fun w' => w'.cell? ⟨kb, 1, none⟩ = some (.pointer (some ⟨pb, 0, none⟩)) ∧ w'.cell? ⟨kb, 2, none⟩ = some (.int .i64 (604800 - off))) (ds := []) #[false, false, false, false, false, false, false, false, false, false, false, false, false, false, false, false, false, false] (by kernel_rfl) rfl rfl ⟨c1, c2⟩ (fun hHeld => ?_); refine with_tabW weekly_tab1 weekly_bits1 (fun HT_ HW_ => ?_)
  refine pure_ (i := 0) (N := some 7) (v := ?_) (a' := ?_) #[true, false, false, false, false, false, false, false, false, false, false, false, false, false, false, false, false, false] rfl rfl (any_of HT_.out (by kernel_rfl)) (fun _ _ _ h => h) (Or.inl ⟨by rfl, ?_⟩) ?_ ?_
  rotate_left
  · intro w'
    go_simp
    with_reducible rfl
  rotate_left
  · simp only [Act.put, List.setIfInBounds_toArray, List.set_cons_zero, List.set_cons_succ, i64_w, i32_w]
    rfl
  refine pure_ (i := 1) (N := some 8) (v := ?_) (a' := ?_) #[true, true, false, false, false, false, false, false, false, false, false, false, false, false, false, false, false, false] rfl rfl (any_of HT_.out (by kernel_rfl)) (fun _ _ _ h => h) (Or.inl ⟨by rfl, ?_⟩) ?_ ?_
  rotate_left
  · intro w'
    go_simp
    with_reducible rfl
  rotate_left
  · simp only [Act.put, List.setIfInBounds_toArray, List.set_cons_zero, List.set_cons_succ, i64_w, i32_w]
    rfl
  refine pure_ (i := 2) (N := some 9) (v := ?_) (a' := ?_) #[true, true, true, false, false, false, false, false, false, false, false, false, false, false, false, false, false, false] rfl rfl (any_of HT_.out (by kernel_rfl)) (fun _ _ _ h => h) (Or.inl ⟨by rfl, ?_⟩) ?_ ?_
  rotate_left
  · intro w'
    go_simp
    with_reducible rfl
  rotate_left
  · simp only [Act.put, List.setIfInBounds_toArray, List.set_cons_zero, List.set_cons_succ, i64_w, i32_w]
    rfl
  refine pure_ (i := 4) (N := some 11) (v := ?_) (a' := ?_) #[true, true, true, false, true, false, false, false, false, false, false, false, false, false, false, false, false, false] rfl rfl (any_of HT_.out (by kernel_rfl)) (fun _ _ _ h => h) (Or.inl ⟨by rfl, ?_⟩) ?_ ?_
  rotate_left
  · intro w'
    go_simp
    with_reducible rfl
  rotate_left
  · simp only [Act.put, List.setIfInBounds_toArray, List.set_cons_zero, List.set_cons_succ, i64_w, i32_w]
    rfl
  refine pure_ (i := 5) (N := some 12) (v := ?_) (a' := ?_) #[true, true, true, false, true, true, false, false, false, false, false, false, false, false, false, false, false, false] rfl rfl (any_of HT_.out (by kernel_rfl)) (fun _ _ _ h => h) (Or.inl ⟨by rfl, ?_⟩) ?_ ?_
  rotate_left
  · intro w'
    go_simp
    with_reducible rfl
  rotate_left
  · simp only [Act.put, List.setIfInBounds_toArray, List.set_cons_zero, List.set_cons_succ, i64_w, i32_w]
    rfl
  refine pure_ (i := 6) (N := some 13) (v := ?_) (a' := ?_) #[true, true, true, false, true, true, true, false, false, false, false, false, false, false, false, false, false, false] rfl rfl (any_of HT_.out (by kernel_rfl)) (fun _ _ _ h => h) (Or.inl ⟨by rfl, ?_⟩) ?_ ?_
  rotate_left
  · intro w'
    go_simp
    with_reducible rfl
  rotate_left
  · simp only [Act.put, List.setIfInBounds_toArray, List.set_cons_zero, List.set_cons_succ, i64_w, i32_w]
    rfl
  refine pure_ (i := 7) (N := some 14) (v := ?_) (a' := ?_) #[true, true, true, false, true, true, true, true, false, false, false, false, false, false, false, false, false, false] rfl rfl (any_of HT_.out (by kernel_rfl)) (fun _ _ _ h => h) (Or.inl ⟨by rfl, ?_⟩) ?_ ?_
  rotate_left
  · intro w'
    go_simp
    with_reducible rfl
  rotate_left
  · simp only [Act.put, List.setIfInBounds_toArray, List.set_cons_zero, List.set_cons_succ, i64_w, i32_w]
    rfl
  refine pure_ (i := 10) (N := some 17) (v := ?_) (a' := ?_) #[true, true, true, false, true, true, true, true, false, false, true, false, false, false, false, false, false, false] rfl rfl (any_of HT_.out (by kernel_rfl)) (fun _ _ _ h => h) (Or.inl ⟨by rfl, ?_⟩) ?_ ?_
  rotate_left
  · intro w'
    go_simp
    with_reducible rfl
  rotate_left
  · simp only [Act.put, List.setIfInBounds_toArray, List.set_cons_zero, List.set_cons_succ, i64_w, i32_w]
    rfl
  refine pure_ (i := 11) (N := some 18) (v := ?_) (a' := ?_) #[true, true, true, false, true, true, true, true, false, false, true, true, false, false, false, false, false, false] rfl rfl (any_of HT_.out (by kernel_rfl)) (fun _ _ _ h => h) (Or.inl ⟨by rfl, ?_⟩) ?_ ?_
  rotate_left
  · intro w'
    go_simp
    with_reducible rfl
  rotate_left
  · simp only [Act.put, List.setIfInBounds_toArray, List.set_cons_zero, List.set_cons_succ, i64_w, i32_w]
    rfl
  refine pure_ (i := 12) (N := some 19) (v := ?_) (a' := ?_) #[true, true, true, false, true, true, true, true, false, false, true, true, true, false, false, false, false, false] rfl rfl (any_of HT_.out (by kernel_rfl)) (fun _ _ _ h => h) (Or.inl ⟨by rfl, ?_⟩) ?_ ?_
  rotate_left
  · intro w'
    go_simp
    with_reducible rfl
  rotate_left
  · simp only [Act.put, List.setIfInBounds_toArray, List.set_cons_zero, List.set_cons_succ, i64_w, i32_w]
    rfl
  refine pure_ (i := 13) (N := some 20) (v := ?_) (a' := ?_) #[true, true, true, false, true, true, true, true, false, false, true, true, true, true, false, false, false, false] rfl rfl (any_of HT_.out (by kernel_rfl)) (fun _ _ _ h => h) (Or.inl ⟨by rfl, ?_⟩) ?_ ?_
  rotate_left
  · intro w'
    go_simp
    with_reducible rfl
  rotate_left
  · simp only [Act.put, List.setIfInBounds_toArray, List.set_cons_zero, List.set_cons_succ, i64_w, i32_w]
    rfl
  refine take_ (i := 3) (N := some 10) (v := ?_) (a' := ?_) #[true, true, true, true, true, true, true, true, false, false, true, true, true, true, false, false, false, false] rfl rfl (take_ofW HT_.out HW_.out (by kernel_rfl)) (fun _ _ _ h => h) (Or.inl ⟨by rfl, ?_⟩) hHeld ?_ ?_
  rotate_left
  · rintro w' ⟨s0, s1⟩
    go_simp
    with_reducible rfl
  rotate_left
  · simp only [Act.put, List.setIfInBounds_toArray, List.set_cons_zero, List.set_cons_succ, i64_w, i32_w]
    rfl
  refine take_ (i := 8) (N := some 15) (v := ?_) (a' := ?_) #[true, true, true, true, true, true, true, true, true, false, true, true, true, true, false, false, false, false] rfl rfl (take_ofW HT_.out HW_.out (by kernel_rfl)) (fun _ _ _ h => h) (Or.inl ⟨by rfl, ?_⟩) hHeld ?_ ?_
  rotate_left
  · rintro w' ⟨s0, s1⟩
    go_simp
    with_reducible rfl
  rotate_left
  · simp only [Act.put, List.setIfInBounds_toArray, List.set_cons_zero, List.set_cons_succ, i64_w, i32_w]
    rfl
  refine pure_ (i := 9) (N := some 16) (v := ?_) (a' := ?_) #[true, true, true, true, true, true, true, true, true, true, true, true, true, true, false, false, false, false] rfl rfl (any_of HT_.out (by kernel_rfl)) (fun _ _ _ h => h) (Or.inl ⟨by rfl, ?_⟩) ?_ ?_
  rotate_left
  · intro w'
    go_simp
    with_reducible rfl
  rotate_left
  · simp only [Act.put, List.setIfInBounds_toArray, List.set_cons_zero, List.set_cons_succ, i64_w, i32_w]
    rfl
  refine take_ (i := 14) (N := some 21) (v := ?_) (a' := ?_) #[true, true, true, true, true, true, true, true, true, true, true, true, true, true, true, false, false, false] rfl rfl (take_ofW HT_.out HW_.out (by kernel_rfl)) (fun _ _ _ h => h) (Or.inl ⟨by rfl, ?_⟩) hHeld ?_ ?_
  rotate_left
  · rintro w' ⟨s0, s1⟩
    go_simp
    with_reducible rfl
  rotate_left
  · simp only [Act.put, List.setIfInBounds_toArray, List.set_cons_zero, List.set_cons_succ, i64_w, i32_w]
    rfl
  refine pure_ (i := 15) (N := some 22) (v := ?_) (a' := ?_) #[true, true, true, true, true, true, true, true, true, true, true, true, true, true, true, true, false, false] rfl rfl (any_of HT_.out (by kernel_rfl)) (fun _ _ _ h => h) (Or.inl ⟨by rfl, ?_⟩) ?_ ?_
  rotate_left
  · intro w'
    go_simp
    with_reducible rfl
  rotate_left
  · simp only [Act.put, List.setIfInBounds_toArray, List.set_cons_zero, List.set_cons_succ, i64_w, i32_w]
    rfl
  refine one_ (i := 16) (N := some 23) #[true, true, true, true, true, true, true, true, true, true, true, true, true, true, true, true, true, false] rfl rfl (one_of HT_.out (by kernel_rfl)) (by decide) (fun K hK => ?_)
  refine goes_ Tryz.func124 (by kernel_rfl) rfl #[.pointer (some ⟨pb, 0, none⟩), .int .i64 (wrap64 (a + (604800 - off))), .int .i64 (wrap64 (b + (604800 - off)))] (by rfl) rfl rfl (by (try simp only [List.map_toArray, List.map_cons, List.map_nil]); first | done | rfl) ?_
  refine (between_any n pb cb week _ _ _ HC.out.plan HN.out).mono ?_
  rintro e w2 ⟨rfl, P2, U2⟩
  refine ⟨_, rfl, ?_⟩
  have HC2 := Aside0.mk (HC.out.upd U2 P2)
  have HU2 := Aside0.mk (HU.out.trans U2)
  have e1 : w2.cell? ⟨kb, 1, none⟩ = some (.pointer (some ⟨pb, 0, none⟩)) := (blk_cell HC2.out.blk 1).trans rfl
  have e2 : w2.cell? ⟨kb, 2, none⟩ = some (.int .i64 (604800 - off)) := (blk_cell HC2.out.blk 2).trans rfl
  clear P2 U2
  refine hK.out _ _ ⟨e1, e2⟩ (fun hHeld => ?_)
  clear hK K
  refine norm_ (a' := ?_) ?_ ?_
  rotate_left
  · show Act.put _ (some 23) _ = _
    simp only [Act.put, List.setIfInBounds_toArray, List.set_cons_zero, List.set_cons_succ, i64_w, i32_w]
    rfl
  refine switch_ (fun hHeld => ?_)
  refine pure_ (i := 17) (N := some 6) (v := ?_) (a' := ?_) #[true, true, true, true, true, true, true, true, true, true, true, true, true, true, true, true, true, true] rfl rfl (any_of HT_.out (by kernel_rfl)) (fun _ _ _ h => h) (Or.inl ⟨by rfl, ?_⟩) ?_ ?_
  rotate_left
  · intro w'
    go_simp
    with_reducible rfl
  rotate_left
  · simp only [Act.put, List.setIfInBounds_toArray, List.set_cons_zero, List.set_cons_succ, i64_w, i32_w]
    rfl
  refine done_ (done_of HT_.out (by kernel_rfl)) ?_
  go_wp2
  go_ret
  exact ⟨rfl, HC2.out, HU2.out⟩
end Go.Proofs.YtepldlnmeenlbaaGreat.Own
namespace Go.Proofs.YtepldlnmeenlbaaGreat.Own
open Go.RowKit Go.Proofs Go.Proofs.YtepldlnmeenlbaaGreatW.PrintWords Go.Proofs.YtepldlnmeenlbaaGreatW.PrintLast Go.Proofs.YtepldlnmeenlbaaGreatW.PrintMore Go.Proofs.YtepldlnmeenlbaaGreat.Base
theorem take_at {l : List S114} {i : Nat} (h : i < l.length) : l.take (i + 1) = l.take i ++ [rd_T114 l i] := by
  rw [rd_at l i h, List.take_succ_eq_append_getElem h]
end Go.Proofs.YtepldlnmeenlbaaGreat.Own
