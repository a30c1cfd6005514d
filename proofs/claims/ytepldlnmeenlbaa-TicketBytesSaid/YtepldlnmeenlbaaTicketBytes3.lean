/- TicketBytes, part 3: what the claim needs of Plan0, Quill0, Sums, Cell, Row, Wr, Rd, Rd2, Rd3, Rd4, Rr, Rr2, Rd5, Wr2, Wr4, Base8. -/
import Derived.Test.YtepldlnmeenlbaaTicketBytes2
import Derived.Test.YtepldlnmeenlbaaProg
import Derived.Below
import Derived.Deep.Draws
import Derived.Deep.AppendLies
import Derived.Maps.AppendAt
import Derived.OwnWalk
import Derived.Laws.BytesArg
import Derived.Laws.MakeOwn
import Derived.Laws.OwnMore
import Derived.Deep.OwnRows
import Derived.Tactics
import Derived.Lib.ConvBytes
import Derived.Laws.Slices
import Derived.WalkKit
import Derived.KernelRfl
import Derived.RowKit3
import Derived.Deep.LoopGhost
import Derived.Deep.QuietTactic
import Derived.BigQuiet
import Derived.WideLaws
import Derived.Deep.DeepCutAuto
import Derived.Deep.CutBlock
import Derived.Deep.RegionHeld3
import Derived.Laws.Rows
import Derived.Lib.AppendStr
import Derived.ArgAppend
import Derived.Laws.IdiomCopy
import Derived.OrdersHeld
import Derived.Laws.BitsLemmas
import Derived.RowKit
import Derived.Laws.StructEq
import Derived.Tactics2
import Derived.Defers
import Derived.Laws.Pointers
import Derived.Laws.LoneSync
import Derived.Laws.NewBlocks
import Derived.RegionTactic
import Derived.RegionCalls
import Derived.ChangeAlike
import Derived.StillTailTactics
import Derived.Outline
import Derived.Handy
import Derived.SizedLaws
import Derived.ChangeSlices
import Derived.Laws.EntriesVeiled
set_option linter.unusedVariables false
set_option linter.unusedSimpArgs false
namespace Go.Proofs.Ytepldlnmeenlbaa.Own
open Go.RowKit Go.Proofs Go.Proofs.YtepldlnmeenlbaaW.PrintWords Go.Proofs.YtepldlnmeenlbaaW.PrintLast Go.Proofs.YtepldlnmeenlbaaW.PrintMore Go.Proofs.Ytepldlnmeenlbaa.Base
def RowFrom : Int → List S143 → Prop
  | _, [] => True
  | lo, s :: r => lo ≤ s.f0 ∧ s.f0 < s.f1 ∧ RowFrom s.f1 r
def secs : List S143 → Int
  | [] => 0
  | s :: r => s.f1 - s.f0 + secs r
structure RowOk (hi : Int) (l : List S143) : Prop where
  len : l.length ≤ 32
  row : RowFrom 0 l
  top : ∀ s, s ∈ l → s.f1 ≤ hi
theorem RowFrom.mono {lo lo' : Int} {l : List S143} (h : RowFrom lo l) (hl : lo' ≤ lo) : RowFrom lo' l := by
  cases l with
  | nil => trivial
  | cons s r => exact ⟨by have := h.1; omega, h.2⟩
theorem secs_append (a b : List S143) : secs (a ++ b) = secs a + secs b := by
  induction a with
  | nil => simp [secs]
  | cons s r ih => simp [secs, ih]; omega
theorem secs_bound {lo hi : Int} {l : List S143} (h : RowFrom lo l) (ht : ∀ s, s ∈ l → s.f1 ≤ hi) : 0 ≤ secs l ∧ (l ≠ [] → lo + secs l ≤ hi) := by
  induction l generalizing lo with
  | nil => exact ⟨Int.le_refl _, fun h => absurd rfl h⟩
  | cons s r ih =>
    obtain ⟨h1, h2, h3⟩ := h
    obtain ⟨i1, i2⟩ := ih h3 (fun s hs => ht s (List.mem_cons_of_mem _ hs))
    have := ht s List.mem_cons_self
    refine ⟨by simp only [secs]; omega, fun _ => ?_⟩
    simp only [secs]
    cases r with
    | nil => simp only [secs] at *; omega
    | cons t u => have := i2 (by simp); omega
theorem RowFrom.take {lo : Int} {l : List S143} (h : RowFrom lo l) (n : Nat) : RowFrom lo (l.take n) := by
  induction l generalizing lo n with
  | nil => simpa using h
  | cons s r ih =>
    cases n with
    | zero => trivial
    | succ n => exact ⟨h.1, h.2.1, ih h.2.2 n⟩
theorem RowOk.take {hi : Int} {l : List S143} (h : RowOk hi l) (n : Nat) : RowOk hi (l.take n) :=
  ⟨by have := h.len; have : (l.take n).length ≤ l.length := by simp [List.length_take]; omega
      omega, h.row.take n, fun s hs => h.top s (List.mem_of_mem_take hs)⟩
theorem RowOk.secs {hi : Int} {l : List S143} (h : RowOk hi l) (h0 : 0 ≤ hi) : 0 ≤ secs l ∧ secs l ≤ hi := by
  obtain ⟨a, b⟩ := secs_bound h.row h.top
  refine ⟨a, ?_⟩
  cases l with
  | nil => simpa [Own.secs] using h0
  | cons s r => have := b (by simp); omega
theorem RowOk.mem {hi : Int} {l : List S143} (h : RowOk hi l) : ∀ s, s ∈ l → 0 ≤ s.f0 ∧ s.f0 < s.f1 ∧ s.f1 ≤ hi := by
  have key : ∀ (l : List S143) (lo : Int), 0 ≤ lo → RowFrom lo l → ∀ s, s ∈ l → 0 ≤ s.f0 ∧ s.f0 < s.f1 := by
    intro l
    induction l with
    | nil => intro lo _ _ s hs; cases hs
    | cons t r ih =>
      intro lo hlo hr s hs
      obtain ⟨h1, h2, h3⟩ := hr
      rcases List.mem_cons.1 hs with rfl | hs
      · exact ⟨by omega, h2⟩
      · exact ih _ (by omega) h3 s hs
  intro s hs
  obtain ⟨a, b⟩ := key l 0 (Int.le_refl _) h.row s hs
  exact ⟨a, b, h.top s hs⟩
def psums (l : List S143) : List Int := (List.range (l.length + 1)).map fun i => secs (l.take i)
theorem psums_length (l : List S143) : (psums l).length = l.length + 1 := by simp [psums]
theorem psums_get (l : List S143) (i : Nat) (h : i ≤ l.length) : (psums l)[i]? = some (secs (l.take i)) := by
  simp [psums, List.getElem?_map, List.getElem?_range (show i < l.length + 1 by omega)]
theorem psums_take (l : List S143) (i : Nat) (h : i < l.length) : psums (l.take (i + 1)) = psums (l.take i) ++ [secs (l.take i) + (rd_T143 l i).f1 - (rd_T143 l i).f0] := by
  have hl : (l.take (i + 1)).length = i + 1 := by simp; omega
  have hl' : (l.take i).length = i := by simp; omega
  unfold psums
  rw [hl, hl', List.range_succ, List.map_append]
  congr 1
  · apply List.map_congr_left
    intro j hj
    have := List.mem_range.1 hj
    rw [List.take_take, List.take_take, Nat.min_eq_left (by omega), Nat.min_eq_left (by omega)]
  · simp only [List.map_cons, List.map_nil, List.cons.injEq, and_true]
    rw [List.take_take, Nat.min_eq_left (by omega), List.take_succ_eq_append_getElem h, secs_append]
    have : rd_T143 l i = l[i] := by simp [rd_T143, List.getD_eq_getElem?_getD, List.getElem?_eq_getElem h]
    rw [this]
    simp only [secs]
    omega
theorem rd_at (l : List S143) (i : Nat) (h : i < l.length) : rd_T143 l i = l[i] := by simp [rd_T143, List.getD_eq_getElem?_getD, List.getElem?_eq_getElem h]
end Go.Proofs.Ytepldlnmeenlbaa.Own
namespace Go.Proofs.Ytepldlnmeenlbaa.Own
open Go.RowKit Go.Proofs Go.Proofs.YtepldlnmeenlbaaW.PrintWords Go.Proofs.YtepldlnmeenlbaaW.PrintLast Go.Proofs.YtepldlnmeenlbaaW.PrintMore Go.Proofs.Ytepldlnmeenlbaa.Base
def digs (n : Nat) : List Int := if _h : n = 0 then [] else digs (n / 256) ++ [((n % 256 : Nat) : Int)]
termination_by n
decreasing_by omega
theorem digs_zero : digs 0 = [] := by rw [digs]; simp
theorem digs_pos {n : Nat} (h : 0 < n) : digs n = digs (n / 256) ++ [((n % 256 : Nat) : Int)] := by
  rw [digs, dif_neg (by omega)]
theorem digs_len {n : Nat} (h : 0 < n) : (digs n).length = (digs (n / 256)).length + 1 := by rw [digs_pos h]; simp
theorem digs_len_pos {n : Nat} (h : 0 < n) : 0 < (digs n).length := by rw [digs_len h]; omega
theorem digs_le (k n : Nat) (h : n < 256 ^ k) : (digs n).length ≤ k := by
  induction k generalizing n with
  | zero => have : n = 0 := by simpa using h
            subst this; simp [digs_zero]
  | succ k ih =>
    by_cases h0 : n = 0
    · subst h0; simp [digs_zero]
    · rw [digs_len (by omega)]
      have := ih (n / 256) (by rw [Nat.pow_succ] at h; omega)
      omega
theorem digs_get (n i : Nat) (h : i < (digs n).length) : (digs n)[i]? = some ((n / 256 ^ ((digs n).length - 1 - i) % 256 : Nat) : Int) := by
  induction n using Nat.strongRecOn generalizing i with
  | ind n ih =>
    by_cases h0 : n = 0
    · subst h0; simp [digs_zero] at h
    · have hl := digs_len (n := n) (by omega)
      rw [hl, digs_pos (by omega)]
      by_cases hi : i < (digs (n / 256)).length
      · rw [List.getElem?_append_left hi, ih (n / 256) (by omega) i hi]
        rw [Nat.div_div_eq_div_mul, show (digs (n / 256)).length + 1 - 1 - i = ((digs (n / 256)).length - 1 - i) + 1 by omega, Nat.pow_succ, Nat.mul_comm]
      · have : i = (digs (n / 256)).length := by omega
        subst this
        simp
theorem digs_byte (n : Nat) : ∀ c, c ∈ digs n → 0 ≤ c ∧ c ≤ 255 := by
  induction n using Nat.strongRecOn with
  | ind n ih =>
    intro c hc
    by_cases h0 : n = 0
    · subst h0; simp [digs_zero] at hc
    · rw [digs_pos (by omega)] at hc
      rcases List.mem_append.1 hc with h | h
      · exact ih (n / 256) (by omega) c h
      · simp at h; subst h; omega
def valB (l : List Int) : Int := l.foldl (fun a c => a * 256 + c) 0
theorem valB_snoc (l : List Int) (c : Int) : valB (l ++ [c]) = valB l * 256 + c := by simp [valB]
theorem valB_digs (n : Nat) : valB (digs n) = n := by
  induction n using Nat.strongRecOn with
  | ind n ih =>
    by_cases h0 : n = 0
    · subst h0; simp [digs_zero, valB]
    · rw [digs_pos (by omega), valB_snoc, ih (n / 256) (by omega)]
      omega
theorem digs_head (n : Nat) (c : Int) (h : (digs n)[0]? = some c) : c ≠ 0 := by
  induction n using Nat.strongRecOn generalizing c with
  | ind n ih =>
    by_cases h0 : n = 0
    · subst h0; simp [digs_zero] at h
    · rw [digs_pos (by omega)] at h
      by_cases h1 : n / 256 = 0
      · rw [h1, digs_zero] at h; simp at h; omega
      · rw [List.getElem?_append_left (digs_len_pos (by omega))] at h
        exact ih (n / 256) (by omega) c h
def numB (mark n : Int) : List Int := (mark + ((digs n.toNat).length : Int)) :: digs n.toNat
theorem valB_from (l : List Int) (a : Int) : l.foldl (fun a c => a * 256 + c) a = a * 256 ^ l.length + valB l := by
  induction l generalizing a with
  | nil => simp [valB]
  | cons c r ih =>
    have h1 := ih (a * 256 + c)
    have h2 := ih c
    have h3 : valB (c :: r) = c * 256 ^ r.length + valB r := by rw [← h2]; simp [valB]
    rw [List.foldl_cons, h1, h3, List.length_cons, Int.pow_succ, Int.add_mul, Int.mul_assoc, Int.mul_comm 256, Int.add_assoc]
theorem valB_cons (c : Int) (r : List Int) : valB (c :: r) = c * 256 ^ r.length + valB r := by
  have := valB_from r c
  rw [← this]; simp [valB]
theorem valB_bound (l : List Int) (h : ∀ c, c ∈ l → 0 ≤ c ∧ c ≤ 255) : 0 ≤ valB l ∧ valB l < 256 ^ l.length := by
  induction l with
  | nil => simp [valB]
  | cons c r ih =>
    have h1 := ih (fun x hx => h x (List.mem_cons_of_mem _ hx))
    have h2 := h c (by simp)
    have hp : (0 : Int) < 256 ^ r.length := Int.pow_pos (by omega)
    rw [valB_cons, List.length_cons, Int.pow_succ]
    have h3 : c * 256 ^ r.length ≤ 255 * 256 ^ r.length := Int.mul_le_mul_of_nonneg_right h2.2 (by omega)
    have h4 : 0 ≤ c * 256 ^ r.length := Int.mul_nonneg h2.1 (by omega)
    omega
def numR (marked : Bool) (most : Int) : List Int → Option (Int × Bool × List Int)
  | [] => none
  | c :: r =>
    let s := if marked then c % 128 else c
    if 8 < s ∨ (r.length : Int) < s ∨ 0 < s ∧ r[0]? = some 0 then none
    else if most < valB (r.take s.toNat) then none
    else some (valB (r.take s.toNat), marked && decide (128 ≤ c), r.drop s.toNat)
theorem numR_plain (n most : Int) (rest : List Int) (h0 : 0 ≤ n) (h1 : n < 18446744073709551616) (hm : n ≤ most) : numR false most (numB 0 n ++ rest) = some (n, false, rest) := by
  have hl : (digs n.toNat).length ≤ 8 := digs_le 8 n.toNat (by omega)
  have hv := valB_digs n.toNat
  unfold numR numB
  simp only [List.cons_append, Bool.false_eq_true, if_false, Int.zero_add, Bool.false_and]
  rw [if_neg, if_neg, Int.toNat_natCast, List.take_left, List.drop_left, hv, Int.toNat_of_nonneg h0]
  · rw [Int.toNat_natCast, List.take_left, hv]; omega
  · rintro (h | h | ⟨h, h'⟩)
    · omega
    · rw [List.length_append] at h; omega
    · rw [List.getElem?_append_left (by omega)] at h'
      exact digs_head _ _ h' rfl
theorem numB_len (m n : Int) (h0 : 0 ≤ n) (h1 : n < 18446744073709551616) : (numB m n).length ≤ 9 := by
  have hl : (digs n.toNat).length ≤ 8 := digs_le 8 n.toNat (by omega)
  simp [numB]; omega
theorem numR_rest {mk : Bool} {most : Int} {bs : List Int} {r : Int × Bool × List Int} (h : numR mk most bs = some r) : ∃ k, r.2.2 = bs.drop k := by
  cases bs with
  | nil => cases h
  | cons c t =>
    simp only [numR] at h
    generalize (if mk = true then c % 128 else c) = s at h
    split at h
    · cases h
    · split at h
      · cases h
      · injection h with h; subst h; exact ⟨s.toNat + 1, rfl⟩
def rdN (mk : Bool) (most : Int) (s : List Int × Bool) : (Int × Bool) × (List Int × Bool) :=
  match numR mk most s.1 with
  | none => ((0, false), ([], true))
  | some (n, m, r) => ((n, m), (r, s.2))
def rdNum (most : Int) (s : List Int × Bool) : Int × (List Int × Bool) := ((rdN false most s).1.1, (rdN false most s).2)
theorem rdNum_put (n most : Int) (rest : List Int) (b : Bool) (h0 : 0 ≤ n) (h1 : n < 18446744073709551616) (hm : n ≤ most) : rdNum most (numB 0 n ++ rest, b) = (n, (rest, b)) := by
  unfold rdNum rdN; rw [numR_plain n most rest h0 h1 hm]
theorem rd_cons (c : Int) (r : List Int) : rd (c :: r) 0 = c := rfl
theorem rd_cons1 (c d : Int) (r : List Int) : rd (c :: d :: r) 1 = d := rfl
def szR (mk : Bool) (bs : List Int) : Int := if mk then rd bs 0 % 128 else rd bs 0
theorem numR_rd {mk : Bool} {most : Int} {bs : List Int} (h : 0 < bs.length) (h0 : 0 ≤ szR mk bs) :
    numR mk most bs = if 8 < szR mk bs ∨ (bs.length : Int) ≤ szR mk bs ∨ 0 < szR mk bs ∧ rd bs 1 = 0 then none
      else if most < valB ((bs.take (szR mk bs + 1).toNat).drop 1) then none else some (valB ((bs.take (szR mk bs + 1).toNat).drop 1), mk && decide (128 ≤ rd bs 0), bs.drop (szR mk bs + 1).toNat) := by
  rcases bs with _ | ⟨c, r⟩
  · simp at h
  · have es : (if mk = true then c % 128 else c) = szR mk (c :: r) := rfl
    simp only [numR, es, rd_cons]
    generalize szR mk (c :: r) = s at h0
    rw [show (s + 1).toNat = s.toNat + 1 by omega, List.take_succ_cons, List.drop_succ_cons, List.drop_zero, List.drop_succ_cons]
    have hc : (8 < s ∨ (r.length : Int) < s ∨ 0 < s ∧ r[0]? = some 0) ↔ (8 < s ∨ ((c :: r).length : Int) ≤ s ∨ 0 < s ∧ rd (c :: r) 1 = 0) := by
      rcases r with _ | ⟨d, r⟩
      · simp [rd]; omega
      · rw [rd_cons1]; simp; omega
    by_cases hh : 8 < s ∨ (r.length : Int) < s ∨ 0 < s ∧ r[0]? = some 0
    · rw [if_pos hh, if_pos (hc.1 hh)]
    · rw [if_neg hh, if_neg (fun x => hh (hc.2 x))]
      rfl
theorem rd_mem {l : List Int} {i : Int} (h0 : 0 ≤ i) (h : i < l.length) : rd l i ∈ l := by
  unfold rd
  rw [List.getD_eq_getElem?_getD, List.getElem?_eq_getElem (by omega)]
  exact List.getElem_mem _
theorem valB_step (l : List Int) (i : Nat) (h : i < l.length) : valB (l.take (i + 1)) = valB (l.take i) * 256 + rd l i := by
  rw [List.take_add_one, List.getElem?_eq_getElem h, Option.toList_some, valB_snoc]
  unfold rd
  rw [List.getD_eq_getElem?_getD, Int.toNat_natCast, List.getElem?_eq_getElem h]; rfl
theorem pow_le_256 {a b : Nat} (h : a ≤ b) : (256 : Int) ^ a ≤ 256 ^ b := by
  have e : ∀ n : Nat, (256 : Int) ^ n = ((256 ^ n : Nat) : Int) := fun n => by rw [Int.natCast_pow]; rfl
  rw [e, e]
  exact Int.ofNat_le.2 (Nat.pow_le_pow_right (by omega) h)
theorem valB_small (l : List Int) (i : Nat) (h : ∀ x, x ∈ l → 0 ≤ x ∧ x ≤ 255) (hi : i ≤ 7) : 0 ≤ valB (l.take i) ∧ valB (l.take i) < 72057594037927936 := by
  have h1 := valB_bound (l.take i) (fun x hx => h x (List.mem_of_mem_take hx))
  refine ⟨h1.1, Int.lt_of_lt_of_le h1.2 ?_⟩
  have h2 : (l.take i).length ≤ 7 := by rw [List.length_take]; omega
  have h3 := pow_le_256 h2
  rw [show (256 : Int) ^ 7 = 72057594037927936 from rfl] at h3
  exact h3
theorem valB_big (l : List Int) (h : ∀ x, x ∈ l → 0 ≤ x ∧ x ≤ 255) (hi : l.length ≤ 8) : 0 ≤ valB l ∧ valB l < 18446744073709551616 := by
  have h1 := valB_bound l h
  refine ⟨h1.1, Int.lt_of_lt_of_le h1.2 ?_⟩
  have h3 := pow_le_256 hi
  rw [show (256 : Int) ^ 8 = 18446744073709551616 from rfl] at h3
  exact h3
end Go.Proofs.Ytepldlnmeenlbaa.Own
namespace Go.Proofs.Ytepldlnmeenlbaa.Own
open Go.RowKit Go.Proofs Go.Proofs.YtepldlnmeenlbaaW.PrintWords Go.Proofs.YtepldlnmeenlbaaW.PrintLast Go.Proofs.YtepldlnmeenlbaaW.PrintMore Go.Proofs.Ytepldlnmeenlbaa.Base
theorem infoI64 : (Try.prog.info? 2).map (fun i => (i.zero, i.size, i.bytes)) = some (some (.int .i64 0), 1, 8) := by kernel_rfl
theorem made_take (n : Nat) : (madeCells #[.int .i64 0] (n + 1)).toList.take 1 = [.int .i64 0] := by
  simp [madeCells, Array.range]
theorem made_own (w : World) (base n : Nat) (hb : base ≤ w.heap.size) (hn : n + 1 ≤ maxLen) :
    Kd.R (Kd.int .i64) 2 (w.alloc (.cells (madeCells #[.int .i64 0] (n + 1)) 2)) base (fun _ => True) (.slice (some ⟨w.heap.size, 0, none⟩) 1 (n + 1)) [0] :=
  Kd.R_of_own (enc := Value.int .i64) ⟨by simp [encs], .inr ⟨w.heap.size, n + 1, _, rfl, hb, heap_alloc_new w _, by simp, hn, by simp [size_madeCells], by simpa [encs] using made_take n⟩⟩ (fun _ _ => trivial)
def sums_T5 : Bool × List (List Nat × List Nat) := (true, [([], []), ([], []), ([], []), ([1, 2], [1, 2]), ([3], [3]), ([], []), ([5], [5]), ([4, 6], [4, 6]), ([], []), ([8], [8]), ([7, 9], [7, 9]), ([10], [10]), ([0, 11], [0, 11]), ([12, 12, 0, 1, 2, 3, 4, 5, 6, 7, 8, 9, 10, 11, 12], [0, 1, 12])])
def sums_B5 : List Nat := [0, 0, 0, 6, 14, 0, 32, 126, 0, 256, 1022, 2046, 4095, 8191]
theorem sums_tab5 : rtab .any (opsOf Try.f93 5) = sums_T5 := by kernel_rfl
theorem sums_bits5 : waitsOk sums_T5.2 sums_B5 = true := by kernel_rfl
set_option maxHeartbeats 4000000 in
set_option maxRecDepth 100000 in
theorem sums_any (pb : Nat) (A : Option Addr) (c : Nat) (cv : Value) (row : List S143) (w : World)
    (hw : w.heap[pb]? = some (.cells #[.slice A row.length c, cv] 155 (0, 0))) (hr : Kd.C k143 w A row.length row) (hc : row.length ≤ c) (hok : RowOk 604800 row) :
    Calls Try.prog 93 #[.pointer (some ⟨pb, 0, none⟩)] w fun e w' => ∃ v', e = .returned v' ∧ Kd.R (Kd.int .i64) 2 w' w.heap.size (fun _ => True) v' (psums row) ∧ Below w.heap.size w w' := by
  have HR := Aside0.mk hr
  have hc0 : w.cell? ⟨pb, 0, none⟩ = some (.slice A row.length c) := (blk_cell hw 0).trans rfl
  have hl := hok.len
  have HOK := Aside0.mk hok
  obtain ⟨i2, hi2, hz⟩ := Option.map_eq_some_iff.1 infoI64
  simp only [Prod.mk.injEq] at hz
  obtain ⟨hz0, hz1, hz2⟩ := hz
  have hmk := run_make (P := Try.prog) w 157 2 i2 (.int .i64 0) Try.underlying157 hi2 hz0 .i64 .i64 1 ((row.length : Int) + 1) (by omega) (by omega) (by rw [hz2]; omega) (by omega)
  rw [hz1, show ((row.length : Int) + 1).toNat = row.length + 1 by omega, Nat.mul_one] at hmk
  have HO := Aside0.mk (made_own w w.heap.size row.length (Nat.le_refl _) (by unfold maxLen; omega))
  have HB := Aside0.mk (below_alloc (Below.refl w.heap.size w) (.cells (madeCells #[.int .i64 0] (row.length + 1)) 2))
  have hc1 : (w.alloc (.cells (madeCells #[.int .i64 0] (row.length + 1)) 2)).cell? ⟨pb, 0, none⟩ = some (.slice A row.length c) := (blk_cell (blk_alloc hw _) 0).trans rfl
  clear hr hok hi2 hz0 hz1 hz2
  go_enter Try.func93, Try.ntmps93
  go_wp2
  generalize (w.alloc (.cells (madeCells #[.int .i64 0] (row.length + 1)) 2)) = w1 at HO HB hc1 ⊢
  clear hmk
  go_wp2
  go_loopg [3, 18] row.length (fun g v3 v18 w' => ∃ i : Int, v18 = .int .i64 i ∧ Aside0 (0 ≤ i ∧ (g : Int) + i = row.length) ∧ Aside0 (Kd.R (Kd.int .i64) 2 w' w.heap.size (fun _ => True) v3 (psums (row.take i.toNat))) ∧ Aside0 (Below w.heap.size w w'))
  case atStart => exact ⟨0, rfl, ⟨by omega, by omega⟩, ⟨by simpa [psums, secs] using HO.out⟩, HB⟩
  case round =>
    clear HO HB hc1
    obtain ⟨i, rfl, HG, HO, HB⟩ := hrel
    by_cases hi : i < row.length
    · have p0 : 0 ≤ i := HG.out.1
      obtain ⟨ad, e, hx0, hx1⟩ := at_T143 HR.out i p0 hi
      cases e
      replace hx0 := (HB.out.cell (World.block_lt_of_cell? w _ hx0)).trans hx0
      replace hx1 := (HB.out.cell (World.block_lt_of_cell? w _ hx1)).trans hx1
      go_wp2
      obtain ⟨A2, c2, rfl, hl2, hC2⟩ := Kd.R_reads HO.out
      have hpl : ((psums (row.take i.toNat)).length : Int) = i + 1 := by rw [psums_length]; simp; omega
      have HN := Aside0.mk (psums_take row i.toNat (by omega))
      have hsec := (HOK.out.take i.toNat).secs (by omega)
      have hmem := HOK.out.mem (rd_T143 row i) (by rw [show i = ((i.toNat : Nat) : Int) by omega, rd_at row i.toNat (by omega)]; exact List.getElem_mem _)
      have hrd : rd (psums (row.take i.toNat)) i = secs (row.take i.toNat) := by
        unfold rd
        rw [List.getD_eq_getElem?_getD, psums_get _ _ (by simp; omega), List.take_take, Nat.min_self]
        rfl
      obtain ⟨ad2, e2, hx2⟩ := Kd.at_int hC2 i p0 (by omega)
      cases e2
      rw [hrd] at hx2
      obtain ⟨W, hW⟩ : ∃ W, W = wr.alloc (.cells #[Value.int .i64 (rd_T143 row i).f0, Value.int .i64 (rd_T143 row i).f1] 143) := ⟨_, rfl⟩
      rw [← hW]
      have HO1 := Aside0.mk (hW ▸ Kd.R_alloc HO.out (.cells #[Value.int .i64 (rd_T143 row i).f0, Value.int .i64 (rd_T143 row i).f1] 143))
      have HB1 := Aside0.mk (hW ▸ below_alloc HB.out (.cells #[Value.int .i64 (rd_T143 row i).f0, Value.int .i64 (rd_T143 row i).f1] 143))
      have BK := hW ▸ blk_new wr (.cells #[Value.int .i64 (rd_T143 row i).f0, Value.int .i64 (rd_T143 row i).f1] 143)
      have hx2' := hW ▸ (World.cell?_alloc_lt wr (.cells #[Value.int .i64 (rd_T143 row i).f0, Value.int .i64 (rd_T143 row i).f1] 143) _ (World.block_lt_of_cell? _ _ hx2)).trans hx2
      clear hW
      generalize wr.heap.size = gb at BK ⊢
      have hb0 : W.cell? ⟨gb, 0, none⟩ = some (.int .i64 (rd_T143 row i).f0) := (blk_cell BK 0).trans rfl
      have hb1 : W.cell? ⟨gb, 1, none⟩ = some (.int .i64 (rd_T143 row i).f1) := (blk_cell BK 1).trans rfl
      have HLT := Aside0.mk hpl
      have HO2 := Aside0.mk (Kd.R_drew HO1.out)
      have HB2 := Aside0.mk (below_drew1 HB1.out)
      have hlt : i < ((psums (row.take i.toNat)).length : Int) := by omega
      have HM := Aside0.mk hmem
      clear BK hx0 hx1 hx2 HO HB hpl hrd hsec hmem
      have p0' := eq_true p0
      have hlt' := eq_true hlt
      have hlt2 : decide (i < ((psums (row.take i.toNat)).length : Int)) = true := decide_eq_true hlt
      clear p0 hlt
      refine start_ (n := 14) (S := fun w' => w'.cell? ⟨gb, 0, none⟩ = some (.int .i64 (rd_T143 row i).f0) ∧ w'.cell? ⟨gb, 1, none⟩ = some (.int .i64 (rd_T143 row i).f1) ∧ w'.cell? (ad2.add i.toNat) = some (.int .i64 (secs (row.take i.toNat)))) (ds := [11, 12]) #[false, false, false, false, false, false, false, false, false, false, false, false, false, false] (by kernel_rfl) rfl rfl ⟨hb0, hb1, hx2'⟩ (fun hHeld => ?_); refine with_tabW sums_tab5 sums_bits5 (fun HT_ HW_ => ?_)
      generalize W.drew = WD at HO2 HB2 hHeld ⊢
      refine pure_ (i := 0) (N := some 23) (v := ?_) (a' := ?_) #[true, false, false, false, false, false, false, false, false, false, false, false, false, false] rfl rfl (any_of HT_.out (by kernel_rfl)) (fun _ _ _ h => h) (Or.inl ⟨by rfl, ?_⟩) ?_ ?_
      rotate_left
      · intro w'
        go_simp
        with_reducible rfl
      rotate_left
      · simp only [Act.put, List.setIfInBounds_toArray, List.set_cons_zero, List.set_cons_succ, i64_w, i32_w]
        rfl
      refine pure_ (i := 1) (N := some 24) (v := ?_) (a' := ?_) #[true, true, false, false, false, false, false, false, false, false, false, false, false, false] rfl rfl (any_of HT_.out (by kernel_rfl)) (fun _ _ _ h => h) (Or.inl ⟨by rfl, ?_⟩) ?_ ?_
      rotate_left
      · intro w'
        go_simp
        with_reducible rfl
      rotate_left
      · simp only [Act.put, List.setIfInBounds_toArray, List.set_cons_zero, List.set_cons_succ, i64_w, i32_w]
        rfl
      refine pure_ (i := 2) (N := some 25) (v := ?_) (a' := ?_) #[true, true, true, false, false, false, false, false, false, false, false, false, false, false] rfl rfl (any_of HT_.out (by kernel_rfl)) (fun _ _ _ h => h) (Or.inl ⟨by rfl, ?_⟩) ?_ ?_
      rotate_left
      · intro w'
        go_simp
        with_reducible rfl
      rotate_left
      · simp only [Act.put, List.setIfInBounds_toArray, List.set_cons_zero, List.set_cons_succ, i64_w, i32_w]
        rfl
      refine pure_ (i := 3) (N := some 26) (v := ?_) (a' := ?_) #[true, true, true, true, false, false, false, false, false, false, false, false, false, false] rfl rfl (any_of HT_.out (by kernel_rfl)) (fun _ _ _ h => h) (Or.inl ⟨by rfl, ?_⟩) ?_ ?_
      rotate_left
      · intro w'
        go_simp
        with_reducible rfl
      rotate_left
      · simp only [Act.put, List.setIfInBounds_toArray, List.set_cons_zero, List.set_cons_succ, i64_w, i32_w]
        rfl
      refine pure_ (i := 5) (N := some 28) (v := ?_) (a' := ?_) #[true, true, true, true, false, true, false, false, false, false, false, false, false, false] rfl rfl (any_of HT_.out (by kernel_rfl)) (fun _ _ _ h => h) (Or.inl ⟨by rfl, ?_⟩) ?_ ?_
      rotate_left
      · intro w'
        go_simp
        with_reducible rfl
      rotate_left
      · simp only [Act.put, List.setIfInBounds_toArray, List.set_cons_zero, List.set_cons_succ, i64_w, i32_w]
        rfl
      refine pure_ (i := 8) (N := some 31) (v := ?_) (a' := ?_) #[true, true, true, true, false, true, false, false, true, false, false, false, false, false] rfl rfl (any_of HT_.out (by kernel_rfl)) (fun _ _ _ h => h) (Or.inl ⟨by rfl, ?_⟩) ?_ ?_
      rotate_left
      · intro w'
        go_simp
        with_reducible rfl
      rotate_left
      · simp only [Act.put, List.setIfInBounds_toArray, List.set_cons_zero, List.set_cons_succ, i64_w, i32_w]
        rfl
      refine take_ (i := 4) (N := some 27) (v := ?_) (a' := ?_) #[true, true, true, true, true, true, false, false, true, false, false, false, false, false] rfl rfl (take_ofW HT_.out HW_.out (by kernel_rfl)) (fun _ _ _ h => h) (Or.inl ⟨by rfl, ?_⟩) hHeld ?_ ?_
      rotate_left
      · rintro w' ⟨s0, s1, s2⟩
        go_simp
        with_reducible rfl
      rotate_left
      · simp only [Act.put, List.setIfInBounds_toArray, List.set_cons_zero, List.set_cons_succ, i64_w, i32_w]
        rfl
      refine take_ (i := 6) (N := some 29) (v := ?_) (a' := ?_) #[true, true, true, true, true, true, true, false, true, false, false, false, false, false] rfl rfl (take_ofW HT_.out HW_.out (by kernel_rfl)) (fun _ _ _ h => h) (Or.inl ⟨by rfl, ?_⟩) hHeld ?_ ?_
      rotate_left
      · rintro w' ⟨s0, s1, s2⟩
        go_simp
        with_reducible rfl
      rotate_left
      · simp only [Act.put, List.setIfInBounds_toArray, List.set_cons_zero, List.set_cons_succ, i64_w, i32_w]
        rfl
      refine pure_ (i := 7) (N := some 30) (v := ?_) (a' := ?_) #[true, true, true, true, true, true, true, true, true, false, false, false, false, false] rfl rfl (any_of HT_.out (by kernel_rfl)) (fun _ _ _ h => h) (Or.inl ⟨by rfl, ?_⟩) ?_ ?_
      rotate_left
      · intro w'
        go_simp
        with_reducible rfl
      rotate_left
      · simp only [Act.put, List.setIfInBounds_toArray, List.set_cons_zero, List.set_cons_succ, i64_w, i32_w]
        rfl
      refine take_ (i := 9) (N := some 32) (v := ?_) (a' := ?_) #[true, true, true, true, true, true, true, true, true, true, false, false, false, false] rfl rfl (take_ofW HT_.out HW_.out (by kernel_rfl)) (fun _ _ _ h => h) (Or.inl ⟨by rfl, ?_⟩) hHeld ?_ ?_
      rotate_left
      · rintro w' ⟨s0, s1, s2⟩
        go_simp
        with_reducible rfl
      rotate_left
      · simp only [Act.put, List.setIfInBounds_toArray, List.set_cons_zero, List.set_cons_succ, i64_w, i32_w]
        rfl
      refine pure_ (i := 10) (N := some 33) (v := ?_) (a' := ?_) #[true, true, true, true, true, true, true, true, true, true, true, false, false, false] rfl rfl (any_of HT_.out (by kernel_rfl)) (fun _ _ _ h => h) (Or.inl ⟨by rfl, ?_⟩) ?_ ?_
      rotate_left
      · intro w'
        go_simp
        with_reducible rfl
      rotate_left
      · simp only [Act.put, List.setIfInBounds_toArray, List.set_cons_zero, List.set_cons_succ, i64_w, i32_w]
        rfl
      refine last_ (i := 11) (N := some 34) #[true, true, true, true, true, true, true, true, true, true, true, true, false, false] rfl rfl (one_of HT_.out (by kernel_rfl)) (by decide) (fun K hK => ?_)
      refine value_ (w1 := ?_) (v := ?_) (by rfl) rfl ?_ ?_
      rotate_left 2
      · go_simp
        constructor
        · rfl
        · rfl
      refine hK.out _ _ ?_
      clear hK K
      refine norm_ (a' := ?_) ?_ ?_
      rotate_left
      · show Act.put _ (some 34) _ = _
        simp only [Act.put, List.setIfInBounds_toArray, List.set_cons_zero, List.set_cons_succ, i64_w, i32_w]
        rfl
      refine last_ (i := 12) (N := some 35) #[true, true, true, true, true, true, true, true, true, true, true, true, true, false] rfl rfl (one_of HT_.out (by kernel_rfl)) (by decide) (fun K hK => ?_)
      refine Kd.R_append_step (Kd.int .i64) w.heap.size (by rfl) (.tmp 23) (.tmp 34) 157 2 (.int .i64 0) 8 rfl Try.underlying157 infoI64 rfl (by decide) (by omega) (.slice (some ad2) (psums (row.take i.toNat)).length c2) (psums (row.take i.toNat)) (wrap64 ((wrap64 ((secs (row.take i.toNat)) + ((rd_T143 row i).f1))) - ((rd_T143 row i).f0))) [.int .i64 (wrap64 ((wrap64 ((secs (row.take i.toNat)) + ((rd_T143 row i).f1))) - ((rd_T143 row i).f0)))] (fun _ => True) (fun _ => False) rfl rfl ?aP (fun _ hk => hk.elim) ?aF ?aO (Below.refl _ _) ?aS ?aL ?_
      (case aP => exact rfl)
      (case aF => exact (fun _ _ => trivial))
      (case aO => exact HO2.out)
      (case aS => exact HB2.out.size)
      (case aL => have := HLT.out; have := HG.out; omega)
      intro v1_ w1_ ho_ hb_ hg_ hat_
      have HOa := Aside0.mk ho_
      have HOaB := Aside0.mk hb_
      have HOaG := Aside0.mk hg_
      clear ho_ hb_ hg_ hat_
      refine hK.out _ _ ?_
      clear hK K
      refine norm_ (a' := ?_) ?_ ?_
      rotate_left
      · show Act.put _ (some 35) _ = _
        simp only [Act.put, List.setIfInBounds_toArray, List.set_cons_zero, List.set_cons_succ, i64_w, i32_w]
        rfl
      refine pure_ (i := 13) (N := some 3) (v := ?_) (a' := ?_) #[true, true, true, true, true, true, true, true, true, true, true, true, true, true] rfl rfl (any_of HT_.out (by kernel_rfl)) (fun _ _ _ h => h) (Or.inl ⟨by rfl, ?_⟩) ?_ ?_
      rotate_left
      · intro w'
        go_simp
        with_reducible rfl
      rotate_left
      · simp only [Act.put, List.setIfInBounds_toArray, List.set_cons_zero, List.set_cons_succ, i64_w, i32_w]
        rfl
      refine done_ (done_of HT_.out (by kernel_rfl)) ?_
      go_wp2
      have hv : wrap64 (wrap64 (secs (row.take i.toNat) + (rd_T143 row i).f1) - (rd_T143 row i).f0) = secs (row.take i.toNat) + (rd_T143 row i).f1 - (rd_T143 row i).f0 := by
        have h1 := (HOK.out.take i.toNat).secs (by omega)
        have h2 := HM.out
        unfold wrap64
        omega
      rw [hv] at HOa
      have hn := HN.out
      rw [show ((i.toNat : Nat) : Int) = i by have := HG.out; omega] at hn
      go_roundg (gk - 1)
      case measure => have := HG.out; omega
      case rel => exact ⟨i + 1, (by have := HG.out; first | rfl | (unfold wrap64; congr 1; omega) | go_num), ⟨by have := HG.out; omega, by have := HG.out; omega⟩, ⟨by rw [show (i + 1).toNat = i.toNat + 1 by have := HG.out; omega, hn]; exact HOa.out⟩, ⟨HB2.out.trans HOaB.out⟩⟩
    · have hi' : i = row.length := by have := HG.out; omega
      have HO1 := HO.out
      rw [hi', Int.toNat_natCast, List.take_length] at HO1
      have HO2 := Aside0.mk HO1
      clear HO HO1 hi'
      go_wp2
      go_ret
      exact ⟨_, rfl, HO2.out, HB.out⟩
end Go.Proofs.Ytepldlnmeenlbaa.Own
namespace Go.Proofs.Ytepldlnmeenlbaa.Own
open Go.RowKit Go.Proofs Go.Proofs.YtepldlnmeenlbaaW.PrintWords Go.Proofs.YtepldlnmeenlbaaW.PrintLast Go.Proofs.YtepldlnmeenlbaaW.PrintMore Go.Proofs.Ytepldlnmeenlbaa.Base
def cellObj (d s m k : Int) (bf v : Value) : Obj := .cells #[.int .u32 d, .int .i32 s, .int .u32 0, .int .u32 m, .int .i64 k, bf, v] 189 (0, 0)
def sumsFn (pb : Nat) : Value := .func (.func 93) #[.pointer (some ⟨pb, 0, none⟩)] #[]
abbrev Upd (b : Nat) (w w' : World) : Prop := w.grownBy w' (some b)
theorem Upd.refl (b : Nat) (w : World) : Upd b w w := ⟨rfl, rfl, rfl, Nat.le_refl _, fun _ _ _ => rfl⟩
theorem Upd.trans {b : Nat} {u v w : World} (h : Upd b u v) (k : Upd b v w) : Upd b u w :=
  ⟨k.os.trans h.os, k.tape.trans h.tape, k.output.trans h.output, Nat.le_trans h.size k.size, fun i hi hne => (k.block i (Nat.lt_of_lt_of_le hi h.size) hne).trans (h.block i hi hne)⟩
theorem Upd.set {b : Nat} {u v : World} (h : Upd b u v) (i : Nat) (x : Value) : Upd b u (v.setCell ⟨b, i, none⟩ x) :=
  h.trans ⟨rfl, rfl, rfl, by simp, fun k _ hne => Below.heap_setCell _ _ _ _ (fun e => hne (by rw [e]))⟩
theorem Upd.drew {b : Nat} {u v : World} (h : Upd b u v) : Upd b u v.drew := ⟨h.os, h.tape, h.output, h.size, h.block⟩
theorem Upd.alloc {b : Nat} {u v : World} (h : Upd b u v) (o : Obj) : Upd b u (v.alloc o) := h.trans (World.grownBy_alloc v o _)
theorem Upd.of_below {b : Nat} {u v : World} (h : Below u.heap.size u v) : Upd b u v := ⟨h.os, h.tape, h.output, h.size, fun k hk _ => h.block k hk⟩
theorem Upd.then {b : Nat} {u v w : World} (h : Upd b u v) (k : Below v.heap.size v w) : Upd b u w := h.trans (Upd.of_below k)
theorem Upd.below {b n : Nat} {u v : World} (h : Upd b u v) (hn : n ≤ u.heap.size) (hb : n ≤ b) : Below n u v :=
  ⟨h.os, h.tape, h.output, h.size, fun k hk => h.block k (by omega) (fun e => by injection e with e; omega)⟩
theorem Upd.blk {b g : Nat} {u v : World} {o : Obj} (h : Upd b u v) (hg : u.heap[g]? = some o) (hne : g ≠ b) : v.heap[g]? = some o :=
  (h.block g (blk_lt hg) (fun e => hne (by injection e))).trans hg
set_option maxHeartbeats 1600000 in
set_option maxRecDepth 100000 in
theorem fill_any (cb pb : Nat) (A : Option Addr) (c : Nat) (row : List S143) (m k : Int) (lv : Value) (w : World)
    (hcb : w.heap[cb]? = some (cellObj 0 1 m k (sumsFn pb) lv)) (hne : pb ≠ cb)
    (hw : w.heap[pb]? = some (.cells #[.slice A row.length c, .pointer (some ⟨cb, 0, none⟩)] 155 (0, 0))) (hr : Kd.C k143 w A row.length row) (hc : row.length ≤ c) (hok : RowOk 604800 row) :
    Calls Try.prog 128 #[.pointer (some ⟨cb, 0, none⟩)] w fun e w' => e = .returned (.tuple #[]) ∧ ∃ v', w'.heap[cb]? = some (cellObj 0 1 1 k .nilFunc v') ∧ Kd.R (Kd.int .i64) 2 w' w.heap.size (fun k => k ≠ cb) v' (psums row) ∧ Upd cb w w' := by
  have HR := Aside0.mk hr
  have HOK := Aside0.mk hok
  have HW := Aside0.mk hw
  have HC := Aside0.mk hcb
  have c5 : w.cell? ⟨cb, 5, none⟩ = some (sumsFn pb) := (blk_cell hcb 5).trans rfl
  unfold sumsFn at c5
  have hneq : ∀ (fn : Fn) (first captured : Array Value) (w : World), Sem.run Try.prog (binOp BinOp.neq 158 (Value.func fn first captured) Value.nilFunc) w = .ok (.bool true) w := fun _ _ _ _ => by kernel_rfl
  clear hr hok hw hcb
  go_enter Try.func128, Try.ntmps128
  go_wp2_with (go_at_call 93; refine (sums_any pb A c _ row _ HW.out HR.out hc HOK.out).mono ?_; rintro e w1 ⟨v1, rfl, HV0, hb⟩; obtain ⟨A1, k1, rfl, hl1, hC1⟩ := Kd.R_reads HV0; have HV := Aside0.mk HV0; have HB := Aside0.mk hb; have BK := Aside0.mk (blk_below HC.out hb); clear HV0 hC1 hl1 hb; have d6 : w1.cell? ⟨cb, 6, none⟩ = some lv := (blk_cell BK.out 6).trans rfl; have d5 : w1.cell? ⟨cb, 5, none⟩ = some (.func (.func 93) #[.pointer (some ⟨pb, 0, none⟩)] #[]) := (blk_cell BK.out 5).trans rfl; have f6 : w1.frozen? ⟨cb, 6, none⟩ = false := blk_frozen BK.out 6; have f5 : w1.frozen? ⟨cb, 5, none⟩ = false := blk_frozen BK.out 5)
  have BK2 : Aside0 (((w1.setCell ⟨cb, 6, none⟩ (.slice A1 (psums row).length k1)).setCell ⟨cb, 5, none⟩ .nilFunc).heap[cb]? = some (cellObj 0 1 m k .nilFunc (.slice A1 (psums row).length k1))) := ⟨blk_put (cs := #[.int .u32 0, .int .i32 1, .int .u32 0, .int .u32 m, .int .i64 k, sumsFn pb, .slice A1 (psums row).length k1]) (blk_put (cs := #[.int .u32 0, .int .i32 1, .int .u32 0, .int .u32 m, .int .i64 k, sumsFn pb, lv]) BK.out 6 _ rfl) 5 _ rfl⟩
  have U2 : Aside0 (Upd cb w ((w1.setCell ⟨cb, 6, none⟩ (.slice A1 (psums row).length k1)).setCell ⟨cb, 5, none⟩ .nilFunc)) := ⟨((Upd.of_below HB.out).set 6 _).set 5 _⟩
  have HV1 : Aside0 (Kd.R (Kd.int .i64) 2 w1 w.heap.size (fun k => k ≠ cb) (.slice A1 (psums row).length k1) (psums row)) := ⟨Kd.R_mono (Kd.R_bound HV.out) (fun k hk => by have := blk_lt HC.out; have := hk.2.1; omega)⟩
  have HV2 : Aside0 (Kd.R (Kd.int .i64) 2 ((w1.setCell ⟨cb, 6, none⟩ (.slice A1 (psums row).length k1)).setCell ⟨cb, 5, none⟩ .nilFunc) w.heap.size (fun k => k ≠ cb) (.slice A1 (psums row).length k1) (psums row)) := ⟨Kd.R_far (p := ⟨cb, 5, none⟩) (Kd.R_far (p := ⟨cb, 6, none⟩) HV1.out (fun _ h => h) _) (fun _ h => h) _⟩
  generalize ((w1.setCell ⟨cb, 6, none⟩ (.slice A1 (psums row).length k1)).setCell ⟨cb, 5, none⟩ .nilFunc) = w2 at BK2 U2 HV2 ⊢
  refine (store_true cb 3 (.int .u32 m) _ ((blk_cell BK2.out 3).trans rfl) (blk_frozen BK2.out 3)).mono ?_
  rintro e w3 ⟨rfl, rfl⟩
  go_wp2
  go_end0
  exact ⟨rfl, _, blk_put (cs := #[.int .u32 0, .int .i32 1, .int .u32 0, .int .u32 m, .int .i64 k, .nilFunc, .slice A1 (psums row).length k1]) (blk_drew BK2.out) 3 _ rfl, Kd.R_far (p := ⟨cb, 3, none⟩) (Kd.R_drew HV2.out) (fun _ h => h) _, (U2.out.drew).set 3 _⟩
set_option maxHeartbeats 1600000 in
set_option maxRecDepth 100000 in
theorem slow_any (cb pb : Nat) (A : Option Addr) (c n : Nat) (row : List S143) (m k : Int) (lv : Value) (w : World)
    (hcb : w.heap[cb]? = some (cellObj 0 0 m k (sumsFn pb) lv)) (hne : pb ≠ cb)
    (hw : w.heap[pb]? = some (.cells #[.slice A row.length c, .pointer (some ⟨cb, 0, none⟩)] 155 (0, 0))) (hr : Kd.R k143 143 w n (fun k => k ≠ cb) (.slice A row.length c) row) (hc : row.length ≤ c) (hok : RowOk 604800 row) :
    Calls Try.prog 138 #[.pointer (some ⟨cb, 0, none⟩), .func (.func 128) #[.pointer (some ⟨cb, 0, none⟩)] #[]] w fun e w' => e = .returned (.tuple #[]) ∧ ∃ v', w'.heap[cb]? = some (cellObj 1 0 1 k .nilFunc v') ∧ Kd.R (Kd.int .i64) 2 w' w.heap.size (fun k => k ≠ cb) v' (psums row) ∧ Upd cb w w' := by
  have HC := Aside0.mk hcb
  have HOK := Aside0.mk hok
  have c1 : w.cell? ⟨cb, 1, none⟩ = some (.int .i32 0) := (blk_cell hcb 1).trans rfl
  have f1 : w.frozen? ⟨cb, 1, none⟩ = false := blk_frozen hcb 1
  have BK1 : Aside0 ((w.setCell ⟨cb, 1, none⟩ (.int .i32 1)).heap[cb]? = some (cellObj 0 1 m k (sumsFn pb) lv)) := ⟨blk_put (cs := #[.int .u32 0, .int .i32 0, .int .u32 0, .int .u32 m, .int .i64 k, sumsFn pb, lv]) hcb 1 _ rfl⟩
  have PW1 : Aside0 ((w.setCell ⟨cb, 1, none⟩ (.int .i32 1)).heap[pb]? = some (.cells #[.slice A row.length c, .pointer (some ⟨cb, 0, none⟩)] 155 (0, 0))) := ⟨(Below.heap_setCell _ _ _ _ hne).trans hw⟩
  have HR1 := Aside0.mk (Kd.R_reads' (Kd.R_far (p := ⟨cb, 1, none⟩) hr (fun _ h => h) (.int .i32 1))).2.2
  have U1 : Aside0 (Upd cb w (w.setCell ⟨cb, 1, none⟩ (.int .i32 1))) := ⟨(Upd.refl cb w).set 1 _⟩
  have hnot : ∀ (x : Bool) (w : World), (Op.unary .not (.bool x)).run Try.prog w = .ok (.bool (!x)) w := fun _ _ => rfl
  have HSZ := Aside0.mk (show (w.setCell ⟨cb, 1, none⟩ (.int .i32 1)).heap.size = w.heap.size by simp)
  clear hcb hw hr hok
  go_enter_defers Try.func138, Try.ntmps138
  go_wp2_with (go_at_call 142; refine (lock_free cb 1 _ c1 f1).mono ?_; rintro e w' ⟨rfl, rfl⟩)
  clear c1 f1
  generalize (w.setCell ⟨cb, 1, none⟩ (.int .i32 1)) = w1 at BK1 PW1 HR1 U1 HSZ ⊢
  go_wp2_with (first | (go_at_call 137; refine (load_bool cb 0 0 _ ((blk_cell BK1.out 0).trans rfl)).mono ?_; rintro e w' ⟨rfl, rfl⟩) | (go_at_call 128; refine (fill_any cb pb A c row m k lv _ BK1.out hne PW1.out HR1.out hc HOK.out).mono ?_; rintro e w2 ⟨rfl, v', B2, R2, U2⟩))
  refine leaves_cons (f := 139) (args := #[.pointer (some ⟨cb, 0, none⟩), .bool true]) (by simp) (by simp [go_sem]) ?_
  refine (store_deferred cb 0 (.int .u32 0) .returning _ ((blk_cell B2 0).trans rfl) (blk_frozen B2 0)).mono ?_
  rintro e u' w3 ⟨rfl, rfl, rfl⟩
  have B3 : (w2.drew.setCell ⟨cb, 0, none⟩ (.int .u32 1)).heap[cb]? = some (cellObj 1 1 1 k .nilFunc v') := blk_put (cs := #[.int .u32 0, .int .i32 1, .int .u32 0, .int .u32 1, .int .i64 k, .nilFunc, v']) (blk_drew B2) 0 _ rfl
  have R3 : Kd.R (Kd.int .i64) 2 (w2.drew.setCell ⟨cb, 0, none⟩ (.int .u32 1)) w1.heap.size (fun k => k ≠ cb) v' (psums row) := Kd.R_far (p := ⟨cb, 0, none⟩) (Kd.R_drew R2) (fun _ h => h) _
  have U3 : Upd cb w (w2.drew.setCell ⟨cb, 0, none⟩ (.int .u32 1)) := ((U1.out.trans U2).drew).set 0 _
  generalize (w2.drew.setCell ⟨cb, 0, none⟩ (.int .u32 1)) = w3 at B3 R3 U3 ⊢
  refine leaves_cons (f := 143) (args := #[.pointer (some ⟨cb, 1, none⟩)]) (by simp [settle]) (by simp [go_sem]) ?_
  refine (unlock_deferred cb 1 _ _ ((blk_cell B3 1).trans rfl) (blk_frozen B3 1)).mono ?_
  rintro e u' w4 ⟨rfl, rfl, rfl⟩
  have hfin : ∃ v', (w3.setCell ⟨cb, 1, none⟩ (.int .i32 0)).heap[cb]? = some (cellObj 1 0 1 k .nilFunc v') ∧ Kd.R (Kd.int .i64) 2 (w3.setCell ⟨cb, 1, none⟩ (.int .i32 0)) w.heap.size (fun k => k ≠ cb) v' (psums row) ∧ Upd cb w (w3.setCell ⟨cb, 1, none⟩ (.int .i32 0)) :=
    ⟨v', blk_put (cs := #[.int .u32 1, .int .i32 1, .int .u32 0, .int .u32 1, .int .i64 k, .nilFunc, v']) B3 1 _ rfl, by rw [← HSZ.out]; exact Kd.R_far (p := ⟨cb, 1, none⟩) R3 (fun _ h => h) _, U3.set 1 _⟩
  simpa [Leaves, settle, results, Try.results138] using hfin
def CellAt (w : World) (n cb pb : Nat) (row : List S143) : Prop :=
  ∃ m k, (∃ lv, w.heap[cb]? = some (cellObj 0 0 m k (sumsFn pb) lv)) ∨ (∃ v, w.heap[cb]? = some (cellObj 1 0 m k .nilFunc v) ∧ Kd.R (Kd.int .i64) 2 w n (fun k => k ≠ cb) v (psums row))
structure PlanAt (w : World) (n pb cb : Nat) (row : List S143) : Prop where
  ok : RowOk 604800 row
  npb : n ≤ pb
  ncb : n ≤ cb
  ne : pb ≠ cb
  blk : ∃ A c, w.heap[pb]? = some (.cells #[.slice A row.length c, .pointer (some ⟨cb, 0, none⟩)] 155 (0, 0)) ∧ row.length ≤ c ∧ Kd.R k143 143 w n (fun k => k ≠ cb) (.slice A row.length c) row
  cell : CellAt w n cb pb row
theorem CellAt.keep {w w' : World} {n cb pb : Nat} {row : List S143} (h : CellAt w n cb pb row) (hm : ∀ k, k < w.heap.size → n ≤ k → w'.heap[k]? = w.heap[k]?) (hn : n ≤ cb) : CellAt w' n cb pb row := by
  obtain ⟨m, k, ⟨lv, hb⟩ | ⟨v, hb, hr⟩⟩ := h
  · exact ⟨m, k, .inl ⟨lv, (hm cb (blk_lt hb) hn).trans hb⟩⟩
  · exact ⟨m, k, .inr ⟨v, (hm cb (blk_lt hb) hn).trans hb, Kd.R_mono (Kd.R_step (Kd.R_bound hr) (fun k hk hlt => hm k hlt hk.2.1)) (fun _ hk => hk.1)⟩⟩
theorem PlanAt.keep {w w' : World} {n cb pb : Nat} {row : List S143} (h : PlanAt w n pb cb row) (hm : ∀ k, k < w.heap.size → n ≤ k → w'.heap[k]? = w.heap[k]?) : PlanAt w' n pb cb row := by
  obtain ⟨A, c, hb, hc, hr⟩ := h.blk
  exact ⟨h.ok, h.npb, h.ncb, h.ne, ⟨A, c, (hm pb (blk_lt hb) h.npb).trans hb, hc, Kd.R_mono (Kd.R_step (Kd.R_bound hr) (fun k hk hlt => hm k hlt hk.2.1)) (fun _ hk => hk.1)⟩, h.cell.keep hm h.ncb⟩
theorem PlanAt.below {w w' : World} {n cb pb : Nat} {row : List S143} (h : PlanAt w n pb cb row) (hb : Below w.heap.size w w') : PlanAt w' n pb cb row := h.keep (fun k hk _ => hb.block k hk)
set_option maxHeartbeats 1600000 in
set_option maxRecDepth 100000 in
theorem do_first (cb pb : Nat) (A : Option Addr) (c n : Nat) (row : List S143) (m k : Int) (lv : Value) (w : World)
    (hcb : w.heap[cb]? = some (cellObj 0 0 m k (sumsFn pb) lv)) (hne : pb ≠ cb)
    (hw : w.heap[pb]? = some (.cells #[.slice A row.length c, .pointer (some ⟨cb, 0, none⟩)] 155 (0, 0))) (hr : Kd.R k143 143 w n (fun k => k ≠ cb) (.slice A row.length c) row) (hc : row.length ≤ c) (hok : RowOk 604800 row) :
    Calls Try.prog 127 #[.pointer (some ⟨cb, 0, none⟩), .func (.func 128) #[.pointer (some ⟨cb, 0, none⟩)] #[]] w fun e w' => e = .returned (.tuple #[]) ∧ ∃ v', w'.heap[cb]? = some (cellObj 1 0 1 k .nilFunc v') ∧ Kd.R (Kd.int .i64) 2 w' w.heap.size (fun k => k ≠ cb) v' (psums row) ∧ Upd cb w w' := by
  have H := Aside0.mk (slow_any cb pb A c n row m k lv w hcb hne hw hr hc hok)
  have HC := Aside0.mk hcb
  have hnot : ∀ (x : Bool) (w : World), (Op.unary .not (.bool x)).run Try.prog w = .ok (.bool (!x)) w := fun _ _ => rfl
  clear hcb hw hr hok
  go_enter Try.func127, Try.ntmps127
  go_wp2_with (first | (go_at_call 137; refine (load_bool cb 0 0 _ ((blk_cell HC.out 0).trans rfl)).mono ?_; rintro e w' ⟨rfl, rfl⟩) | (go_at_call 138; refine H.out.mono ?_; rintro e w2 ⟨rfl, h⟩))
  go_end0
  exact ⟨rfl, h⟩
theorem do_done (cb : Nat) (m k : Int) (v fv : Value) (w : World) (hcb : w.heap[cb]? = some (cellObj 1 0 m k .nilFunc v)) :
    Calls Try.prog 127 #[.pointer (some ⟨cb, 0, none⟩), fv] w fun e w' => e = .returned (.tuple #[]) ∧ w = w' := by
  have HC := Aside0.mk hcb
  have hnot : ∀ (x : Bool) (w : World), (Op.unary .not (.bool x)).run Try.prog w = .ok (.bool (!x)) w := fun _ _ => rfl
  clear hcb
  go_enter Try.func127, Try.ntmps127
  go_wp2_with (go_at_call 137; refine (load_bool cb 0 1 _ ((blk_cell HC.out 0).trans rfl)).mono ?_; rintro e w' ⟨rfl, rfl⟩)
  go_end0
  exact ⟨rfl, rfl⟩
set_option maxHeartbeats 1600000 in
set_option maxRecDepth 100000 in
theorem get_any (cb pb n : Nat) (row : List S143) (w : World) (h : PlanAt w n pb cb row) (hn : n ≤ w.heap.size) :
    Calls Try.prog 118 #[.pointer (some ⟨cb, 0, none⟩)] w fun e w' => ∃ A c, e = .returned (.slice A (psums row).length c) ∧ PlanAt w' n pb cb row ∧ Kd.C (Kd.int .i64) w' A (psums row).length (psums row) ∧ (psums row).length ≤ c ∧ Upd cb w w' := by
  obtain ⟨A, c, hb, hc, hr⟩ := h.blk
  obtain ⟨m, k, hcell⟩ := h.cell
  have HP := Aside0.mk h
  have hmf : ∀ (fn : Fn) (first cap : Array Value) (w : World), (Instr.makeFunc fn first cap).run Try.prog w = .ok (.func fn first cap) w := fun _ _ _ _ => rfl
  rcases hcell with ⟨lv, hcb⟩ | ⟨v, hcb, hv⟩
  · have c4 : w.cell? ⟨cb, 4, none⟩ = some (.int .i64 k) := (blk_cell hcb 4).trans rfl
    have f4 : w.frozen? ⟨cb, 4, none⟩ = false := blk_frozen hcb 4
    have B1 : Aside0 ((w.setCell ⟨cb, 4, none⟩ (.int .i64 (wrap64 (k + 1)))).heap[cb]? = some (cellObj 0 0 m (wrap64 (k + 1)) (sumsFn pb) lv)) := ⟨blk_put (cs := #[.int .u32 0, .int .i32 0, .int .u32 0, .int .u32 m, .int .i64 k, sumsFn pb, lv]) hcb 4 _ rfl⟩
    have P1 : Aside0 ((w.setCell ⟨cb, 4, none⟩ (.int .i64 (wrap64 (k + 1)))).heap[pb]? = some (.cells #[.slice A row.length c, .pointer (some ⟨cb, 0, none⟩)] 155 (0, 0))) := ⟨(Below.heap_setCell _ _ _ _ h.ne).trans hb⟩
    have R1 : Aside0 (Kd.R k143 143 (w.setCell ⟨cb, 4, none⟩ (.int .i64 (wrap64 (k + 1)))) n (fun k => k ≠ cb) (.slice A row.length c) row) := ⟨Kd.R_far (p := ⟨cb, 4, none⟩) hr (fun _ h => h) _⟩
    have U1 : Aside0 (Upd cb w (w.setCell ⟨cb, 4, none⟩ (.int .i64 (wrap64 (k + 1))))) := ⟨(Upd.refl cb w).set 4 _⟩
    clear hcb hb hr h
    go_enter Try.func118, Try.ntmps118
    go_wp2_with (go_at_call 126; refine (add_i64 cb 4 k 1 _ c4 f4).mono ?_; rintro e w' ⟨rfl, rfl⟩)
    generalize (w.setCell ⟨cb, 4, none⟩ (.int .i64 (wrap64 (k + 1)))) = w1 at B1 P1 R1 U1 ⊢
    go_wp2_with (go_at_call 127; refine (do_first cb pb A c n row m _ lv _ B1.out HP.out.ne P1.out R1.out hc HP.out.ok).mono ?_; rintro e w2 ⟨rfl, v', B2', R2', U2'⟩; obtain ⟨A2, k2, rfl, hl2, hC2⟩ := Kd.R_reads R2'; have c6 : w2.cell? ⟨cb, 6, none⟩ = some (.slice A2 (psums row).length k2) := (blk_cell B2' 6).trans rfl; have B2 := Aside0.mk B2'; have R2 := Aside0.mk R2'; have U2 := Aside0.mk U2'; have C2 := Aside0.mk hC2; clear B2' R2' U2' hC2)
    go_ret
    have hsz : n ≤ w1.heap.size := Nat.le_trans hn U1.out.size
    refine ⟨A2, k2, rfl, ⟨HP.out.ok, HP.out.npb, HP.out.ncb, HP.out.ne, ⟨A, c, U2.out.blk P1.out HP.out.ne, hc, Kd.R_grown R1.out U2.out (fun k hk e => hk (by injection e))⟩, ⟨_, _, .inr ⟨_, B2.out, Kd.R_lower R2.out hsz⟩⟩⟩, C2.out, hl2, U1.out.trans U2.out⟩
  · obtain ⟨A2, k2, rfl, hl2, hC2⟩ := Kd.R_reads hv
    have c4 : w.cell? ⟨cb, 4, none⟩ = some (.int .i64 k) := (blk_cell hcb 4).trans rfl
    have f4 : w.frozen? ⟨cb, 4, none⟩ = false := blk_frozen hcb 4
    have B1 : Aside0 ((w.setCell ⟨cb, 4, none⟩ (.int .i64 (wrap64 (k + 1)))).heap[cb]? = some (cellObj 1 0 m (wrap64 (k + 1)) .nilFunc (.slice A2 (psums row).length k2))) := ⟨blk_put (cs := #[.int .u32 1, .int .i32 0, .int .u32 0, .int .u32 m, .int .i64 k, .nilFunc, .slice A2 (psums row).length k2]) hcb 4 _ rfl⟩
    have P1 : Aside0 ((w.setCell ⟨cb, 4, none⟩ (.int .i64 (wrap64 (k + 1)))).heap[pb]? = some (.cells #[.slice A row.length c, .pointer (some ⟨cb, 0, none⟩)] 155 (0, 0))) := ⟨(Below.heap_setCell _ _ _ _ h.ne).trans hb⟩
    have R1 : Aside0 (Kd.R k143 143 (w.setCell ⟨cb, 4, none⟩ (.int .i64 (wrap64 (k + 1)))) n (fun k => k ≠ cb) (.slice A row.length c) row) := ⟨Kd.R_far (p := ⟨cb, 4, none⟩) hr (fun _ h => h) _⟩
    have V1 : Aside0 (Kd.R (Kd.int .i64) 2 (w.setCell ⟨cb, 4, none⟩ (.int .i64 (wrap64 (k + 1)))) n (fun k => k ≠ cb) (.slice A2 (psums row).length k2) (psums row)) := ⟨Kd.R_far (p := ⟨cb, 4, none⟩) hv (fun _ h => h) _⟩
    have U1 : Aside0 (Upd cb w (w.setCell ⟨cb, 4, none⟩ (.int .i64 (wrap64 (k + 1))))) := ⟨(Upd.refl cb w).set 4 _⟩
    clear hcb hb hr h hv hC2
    go_enter Try.func118, Try.ntmps118
    go_wp2_with (go_at_call 126; refine (add_i64 cb 4 k 1 _ c4 f4).mono ?_; rintro e w' ⟨rfl, rfl⟩)
    generalize (w.setCell ⟨cb, 4, none⟩ (.int .i64 (wrap64 (k + 1)))) = w1 at B1 P1 R1 V1 U1 ⊢
    have c6 : w1.cell? ⟨cb, 6, none⟩ = some (.slice A2 (psums row).length k2) := (blk_cell B1.out 6).trans rfl
    go_wp2_with (go_at_call 127; refine (do_done cb m _ _ _ _ B1.out).mono ?_; rintro e w2 ⟨rfl, rfl⟩)
    go_ret
    exact ⟨A2, k2, rfl, ⟨HP.out.ok, HP.out.npb, HP.out.ncb, HP.out.ne, ⟨A, c, P1.out, hc, R1.out⟩, ⟨_, _, .inr ⟨_, B1.out, V1.out⟩⟩⟩, (Kd.R_reads' V1.out).2.2, hl2, U1.out⟩
end Go.Proofs.Ytepldlnmeenlbaa.Own
namespace Go.Proofs.Ytepldlnmeenlbaa.Own
open Go.RowKit Go.Proofs Go.Proofs.YtepldlnmeenlbaaW.PrintWords Go.Proofs.YtepldlnmeenlbaaW.PrintLast Go.Proofs.YtepldlnmeenlbaaW.PrintMore Go.Proofs.Ytepldlnmeenlbaa.Base
theorem wrap_id {x : Int} (h0 : -9223372036854775808 ≤ x) (h1 : x ≤ 9223372036854775807) : wrap64 x = x := by unfold wrap64; omega
theorem drop_at {l : List S143} {i : Nat} (h : i < l.length) : l.drop i = rd_T143 l i :: l.drop (i + 1) := by
  rw [rd_at l i h, List.drop_eq_getElem_cons h]
def okRow (lo : Int) : List S143 → Bool
  | [] => true
  | s :: r => decide (0 ≤ s.f0 ∧ s.f0 < s.f1 ∧ s.f1 ≤ 1125899906842624 ∧ lo ≤ s.f0) && okRow s.f1 r
def rowErr (l : List S143) : Int := if 32 < l.length then 21 else if okRow 0 l then 0 else 2
theorem right_eq (a b : Int) : span_Right.f a b = some (decide (0 ≤ a ∧ a < b ∧ b ≤ 1125899906842624)) := by
  unfold span_Right.f
  by_cases h1 : 0 ≤ a
  · rw [if_pos h1]
    by_cases h2 : a < b
    · rw [if_pos h2]; simp [h1, h2]
    · rw [if_neg h2]; simp [h2]
  · rw [if_neg h1]; simp [h1]
theorem row_l0 (l : List S143) (hl : l.length ≤ 1000000) : ∀ (d k i : Nat) (lo : Int), i + d = l.length → d < k → span_Row.l0 k lo l (l.length : Int) (i : Int) = some (if okRow lo (l.drop i) then 0 else 2) := by
  intro d
  induction d with
  | zero =>
    intro k i lo hi hk
    obtain ⟨k, rfl⟩ : ∃ m, k = m + 1 := ⟨k - 1, by omega⟩
    rw [List.drop_eq_nil_of_le (by omega)]
    simp only [span_Row.l0]
    rw [if_neg (by omega)]
    rfl
  | succ d ih =>
    intro k i lo hi hk
    obtain ⟨k, rfl⟩ : ∃ m, k = m + 1 := ⟨k - 1, by omega⟩
    have hlt : i < l.length := by omega
    rw [drop_at hlt]
    simp only [span_Row.l0]
    rw [if_pos (by omega), if_pos (by omega), if_pos (by omega), right_eq, wrap_id (by omega) (by omega)]
    simp only [Option.bind_some, decide_eq_true_eq]
    have ih' := ih k (i + 1) (rd_T143 l i).f1 (by omega) (by omega)
    rw [show ((i + 1 : Nat) : Int) = (i : Int) + 1 by omega] at ih'
    by_cases h : 0 ≤ (rd_T143 l i).f0 ∧ (rd_T143 l i).f0 < (rd_T143 l i).f1 ∧ (rd_T143 l i).f1 ≤ 1125899906842624
    · rw [if_pos h]
      by_cases h2 : (rd_T143 l i).f0 < lo
      · rw [if_pos h2]
        have e : okRow lo (rd_T143 l i :: l.drop (i + 1)) = false := by unfold okRow; rw [decide_eq_false (by omega)]; rfl
        rw [e]; rfl
      · rw [if_neg h2, ih']
        have e : okRow lo (rd_T143 l i :: l.drop (i + 1)) = okRow (rd_T143 l i).f1 (l.drop (i + 1)) := by
          conv => lhs; unfold okRow
          rw [decide_eq_true (by omega)]; rfl
        rw [e]
    · rw [if_neg h]
      have e : okRow lo (rd_T143 l i :: l.drop (i + 1)) = false := by unfold okRow; rw [decide_eq_false (by omega)]; rfl
      rw [e]; rfl
theorem row_eq (l : List S143) (k : Nat) (hk : 33 < k) : span_Row.f k l = some (rowErr l) := by
  unfold span_Row.f rowErr
  by_cases h : 32 < l.length
  · rw [if_pos (by omega), if_pos h]
  · rw [if_neg (by omega), if_neg h]
    exact row_l0 l (by omega) l.length k 0 0 (by omega) (by omega)
theorem okRow_from {lo : Int} {l : List S143} (h : okRow lo l = true) : RowFrom lo l ∧ ∀ s, s ∈ l → s.f1 ≤ 1125899906842624 := by
  induction l generalizing lo with
  | nil => exact ⟨trivial, fun s hs => by cases hs⟩
  | cons s r ih =>
    simp only [okRow, Bool.and_eq_true, decide_eq_true_eq] at h
    obtain ⟨a, b⟩ := ih h.2
    refine ⟨⟨h.1.2.2.2, h.1.2.1, a⟩, fun t ht => ?_⟩
    rcases List.mem_cons.1 ht with rfl | ht
    · exact h.1.2.2.1
    · exact b t ht
theorem rowErr_ok {l : List S143} (h : rowErr l = 0) : RowOk 1125899906842624 l := by
  unfold rowErr at h
  split at h
  · omega
  · split at h
    · rename_i h1 h2
      obtain ⟨a, b⟩ := okRow_from h2
      exact ⟨by omega, a, b⟩
    · omega
theorem row_any (A : Option Addr) (c : Nat) (l : List S143) (w : World) (hr : Kd.C k143 w A l.length l) (hc : l.length ≤ c) :
    Calls Try.prog 90 #[.slice A l.length c] w fun e w' => e = .returned (.int .i64 (rowErr l)) ∧ Below w.heap.size w w' :=
  span_Row.calls 40 A c l _ w hr hc (row_eq l 40 (by omega))
def lastEnd (l : List S143) : Int := match l.getLast? with | some s => s.f1 | none => 0
def weekErr (l : List S143) : Int := if rowErr l = 0 then (if 604800 < lastEnd l then 2 else 0) else rowErr l
theorem RowFrom.le_last {lo : Int} {l : List S143} (h : RowFrom lo l) : ∀ s, s ∈ l → s.f1 ≤ lastEnd l := by
  induction l generalizing lo with
  | nil => intro s hs; cases hs
  | cons t r ih =>
    intro s hs
    cases r with
    | nil =>
      rcases List.mem_cons.1 hs with rfl | hs
      · exact Int.le_refl _
      · cases hs
    | cons u v =>
      have hl : lastEnd (t :: u :: v) = lastEnd (u :: v) := by simp [lastEnd, List.getLast?_cons_cons]
      rw [hl]
      rcases List.mem_cons.1 hs with rfl | hs
      · have h1 := ih h.2.2 u List.mem_cons_self
        have h2 := h.2.2.1
        have h3 := h.2.2.2.1
        omega
      · exact ih h.2.2 s hs
theorem weekErr_ok {l : List S143} (h : weekErr l = 0) : RowOk 604800 l := by
  unfold weekErr at h
  split at h
  · rename_i h1
    split at h
    · omega
    · have h2 := rowErr_ok h1
      exact ⟨h2.len, h2.row, fun s hs => by have := h2.row.le_last s hs; omega⟩
  · omega
end Go.Proofs.Ytepldlnmeenlbaa.Own
namespace Go.Proofs.Ytepldlnmeenlbaa.Own
open Go.RowKit Go.Proofs Go.Proofs.YtepldlnmeenlbaaW.PrintWords Go.Proofs.YtepldlnmeenlbaaW.PrintLast Go.Proofs.YtepldlnmeenlbaaW.PrintMore Go.Proofs.Ytepldlnmeenlbaa.Base
theorem infoU8 : (Try.prog.info? 5).map (fun i => (i.zero, i.size, i.bytes)) = some (some (.int .u8 0), 1, 1) := by kernel_rfl
def NoU8 (o : Obj) : Prop := ∀ cs, o ≠ .cells cs 5 (0, 0)
theorem noU8 {cs : Array Value} {t : TypeId} (h : t ≠ 5) : NoU8 (.cells cs t (0, 0)) := fun cs' e => by injection e with _ e; exact h e
structure WUpd (n wb : Nat) (w w' : World) : Prop where
  os : w'.os = w.os
  tape : w'.tape = w.tape
  output : w'.output = w.output
  size : w.heap.size ≤ w'.heap.size
  block : ∀ (k : Nat) (o : Obj), w.heap[k]? = some o → k ≠ wb → (k < n ∨ NoU8 o) → w'.heap[k]? = some o
theorem WUpd.refl (n wb : Nat) (w : World) : WUpd n wb w w := ⟨rfl, rfl, rfl, Nat.le_refl _, fun _ _ h _ _ => h⟩
theorem WUpd.trans {n wb : Nat} {u v w : World} (h : WUpd n wb u v) (k : WUpd n wb v w) : WUpd n wb u w :=
  ⟨k.os.trans h.os, k.tape.trans h.tape, k.output.trans h.output, Nat.le_trans h.size k.size, fun i o hi hne hc => k.block i o (h.block i o hi hne hc) hne hc⟩
theorem WUpd.of_below {n wb : Nat} {u v : World} (h : Below u.heap.size u v) : WUpd n wb u v := ⟨h.os, h.tape, h.output, h.size, fun k o hk _ _ => (h.block k (blk_lt hk)).trans hk⟩
theorem WUpd.drew {n wb : Nat} {u v : World} (h : WUpd n wb u v) : WUpd n wb u v.drew := ⟨h.os, h.tape, h.output, h.size, h.block⟩
theorem WUpd.below {n wb : Nat} {u v : World} (h : WUpd n wb u v) (hn : n ≤ wb) (hs : n ≤ u.heap.size) : Below n u v :=
  ⟨h.os, h.tape, h.output, h.size, fun k hk => by
    have hlt : k < u.heap.size := by omega
    rw [Array.getElem?_eq_getElem hlt]
    exact h.block k _ (Array.getElem?_eq_getElem hlt) (by omega) (.inl hk)⟩
theorem WUpd.blk {n wb g t : Nat} {u v : World} {cs : Array Value} (h : WUpd n wb u v) (hb : u.heap[g]? = some (.cells cs t (0, 0))) (hne : g ≠ wb) (ht : t ≠ 5) : v.heap[g]? = some (.cells cs t (0, 0)) := h.block g _ hb hne (.inr (noU8 ht))
structure WrV (w : World) (n wb : Nat) (v : Value) (bs : List Int) : Prop where
  blk : w.heap[wb]? = some (.cells #[v] 29 (0, 0))
  row : Kd.R (Kd.int .u8) 5 w n (fun k => k ≠ wb) v bs
  size : n ≤ w.heap.size
def WrAt (w : World) (n wb : Nat) (bs : List Int) : Prop := ∃ v, WrV w n wb v bs
theorem WrV.ne {w : World} {n wb : Nat} {v : Value} {bs : List Int} (h : WrV w n wb v bs) : some wb ≠ v.ownBlock := fun e => h.row.1 wb e.symm rfl
theorem WrV.below {w w' : World} {n wb : Nat} {v : Value} {bs : List Int} (h : WrV w n wb v bs) (hb : Below w.heap.size w w') : WrV w' n wb v bs :=
  ⟨blk_below h.blk hb, Kd.R_below h.row hb, Nat.le_trans h.size hb.size⟩
theorem WrAt.below {w w' : World} {n wb : Nat} {bs : List Int} (h : WrAt w n wb bs) (hb : Below w.heap.size w w') : WrAt w' n wb bs := ⟨h.choose, h.choose_spec.below hb⟩
theorem WrAt.new (w : World) : WrAt (w.alloc (.cells #[.slice none 0 0] 29)) w.heap.size w.heap.size [] :=
  ⟨_, blk_new w _, Kd.R_nil _ _ _ _ _, by simp⟩
theorem WrV.app {W w1 : World} {n wb : Nat} {v v1 : Value} {bs bs' : List Int} (h : WrV W n wb v bs) (hr : Kd.R (Kd.int .u8) 5 w1 n (fun k => k ≠ wb) v1 bs') (hg : W.grownBy w1 v.ownBlock) :
    WrV (w1.setCell ⟨wb, 0, none⟩ v1) n wb v1 bs' ∧ WUpd n wb W (w1.setCell ⟨wb, 0, none⟩ v1) := by
  have hb1 : w1.heap[wb]? = _ := blk_grown h.blk hg h.ne
  refine ⟨⟨blk_put hb1 0 v1 rfl, Kd.R_far hr (fun k hk => hk) v1, Nat.le_trans h.size (by simpa using hg.size)⟩, hg.os, hg.tape, hg.output, by simpa using hg.size, fun k o hk hne hc => ?_⟩
  rw [Below.heap_setCell _ _ _ _ hne]
  refine blk_grown hk hg (fun e => ?_)
  obtain ⟨inner, ho⟩ := Kd.R_own h.row
  obtain ⟨cells, hx⟩ := own_typed ho k e.symm
  rcases hc with hc | hc
  · have := own_base ho k e.symm; omega
  · rw [hx] at hk; injection hk with hk; exact hc cells hk.symm
theorem WrV.get {w : World} {n wb : Nat} {v : Value} {bs : List Int} (h : WrV w n wb v bs) : w.cell? ⟨wb, 0, none⟩ = some v := (blk_cell h.blk 0).trans rfl
theorem WrV.free {w : World} {n wb : Nat} {v : Value} {bs : List Int} (h : WrV w n wb v bs) : w.frozen? ⟨wb, 0, none⟩ = false := blk_frozen h.blk 0
def wnum_T9 : Bool × List (List Nat × List Nat) := (true, [([], []), ([], []), ([1], [1]), ([2], [2]), ([3], [3]), ([], []), ([], []), ([6], [6]), ([], []), ([7, 8], [7, 8]), ([9], [9]), ([5, 10], [5, 10]), ([11], [11]), ([12], [12]), ([4, 13], [4, 13]), ([0, 0, 1, 2, 3, 4, 5, 6, 7, 8, 9, 10, 11, 12, 13, 14], [0]), ([15, 0, 1, 2, 3, 4, 5, 6, 7, 8, 9, 10, 11, 12, 13, 14], [15]), ([16, 14, 14, 0, 1, 2, 3, 4, 5, 6, 7, 8, 9, 10, 11, 12, 13, 14], [14, 16])])
def wnum_B9 : List Nat := [0, 0, 2, 6, 14, 0, 0, 64, 0, 448, 960, 2016, 4064, 8160, 16382, 32767, 65535, 131071]
theorem wnum_tab9 : rtab .any (opsOf Try.f85 9) = wnum_T9 := by kernel_rfl
theorem wnum_bits9 : waitsOk wnum_T9.2 wnum_B9 = true := by kernel_rfl
set_option maxHeartbeats 1600000 in
set_option maxRecDepth 100000 in
theorem wnumber_any (n wb : Nat) (bs : List Int) (x mark : Int) (w : World) (h : WrAt w n wb bs) (x0 : 0 ≤ x) (x1 : x < 18446744073709551616) (hm : 0 ≤ mark) (hm2 : mark ≤ 128) (hl : bs.length + 9 ≤ 140737488355328) :
    Calls Try.prog 85 #[.pointer (some ⟨wb, 0, none⟩), .int .u64 x, .int .u8 mark] w fun e w' => e = .returned (.tuple #[]) ∧ WrAt w' n wb (bs ++ numB mark x) ∧ WUpd n wb w w' := by
  obtain ⟨v, hv⟩ := h
  obtain ⟨A, c, rfl⟩ := Kd.R_slice hv.row
  have HV := Aside0.mk hv
  have hd8 := digs_le 8 x.toNat (by omega)
  clear hv
  go_enter Try.func85, Try.ntmps85
  go_wp2
  go_loop [6, 7] (fun s y => ∃ (k : Nat) (z : Int), s = .int .i64 k ∧ y = .int .u64 z ∧ 0 ≤ z ∧ z ≤ x ∧ k ≤ 8 ∧ Aside0 (k + (digs z.toNat).length = (digs x.toNat).length)) (fun _ y => (intOf y).toNat)
  case atStart => exact ⟨0, x, rfl, rfl, x0, Int.le_refl _, by omega, ⟨by omega⟩⟩
  case round =>
    obtain ⟨k, z, rfl, rfl, z0, zx, k8, HK⟩ := hrel
    by_cases hz : 0 < z
    · go_wp2
      go_round
      case rel => exact ⟨k + 1, z / 256, by go_num, rfl, by omega, by omega, by have := HK.out; have := digs_len (n := z.toNat) (by omega); omega, ⟨by have := HK.out; rw [digs_len (n := z.toNat) (by omega), show z.toNat / 256 = (z / 256).toNat by omega] at this; omega⟩⟩
      case measure => simp [intOf]; omega
    · have hz0 : z = 0 := by omega
      have hk : k = (digs x.toNat).length := by have := HK.out; rw [hz0] at this; simpa [digs_zero] using this
      have HKK := Aside0.mk hk
      have c0 := HV.out.get
      have f0 := HV.out.free
      clear HK hk
      have hlt := blk_lt HV.out.blk
      go_wp2_with (((with_reducible refine gate_builtin (b := .append) (xs := #[.tmp 20, .tmp 25]) rfl ?_); at_builtin; refine Kd.R_append (Kd.int .u8) (w0 := w) n rfl (.tmp 20) (.tmp 25) 25 5 (.int .u8 0) 1 rfl Try.underlying25 infoU8 rfl (by decide) (by decide) (.slice A bs.length c) bs (mark + (k : Int)) [.int .u8 (mark + (k : Int))] (fun q => q ≠ wb) (fun _ => False) rfl rfl ?aP (fun _ hk => hk.elim) ?aF HV.out.row (Below.refl _ _) HV.out.size (by omega) ?_; (case aP => exact rfl); (case aF => exact fun q hq => by omega); intro v1 w1 ho hb hg hat; obtain ⟨A1, k1, rfl⟩ := Kd.R_slice ho; have HV1 := Aside0.mk (HV.out.app ho hg); have f1 : w1.frozen? ⟨wb, 0, none⟩ = false := blk_frozen (blk_grown HV.out.blk hg HV.out.ne) 0; have g1 : w1.cell? ⟨wb, 0, none⟩ = some (.slice A bs.length c) := (blk_cell (blk_grown HV.out.blk hg HV.out.ne) 0).trans rfl; clear ho hb hg hat c0 f0))
      have HW := Aside0.mk (show WrAt (w1.setCell ⟨wb, 0, none⟩ (.slice A1 (bs ++ [mark + (k : Int)]).length k1)) n wb (bs ++ [mark + (k : Int)]) ∧ WUpd n wb w (w1.setCell ⟨wb, 0, none⟩ (.slice A1 (bs ++ [mark + (k : Int)]).length k1)) from ⟨⟨_, HV1.out.1⟩, HV1.out.2⟩)
      rw [show (bs ++ [mark + (k : Int)]).length = bs.length + 1 by simp] at HW
      clear HV1 f1 g1 HV
      generalize w1.setCell ⟨wb, 0, none⟩ (.slice A1 (bs.length + 1) k1) = w2 at HW ⊢
      go_loopw [30] (fun y wr => ∃ j : Nat, y = .int .i64 j ∧ j ≤ k ∧ Aside0 (WrAt wr n wb (bs ++ [mark + (k : Int)] ++ (digs x.toNat).take j)) ∧ Aside0 (WUpd n wb w wr)) (fun y _ => k - (intOf y).toNat)
      case atStart => exact ⟨0, rfl, by omega, ⟨by simpa using HW.out.1⟩, ⟨HW.out.2⟩⟩
      case round =>
        clear HW
        obtain ⟨j, rfl, hj, HA, HU⟩ := hrel
        by_cases hjk : j < k
        · obtain ⟨v, hv⟩ := HA.out
          obtain ⟨A2, k2, rfl⟩ := Kd.R_slice hv.row
          have HV := Aside0.mk hv
          have hlt := blk_lt hv.blk
          clear hv HA
          have HV3 := Aside0.mk (HV.out.below (below_drew1 (Below.refl _ _)))
          have HU3 := Aside0.mk HU.out.drew
          have c0 := HV3.out.get
          go_wp2
          have hcl : (bs ++ [mark + (k : Int)] ++ (digs x.toNat).take j).length + 1 ≤ 140737488355328 := by simp [List.length_take]; omega
          have HN := Aside0.mk (show bs ++ [mark + (k : Int)] ++ (digs x.toNat).take (j + 1) = (bs ++ [mark + (k : Int)] ++ (digs x.toNat).take j) ++ [((x.toNat / 256 ^ (k - 1 - j) % 256 : Nat) : Int)] by
            have hg := digs_get x.toNat j (by have := HKK.out; omega)
            rw [← HKK.out] at hg
            rw [List.append_assoc _ _ [_]]
            congr 1
            rw [List.take_add_one, hg]; rfl)
          generalize bs ++ [mark + (k : Int)] ++ (digs x.toNat).take j = cs at hcl HN HV HV3 c0 ⊢
          have hw1 : wrap64 ((k : Int) - 1) = (k : Int) - 1 := wrap_id (by omega) (by omega)
          have hw2 : wrap64 ((k : Int) - 1 - (j : Int)) = (k : Int) - 1 - (j : Int) := wrap_id (by omega) (by omega)
          have hw3 : wrap64 (8 * ((k : Int) - 1 - (j : Int))) = 8 * ((k : Int) - 1 - (j : Int)) := wrap_id (by omega) (by omega)
          have hp3 : ¬ 8 * ((k : Int) - 1 - (j : Int)) < 0 := by omega
          have hlt3 : wb < wr.drew.heap.size := hlt
          clear hlt HU
          refine start_ (n := 18) (S := fun w' => w'.cell? ⟨wb, 0, none⟩ = some (.slice (A2) cs.length k2)) (ds := [14, 17]) #[false, false, false, false, false, false, false, false, false, false, false, false, false, false, false, false, false, false] (by kernel_rfl) rfl rfl c0 (fun hHeld => ?_); refine with_tabW wnum_tab9 wnum_bits9 (fun HT_ HW_ => ?_)
          clear c0
          generalize wr.drew = w3 at HV3 HU3 hlt3 hHeld ⊢
          refine pure_ (i := 0) (N := some 33) (v := ?_) (a' := ?_) #[true, false, false, false, false, false, false, false, false, false, false, false, false, false, false, false, false, false] rfl rfl (any_of HT_.out (by kernel_rfl)) (fun _ _ _ h => h) (Or.inl ⟨by rfl, ?_⟩) ?_ ?_
          rotate_left
          · intro w'
            go_simp
            with_reducible rfl
          rotate_left
          · simp only [Act.put, List.setIfInBounds_toArray, List.set_cons_zero, List.set_cons_succ, i64_w, i32_w]
            rfl
          refine pure_ (i := 1) (N := some 34) (v := ?_) (a' := ?_) #[true, true, false, false, false, false, false, false, false, false, false, false, false, false, false, false, false, false] rfl rfl (any_of HT_.out (by kernel_rfl)) (fun _ _ _ h => h) (Or.inl ⟨by rfl, ?_⟩) ?_ ?_
          rotate_left
          · intro w'
            go_simp
            with_reducible rfl
          rotate_left
          · simp only [Act.put, List.setIfInBounds_toArray, List.set_cons_zero, List.set_cons_succ, i64_w, i32_w]
            rfl
          refine pure_ (i := 2) (N := some 35) (v := ?_) (a' := ?_) #[true, true, true, false, false, false, false, false, false, false, false, false, false, false, false, false, false, false] rfl rfl (any_of HT_.out (by kernel_rfl)) (fun _ _ _ h => h) (Or.inl ⟨by rfl, ?_⟩) ?_ ?_
          rotate_left
          · intro w'
            go_simp
            with_reducible rfl
          rotate_left
          · simp only [Act.put, List.setIfInBounds_toArray, List.set_cons_zero, List.set_cons_succ, i64_w, i32_w]
            rfl
          refine pure_ (i := 3) (N := some 36) (v := ?_) (a' := ?_) #[true, true, true, true, false, false, false, false, false, false, false, false, false, false, false, false, false, false] rfl rfl (any_of HT_.out (by kernel_rfl)) (fun _ _ _ h => h) (Or.inl ⟨by rfl, ?_⟩) ?_ ?_
          rotate_left
          · intro w'
            go_simp
            with_reducible rfl
          rotate_left
          · simp only [Act.put, List.setIfInBounds_toArray, List.set_cons_zero, List.set_cons_succ, i64_w, i32_w]
            rfl
          refine pure_ (i := 5) (N := some 38) (v := ?_) (a' := ?_) #[true, true, true, true, false, true, false, false, false, false, false, false, false, false, false, false, false, false] rfl rfl (any_of HT_.out (by kernel_rfl)) (fun _ _ _ h => h) (Or.inl ⟨by rfl, ?_⟩) ?_ ?_
          rotate_left
          · intro w'
            go_simp
            with_reducible rfl
          rotate_left
          · simp only [Act.put, List.setIfInBounds_toArray, List.set_cons_zero, List.set_cons_succ, i64_w, i32_w]
            rfl
          refine pure_ (i := 6) (N := some 39) (v := ?_) (a' := ?_) #[true, true, true, true, false, true, true, false, false, false, false, false, false, false, false, false, false, false] rfl rfl (any_of HT_.out (by kernel_rfl)) (fun _ _ _ h => h) (Or.inl ⟨by rfl, ?_⟩) ?_ ?_
          rotate_left
          · intro w'
            go_simp
            with_reducible rfl
          rotate_left
          · simp only [Act.put, List.setIfInBounds_toArray, List.set_cons_zero, List.set_cons_succ, i64_w, i32_w]
            rfl
          refine pure_ (i := 7) (N := some 40) (v := ?_) (a' := ?_) #[true, true, true, true, false, true, true, true, false, false, false, false, false, false, false, false, false, false] rfl rfl (any_of HT_.out (by kernel_rfl)) (fun _ _ _ h => h) (Or.inl ⟨by rfl, ?_⟩) ?_ ?_
          rotate_left
          · intro w'
            go_simp
            with_reducible rfl
          rotate_left
          · simp only [Act.put, List.setIfInBounds_toArray, List.set_cons_zero, List.set_cons_succ, i64_w, i32_w]
            rfl
          refine pure_ (i := 8) (N := some 41) (v := ?_) (a' := ?_) #[true, true, true, true, false, true, true, true, true, false, false, false, false, false, false, false, false, false] rfl rfl (any_of HT_.out (by kernel_rfl)) (fun _ _ _ h => h) (Or.inl ⟨by rfl, ?_⟩) ?_ ?_
          rotate_left
          · intro w'
            go_simp
            with_reducible rfl
          rotate_left
          · simp only [Act.put, List.setIfInBounds_toArray, List.set_cons_zero, List.set_cons_succ, i64_w, i32_w]
            rfl
          refine pure_ (i := 9) (N := some 42) (v := ?_) (a' := ?_) #[true, true, true, true, false, true, true, true, true, true, false, false, false, false, false, false, false, false] rfl rfl (any_of HT_.out (by kernel_rfl)) (fun _ _ _ h => h) (Or.inl ⟨by rfl, ?_⟩) ?_ ?_
          rotate_left
          · intro w'
            go_simp
            with_reducible rfl
          rotate_left
          · simp only [Act.put, List.setIfInBounds_toArray, List.set_cons_zero, List.set_cons_succ, i64_w, i32_w]
            rfl
          refine pure_ (i := 10) (N := some 43) (v := ?_) (a' := ?_) #[true, true, true, true, false, true, true, true, true, true, true, false, false, false, false, false, false, false] rfl rfl (any_of HT_.out (by kernel_rfl)) (fun _ _ _ h => h) (Or.inl ⟨by rfl, ?_⟩) ?_ ?_
          rotate_left
          · intro w'
            go_simp
            with_reducible rfl
          rotate_left
          · simp only [Act.put, List.setIfInBounds_toArray, List.set_cons_zero, List.set_cons_succ, i64_w, i32_w]
            rfl
          refine pure_ (i := 11) (N := some 44) (v := ?_) (a' := ?_) #[true, true, true, true, false, true, true, true, true, true, true, true, false, false, false, false, false, false] rfl rfl (any_of HT_.out (by kernel_rfl)) (fun _ _ _ h => h) (Or.inl ⟨by rfl, ?_⟩) ?_ ?_
          rotate_left
          · intro w'
            go_simp
            with_reducible rfl
          rotate_left
          · simp only [Act.put, List.setIfInBounds_toArray, List.set_cons_zero, List.set_cons_succ, i64_w, i32_w]
            rfl
          refine pure_ (i := 12) (N := some 45) (v := ?_) (a' := ?_) #[true, true, true, true, false, true, true, true, true, true, true, true, true, false, false, false, false, false] rfl rfl (any_of HT_.out (by kernel_rfl)) (fun _ _ _ h => h) (Or.inl ⟨by rfl, ?_⟩) ?_ ?_
          rotate_left
          · intro w'
            go_simp
            with_reducible rfl
          rotate_left
          · simp only [Act.put, List.setIfInBounds_toArray, List.set_cons_zero, List.set_cons_succ, i64_w, i32_w]
            rfl
          refine take_ (i := 4) (N := some 37) (v := ?_) (a' := ?_) #[true, true, true, true, true, true, true, true, true, true, true, true, true, false, false, false, false, false] rfl rfl (take_ofW HT_.out HW_.out (by kernel_rfl)) (fun _ _ _ h => h) (Or.inl ⟨by rfl, ?_⟩) hHeld ?_ ?_
          rotate_left
          · rintro w' s0
            go_simp
            with_reducible rfl
          rotate_left
          · simp only [Act.put, List.setIfInBounds_toArray, List.set_cons_zero, List.set_cons_succ, i64_w, i32_w]
            rfl
          refine one_ (i := 13) (N := some 46) #[true, true, true, true, true, true, true, true, true, true, true, true, true, true, false, false, false, false] rfl rfl (one_of HT_.out (by kernel_rfl)) (by decide) (fun K hK => ?_)
          refine value_ (w1 := ?_) (v := ?_) (by rfl) rfl ?_ ?_
          rotate_left 2
          · go_simp
            constructor
            · rfl
            · rfl
          refine hK.out _ _ ((blk_cell (blk_alloc HV3.out.blk _) 0).trans rfl) (fun hHeld => ?_)
          clear hK K
          refine norm_ (a' := ?_) ?_ ?_
          rotate_left
          · show Act.put _ (some 46) _ = _
            simp only [Act.put, List.setIfInBounds_toArray, List.set_cons_zero, List.set_cons_succ, i64_w, i32_w]
            rfl
          refine last_ (i := 14) (N := some 47) #[true, true, true, true, true, true, true, true, true, true, true, true, true, true, true, false, false, false] rfl rfl (one_of HT_.out (by kernel_rfl)) (by decide) (fun K hK => ?_)
          refine Kd.R_append_step (Kd.int .u8) n (by rfl) (.tmp 37) (.tmp 46) 25 5 (.int .u8 0) 1 rfl Try.underlying25 infoU8 rfl (by decide) (by omega) (.slice A2 cs.length k2) cs (IntKind.u8.wrap (x / 2 ^ (8 * ((k : Int) - 1 - (j : Int))).toNat)) [.int .u8 (IntKind.u8.wrap (x / 2 ^ (8 * ((k : Int) - 1 - (j : Int))).toNat))] (fun q => q ≠ wb) (fun _ => False) rfl rfl ?aP (fun _ hk => hk.elim) ?aF ?aO (Below.refl _ _) ?aS ?aL ?_
          (case aP => exact rfl)
          (case aF => exact fun q hq => by omega)
          (case aO => exact HV3.out.row)
          (case aS => exact HV3.out.size)
          (case aL => omega)
          intro v1_ w1_ ho_ hb_ hg_ hat_
          have HOa := Aside0.mk ho_
          have HOaB := Aside0.mk hb_
          have HOaG := Aside0.mk hg_
          clear ho_ hb_ hg_ hat_
          obtain ⟨A4, k4, rfl⟩ := Kd.R_slice HOa.out
          have f4 : w1_.frozen? ⟨wb, 0, none⟩ = false := blk_frozen (blk_grown HV3.out.blk HOaG.out HV3.out.ne) 0
          have g4 : w1_.cell? ⟨wb, 0, none⟩ = some (.slice A2 cs.length k2) := (blk_cell (blk_grown HV3.out.blk HOaG.out HV3.out.ne) 0).trans rfl
          have HV4 := Aside0.mk (HV3.out.app HOa.out HOaG.out)
          refine hK.out _ _ ?_
          clear hK K
          refine norm_ (a' := ?_) ?_ ?_
          rotate_left
          · show Act.put _ (some 47) _ = _
            simp only [Act.put, List.setIfInBounds_toArray, List.set_cons_zero, List.set_cons_succ, i64_w, i32_w]
            rfl
          refine pure_ (i := 15) (N := some 48) (v := ?_) (a' := ?_) #[true, true, true, true, true, true, true, true, true, true, true, true, true, true, true, true, false, false] rfl rfl (any_of HT_.out (by kernel_rfl)) (fun _ _ _ h => h) (Or.inl ⟨by rfl, ?_⟩) ?_ ?_
          rotate_left
          · intro w'
            go_simp
            with_reducible rfl
          rotate_left
          · simp only [Act.put, List.setIfInBounds_toArray, List.set_cons_zero, List.set_cons_succ, i64_w, i32_w]
            rfl
          refine pure_ (i := 16) (N := some 49) (v := ?_) (a' := ?_) #[true, true, true, true, true, true, true, true, true, true, true, true, true, true, true, true, true, false] rfl rfl (any_of HT_.out (by kernel_rfl)) (fun _ _ _ h => h) (Or.inl ⟨by rfl, ?_⟩) ?_ ?_
          rotate_left
          · intro w'
            go_simp
            with_reducible rfl
          rotate_left
          · simp only [Act.put, List.setIfInBounds_toArray, List.set_cons_zero, List.set_cons_succ, i64_w, i32_w]
            rfl
          refine last_ (i := 17) (N := none) #[true, true, true, true, true, true, true, true, true, true, true, true, true, true, true, true, true, true] rfl rfl (one_of HT_.out (by kernel_rfl)) (by decide) (fun K hK => ?_)
          refine skip_ (w1 := ?_) (by rfl) rfl ?_ ?_
          rotate_left 1
          · go_simp
            rfl
          refine hK.out _ _ ?_
          clear hK K
          refine done_ (done_of HT_.out (by kernel_rfl)) ?_
          clear f4 g4 HOa HOaB HOaG HT_ HW_ hHeld
          have hv : IntKind.u8.wrap (x / 2 ^ (8 * ((k : Int) - 1 - (j : Int))).toNat) = ((x.toNat / 256 ^ (k - 1 - j) % 256 : Nat) : Int) := by
            rw [show (8 * ((k : Int) - 1 - (j : Int))).toNat = 8 * (k - 1 - j) by omega]
            obtain ⟨y, rfl⟩ := Int.eq_ofNat_of_zero_le x0
            rw [show ((256 : Nat)) = 2 ^ 8 from rfl, ← Nat.pow_mul]
            simp [IntKind.wrap, show IntKind.u8.signed = false from rfl, show IntKind.u8.bits = 8 from rfl]
          rw [hv] at HV4
          go_wp2
          exact ⟨⟨j + 1, by go_num, by omega, ⟨by rw [HN.out]; exact ⟨_, by have := HV4.out.1; simpa using this⟩⟩, ⟨HU3.out.trans (by have := HV4.out.2; simpa using this)⟩⟩, by simp [intOf]; omega⟩
        · have hj2 : j = k := by omega
          have HA2 : Aside0 (WrAt wr n wb (bs ++ numB mark x)) := ⟨by have := HA.out; rw [hj2, HKK.out, List.take_length, List.append_assoc] at this; exact this⟩
          clear HA HKK hj2
          go_wp2
          go_end0
          exact ⟨rfl, HA2.out, HU.out⟩
end Go.Proofs.Ytepldlnmeenlbaa.Own
namespace Go.Proofs.Ytepldlnmeenlbaa.Own
open Go.RowKit Go.Proofs Go.Proofs.YtepldlnmeenlbaaW.PrintWords Go.Proofs.YtepldlnmeenlbaaW.PrintLast Go.Proofs.YtepldlnmeenlbaaW.PrintMore Go.Proofs.Ytepldlnmeenlbaa.Base
structure RdV (t : TypeId) (m : Nat) (w : World) (rb : Nat) (A : Option Addr) (c : Nat) (s : List Int × Bool) : Prop where
  blk : w.heap[rb]? = some (.cells #[.slice A s.1.length c, .bool s.2] t (0, 0))
  cap : s.1.length ≤ c
  row : Kd.C (Kd.int .u8) w A s.1.length s.1
  far : ∀ ad, A = some ad → ad.block < m
  mrb : m ≤ rb
  byte : ∀ x, x ∈ s.1 → 0 ≤ x ∧ x ≤ 255
def RdAt (t : TypeId) (m : Nat) (w : World) (rb : Nat) (s : List Int × Bool) : Prop := ∃ A c, RdV t m w rb A c s
variable {t : TypeId} {m rb c : Nat} {w w' : World} {A : Option Addr} {s : List Int × Bool}
theorem RdV.below (h : RdV t m w rb A c s) (hb : Below w.heap.size w w') : RdV t m w' rb A c s := ⟨blk_below h.blk hb, h.cap, Kd.C_below h.row hb, h.far, h.mrb, h.byte⟩
theorem RdAt.below (h : RdAt t m w rb s) (hb : Below w.heap.size w w') : RdAt t m w' rb s := by obtain ⟨A, c, h⟩ := h; exact ⟨A, c, h.below hb⟩
theorem C_blocks {k : IntKind} {l : List Int} (h : Kd.C (Kd.int k) w A l.length l) (hm : ∀ ad, A = some ad → w'.heap[ad.block]? = w.heap[ad.block]?) : Kd.C (Kd.int k) w' A l.length l := by
  refine ⟨h.1, h.2.1, fun h0 => ?_⟩
  obtain ⟨ad, e, hx⟩ := h.2.2 h0
  refine ⟨ad, e, fun j p hp => ?_⟩
  obtain ⟨cs, h1, h2, h3⟩ := hx j p hp
  exact ⟨cs, h1, h2, fun i u hu => by rw [← h3 i u hu]; exact World.cell?_of_block (by rw [add_block]; exact hm ad e)⟩
theorem RdV.upd {b : Nat} (h : RdV t m w rb A c s) (hu : Upd b w w') (hb : m ≤ b) (hne : rb ≠ b) : RdV t m w' rb A c s :=
  ⟨hu.blk h.blk hne, h.cap, C_blocks h.row (fun ad e => by
    have h1 := h.far ad e
    have h2 := blk_lt h.blk
    have h3 := h.mrb
    exact hu.block ad.block (by omega) (fun e => by injection e with e; omega)), h.far, h.mrb, h.byte⟩
theorem RdAt.upd {b : Nat} (h : RdAt t m w rb s) (hu : Upd b w w') (hb : m ≤ b) (hne : rb ≠ b) : RdAt t m w' rb s := by obtain ⟨A, c, h⟩ := h; exact ⟨A, c, h.upd hu hb hne⟩
theorem RdV.g0 (h : RdV t m w rb A c s) : w.cell? ⟨rb, 0, none⟩ = some (.slice A s.1.length c) := (blk_cell h.blk 0).trans rfl
theorem RdV.g1 (h : RdV t m w rb A c s) : w.cell? ⟨rb, 1, none⟩ = some (.bool s.2) := (blk_cell h.blk 1).trans rfl
theorem RdV.f0 (h : RdV t m w rb A c s) : w.frozen? ⟨rb, 0, none⟩ = false := blk_frozen h.blk 0
theorem RdV.f1 (h : RdV t m w rb A c s) : w.frozen? ⟨rb, 1, none⟩ = false := blk_frozen h.blk 1
theorem RdV.failed (h : RdV t m w rb A c s) : RdV t m ((w.setCell ⟨rb, 0, none⟩ (.slice none 0 0)).setCell ⟨rb, 1, none⟩ (.bool true)) rb none 0 ([], true) ∧ Upd rb w ((w.setCell ⟨rb, 0, none⟩ (.slice none 0 0)).setCell ⟨rb, 1, none⟩ (.bool true)) :=
  ⟨⟨blk_put (blk_put h.blk 0 (.slice none 0 0) rfl) 1 (.bool true) rfl, Nat.le_refl _, ⟨rfl, by decide, fun h => absurd h (by simp)⟩, fun _ e => (by cases e), h.mrb, fun _ hx => by cases hx⟩, ((Upd.refl rb w).set 0 _).set 1 _⟩
theorem RdV.cut (h : RdV t m w rb A c s) {A' : Option Addr} {c' : Nat} {l : List Int} (hr : Kd.C (Kd.int .u8) w A' l.length l) (hc : l.length ≤ c') (hf : ∀ ad, A' = some ad → ad.block < m) (hl : ∀ x, x ∈ l → x ∈ s.1) :
    RdV t m (w.setCell ⟨rb, 0, none⟩ (.slice A' l.length c')) rb A' c' (l, s.2) ∧ Upd rb w (w.setCell ⟨rb, 0, none⟩ (.slice A' l.length c')) :=
  ⟨⟨blk_put h.blk 0 _ rfl, hc, C_blocks hr (fun ad e => Below.heap_setCell _ _ _ _ (by have := hf ad e; have := h.mrb; show ad.block ≠ rb; omega)), hf, h.mrb, fun x hx => h.byte x (hl x hx)⟩, (Upd.refl rb w).set 0 _⟩
set_option maxHeartbeats 1600000 in
set_option maxRecDepth 100000 in
theorem ropen_any (A : Option Addr) (c m : Nat) (l : List Int) (w : World) (hr : Kd.C (Kd.int .u8) w A l.length l) (hc : l.length ≤ c) (hm : m ≤ w.heap.size) (hf : ∀ ad, A = some ad → ad.block < m) (hb : ∀ x, x ∈ l → 0 ≤ x ∧ x ≤ 255) :
    Calls Try.prog 13 #[.slice A l.length c] w fun e w' => e = .returned (.pointer (some ⟨w.heap.size, 0, none⟩)) ∧ RdAt 92 m w' w.heap.size (l, false) ∧ Below w.heap.size w w' := by
  have HX : Aside0 (RdAt 92 m (w.alloc (.cells #[.slice A l.length c, .bool false] 92)) w.heap.size (l, false)) := ⟨A, c, blk_new w _, hc, Kd.C_below hr (below_alloc (Below.refl _ _) _), hf, hm, hb⟩
  clear hr hf hb
  go_enter Try.func13, Try.ntmps13
  go_wp2
  go_ret
  exact ⟨rfl, HX.out, below_alloc (Below.refl _ _) _⟩
set_option maxHeartbeats 1600000 in
set_option maxRecDepth 100000 in
theorem rleft_any (w : World) (h : RdAt 92 m w rb s) : Calls Try.prog 17 #[.pointer (some ⟨rb, 0, none⟩)] w fun e w' => e = .returned (.int .i64 (s.1.length : Int)) ∧ w = w' := by
  obtain ⟨A, c, h⟩ := h
  have c0 := h.g0
  have hl : s.1.length ≤ 9223372036854775807 := h.row.2.1
  clear h
  go_enter Try.func17, Try.ntmps17
  go_wp2
  go_ret
  exact ⟨rfl, rfl⟩
set_option maxHeartbeats 1600000 in
set_option maxRecDepth 100000 in
theorem rbad_any (w : World) (h : RdAt 92 m w rb s) : Calls Try.prog 18 #[.pointer (some ⟨rb, 0, none⟩)] w fun e w' => e = .returned (.bool s.2) ∧ w = w' := by
  obtain ⟨A, c, h⟩ := h
  have c1 := h.g1
  clear h
  go_enter Try.func18, Try.ntmps18
  go_wp2
  go_ret
  exact ⟨rfl, rfl⟩
set_option maxHeartbeats 1600000 in
set_option maxRecDepth 100000 in
theorem rfail_any (w : World) (h : RdAt 92 m w rb s) : Calls Try.prog 47 #[.pointer (some ⟨rb, 0, none⟩)] w fun e w' => e = .returned (.tuple #[]) ∧ RdAt 92 m w' rb ([], true) ∧ Upd rb w w' := by
  obtain ⟨A, c, h⟩ := h
  have c0 := h.g0
  have c1 := h.g1
  have f0 := h.f0
  have f1 := h.f1
  have HF := Aside0.mk h.failed
  clear h
  go_enter Try.func47, Try.ntmps47
  go_wp2
  go_end0
  exact ⟨rfl, ⟨none, 0, HF.out.1⟩, HF.out.2⟩
end Go.Proofs.Ytepldlnmeenlbaa.Own
namespace Go.Proofs.Ytepldlnmeenlbaa.Own
open Go.RowKit Go.Proofs Go.Proofs.YtepldlnmeenlbaaW.PrintWords Go.Proofs.YtepldlnmeenlbaaW.PrintLast Go.Proofs.YtepldlnmeenlbaaW.PrintMore Go.Proofs.Ytepldlnmeenlbaa.Base
variable {t : TypeId} {m rb c : Nat} {w w' : World} {A : Option Addr} {s : List Int × Bool} {bs : List Int} {bad : Bool}
theorem add0 (ad : Addr) : ad.add ((0 : Int).toNat) = ad := by simp [Addr.add]
theorem add1 (ad : Addr) : ad.add 1 = ⟨ad.block, ad.off + 1, none⟩ := by simp [Addr.add]
set_option maxHeartbeats 4000000 in
set_option maxRecDepth 100000 in
theorem rnum_nil_false (most : Int) (w : World) (h : RdAt 92 m w rb (bs, bad)) (m0 : 0 ≤ most) (m1 : most < 18446744073709551616) (hb : bs = []) :
    Calls Try.prog 86 #[.pointer (some ⟨rb, 0, none⟩), .int .u64 most, .bool false] w fun e w' => e = .returned (.tuple #[.int .u64 0, .bool false]) ∧ RdAt 92 m w' rb ([], true) ∧ Upd rb w w' := by
  subst hb
  have HH := Aside0.mk h
  clear h
  go_enter Try.func86, Try.ntmps86
  go_wp2_with (first | (go_at_call 17; refine (rleft_any w HH.out).mono ?_; rintro e w2 ⟨rfl, rfl⟩) | (go_at_call 47; refine (rfail_any w HH.out).mono ?_; rintro e w2 ⟨rfl, q1, q2⟩; have H1 := Aside0.mk q1; have H2 := Aside0.mk q2; clear q1 q2))
  go_ret2
  exact ⟨rfl, H1.out, H2.out⟩
set_option maxHeartbeats 4000000 in
set_option maxRecDepth 100000 in
theorem rnum_big_false (most : Int) (w : World) (h : RdAt 92 m w rb (bs, bad)) (m0 : 0 ≤ most) (m1 : most < 18446744073709551616) (hp : 0 < bs.length) (h1 : 8 < rd bs 0) :
    Calls Try.prog 86 #[.pointer (some ⟨rb, 0, none⟩), .int .u64 most, .bool false] w fun e w' => e = .returned (.tuple #[.int .u64 0, .bool false]) ∧ RdAt 92 m w' rb ([], true) ∧ Upd rb w w' := by
  obtain ⟨A, c, h⟩ := h
  have HH : Aside0 (RdAt 92 m w rb (bs, bad)) := ⟨A, c, h⟩
  have c0 : w.cell? ⟨rb, 0, none⟩ = some (.slice A bs.length c) := h.g0
  obtain ⟨ad, rfl, hx0⟩ := Kd.at_int h.row 0 (Int.le_refl _) (show (0 : Int) < (bs.length : Nat) by omega)
  rw [add0] at hx0
  have hz := h.byte _ (rd_mem (Int.le_refl 0) (show (0 : Int) < bs.length by omega))
  have hm : bs.length ≤ 9223372036854775807 := h.row.2.1
  have p0 : (0 : Int) < bs.length := by omega
  have hne : ((bs.length : Int) == 0) = false := beq_eq_false_iff_ne.mpr (by omega)
  have HV := Aside0.mk h
  clear h
  generalize rd bs 0 = z at hx0 hz h1
  obtain ⟨z0, z1⟩ := hz
  have d1 : decide (8 < z) = true := decide_eq_true h1
  go_enter Try.func86, Try.ntmps86
  go_wp2_with (first | (go_at_call 17; refine (rleft_any w HH.out).mono ?_; rintro e w2 ⟨rfl, rfl⟩) | (go_at_call 47; refine (rfail_any w HH.out).mono ?_; rintro e w2 ⟨rfl, q1, q2⟩; have H1 := Aside0.mk q1; have H2 := Aside0.mk q2; clear q1 q2))
  go_ret2
  exact ⟨rfl, H1.out, H2.out⟩
set_option maxHeartbeats 4000000 in
set_option maxRecDepth 100000 in
theorem rnum_short_false (most : Int) (w : World) (h : RdAt 92 m w rb (bs, bad)) (m0 : 0 ≤ most) (m1 : most < 18446744073709551616) (hp : 0 < bs.length) (h1 : ¬ 8 < rd bs 0) (h2 : (bs.length : Int) ≤ rd bs 0) :
    Calls Try.prog 86 #[.pointer (some ⟨rb, 0, none⟩), .int .u64 most, .bool false] w fun e w' => e = .returned (.tuple #[.int .u64 0, .bool false]) ∧ RdAt 92 m w' rb ([], true) ∧ Upd rb w w' := by
  obtain ⟨A, c, h⟩ := h
  have HH : Aside0 (RdAt 92 m w rb (bs, bad)) := ⟨A, c, h⟩
  have c0 : w.cell? ⟨rb, 0, none⟩ = some (.slice A bs.length c) := h.g0
  obtain ⟨ad, rfl, hx0⟩ := Kd.at_int h.row 0 (Int.le_refl _) (show (0 : Int) < (bs.length : Nat) by omega)
  rw [add0] at hx0
  have hz := h.byte _ (rd_mem (Int.le_refl 0) (show (0 : Int) < bs.length by omega))
  have hm : bs.length ≤ 9223372036854775807 := h.row.2.1
  have p0 : (0 : Int) < bs.length := by omega
  have hne : ((bs.length : Int) == 0) = false := beq_eq_false_iff_ne.mpr (by omega)
  have HV := Aside0.mk h
  clear h
  generalize rd bs 0 = z at hx0 hz h1 h2
  obtain ⟨z0, z1⟩ := hz
  have d1 : decide (8 < z) = false := decide_eq_false h1
  have d2 : decide ((bs.length : Int) ≤ z) = true := decide_eq_true h2
  go_enter Try.func86, Try.ntmps86
  go_wp2_with (first | (go_at_call 17; refine (rleft_any w HH.out).mono ?_; rintro e w2 ⟨rfl, rfl⟩) | (go_at_call 47; refine (rfail_any w HH.out).mono ?_; rintro e w2 ⟨rfl, q1, q2⟩; have H1 := Aside0.mk q1; have H2 := Aside0.mk q2; clear q1 q2))
  go_ret2
  exact ⟨rfl, H1.out, H2.out⟩
set_option maxHeartbeats 4000000 in
set_option maxRecDepth 100000 in
theorem rnum_lead_false (most : Int) (w : World) (h : RdAt 92 m w rb (bs, bad)) (m0 : 0 ≤ most) (m1 : most < 18446744073709551616) (hp : 0 < bs.length) (h1 : ¬ 8 < rd bs 0) (h2 : ¬ (bs.length : Int) ≤ rd bs 0) (h3 : 0 < rd bs 0) (h4 : rd bs 1 = 0) :
    Calls Try.prog 86 #[.pointer (some ⟨rb, 0, none⟩), .int .u64 most, .bool false] w fun e w' => e = .returned (.tuple #[.int .u64 0, .bool false]) ∧ RdAt 92 m w' rb ([], true) ∧ Upd rb w w' := by
  obtain ⟨A, c, h⟩ := h
  have HH : Aside0 (RdAt 92 m w rb (bs, bad)) := ⟨A, c, h⟩
  have c0 : w.cell? ⟨rb, 0, none⟩ = some (.slice A bs.length c) := h.g0
  obtain ⟨ad, rfl, hx0⟩ := Kd.at_int h.row 0 (Int.le_refl _) (show (0 : Int) < (bs.length : Nat) by omega)
  rw [add0] at hx0
  have hz := h.byte _ (rd_mem (Int.le_refl 0) (show (0 : Int) < bs.length by omega))
  have hm : bs.length ≤ 9223372036854775807 := h.row.2.1
  have p0 : (0 : Int) < bs.length := by omega
  have hne : ((bs.length : Int) == 0) = false := beq_eq_false_iff_ne.mpr (by omega)
  obtain ⟨ad', e', hx1⟩ := Kd.at_int h.row 1 (by omega) (show (1 : Int) < (bs.length : Nat) by omega)
  cases e'
  rw [show (1 : Int).toNat = 1 from rfl, add1] at hx1
  have p1 : (1 : Int) < bs.length := by omega
  rw [h4] at hx1
  clear h4
  have HV := Aside0.mk h
  clear h
  generalize rd bs 0 = z at hx0 hz h1 h2 h3
  obtain ⟨z0, z1⟩ := hz
  have d1 : decide (8 < z) = false := decide_eq_false h1
  have d2 : decide ((bs.length : Int) ≤ z) = false := decide_eq_false h2
  have d3 : decide (0 < z) = true := decide_eq_true h3
  go_enter Try.func86, Try.ntmps86
  go_wp2_with (first | (go_at_call 17; refine (rleft_any w HH.out).mono ?_; rintro e w2 ⟨rfl, rfl⟩) | (go_at_call 47; refine (rfail_any w HH.out).mono ?_; rintro e w2 ⟨rfl, q1, q2⟩; have H1 := Aside0.mk q1; have H2 := Aside0.mk q2; clear q1 q2))
  go_ret2
  exact ⟨rfl, H1.out, H2.out⟩
set_option maxHeartbeats 4000000 in
set_option maxRecDepth 100000 in
theorem rnum_nil_true (most : Int) (w : World) (h : RdAt 92 m w rb (bs, bad)) (m0 : 0 ≤ most) (m1 : most < 18446744073709551616) (hb : bs = []) :
    Calls Try.prog 86 #[.pointer (some ⟨rb, 0, none⟩), .int .u64 most, .bool true] w fun e w' => e = .returned (.tuple #[.int .u64 0, .bool false]) ∧ RdAt 92 m w' rb ([], true) ∧ Upd rb w w' := by
  subst hb
  have HH := Aside0.mk h
  clear h
  go_enter Try.func86, Try.ntmps86
  go_wp2_with (first | (go_at_call 17; refine (rleft_any w HH.out).mono ?_; rintro e w2 ⟨rfl, rfl⟩) | (go_at_call 47; refine (rfail_any w HH.out).mono ?_; rintro e w2 ⟨rfl, q1, q2⟩; have H1 := Aside0.mk q1; have H2 := Aside0.mk q2; clear q1 q2))
  go_ret2
  exact ⟨rfl, H1.out, H2.out⟩
set_option maxHeartbeats 4000000 in
set_option maxRecDepth 100000 in
theorem rnum_big_true (most : Int) (w : World) (h : RdAt 92 m w rb (bs, bad)) (m0 : 0 ≤ most) (m1 : most < 18446744073709551616) (hp : 0 < bs.length) (h1 : 8 < rd bs 0 % 128) :
    Calls Try.prog 86 #[.pointer (some ⟨rb, 0, none⟩), .int .u64 most, .bool true] w fun e w' => e = .returned (.tuple #[.int .u64 0, .bool false]) ∧ RdAt 92 m w' rb ([], true) ∧ Upd rb w w' := by
  obtain ⟨A, c, h⟩ := h
  have HH : Aside0 (RdAt 92 m w rb (bs, bad)) := ⟨A, c, h⟩
  have c0 : w.cell? ⟨rb, 0, none⟩ = some (.slice A bs.length c) := h.g0
  obtain ⟨ad, rfl, hx0⟩ := Kd.at_int h.row 0 (Int.le_refl _) (show (0 : Int) < (bs.length : Nat) by omega)
  rw [add0] at hx0
  have hz := h.byte _ (rd_mem (Int.le_refl 0) (show (0 : Int) < bs.length by omega))
  have hm : bs.length ≤ 9223372036854775807 := h.row.2.1
  have p0 : (0 : Int) < bs.length := by omega
  have hne : ((bs.length : Int) == 0) = false := beq_eq_false_iff_ne.mpr (by omega)
  have HV := Aside0.mk h
  clear h
  generalize rd bs 0 = z at hx0 hz h1
  obtain ⟨z0, z1⟩ := hz
  have d1 : decide (8 < z % 128) = true := decide_eq_true h1
  go_enter Try.func86, Try.ntmps86
  go_wp2_with (first | (go_at_call 17; refine (rleft_any w HH.out).mono ?_; rintro e w2 ⟨rfl, rfl⟩) | (go_at_call 47; refine (rfail_any w HH.out).mono ?_; rintro e w2 ⟨rfl, q1, q2⟩; have H1 := Aside0.mk q1; have H2 := Aside0.mk q2; clear q1 q2))
  go_ret2
  exact ⟨rfl, H1.out, H2.out⟩
set_option maxHeartbeats 4000000 in
set_option maxRecDepth 100000 in
theorem rnum_short_true (most : Int) (w : World) (h : RdAt 92 m w rb (bs, bad)) (m0 : 0 ≤ most) (m1 : most < 18446744073709551616) (hp : 0 < bs.length) (h1 : ¬ 8 < rd bs 0 % 128) (h2 : (bs.length : Int) ≤ rd bs 0 % 128) :
    Calls Try.prog 86 #[.pointer (some ⟨rb, 0, none⟩), .int .u64 most, .bool true] w fun e w' => e = .returned (.tuple #[.int .u64 0, .bool false]) ∧ RdAt 92 m w' rb ([], true) ∧ Upd rb w w' := by
  obtain ⟨A, c, h⟩ := h
  have HH : Aside0 (RdAt 92 m w rb (bs, bad)) := ⟨A, c, h⟩
  have c0 : w.cell? ⟨rb, 0, none⟩ = some (.slice A bs.length c) := h.g0
  obtain ⟨ad, rfl, hx0⟩ := Kd.at_int h.row 0 (Int.le_refl _) (show (0 : Int) < (bs.length : Nat) by omega)
  rw [add0] at hx0
  have hz := h.byte _ (rd_mem (Int.le_refl 0) (show (0 : Int) < bs.length by omega))
  have hm : bs.length ≤ 9223372036854775807 := h.row.2.1
  have p0 : (0 : Int) < bs.length := by omega
  have hne : ((bs.length : Int) == 0) = false := beq_eq_false_iff_ne.mpr (by omega)
  have HV := Aside0.mk h
  clear h
  generalize rd bs 0 = z at hx0 hz h1 h2
  obtain ⟨z0, z1⟩ := hz
  have d1 : decide (8 < z % 128) = false := decide_eq_false h1
  have d2 : decide ((bs.length : Int) ≤ z % 128) = true := decide_eq_true h2
  go_enter Try.func86, Try.ntmps86
  go_wp2_with (first | (go_at_call 17; refine (rleft_any w HH.out).mono ?_; rintro e w2 ⟨rfl, rfl⟩) | (go_at_call 47; refine (rfail_any w HH.out).mono ?_; rintro e w2 ⟨rfl, q1, q2⟩; have H1 := Aside0.mk q1; have H2 := Aside0.mk q2; clear q1 q2))
  go_ret2
  exact ⟨rfl, H1.out, H2.out⟩
set_option maxHeartbeats 4000000 in
set_option maxRecDepth 100000 in
theorem rnum_lead_true (most : Int) (w : World) (h : RdAt 92 m w rb (bs, bad)) (m0 : 0 ≤ most) (m1 : most < 18446744073709551616) (hp : 0 < bs.length) (h1 : ¬ 8 < rd bs 0 % 128) (h2 : ¬ (bs.length : Int) ≤ rd bs 0 % 128) (h3 : 0 < rd bs 0 % 128) (h4 : rd bs 1 = 0) :
    Calls Try.prog 86 #[.pointer (some ⟨rb, 0, none⟩), .int .u64 most, .bool true] w fun e w' => e = .returned (.tuple #[.int .u64 0, .bool false]) ∧ RdAt 92 m w' rb ([], true) ∧ Upd rb w w' := by
  obtain ⟨A, c, h⟩ := h
  have HH : Aside0 (RdAt 92 m w rb (bs, bad)) := ⟨A, c, h⟩
  have c0 : w.cell? ⟨rb, 0, none⟩ = some (.slice A bs.length c) := h.g0
  obtain ⟨ad, rfl, hx0⟩ := Kd.at_int h.row 0 (Int.le_refl _) (show (0 : Int) < (bs.length : Nat) by omega)
  rw [add0] at hx0
  have hz := h.byte _ (rd_mem (Int.le_refl 0) (show (0 : Int) < bs.length by omega))
  have hm : bs.length ≤ 9223372036854775807 := h.row.2.1
  have p0 : (0 : Int) < bs.length := by omega
  have hne : ((bs.length : Int) == 0) = false := beq_eq_false_iff_ne.mpr (by omega)
  obtain ⟨ad', e', hx1⟩ := Kd.at_int h.row 1 (by omega) (show (1 : Int) < (bs.length : Nat) by omega)
  cases e'
  rw [show (1 : Int).toNat = 1 from rfl, add1] at hx1
  have p1 : (1 : Int) < bs.length := by omega
  rw [h4] at hx1
  clear h4
  have HV := Aside0.mk h
  clear h
  generalize rd bs 0 = z at hx0 hz h1 h2 h3
  obtain ⟨z0, z1⟩ := hz
  have d1 : decide (8 < z % 128) = false := decide_eq_false h1
  have d2 : decide ((bs.length : Int) ≤ z % 128) = false := decide_eq_false h2
  have d3 : decide (0 < z % 128) = true := decide_eq_true h3
  go_enter Try.func86, Try.ntmps86
  go_wp2_with (first | (go_at_call 17; refine (rleft_any w HH.out).mono ?_; rintro e w2 ⟨rfl, rfl⟩) | (go_at_call 47; refine (rfail_any w HH.out).mono ?_; rintro e w2 ⟨rfl, q1, q2⟩; have H1 := Aside0.mk q1; have H2 := Aside0.mk q2; clear q1 q2))
  go_ret2
  exact ⟨rfl, H1.out, H2.out⟩
end Go.Proofs.Ytepldlnmeenlbaa.Own
namespace Go.Proofs.Ytepldlnmeenlbaa.Own
open Go.RowKit Go.Proofs Go.Proofs.YtepldlnmeenlbaaW.PrintWords Go.Proofs.YtepldlnmeenlbaaW.PrintLast Go.Proofs.YtepldlnmeenlbaaW.PrintMore Go.Proofs.Ytepldlnmeenlbaa.Base
variable {t : TypeId} {m rb c : Nat} {w w' : World} {A : Option Addr} {s : List Int × Bool} {bs : List Int} {bad : Bool}
theorem from_run (A : Option Addr) (c : Nat) (xs : List Int) (j : Int) (h0 : 0 ≤ j) (hm : j ≤ xs.length) (hc : xs.length ≤ c) :
    ∃ A' c', (∀ W : World, (Instr.slice 25 (.slice A xs.length c) (some (.int .i64 j)) none none).run Try.prog W = .ok (.slice A' (xs.drop j.toNat).length c') W) ∧
      (∀ w : World, Kd.C (Kd.int .u8) w A xs.length xs → Kd.C (Kd.int .u8) w A' (xs.drop j.toNat).length (xs.drop j.toNat)) ∧ (xs.drop j.toNat).length ≤ c' ∧ ∀ ad', A' = some ad' → ∃ ad, A = some ad ∧ ad'.block = ad.block := by
  obtain ⟨i5, hi5, hz⟩ := Option.map_eq_some_iff.1 infoU8
  simp only [Prod.mk.injEq] at hz
  have hl : (xs.drop j.toNat).length = xs.length - j.toNat := List.length_drop
  refine ⟨if c = j.toNat then A else A.map (·.add (j.toNat * 1)), c - j.toNat, fun W => by rw [hl]; exact cut_from 25 5 .i64 Try.underlying25 hi5 1 hz.2.1 A xs.length c j h0 hm W, fun w h => Kd.C_drop h (by omega) hc, by omega, fun ad' e => ?_⟩
  split at e
  · exact ⟨ad', e, rfl⟩
  · cases A with
    | none => cases e
    | some ad => injection e with e; exact ⟨ad, rfl, by rw [← e]; exact add_block _ _⟩
theorem mid_run (A : Option Addr) (c : Nat) (xs : List Int) (j : Int) (h0 : 1 ≤ j) (hm : j ≤ xs.length) (hc : xs.length ≤ c) :
    ∃ A' c', (∀ W : World, (Instr.slice 25 (.slice A xs.length c) (some (.int .i64 1)) (some (.int .i64 j)) none).run Try.prog W = .ok (.slice A' ((xs.take j.toNat).drop 1).length c') W) ∧
      (∀ w : World, Kd.C (Kd.int .u8) w A xs.length xs → Kd.C (Kd.int .u8) w A' ((xs.take j.toNat).drop 1).length ((xs.take j.toNat).drop 1)) := by
  obtain ⟨i5, hi5, hz⟩ := Option.map_eq_some_iff.1 infoU8
  simp only [Prod.mk.injEq] at hz
  have hl : ((xs.take j.toNat).drop 1).length = j.toNat - (1 : Int).toNat := by rw [List.length_drop, List.length_take]; omega
  exact ⟨if c = (1 : Int).toNat then A else A.map (·.add ((1 : Int).toNat * 1)), c - (1 : Int).toNat, fun W => by rw [hl]; exact cut_mid 25 5 .i64 .i64 Try.underlying25 hi5 1 hz.2.1 A xs.length c 1 j (by omega) h0 hm hc W, fun w h => Kd.C_mid h (by omega) (by omega) hc⟩
theorem wraps_u64 (n : Int) (h0 : 0 ≤ n) (h1 : n < 2 ^ 64) : IntKind.u64.wrap n = n := by
  have e : IntKind.u64.wrap n = n % 18446744073709551616 := by simp [IntKind.wrap, IntKind.bits, IntKind.signed]
  rw [e]
  rw [show (2 : Int) ^ 64 = 18446744073709551616 from rfl] at h1
  exact Int.emod_eq_of_lt h0 h1
theorem or_val (v y : Int) (v0 : 0 ≤ v) (v1 : v < 72057594037927936) (y0 : 0 ≤ y) (y1 : y ≤ 255) : bits .or .u64 (v * 256) y = v * 256 + y :=
  bits_join .u64 64 (by decide) wraps_u64 8 (v * 256) y (by omega) (by omega) (by rw [show (2 : Int) ^ 64 = 18446744073709551616 from rfl]; omega) y0 (by omega) (by rw [show (2 : Int) ^ 64 = 18446744073709551616 from rfl]; omega)
set_option maxHeartbeats 4000000 in
set_option maxRecDepth 100000 in
theorem rnum_zero_gt_false (most : Int) (w : World) (h : RdAt 92 m w rb (bs, bad)) (m0 : 0 ≤ most) (m1 : most < 18446744073709551616) (hp : 0 < bs.length) (h1 : ¬ 8 < rd bs 0) (h2 : ¬ (bs.length : Int) ≤ rd bs 0) (h3 : ¬ 0 < rd bs 0) (hq :  most < valB ((bs.take (rd bs 0 + 1).toNat).drop 1)) :
    Calls Try.prog 86 #[.pointer (some ⟨rb, 0, none⟩), .int .u64 most, .bool false] w fun e w' => e = .returned (.tuple #[.int .u64 0, .bool false]) ∧ RdAt 92 m w' rb ([], true) ∧ Upd rb w w' := by
  obtain ⟨A, c, h⟩ := h
  have HH : Aside0 (RdAt 92 m w rb (bs, bad)) := ⟨A, c, h⟩
  have c0 : w.cell? ⟨rb, 0, none⟩ = some (.slice A bs.length c) := h.g0
  obtain ⟨ad, rfl, hx0⟩ := Kd.at_int h.row 0 (Int.le_refl _) (show (0 : Int) < (bs.length : Nat) by omega)
  rw [add0] at hx0
  have hz := h.byte _ (rd_mem (Int.le_refl 0) (show (0 : Int) < bs.length by omega))
  have hm : bs.length ≤ 9223372036854775807 := h.row.2.1
  have p0 : (0 : Int) < bs.length := by omega
  have hne : ((bs.length : Int) == 0) = false := beq_eq_false_iff_ne.mpr (by omega)
  have HV := Aside0.mk h
  clear h
  generalize rd bs 0 = z at hx0 hz h1 h2 h3 hq ⊢
  obtain ⟨z0, z1⟩ := hz
  have d1 : decide (8 < z) = false := decide_eq_false h1
  have d2 : decide ((bs.length : Int) ≤ z) = false := decide_eq_false h2
  have d3 : decide (0 < z) = _ := decide_eq_false h3
  obtain ⟨A1, c1, hs1, hr1⟩ := mid_run (some ad) c bs (z + 1) (by omega) (by omega) HV.out.cap
  have HC1 := Aside0.mk (hr1 w HV.out.row)
  have hlen : ((bs.take (z + 1).toNat).drop 1).length = (z).toNat := by rw [List.length_drop, List.length_take]; omega
  have HB1 : Aside0 (∀ x, x ∈ (bs.take (z + 1).toNat).drop 1 → 0 ≤ x ∧ x ≤ 255) := ⟨fun x hx => HV.out.byte x (List.mem_of_mem_take (List.mem_of_mem_drop hx))⟩
  obtain ⟨A2, c2, hs2, hr2, hc2, hf2⟩ := from_run (some ad) c bs (z + 1) (by omega) (by omega) HV.out.cap
  have HC2 := Aside0.mk (HV.out.cut (hr2 w HV.out.row) hc2 (fun ad' e => by obtain ⟨ad0, e0, e1⟩ := hf2 ad' e; rw [e1]; exact HV.out.far ad0 e0) (fun x hx => List.mem_of_mem_drop hx))
  have f0 := HV.out.f0
  clear hr1 hr2 hc2 hf2 HV
  generalize (bs.take (z + 1).toNat).drop 1 = L at hs1 HC1 hlen HB1 hq ⊢
  have HQ := Aside0.mk hq
  clear hq
  have HVB := Aside0.mk (valB_big L HB1.out (by omega))
  generalize bs.drop (z + 1).toNat = D at hs2 HC2 ⊢
  go_enter Try.func86, Try.ntmps86
  go_wp2_with (first | (go_at_call 17; refine (rleft_any w HH.out).mono ?_; rintro e w2 ⟨rfl, rfl⟩))
  go_loop [62, 6] (fun v y => ∃ i : Nat, v = .int .i64 i ∧ i ≤ L.length ∧ y = .int .u64 (valB (L.take i))) (fun v _ => L.length - (intOf v).toNat)
  case atStart => exact ⟨0, rfl, Nat.zero_le _, rfl⟩
  case round =>
    obtain ⟨i, rfl, hi, rfl⟩ := hrel
    by_cases hlt : i < L.length
    · exfalso; omega
    · have hi2 : i = L.length := by omega
      subst hi2
      rw [List.take_length]
      obtain ⟨v0, v1⟩ := HVB.out
      have hgt := HQ.out
      go_wp2_with (first | (go_at_call 47; refine (rfail_any w HH.out).mono ?_; rintro e w2 ⟨rfl, q1, q2⟩; have H1 := Aside0.mk q1; have H2 := Aside0.mk q2; clear q1 q2))
      go_ret2
      exact ⟨rfl, H1.out, H2.out⟩
set_option maxHeartbeats 4000000 in
set_option maxRecDepth 100000 in
theorem rnum_zero_le_false (most : Int) (w : World) (h : RdAt 92 m w rb (bs, bad)) (m0 : 0 ≤ most) (m1 : most < 18446744073709551616) (hp : 0 < bs.length) (h1 : ¬ 8 < rd bs 0) (h2 : ¬ (bs.length : Int) ≤ rd bs 0) (h3 : ¬ 0 < rd bs 0) (hq : ¬ most < valB ((bs.take (rd bs 0 + 1).toNat).drop 1)) :
    Calls Try.prog 86 #[.pointer (some ⟨rb, 0, none⟩), .int .u64 most, .bool false] w fun e w' => e = .returned (.tuple #[.int .u64 (valB ((bs.take (rd bs 0 + 1).toNat).drop 1)), .bool false]) ∧ RdAt 92 m w' rb (bs.drop (rd bs 0 + 1).toNat, bad) ∧ Upd rb w w' := by
  obtain ⟨A, c, h⟩ := h
  have HH : Aside0 (RdAt 92 m w rb (bs, bad)) := ⟨A, c, h⟩
  have c0 : w.cell? ⟨rb, 0, none⟩ = some (.slice A bs.length c) := h.g0
  obtain ⟨ad, rfl, hx0⟩ := Kd.at_int h.row 0 (Int.le_refl _) (show (0 : Int) < (bs.length : Nat) by omega)
  rw [add0] at hx0
  have hz := h.byte _ (rd_mem (Int.le_refl 0) (show (0 : Int) < bs.length by omega))
  have hm : bs.length ≤ 9223372036854775807 := h.row.2.1
  have p0 : (0 : Int) < bs.length := by omega
  have hne : ((bs.length : Int) == 0) = false := beq_eq_false_iff_ne.mpr (by omega)
  have HV := Aside0.mk h
  clear h
  generalize rd bs 0 = z at hx0 hz h1 h2 h3 hq ⊢
  obtain ⟨z0, z1⟩ := hz
  have d1 : decide (8 < z) = false := decide_eq_false h1
  have d2 : decide ((bs.length : Int) ≤ z) = false := decide_eq_false h2
  have d3 : decide (0 < z) = _ := decide_eq_false h3
  obtain ⟨A1, c1, hs1, hr1⟩ := mid_run (some ad) c bs (z + 1) (by omega) (by omega) HV.out.cap
  have HC1 := Aside0.mk (hr1 w HV.out.row)
  have hlen : ((bs.take (z + 1).toNat).drop 1).length = (z).toNat := by rw [List.length_drop, List.length_take]; omega
  have HB1 : Aside0 (∀ x, x ∈ (bs.take (z + 1).toNat).drop 1 → 0 ≤ x ∧ x ≤ 255) := ⟨fun x hx => HV.out.byte x (List.mem_of_mem_take (List.mem_of_mem_drop hx))⟩
  obtain ⟨A2, c2, hs2, hr2, hc2, hf2⟩ := from_run (some ad) c bs (z + 1) (by omega) (by omega) HV.out.cap
  have HC2 := Aside0.mk (HV.out.cut (hr2 w HV.out.row) hc2 (fun ad' e => by obtain ⟨ad0, e0, e1⟩ := hf2 ad' e; rw [e1]; exact HV.out.far ad0 e0) (fun x hx => List.mem_of_mem_drop hx))
  have f0 := HV.out.f0
  clear hr1 hr2 hc2 hf2 HV
  generalize (bs.take (z + 1).toNat).drop 1 = L at hs1 HC1 hlen HB1 hq ⊢
  have HQ := Aside0.mk hq
  clear hq
  have HVB := Aside0.mk (valB_big L HB1.out (by omega))
  generalize bs.drop (z + 1).toNat = D at hs2 HC2 ⊢
  go_enter Try.func86, Try.ntmps86
  go_wp2_with (first | (go_at_call 17; refine (rleft_any w HH.out).mono ?_; rintro e w2 ⟨rfl, rfl⟩))
  go_loop [62, 6] (fun v y => ∃ i : Nat, v = .int .i64 i ∧ i ≤ L.length ∧ y = .int .u64 (valB (L.take i))) (fun v _ => L.length - (intOf v).toNat)
  case atStart => exact ⟨0, rfl, Nat.zero_le _, rfl⟩
  case round =>
    obtain ⟨i, rfl, hi, rfl⟩ := hrel
    by_cases hlt : i < L.length
    · exfalso; omega
    · have hi2 : i = L.length := by omega
      subst hi2
      rw [List.take_length]
      obtain ⟨v0, v1⟩ := HVB.out
      have hgt := HQ.out
      go_wp2
      go_ret2
      exact ⟨rfl, ⟨A2, c2, HC2.out.1⟩, HC2.out.2⟩
set_option maxHeartbeats 4000000 in
set_option maxRecDepth 100000 in
theorem rnum_more_gt_false (most : Int) (w : World) (h : RdAt 92 m w rb (bs, bad)) (m0 : 0 ≤ most) (m1 : most < 18446744073709551616) (hp : 0 < bs.length) (h1 : ¬ 8 < rd bs 0) (h2 : ¬ (bs.length : Int) ≤ rd bs 0) (h3 : 0 < rd bs 0) (h4 : rd bs 1 ≠ 0) (hq :  most < valB ((bs.take (rd bs 0 + 1).toNat).drop 1)) :
    Calls Try.prog 86 #[.pointer (some ⟨rb, 0, none⟩), .int .u64 most, .bool false] w fun e w' => e = .returned (.tuple #[.int .u64 0, .bool false]) ∧ RdAt 92 m w' rb ([], true) ∧ Upd rb w w' := by
  obtain ⟨A, c, h⟩ := h
  have HH : Aside0 (RdAt 92 m w rb (bs, bad)) := ⟨A, c, h⟩
  have c0 : w.cell? ⟨rb, 0, none⟩ = some (.slice A bs.length c) := h.g0
  obtain ⟨ad, rfl, hx0⟩ := Kd.at_int h.row 0 (Int.le_refl _) (show (0 : Int) < (bs.length : Nat) by omega)
  rw [add0] at hx0
  have hz := h.byte _ (rd_mem (Int.le_refl 0) (show (0 : Int) < bs.length by omega))
  have hm : bs.length ≤ 9223372036854775807 := h.row.2.1
  have p0 : (0 : Int) < bs.length := by omega
  have hne : ((bs.length : Int) == 0) = false := beq_eq_false_iff_ne.mpr (by omega)
  have HV := Aside0.mk h
  obtain ⟨ad', e', hx1⟩ := Kd.at_int h.row 1 (by omega) (show (1 : Int) < (bs.length : Nat) by omega)
  cases e'
  rw [show (1 : Int).toNat = 1 from rfl, add1] at hx1
  have p1 : (1 : Int) < bs.length := by omega
  have hb1 : (rd bs 1 == 0) = false := beq_eq_false_iff_ne.mpr h4
  generalize rd bs 1 = y at hx1 hb1 h4
  clear h4
  clear h
  generalize rd bs 0 = z at hx0 hz h1 h2 h3 hq ⊢
  obtain ⟨z0, z1⟩ := hz
  have d1 : decide (8 < z) = false := decide_eq_false h1
  have d2 : decide ((bs.length : Int) ≤ z) = false := decide_eq_false h2
  have d3 : decide (0 < z) = _ := decide_eq_true h3
  obtain ⟨A1, c1, hs1, hr1⟩ := mid_run (some ad) c bs (z + 1) (by omega) (by omega) HV.out.cap
  have HC1 := Aside0.mk (hr1 w HV.out.row)
  have hlen : ((bs.take (z + 1).toNat).drop 1).length = (z).toNat := by rw [List.length_drop, List.length_take]; omega
  have HB1 : Aside0 (∀ x, x ∈ (bs.take (z + 1).toNat).drop 1 → 0 ≤ x ∧ x ≤ 255) := ⟨fun x hx => HV.out.byte x (List.mem_of_mem_take (List.mem_of_mem_drop hx))⟩
  obtain ⟨A2, c2, hs2, hr2, hc2, hf2⟩ := from_run (some ad) c bs (z + 1) (by omega) (by omega) HV.out.cap
  have HC2 := Aside0.mk (HV.out.cut (hr2 w HV.out.row) hc2 (fun ad' e => by obtain ⟨ad0, e0, e1⟩ := hf2 ad' e; rw [e1]; exact HV.out.far ad0 e0) (fun x hx => List.mem_of_mem_drop hx))
  have f0 := HV.out.f0
  clear hr1 hr2 hc2 hf2 HV
  generalize (bs.take (z + 1).toNat).drop 1 = L at hs1 HC1 hlen HB1 hq ⊢
  have HQ := Aside0.mk hq
  clear hq
  have HVB := Aside0.mk (valB_big L HB1.out (by omega))
  generalize bs.drop (z + 1).toNat = D at hs2 HC2 ⊢
  go_enter Try.func86, Try.ntmps86
  go_wp2_with (first | (go_at_call 17; refine (rleft_any w HH.out).mono ?_; rintro e w2 ⟨rfl, rfl⟩))
  go_loop [62, 6] (fun v y => ∃ i : Nat, v = .int .i64 i ∧ i ≤ L.length ∧ y = .int .u64 (valB (L.take i))) (fun v _ => L.length - (intOf v).toNat)
  case atStart => exact ⟨0, rfl, Nat.zero_le _, rfl⟩
  case round =>
    obtain ⟨i, rfl, hi, rfl⟩ := hrel
    by_cases hlt : i < L.length
    · have hv := valB_small L i HB1.out (by omega)
      obtain ⟨ad1, e1, hx⟩ := Kd.at_int HC1.out i (by omega) (by omega)
      subst e1
      rw [Int.toNat_natCast] at hx
      have hxb := HB1.out _ (rd_mem (l := L) (i := (i : Int)) (by omega) (by omega))
      have HS := Aside0.mk (valB_step L i hlt)
      generalize rd L i = y at hx hxb HS
      obtain ⟨y0, y1⟩ := hxb
      generalize valB (L.take i) = v at hv HS ⊢
      obtain ⟨v0, v1⟩ := hv
      have hor := or_val v y v0 v1 y0 y1
      go_wp2
      exact ⟨⟨i + 1, by go_num, by omega, by rw [HS.out]⟩, by simp [intOf]; omega⟩
    · have hi2 : i = L.length := by omega
      subst hi2
      rw [List.take_length]
      obtain ⟨v0, v1⟩ := HVB.out
      have hgt := HQ.out
      go_wp2_with (first | (go_at_call 47; refine (rfail_any w HH.out).mono ?_; rintro e w2 ⟨rfl, q1, q2⟩; have H1 := Aside0.mk q1; have H2 := Aside0.mk q2; clear q1 q2))
      go_ret2
      exact ⟨rfl, H1.out, H2.out⟩
set_option maxHeartbeats 4000000 in
set_option maxRecDepth 100000 in
theorem rnum_more_le_false (most : Int) (w : World) (h : RdAt 92 m w rb (bs, bad)) (m0 : 0 ≤ most) (m1 : most < 18446744073709551616) (hp : 0 < bs.length) (h1 : ¬ 8 < rd bs 0) (h2 : ¬ (bs.length : Int) ≤ rd bs 0) (h3 : 0 < rd bs 0) (h4 : rd bs 1 ≠ 0) (hq : ¬ most < valB ((bs.take (rd bs 0 + 1).toNat).drop 1)) :
    Calls Try.prog 86 #[.pointer (some ⟨rb, 0, none⟩), .int .u64 most, .bool false] w fun e w' => e = .returned (.tuple #[.int .u64 (valB ((bs.take (rd bs 0 + 1).toNat).drop 1)), .bool false]) ∧ RdAt 92 m w' rb (bs.drop (rd bs 0 + 1).toNat, bad) ∧ Upd rb w w' := by
  obtain ⟨A, c, h⟩ := h
  have HH : Aside0 (RdAt 92 m w rb (bs, bad)) := ⟨A, c, h⟩
  have c0 : w.cell? ⟨rb, 0, none⟩ = some (.slice A bs.length c) := h.g0
  obtain ⟨ad, rfl, hx0⟩ := Kd.at_int h.row 0 (Int.le_refl _) (show (0 : Int) < (bs.length : Nat) by omega)
  rw [add0] at hx0
  have hz := h.byte _ (rd_mem (Int.le_refl 0) (show (0 : Int) < bs.length by omega))
  have hm : bs.length ≤ 9223372036854775807 := h.row.2.1
  have p0 : (0 : Int) < bs.length := by omega
  have hne : ((bs.length : Int) == 0) = false := beq_eq_false_iff_ne.mpr (by omega)
  have HV := Aside0.mk h
  obtain ⟨ad', e', hx1⟩ := Kd.at_int h.row 1 (by omega) (show (1 : Int) < (bs.length : Nat) by omega)
  cases e'
  rw [show (1 : Int).toNat = 1 from rfl, add1] at hx1
  have p1 : (1 : Int) < bs.length := by omega
  have hb1 : (rd bs 1 == 0) = false := beq_eq_false_iff_ne.mpr h4
  generalize rd bs 1 = y at hx1 hb1 h4
  clear h4
  clear h
  generalize rd bs 0 = z at hx0 hz h1 h2 h3 hq ⊢
  obtain ⟨z0, z1⟩ := hz
  have d1 : decide (8 < z) = false := decide_eq_false h1
  have d2 : decide ((bs.length : Int) ≤ z) = false := decide_eq_false h2
  have d3 : decide (0 < z) = _ := decide_eq_true h3
  obtain ⟨A1, c1, hs1, hr1⟩ := mid_run (some ad) c bs (z + 1) (by omega) (by omega) HV.out.cap
  have HC1 := Aside0.mk (hr1 w HV.out.row)
  have hlen : ((bs.take (z + 1).toNat).drop 1).length = (z).toNat := by rw [List.length_drop, List.length_take]; omega
  have HB1 : Aside0 (∀ x, x ∈ (bs.take (z + 1).toNat).drop 1 → 0 ≤ x ∧ x ≤ 255) := ⟨fun x hx => HV.out.byte x (List.mem_of_mem_take (List.mem_of_mem_drop hx))⟩
  obtain ⟨A2, c2, hs2, hr2, hc2, hf2⟩ := from_run (some ad) c bs (z + 1) (by omega) (by omega) HV.out.cap
  have HC2 := Aside0.mk (HV.out.cut (hr2 w HV.out.row) hc2 (fun ad' e => by obtain ⟨ad0, e0, e1⟩ := hf2 ad' e; rw [e1]; exact HV.out.far ad0 e0) (fun x hx => List.mem_of_mem_drop hx))
  have f0 := HV.out.f0
  clear hr1 hr2 hc2 hf2 HV
  generalize (bs.take (z + 1).toNat).drop 1 = L at hs1 HC1 hlen HB1 hq ⊢
  have HQ := Aside0.mk hq
  clear hq
  have HVB := Aside0.mk (valB_big L HB1.out (by omega))
  generalize bs.drop (z + 1).toNat = D at hs2 HC2 ⊢
  go_enter Try.func86, Try.ntmps86
  go_wp2_with (first | (go_at_call 17; refine (rleft_any w HH.out).mono ?_; rintro e w2 ⟨rfl, rfl⟩))
  go_loop [62, 6] (fun v y => ∃ i : Nat, v = .int .i64 i ∧ i ≤ L.length ∧ y = .int .u64 (valB (L.take i))) (fun v _ => L.length - (intOf v).toNat)
  case atStart => exact ⟨0, rfl, Nat.zero_le _, rfl⟩
  case round =>
    obtain ⟨i, rfl, hi, rfl⟩ := hrel
    by_cases hlt : i < L.length
    · have hv := valB_small L i HB1.out (by omega)
      obtain ⟨ad1, e1, hx⟩ := Kd.at_int HC1.out i (by omega) (by omega)
      subst e1
      rw [Int.toNat_natCast] at hx
      have hxb := HB1.out _ (rd_mem (l := L) (i := (i : Int)) (by omega) (by omega))
      have HS := Aside0.mk (valB_step L i hlt)
      generalize rd L i = y at hx hxb HS
      obtain ⟨y0, y1⟩ := hxb
      generalize valB (L.take i) = v at hv HS ⊢
      obtain ⟨v0, v1⟩ := hv
      have hor := or_val v y v0 v1 y0 y1
      go_wp2
      exact ⟨⟨i + 1, by go_num, by omega, by rw [HS.out]⟩, by simp [intOf]; omega⟩
    · have hi2 : i = L.length := by omega
      subst hi2
      rw [List.take_length]
      obtain ⟨v0, v1⟩ := HVB.out
      have hgt := HQ.out
      go_wp2
      go_ret2
      exact ⟨rfl, ⟨A2, c2, HC2.out.1⟩, HC2.out.2⟩
set_option maxHeartbeats 4000000 in
set_option maxRecDepth 100000 in
theorem rnum_zero_gt_true (most : Int) (w : World) (h : RdAt 92 m w rb (bs, bad)) (m0 : 0 ≤ most) (m1 : most < 18446744073709551616) (hp : 0 < bs.length) (h1 : ¬ 8 < rd bs 0 % 128) (h2 : ¬ (bs.length : Int) ≤ rd bs 0 % 128) (h3 : ¬ 0 < rd bs 0 % 128) (hq :  most < valB ((bs.take (rd bs 0 % 128 + 1).toNat).drop 1)) :
    Calls Try.prog 86 #[.pointer (some ⟨rb, 0, none⟩), .int .u64 most, .bool true] w fun e w' => e = .returned (.tuple #[.int .u64 0, .bool false]) ∧ RdAt 92 m w' rb ([], true) ∧ Upd rb w w' := by
  obtain ⟨A, c, h⟩ := h
  have HH : Aside0 (RdAt 92 m w rb (bs, bad)) := ⟨A, c, h⟩
  have c0 : w.cell? ⟨rb, 0, none⟩ = some (.slice A bs.length c) := h.g0
  obtain ⟨ad, rfl, hx0⟩ := Kd.at_int h.row 0 (Int.le_refl _) (show (0 : Int) < (bs.length : Nat) by omega)
  rw [add0] at hx0
  have hz := h.byte _ (rd_mem (Int.le_refl 0) (show (0 : Int) < bs.length by omega))
  have hm : bs.length ≤ 9223372036854775807 := h.row.2.1
  have p0 : (0 : Int) < bs.length := by omega
  have hne : ((bs.length : Int) == 0) = false := beq_eq_false_iff_ne.mpr (by omega)
  have HV := Aside0.mk h
  clear h
  generalize rd bs 0 = z at hx0 hz h1 h2 h3 hq ⊢
  obtain ⟨z0, z1⟩ := hz
  have d1 : decide (8 < z % 128) = false := decide_eq_false h1
  have d2 : decide ((bs.length : Int) ≤ z % 128) = false := decide_eq_false h2
  have d3 : decide (0 < z % 128) = _ := decide_eq_false h3
  obtain ⟨A1, c1, hs1, hr1⟩ := mid_run (some ad) c bs (z % 128 + 1) (by omega) (by omega) HV.out.cap
  have HC1 := Aside0.mk (hr1 w HV.out.row)
  have hlen : ((bs.take (z % 128 + 1).toNat).drop 1).length = (z % 128).toNat := by rw [List.length_drop, List.length_take]; omega
  have HB1 : Aside0 (∀ x, x ∈ (bs.take (z % 128 + 1).toNat).drop 1 → 0 ≤ x ∧ x ≤ 255) := ⟨fun x hx => HV.out.byte x (List.mem_of_mem_take (List.mem_of_mem_drop hx))⟩
  obtain ⟨A2, c2, hs2, hr2, hc2, hf2⟩ := from_run (some ad) c bs (z % 128 + 1) (by omega) (by omega) HV.out.cap
  have HC2 := Aside0.mk (HV.out.cut (hr2 w HV.out.row) hc2 (fun ad' e => by obtain ⟨ad0, e0, e1⟩ := hf2 ad' e; rw [e1]; exact HV.out.far ad0 e0) (fun x hx => List.mem_of_mem_drop hx))
  have f0 := HV.out.f0
  clear hr1 hr2 hc2 hf2 HV
  generalize (bs.take (z % 128 + 1).toNat).drop 1 = L at hs1 HC1 hlen HB1 hq ⊢
  have HQ := Aside0.mk hq
  clear hq
  have HVB := Aside0.mk (valB_big L HB1.out (by omega))
  generalize bs.drop (z % 128 + 1).toNat = D at hs2 HC2 ⊢
  go_enter Try.func86, Try.ntmps86
  go_wp2_with (first | (go_at_call 17; refine (rleft_any w HH.out).mono ?_; rintro e w2 ⟨rfl, rfl⟩))
  go_loop [62, 6] (fun v y => ∃ i : Nat, v = .int .i64 i ∧ i ≤ L.length ∧ y = .int .u64 (valB (L.take i))) (fun v _ => L.length - (intOf v).toNat)
  case atStart => exact ⟨0, rfl, Nat.zero_le _, rfl⟩
  case round =>
    obtain ⟨i, rfl, hi, rfl⟩ := hrel
    by_cases hlt : i < L.length
    · exfalso; omega
    · have hi2 : i = L.length := by omega
      subst hi2
      rw [List.take_length]
      obtain ⟨v0, v1⟩ := HVB.out
      have hgt := HQ.out
      go_wp2_with (first | (go_at_call 47; refine (rfail_any w HH.out).mono ?_; rintro e w2 ⟨rfl, q1, q2⟩; have H1 := Aside0.mk q1; have H2 := Aside0.mk q2; clear q1 q2))
      go_ret2
      exact ⟨rfl, H1.out, H2.out⟩
set_option maxHeartbeats 4000000 in
set_option maxRecDepth 100000 in
theorem rnum_zero_le_true (most : Int) (w : World) (h : RdAt 92 m w rb (bs, bad)) (m0 : 0 ≤ most) (m1 : most < 18446744073709551616) (hp : 0 < bs.length) (h1 : ¬ 8 < rd bs 0 % 128) (h2 : ¬ (bs.length : Int) ≤ rd bs 0 % 128) (h3 : ¬ 0 < rd bs 0 % 128) (hq : ¬ most < valB ((bs.take (rd bs 0 % 128 + 1).toNat).drop 1)) :
    Calls Try.prog 86 #[.pointer (some ⟨rb, 0, none⟩), .int .u64 most, .bool true] w fun e w' => e = .returned (.tuple #[.int .u64 (valB ((bs.take (rd bs 0 % 128 + 1).toNat).drop 1)), .bool (decide (128 ≤ rd bs 0))]) ∧ RdAt 92 m w' rb (bs.drop (rd bs 0 % 128 + 1).toNat, bad) ∧ Upd rb w w' := by
  obtain ⟨A, c, h⟩ := h
  have HH : Aside0 (RdAt 92 m w rb (bs, bad)) := ⟨A, c, h⟩
  have c0 : w.cell? ⟨rb, 0, none⟩ = some (.slice A bs.length c) := h.g0
  obtain ⟨ad, rfl, hx0⟩ := Kd.at_int h.row 0 (Int.le_refl _) (show (0 : Int) < (bs.length : Nat) by omega)
  rw [add0] at hx0
  have hz := h.byte _ (rd_mem (Int.le_refl 0) (show (0 : Int) < bs.length by omega))
  have hm : bs.length ≤ 9223372036854775807 := h.row.2.1
  have p0 : (0 : Int) < bs.length := by omega
  have hne : ((bs.length : Int) == 0) = false := beq_eq_false_iff_ne.mpr (by omega)
  have HV := Aside0.mk h
  clear h
  generalize rd bs 0 = z at hx0 hz h1 h2 h3 hq ⊢
  obtain ⟨z0, z1⟩ := hz
  have d1 : decide (8 < z % 128) = false := decide_eq_false h1
  have d2 : decide ((bs.length : Int) ≤ z % 128) = false := decide_eq_false h2
  have d3 : decide (0 < z % 128) = _ := decide_eq_false h3
  obtain ⟨A1, c1, hs1, hr1⟩ := mid_run (some ad) c bs (z % 128 + 1) (by omega) (by omega) HV.out.cap
  have HC1 := Aside0.mk (hr1 w HV.out.row)
  have hlen : ((bs.take (z % 128 + 1).toNat).drop 1).length = (z % 128).toNat := by rw [List.length_drop, List.length_take]; omega
  have HB1 : Aside0 (∀ x, x ∈ (bs.take (z % 128 + 1).toNat).drop 1 → 0 ≤ x ∧ x ≤ 255) := ⟨fun x hx => HV.out.byte x (List.mem_of_mem_take (List.mem_of_mem_drop hx))⟩
  obtain ⟨A2, c2, hs2, hr2, hc2, hf2⟩ := from_run (some ad) c bs (z % 128 + 1) (by omega) (by omega) HV.out.cap
  have HC2 := Aside0.mk (HV.out.cut (hr2 w HV.out.row) hc2 (fun ad' e => by obtain ⟨ad0, e0, e1⟩ := hf2 ad' e; rw [e1]; exact HV.out.far ad0 e0) (fun x hx => List.mem_of_mem_drop hx))
  have f0 := HV.out.f0
  clear hr1 hr2 hc2 hf2 HV
  generalize (bs.take (z % 128 + 1).toNat).drop 1 = L at hs1 HC1 hlen HB1 hq ⊢
  have HQ := Aside0.mk hq
  clear hq
  have HVB := Aside0.mk (valB_big L HB1.out (by omega))
  generalize bs.drop (z % 128 + 1).toNat = D at hs2 HC2 ⊢
  go_enter Try.func86, Try.ntmps86
  go_wp2_with (first | (go_at_call 17; refine (rleft_any w HH.out).mono ?_; rintro e w2 ⟨rfl, rfl⟩))
  go_loop [62, 6] (fun v y => ∃ i : Nat, v = .int .i64 i ∧ i ≤ L.length ∧ y = .int .u64 (valB (L.take i))) (fun v _ => L.length - (intOf v).toNat)
  case atStart => exact ⟨0, rfl, Nat.zero_le _, rfl⟩
  case round =>
    obtain ⟨i, rfl, hi, rfl⟩ := hrel
    by_cases hlt : i < L.length
    · exfalso; omega
    · have hi2 : i = L.length := by omega
      subst hi2
      rw [List.take_length]
      obtain ⟨v0, v1⟩ := HVB.out
      have hgt := HQ.out
      go_wp2
      go_ret2
      exact ⟨rfl, ⟨A2, c2, HC2.out.1⟩, HC2.out.2⟩
set_option maxHeartbeats 4000000 in
set_option maxRecDepth 100000 in
theorem rnum_more_gt_true (most : Int) (w : World) (h : RdAt 92 m w rb (bs, bad)) (m0 : 0 ≤ most) (m1 : most < 18446744073709551616) (hp : 0 < bs.length) (h1 : ¬ 8 < rd bs 0 % 128) (h2 : ¬ (bs.length : Int) ≤ rd bs 0 % 128) (h3 : 0 < rd bs 0 % 128) (h4 : rd bs 1 ≠ 0) (hq :  most < valB ((bs.take (rd bs 0 % 128 + 1).toNat).drop 1)) :
    Calls Try.prog 86 #[.pointer (some ⟨rb, 0, none⟩), .int .u64 most, .bool true] w fun e w' => e = .returned (.tuple #[.int .u64 0, .bool false]) ∧ RdAt 92 m w' rb ([], true) ∧ Upd rb w w' := by
  obtain ⟨A, c, h⟩ := h
  have HH : Aside0 (RdAt 92 m w rb (bs, bad)) := ⟨A, c, h⟩
  have c0 : w.cell? ⟨rb, 0, none⟩ = some (.slice A bs.length c) := h.g0
  obtain ⟨ad, rfl, hx0⟩ := Kd.at_int h.row 0 (Int.le_refl _) (show (0 : Int) < (bs.length : Nat) by omega)
  rw [add0] at hx0
  have hz := h.byte _ (rd_mem (Int.le_refl 0) (show (0 : Int) < bs.length by omega))
  have hm : bs.length ≤ 9223372036854775807 := h.row.2.1
  have p0 : (0 : Int) < bs.length := by omega
  have hne : ((bs.length : Int) == 0) = false := beq_eq_false_iff_ne.mpr (by omega)
  have HV := Aside0.mk h
  obtain ⟨ad', e', hx1⟩ := Kd.at_int h.row 1 (by omega) (show (1 : Int) < (bs.length : Nat) by omega)
  cases e'
  rw [show (1 : Int).toNat = 1 from rfl, add1] at hx1
  have p1 : (1 : Int) < bs.length := by omega
  have hb1 : (rd bs 1 == 0) = false := beq_eq_false_iff_ne.mpr h4
  generalize rd bs 1 = y at hx1 hb1 h4
  clear h4
  clear h
  generalize rd bs 0 = z at hx0 hz h1 h2 h3 hq ⊢
  obtain ⟨z0, z1⟩ := hz
  have d1 : decide (8 < z % 128) = false := decide_eq_false h1
  have d2 : decide ((bs.length : Int) ≤ z % 128) = false := decide_eq_false h2
  have d3 : decide (0 < z % 128) = _ := decide_eq_true h3
  obtain ⟨A1, c1, hs1, hr1⟩ := mid_run (some ad) c bs (z % 128 + 1) (by omega) (by omega) HV.out.cap
  have HC1 := Aside0.mk (hr1 w HV.out.row)
  have hlen : ((bs.take (z % 128 + 1).toNat).drop 1).length = (z % 128).toNat := by rw [List.length_drop, List.length_take]; omega
  have HB1 : Aside0 (∀ x, x ∈ (bs.take (z % 128 + 1).toNat).drop 1 → 0 ≤ x ∧ x ≤ 255) := ⟨fun x hx => HV.out.byte x (List.mem_of_mem_take (List.mem_of_mem_drop hx))⟩
  obtain ⟨A2, c2, hs2, hr2, hc2, hf2⟩ := from_run (some ad) c bs (z % 128 + 1) (by omega) (by omega) HV.out.cap
  have HC2 := Aside0.mk (HV.out.cut (hr2 w HV.out.row) hc2 (fun ad' e => by obtain ⟨ad0, e0, e1⟩ := hf2 ad' e; rw [e1]; exact HV.out.far ad0 e0) (fun x hx => List.mem_of_mem_drop hx))
  have f0 := HV.out.f0
  clear hr1 hr2 hc2 hf2 HV
  generalize (bs.take (z % 128 + 1).toNat).drop 1 = L at hs1 HC1 hlen HB1 hq ⊢
  have HQ := Aside0.mk hq
  clear hq
  have HVB := Aside0.mk (valB_big L HB1.out (by omega))
  generalize bs.drop (z % 128 + 1).toNat = D at hs2 HC2 ⊢
  go_enter Try.func86, Try.ntmps86
  go_wp2_with (first | (go_at_call 17; refine (rleft_any w HH.out).mono ?_; rintro e w2 ⟨rfl, rfl⟩))
  go_loop [62, 6] (fun v y => ∃ i : Nat, v = .int .i64 i ∧ i ≤ L.length ∧ y = .int .u64 (valB (L.take i))) (fun v _ => L.length - (intOf v).toNat)
  case atStart => exact ⟨0, rfl, Nat.zero_le _, rfl⟩
  case round =>
    obtain ⟨i, rfl, hi, rfl⟩ := hrel
    by_cases hlt : i < L.length
    · have hv := valB_small L i HB1.out (by omega)
      obtain ⟨ad1, e1, hx⟩ := Kd.at_int HC1.out i (by omega) (by omega)
      subst e1
      rw [Int.toNat_natCast] at hx
      have hxb := HB1.out _ (rd_mem (l := L) (i := (i : Int)) (by omega) (by omega))
      have HS := Aside0.mk (valB_step L i hlt)
      generalize rd L i = y at hx hxb HS
      obtain ⟨y0, y1⟩ := hxb
      generalize valB (L.take i) = v at hv HS ⊢
      obtain ⟨v0, v1⟩ := hv
      have hor := or_val v y v0 v1 y0 y1
      go_wp2
      exact ⟨⟨i + 1, by go_num, by omega, by rw [HS.out]⟩, by simp [intOf]; omega⟩
    · have hi2 : i = L.length := by omega
      subst hi2
      rw [List.take_length]
      obtain ⟨v0, v1⟩ := HVB.out
      have hgt := HQ.out
      go_wp2_with (first | (go_at_call 47; refine (rfail_any w HH.out).mono ?_; rintro e w2 ⟨rfl, q1, q2⟩; have H1 := Aside0.mk q1; have H2 := Aside0.mk q2; clear q1 q2))
      go_ret2
      exact ⟨rfl, H1.out, H2.out⟩
set_option maxHeartbeats 4000000 in
set_option maxRecDepth 100000 in
theorem rnum_more_le_true (most : Int) (w : World) (h : RdAt 92 m w rb (bs, bad)) (m0 : 0 ≤ most) (m1 : most < 18446744073709551616) (hp : 0 < bs.length) (h1 : ¬ 8 < rd bs 0 % 128) (h2 : ¬ (bs.length : Int) ≤ rd bs 0 % 128) (h3 : 0 < rd bs 0 % 128) (h4 : rd bs 1 ≠ 0) (hq : ¬ most < valB ((bs.take (rd bs 0 % 128 + 1).toNat).drop 1)) :
    Calls Try.prog 86 #[.pointer (some ⟨rb, 0, none⟩), .int .u64 most, .bool true] w fun e w' => e = .returned (.tuple #[.int .u64 (valB ((bs.take (rd bs 0 % 128 + 1).toNat).drop 1)), .bool (decide (128 ≤ rd bs 0))]) ∧ RdAt 92 m w' rb (bs.drop (rd bs 0 % 128 + 1).toNat, bad) ∧ Upd rb w w' := by
  obtain ⟨A, c, h⟩ := h
  have HH : Aside0 (RdAt 92 m w rb (bs, bad)) := ⟨A, c, h⟩
  have c0 : w.cell? ⟨rb, 0, none⟩ = some (.slice A bs.length c) := h.g0
  obtain ⟨ad, rfl, hx0⟩ := Kd.at_int h.row 0 (Int.le_refl _) (show (0 : Int) < (bs.length : Nat) by omega)
  rw [add0] at hx0
  have hz := h.byte _ (rd_mem (Int.le_refl 0) (show (0 : Int) < bs.length by omega))
  have hm : bs.length ≤ 9223372036854775807 := h.row.2.1
  have p0 : (0 : Int) < bs.length := by omega
  have hne : ((bs.length : Int) == 0) = false := beq_eq_false_iff_ne.mpr (by omega)
  have HV := Aside0.mk h
  obtain ⟨ad', e', hx1⟩ := Kd.at_int h.row 1 (by omega) (show (1 : Int) < (bs.length : Nat) by omega)
  cases e'
  rw [show (1 : Int).toNat = 1 from rfl, add1] at hx1
  have p1 : (1 : Int) < bs.length := by omega
  have hb1 : (rd bs 1 == 0) = false := beq_eq_false_iff_ne.mpr h4
  generalize rd bs 1 = y at hx1 hb1 h4
  clear h4
  clear h
  generalize rd bs 0 = z at hx0 hz h1 h2 h3 hq ⊢
  obtain ⟨z0, z1⟩ := hz
  have d1 : decide (8 < z % 128) = false := decide_eq_false h1
  have d2 : decide ((bs.length : Int) ≤ z % 128) = false := decide_eq_false h2
  have d3 : decide (0 < z % 128) = _ := decide_eq_true h3
  obtain ⟨A1, c1, hs1, hr1⟩ := mid_run (some ad) c bs (z % 128 + 1) (by omega) (by omega) HV.out.cap
  have HC1 := Aside0.mk (hr1 w HV.out.row)
  have hlen : ((bs.take (z % 128 + 1).toNat).drop 1).length = (z % 128).toNat := by rw [List.length_drop, List.length_take]; omega
  have HB1 : Aside0 (∀ x, x ∈ (bs.take (z % 128 + 1).toNat).drop 1 → 0 ≤ x ∧ x ≤ 255) := ⟨fun x hx => HV.out.byte x (List.mem_of_mem_take (List.mem_of_mem_drop hx))⟩
  obtain ⟨A2, c2, hs2, hr2, hc2, hf2⟩ := from_run (some ad) c bs (z % 128 + 1) (by omega) (by omega) HV.out.cap
  have HC2 := Aside0.mk (HV.out.cut (hr2 w HV.out.row) hc2 (fun ad' e => by obtain ⟨ad0, e0, e1⟩ := hf2 ad' e; rw [e1]; exact HV.out.far ad0 e0) (fun x hx => List.mem_of_mem_drop hx))
  have f0 := HV.out.f0
  clear hr1 hr2 hc2 hf2 HV
  generalize (bs.take (z % 128 + 1).toNat).drop 1 = L at hs1 HC1 hlen HB1 hq ⊢
  have HQ := Aside0.mk hq
  clear hq
  have HVB := Aside0.mk (valB_big L HB1.out (by omega))
  generalize bs.drop (z % 128 + 1).toNat = D at hs2 HC2 ⊢
  go_enter Try.func86, Try.ntmps86
  go_wp2_with (first | (go_at_call 17; refine (rleft_any w HH.out).mono ?_; rintro e w2 ⟨rfl, rfl⟩))
  go_loop [62, 6] (fun v y => ∃ i : Nat, v = .int .i64 i ∧ i ≤ L.length ∧ y = .int .u64 (valB (L.take i))) (fun v _ => L.length - (intOf v).toNat)
  case atStart => exact ⟨0, rfl, Nat.zero_le _, rfl⟩
  case round =>
    obtain ⟨i, rfl, hi, rfl⟩ := hrel
    by_cases hlt : i < L.length
    · have hv := valB_small L i HB1.out (by omega)
      obtain ⟨ad1, e1, hx⟩ := Kd.at_int HC1.out i (by omega) (by omega)
      subst e1
      rw [Int.toNat_natCast] at hx
      have hxb := HB1.out _ (rd_mem (l := L) (i := (i : Int)) (by omega) (by omega))
      have HS := Aside0.mk (valB_step L i hlt)
      generalize rd L i = y at hx hxb HS
      obtain ⟨y0, y1⟩ := hxb
      generalize valB (L.take i) = v at hv HS ⊢
      obtain ⟨v0, v1⟩ := hv
      have hor := or_val v y v0 v1 y0 y1
      go_wp2
      exact ⟨⟨i + 1, by go_num, by omega, by rw [HS.out]⟩, by simp [intOf]; omega⟩
    · have hi2 : i = L.length := by omega
      subst hi2
      rw [List.take_length]
      obtain ⟨v0, v1⟩ := HVB.out
      have hgt := HQ.out
      go_wp2
      go_ret2
      exact ⟨rfl, ⟨A2, c2, HC2.out.1⟩, HC2.out.2⟩
end Go.Proofs.Ytepldlnmeenlbaa.Own
namespace Go.Proofs.Ytepldlnmeenlbaa.Own
open Go.RowKit Go.Proofs Go.Proofs.YtepldlnmeenlbaaW.PrintWords Go.Proofs.YtepldlnmeenlbaaW.PrintLast Go.Proofs.YtepldlnmeenlbaaW.PrintMore Go.Proofs.Ytepldlnmeenlbaa.Base
variable {t : TypeId} {m rb c : Nat} {w w' : World} {A : Option Addr} {s : List Int × Bool} {bs : List Int} {bad : Bool}
theorem rdN_none {mk : Bool} {most : Int} (h : numR mk most s.1 = none) : rdN mk most s = ((0, false), ([], true)) := by unfold rdN; rw [h]
theorem rdN_some {mk : Bool} {most : Int} {x : Int} {b : Bool} {r : List Int} (h : numR mk most s.1 = some (x, b, r)) : rdN mk most s = ((x, b), (r, s.2)) := by unfold rdN; rw [h]
theorem rnumber_any (mk : Bool) (most : Int) (w : World) (h : RdAt 92 m w rb s) (m0 : 0 ≤ most) (m1 : most < 18446744073709551616) :
    Calls Try.prog 86 #[.pointer (some ⟨rb, 0, none⟩), .int .u64 most, .bool mk] w fun e w' => e = .returned (.tuple #[.int .u64 (rdN mk most s).1.1, .bool (rdN mk most s).1.2]) ∧ RdAt 92 m w' rb (rdN mk most s).2 ∧ Upd rb w w' := by
  obtain ⟨bs, bad⟩ := s
  by_cases hb : bs = []
  · rw [rdN_none (s := (bs, bad)) (by subst hb; rfl)]
    cases mk with
    | false => exact rnum_nil_false most w h m0 m1 hb
    | true => exact rnum_nil_true most w h m0 m1 hb
  · have hp : 0 < bs.length := by rcases bs with _ | ⟨x, r⟩; exact absurd rfl hb; simp
    have hz : 0 ≤ rd bs 0 ∧ rd bs 0 ≤ 255 := by
      obtain ⟨A, c, h⟩ := h
      exact h.byte _ (rd_mem (Int.le_refl 0) (show (0 : Int) < bs.length by omega))
    have h0 : 0 ≤ szR mk bs := by unfold szR; split <;> omega
    have hn := numR_rd (mk := mk) (most := most) hp h0
    have no : (8 < szR mk bs ∨ (bs.length : Int) ≤ szR mk bs ∨ 0 < szR mk bs ∧ rd bs 1 = 0) → rdN mk most (bs, bad) = ((0, false), ([], true)) := fun hc => rdN_none (by rw [show (bs, bad).1 = bs from rfl, hn, if_pos hc])
    by_cases h1 : 8 < szR mk bs
    · rw [no (.inl h1)]
      cases mk with
      | false => exact rnum_big_false most w h m0 m1 hp h1
      | true => exact rnum_big_true most w h m0 m1 hp h1
    by_cases h2 : (bs.length : Int) ≤ szR mk bs
    · rw [no (.inr (.inl h2))]
      cases mk with
      | false => exact rnum_short_false most w h m0 m1 hp h1 h2
      | true => exact rnum_short_true most w h m0 m1 hp h1 h2
    by_cases h34 : 0 < szR mk bs ∧ rd bs 1 = 0
    · rw [no (.inr (.inr h34))]
      cases mk with
      | false => exact rnum_lead_false most w h m0 m1 hp h1 h2 h34.1 h34.2
      | true => exact rnum_lead_true most w h m0 m1 hp h1 h2 h34.1 h34.2
    rw [if_neg (by rintro (x | x | x); exact h1 x; exact h2 x; exact h34 x)] at hn
    by_cases hq : most < valB ((bs.take (szR mk bs + 1).toNat).drop 1)
    · rw [if_pos hq] at hn
      rw [rdN_none (s := (bs, bad)) hn]
      by_cases h3 : 0 < szR mk bs
      · cases mk with
        | false => exact rnum_more_gt_false most w h m0 m1 hp h1 h2 h3 (fun e => h34 ⟨h3, e⟩) hq
        | true => exact rnum_more_gt_true most w h m0 m1 hp h1 h2 h3 (fun e => h34 ⟨h3, e⟩) hq
      · cases mk with
        | false => exact rnum_zero_gt_false most w h m0 m1 hp h1 h2 h3 hq
        | true => exact rnum_zero_gt_true most w h m0 m1 hp h1 h2 h3 hq
    · rw [if_neg hq] at hn
      rw [rdN_some (s := (bs, bad)) hn]
      by_cases h3 : 0 < szR mk bs
      · cases mk with
        | false => exact rnum_more_le_false most w h m0 m1 hp h1 h2 h3 (fun e => h34 ⟨h3, e⟩) hq
        | true => exact rnum_more_le_true most w h m0 m1 hp h1 h2 h3 (fun e => h34 ⟨h3, e⟩) hq
      · cases mk with
        | false => exact rnum_zero_le_false most w h m0 m1 hp h1 h2 h3 hq
        | true => exact rnum_zero_le_true most w h m0 m1 hp h1 h2 h3 hq
theorem rdN_bound {mk : Bool} {most : Int} (h : ∀ x, x ∈ s.1 → 0 ≤ x ∧ x ≤ 255) (m0 : 0 ≤ most) : 0 ≤ (rdN mk most s).1.1 ∧ (rdN mk most s).1.1 ≤ most := by
  unfold rdN
  cases hn : numR mk most s.1 with
  | none => exact ⟨Int.le_refl _, m0⟩
  | some r =>
    obtain ⟨x, b, r⟩ := r
    obtain ⟨l, g⟩ := s
    rcases l with _ | ⟨c, t⟩
    · cases hn
    · simp only [numR] at hn
      generalize (if mk = true then c % 128 else c) = z at hn
      split at hn
      · cases hn
      · by_cases hq : most < valB (t.take z.toNat)
        · rw [if_pos hq] at hn; cases hn
        · rw [if_neg hq] at hn
          injection hn with hn
          injection hn with hn _
          subst hn
          exact ⟨(valB_bound _ (fun x hx => h x (List.mem_cons_of_mem _ (List.mem_of_mem_take hx)))).1, Int.not_lt.1 hq⟩
set_option maxHeartbeats 1600000 in
set_option maxRecDepth 100000 in
theorem rnum_any (most : Int) (w : World) (h : RdAt 92 m w rb s) (m0 : 0 ≤ most) (m1 : most < 18446744073709551616) :
    Calls Try.prog 46 #[.pointer (some ⟨rb, 0, none⟩), .int .u64 most] w fun e w' => e = .returned (.int .u64 (rdNum most s).1) ∧ RdAt 92 m w' rb (rdNum most s).2 ∧ Upd rb w w' := by
  have HH := Aside0.mk h
  clear h
  go_enter Try.func46, Try.ntmps46
  go_wp2_with (go_at_call 86; refine (rnumber_any false most w HH.out m0 m1).mono ?_; rintro e w2 ⟨rfl, q1, q2⟩; have H1 := Aside0.mk q1; have H2 := Aside0.mk q2; clear q1 q2)
  go_ret
  exact ⟨rfl, H1.out, H2.out⟩
end Go.Proofs.Ytepldlnmeenlbaa.Own
namespace Go.Proofs.Ytepldlnmeenlbaa.Own
open Go.RowKit Go.Proofs Go.Proofs.YtepldlnmeenlbaaW.PrintWords Go.Proofs.YtepldlnmeenlbaaW.PrintLast Go.Proofs.YtepldlnmeenlbaaW.PrintMore Go.Proofs.Ytepldlnmeenlbaa.Base
variable {t : TypeId} {m rb c : Nat} {w w' : World} {A : Option Addr} {s : List Int × Bool} {bs : List Int} {bad : Bool}
set_option maxHeartbeats 1600000 in
set_option maxRecDepth 100000 in
theorem dfail_any (w : World) (h : RdAt 40 m w rb s) : Calls Try.prog 51 #[.pointer (some ⟨rb, 0, none⟩)] w fun e w' => e = .returned (.tuple #[]) ∧ RdAt 40 m w' rb ([], true) ∧ Upd rb w w' := by
  obtain ⟨A, c, h⟩ := h
  have c0 := h.g0
  have c1 := h.g1
  have f0 := h.f0
  have f1 := h.f1
  have HF := Aside0.mk h.failed
  clear h
  go_enter Try.func51, Try.ntmps51
  go_wp2
  go_end0
  exact ⟨rfl, ⟨none, 0, HF.out.1⟩, HF.out.2⟩
set_option maxHeartbeats 1600000 in
set_option maxRecDepth 100000 in
theorem dfirst_nil (w : World) (h : RdAt 40 m w rb ([], bad)) : Calls Try.prog 87 #[.pointer (some ⟨rb, 0, none⟩)] w fun e w' => e = .returned (.tuple #[.int .u8 0, .bool false]) ∧ w = w' := by
  obtain ⟨A, c, h⟩ := h
  have c0 : w.cell? ⟨rb, 0, none⟩ = some (.slice A 0 c) := h.g0
  clear h
  go_enter Try.func87, Try.ntmps87
  go_wp2
  go_ret2
  exact ⟨rfl, rfl⟩
set_option maxHeartbeats 1600000 in
set_option maxRecDepth 100000 in
theorem dfirst_cons (w : World) (hp : 0 < bs.length) (h : RdAt 40 m w rb (bs, bad)) : Calls Try.prog 87 #[.pointer (some ⟨rb, 0, none⟩)] w fun e w' => e = .returned (.tuple #[.int .u8 (rd bs 0), .bool true]) ∧ RdAt 40 m w' rb (bs.drop 1, bad) ∧ Upd rb w w' := by
  obtain ⟨A, c, h⟩ := h
  have c0 : w.cell? ⟨rb, 0, none⟩ = some (.slice A bs.length c) := h.g0
  obtain ⟨ad, rfl, hx0⟩ := Kd.at_int h.row 0 (Int.le_refl _) (show (0 : Int) < (bs.length : Nat) by omega)
  rw [add0] at hx0
  have hm : bs.length ≤ 9223372036854775807 := h.row.2.1
  have p0 : (0 : Int) < bs.length := by omega
  have hne : ((bs.length : Int) == 0) = false := beq_eq_false_iff_ne.mpr (by omega)
  obtain ⟨A2, c2, hs2, hr2, hc2, hf2⟩ := from_run (some ad) c bs 1 (by omega) (by omega) h.cap
  rw [show (1 : Int).toNat = 1 from rfl] at hs2 hr2 hc2
  have HC2 := Aside0.mk (h.cut (hr2 w h.row) hc2 (fun ad' e => by obtain ⟨ad0, e0, e1⟩ := hf2 ad' e; rw [e1]; exact h.far ad0 e0) (fun x hx => List.mem_of_mem_drop hx))
  have f0 := h.f0
  clear hr2 hc2 hf2 h
  generalize bs.drop 1 = D at hs2 HC2 ⊢
  go_enter Try.func87, Try.ntmps87
  go_wp2
  go_ret2
  exact ⟨rfl, ⟨A2, c2, HC2.out.1⟩, HC2.out.2⟩
set_option maxHeartbeats 4000000 in
set_option maxRecDepth 100000 in
theorem dnum_big (n : Int) (w : World) (h : RdAt 40 m w rb (bs, bad)) (n0 : 0 ≤ n) (n1 : n ≤ 255) (h1 : 8 < n) :
    Calls Try.prog 88 #[.pointer (some ⟨rb, 0, none⟩), .int .i64 n] w fun e w' => e = .returned (.tuple #[.int .u64 0, .bool false]) ∧ w = w' := by
  obtain ⟨A, c, h⟩ := h
  have c0 : w.cell? ⟨rb, 0, none⟩ = some (.slice A bs.length c) := h.g0
  have hm : bs.length ≤ 9223372036854775807 := h.row.2.1
  have d1 : decide (8 < n) = true := decide_eq_true h1
  clear h
  go_enter Try.func88, Try.ntmps88
  go_wp2
  go_ret2
  exact ⟨rfl, rfl⟩
set_option maxHeartbeats 4000000 in
set_option maxRecDepth 100000 in
theorem dnum_short (n : Int) (w : World) (h : RdAt 40 m w rb (bs, bad)) (n0 : 0 ≤ n) (n1 : n ≤ 255) (h1 : ¬ 8 < n) (h2 : (bs.length : Int) < n) :
    Calls Try.prog 88 #[.pointer (some ⟨rb, 0, none⟩), .int .i64 n] w fun e w' => e = .returned (.tuple #[.int .u64 0, .bool false]) ∧ w = w' := by
  obtain ⟨A, c, h⟩ := h
  have c0 : w.cell? ⟨rb, 0, none⟩ = some (.slice A bs.length c) := h.g0
  have hm : bs.length ≤ 9223372036854775807 := h.row.2.1
  have d1 : decide (8 < n) = false := decide_eq_false h1
  have d2 : decide ((bs.length : Int) < n) = true := decide_eq_true h2
  clear h
  go_enter Try.func88, Try.ntmps88
  go_wp2
  go_ret2
  exact ⟨rfl, rfl⟩
set_option maxHeartbeats 4000000 in
set_option maxRecDepth 100000 in
theorem dnum_lead (n : Int) (w : World) (h : RdAt 40 m w rb (bs, bad)) (n0 : 0 ≤ n) (n1 : n ≤ 255) (h1 : ¬ 8 < n) (h2 : ¬ (bs.length : Int) < n) (h3 : 0 < n) (h4 : rd bs 0 = 0) :
    Calls Try.prog 88 #[.pointer (some ⟨rb, 0, none⟩), .int .i64 n] w fun e w' => e = .returned (.tuple #[.int .u64 0, .bool false]) ∧ w = w' := by
  obtain ⟨A, c, h⟩ := h
  have c0 : w.cell? ⟨rb, 0, none⟩ = some (.slice A bs.length c) := h.g0
  have hm : bs.length ≤ 9223372036854775807 := h.row.2.1
  obtain ⟨ad, rfl, hx0⟩ := Kd.at_int h.row 0 (Int.le_refl _) (show (0 : Int) < (bs.length : Nat) by omega)
  rw [add0] at hx0
  have p0 : (0 : Int) < bs.length := by omega
  rw [h4] at hx0
  clear h4 h
  have d1 : decide (8 < n) = false := decide_eq_false h1
  have d2 : decide ((bs.length : Int) < n) = false := decide_eq_false h2
  have d3 : decide (0 < n) = _ := decide_eq_true h3
  go_enter Try.func88, Try.ntmps88
  go_wp2
  go_ret2
  exact ⟨rfl, rfl⟩
set_option maxHeartbeats 4000000 in
set_option maxRecDepth 100000 in
theorem dnum_zero (n : Int) (w : World) (h : RdAt 40 m w rb (bs, bad)) (n0 : 0 ≤ n) (n1 : n ≤ 255) (h1 : ¬ 8 < n) (h2 : ¬ (bs.length : Int) < n) (h3 : ¬ 0 < n) :
    Calls Try.prog 88 #[.pointer (some ⟨rb, 0, none⟩), .int .i64 n] w fun e w' => e = .returned (.tuple #[.int .u64 (valB (bs.take n.toNat)), .bool true]) ∧ RdAt 40 m w' rb (bs.drop n.toNat, bad) ∧ Upd rb w w' := by
  obtain ⟨A, c, h⟩ := h
  have c0 : w.cell? ⟨rb, 0, none⟩ = some (.slice A bs.length c) := h.g0
  have hm : bs.length ≤ 9223372036854775807 := h.row.2.1
  have HB1 : Aside0 (∀ x, x ∈ bs.take n.toNat → 0 ≤ x ∧ x ≤ 255) := ⟨fun x hx => h.byte x (List.mem_of_mem_take hx)⟩
  have HBB : Aside0 (∀ x, x ∈ bs → 0 ≤ x ∧ x ≤ 255) := ⟨fun x hx => h.byte x hx⟩
  have HC1 := Aside0.mk h.row
  obtain ⟨A2, c2, hs2, hr2, hc2, hf2⟩ := from_run A c bs n n0 (by omega) h.cap
  have HC2 := Aside0.mk (h.cut (hr2 w h.row) hc2 (fun ad' e => by obtain ⟨ad0, e0, e1⟩ := hf2 ad' e; rw [e1]; exact h.far ad0 e0) (fun x hx => List.mem_of_mem_drop hx))
  have f0 := h.f0
  clear hr2 hc2 hf2 h
  generalize bs.drop n.toNat = D at hs2 HC2 ⊢
  have d1 : decide (8 < n) = false := decide_eq_false h1
  have d2 : decide ((bs.length : Int) < n) = false := decide_eq_false h2
  have d3 : decide (0 < n) = _ := decide_eq_false h3
  go_enter Try.func88, Try.ntmps88
  go_wp2
  go_loop [6, 7] (fun y v => ∃ i : Nat, v = .int .i64 i ∧ (i : Int) ≤ n ∧ y = .int .u64 (valB (bs.take i))) (fun _ v => n.toNat - (intOf v).toNat)
  case atStart => exact ⟨0, rfl, by omega, rfl⟩
  case round =>
    obtain ⟨i, rfl, hi, rfl⟩ := hrel
    by_cases hlt : (i : Int) < n
    · exfalso; omega
    · have hi2 : (i : Int) = n := by omega
      have HE : Aside0 (valB (bs.take i) = valB (bs.take n.toNat)) := ⟨by rw [← hi2, Int.toNat_natCast]⟩
      go_wp2
      go_ret2
      exact ⟨by rw [HE.out]; rfl, ⟨A2, c2, HC2.out.1⟩, HC2.out.2⟩
set_option maxHeartbeats 4000000 in
set_option maxRecDepth 100000 in
theorem dnum_more (n : Int) (w : World) (h : RdAt 40 m w rb (bs, bad)) (n0 : 0 ≤ n) (n1 : n ≤ 255) (h1 : ¬ 8 < n) (h2 : ¬ (bs.length : Int) < n) (h3 : 0 < n) (h4 : rd bs 0 ≠ 0) :
    Calls Try.prog 88 #[.pointer (some ⟨rb, 0, none⟩), .int .i64 n] w fun e w' => e = .returned (.tuple #[.int .u64 (valB (bs.take n.toNat)), .bool true]) ∧ RdAt 40 m w' rb (bs.drop n.toNat, bad) ∧ Upd rb w w' := by
  obtain ⟨A, c, h⟩ := h
  have c0 : w.cell? ⟨rb, 0, none⟩ = some (.slice A bs.length c) := h.g0
  have hm : bs.length ≤ 9223372036854775807 := h.row.2.1
  obtain ⟨ad, rfl, hx0⟩ := Kd.at_int h.row 0 (Int.le_refl _) (show (0 : Int) < (bs.length : Nat) by omega)
  rw [add0] at hx0
  have p0 : (0 : Int) < bs.length := by omega
  have hb1 : (rd bs 0 == 0) = false := beq_eq_false_iff_ne.mpr h4
  have HH4 := Aside0.mk h4
  have HB1 : Aside0 (∀ x, x ∈ bs.take n.toNat → 0 ≤ x ∧ x ≤ 255) := ⟨fun x hx => h.byte x (List.mem_of_mem_take hx)⟩
  have HBB : Aside0 (∀ x, x ∈ bs → 0 ≤ x ∧ x ≤ 255) := ⟨fun x hx => h.byte x hx⟩
  have HC1 := Aside0.mk h.row
  obtain ⟨A2, c2, hs2, hr2, hc2, hf2⟩ := from_run (some ad) c bs n n0 (by omega) h.cap
  have HC2 := Aside0.mk (h.cut (hr2 w h.row) hc2 (fun ad' e => by obtain ⟨ad0, e0, e1⟩ := hf2 ad' e; rw [e1]; exact h.far ad0 e0) (fun x hx => List.mem_of_mem_drop hx))
  have f0 := h.f0
  clear hr2 hc2 hf2 h
  generalize bs.drop n.toNat = D at hs2 HC2 ⊢
  generalize hy : rd bs 0 = y0 at hx0 hb1
  have HY := Aside0.mk hy
  clear hy h4
  have d1 : decide (8 < n) = false := decide_eq_false h1
  have d2 : decide ((bs.length : Int) < n) = false := decide_eq_false h2
  have d3 : decide (0 < n) = _ := decide_eq_true h3
  go_enter Try.func88, Try.ntmps88
  go_wp2
  go_loop [6, 7] (fun y v => ∃ i : Nat, v = .int .i64 i ∧ (i : Int) ≤ n ∧ y = .int .u64 (valB (bs.take i))) (fun _ v => n.toNat - (intOf v).toNat)
  case atStart => exact ⟨0, rfl, by omega, rfl⟩
  case round =>
    obtain ⟨i, rfl, hi, rfl⟩ := hrel
    by_cases hlt : (i : Int) < n
    · have hv := valB_small bs i HBB.out (by omega)
      obtain ⟨ad1, e1, hx⟩ := Kd.at_int HC1.out i (by omega) (by omega)
      cases e1
      rw [Int.toNat_natCast] at hx
      have hxb := HBB.out _ (rd_mem (l := bs) (i := (i : Int)) (by omega) (by omega))
      have HS := Aside0.mk (valB_step bs i (by omega))
      have q0 : (0 : Int) ≤ i := by omega
      have q1 : (i : Int) < bs.length := by omega
      generalize rd bs i = y at hx hxb HS
      obtain ⟨y0, y1⟩ := hxb
      generalize valB (bs.take i) = v at hv HS ⊢
      obtain ⟨v0, v1⟩ := hv
      go_wp2
      exact ⟨⟨i + 1, by go_num, by omega, by rw [HS.out]⟩, by simp [intOf]; omega⟩
    · have hi2 : (i : Int) = n := by omega
      have HE : Aside0 (valB (bs.take i) = valB (bs.take n.toNat)) := ⟨by rw [← hi2, Int.toNat_natCast]⟩
      go_wp2
      go_ret2
      exact ⟨by rw [HE.out]; rfl, ⟨A2, c2, HC2.out.1⟩, HC2.out.2⟩
end Go.Proofs.Ytepldlnmeenlbaa.Own
namespace Go.Proofs.Ytepldlnmeenlbaa.Own
open Go.RowKit Go.Proofs Go.Proofs.YtepldlnmeenlbaaW.PrintWords Go.Proofs.YtepldlnmeenlbaaW.PrintLast Go.Proofs.YtepldlnmeenlbaaW.PrintMore Go.Proofs.Ytepldlnmeenlbaa.Base
variable {t : TypeId} {m rb c : Nat} {w w' : World} {A : Option Addr} {s : List Int × Bool} {bs : List Int} {bad : Bool}
theorem dnumber_no (n : Int) (w : World) (h : RdAt 40 m w rb (bs, bad)) (n0 : 0 ≤ n) (n1 : n ≤ 255) (hc : 8 < n ∨ (bs.length : Int) < n ∨ 0 < n ∧ bs[0]? = some 0) :
    Calls Try.prog 88 #[.pointer (some ⟨rb, 0, none⟩), .int .i64 n] w fun e w' => e = .returned (.tuple #[.int .u64 0, .bool false]) ∧ w = w' := by
  by_cases h1 : 8 < n
  · exact dnum_big n w h n0 n1 h1
  by_cases h2 : (bs.length : Int) < n
  · exact dnum_short n w h n0 n1 h1 h2
  rcases hc with x | x | ⟨x, y⟩
  · exact absurd x h1
  · exact absurd x h2
  · rcases bs with _ | ⟨d, r⟩
    · cases y
    · injection y with y; subst y; exact dnum_lead n w h n0 n1 h1 h2 x rfl
theorem dnumber_ok (n : Int) (w : World) (h : RdAt 40 m w rb (bs, bad)) (n0 : 0 ≤ n) (n1 : n ≤ 255) (hc : ¬ (8 < n ∨ (bs.length : Int) < n ∨ 0 < n ∧ bs[0]? = some 0)) :
    Calls Try.prog 88 #[.pointer (some ⟨rb, 0, none⟩), .int .i64 n] w fun e w' => e = .returned (.tuple #[.int .u64 (valB (bs.take n.toNat)), .bool true]) ∧ RdAt 40 m w' rb (bs.drop n.toNat, bad) ∧ Upd rb w w' := by
  by_cases h3 : 0 < n
  · refine dnum_more n w h n0 n1 (fun x => hc (.inl x)) (fun x => hc (.inr (.inl x))) h3 (fun e => hc (.inr (.inr ⟨h3, ?_⟩)))
    rcases bs with _ | ⟨d, r⟩
    · exact absurd (show ((([] : List Int).length : Nat) : Int) < n by simpa using h3) (fun x => hc (.inr (.inl x)))
    · rw [rd_cons] at e; subst e; rfl
  · exact dnum_zero n w h n0 n1 (fun x => hc (.inl x)) (fun x => hc (.inr (.inl x))) h3
theorem dfirst_c (c : Int) (r : List Int) (w : World) (h : RdAt 40 m w rb (c :: r, bad)) : Calls Try.prog 87 #[.pointer (some ⟨rb, 0, none⟩)] w fun e w' => e = .returned (.tuple #[.int .u8 c, .bool true]) ∧ RdAt 40 m w' rb (r, bad) ∧ Upd rb w w' :=
  dfirst_cons (bs := c :: r) w (by simp) h
set_option maxHeartbeats 1600000 in
set_option maxRecDepth 100000 in
theorem dn_nil (most : Int) (w : World)  (h : RdAt 40 m w rb ([], bad)) (m0 : 0 ≤ most) (m1 : most < 18446744073709551616) :
    Calls Try.prog 50 #[.pointer (some ⟨rb, 0, none⟩), .int .u64 most] w fun e w' => e = .returned (.int .u64 0) ∧ RdAt 40 m w' rb ([], true) ∧ Upd rb w w' := by
  have HH := Aside0.mk h
  clear h
  go_enter Try.func50, Try.ntmps50
  go_wp2_with (first | (go_at_call 87; refine (dfirst_nil w HH.out).mono ?_; rintro e w2 ⟨rfl, rfl⟩) | (go_at_call 51; refine (dfail_any w HH.out).mono ?_; rintro e w9 ⟨rfl, q1, q2⟩; have H9 := Aside0.mk q1; have U9 := Aside0.mk q2; clear q1 q2))
  go_ret
  exact ⟨rfl, H9.out, U9.out⟩
set_option maxHeartbeats 1600000 in
set_option maxRecDepth 100000 in
theorem dn_no (most : Int) (w : World) (c : Int) (r : List Int) (h : RdAt 40 m w rb (c :: r, bad)) (m0 : 0 ≤ most) (m1 : most < 18446744073709551616) (hc : 8 < c ∨ (r.length : Int) < c ∨ 0 < c ∧ r[0]? = some 0) :
    Calls Try.prog 50 #[.pointer (some ⟨rb, 0, none⟩), .int .u64 most] w fun e w' => e = .returned (.int .u64 0) ∧ RdAt 40 m w' rb ([], true) ∧ Upd rb w w' := by
  have HH := Aside0.mk h
  have hcb : 0 ≤ c ∧ c ≤ 255 := by obtain ⟨A, k, h⟩ := h; exact h.byte c (by simp)
  obtain ⟨z0, z1⟩ := hcb
  clear h
  have HC := Aside0.mk hc
  clear hc
  go_enter Try.func50, Try.ntmps50
  go_wp2_with (first | (go_at_call 87; refine (dfirst_c c r w HH.out).mono ?_; rintro e w2 ⟨rfl, q1, q2⟩; have H1 := Aside0.mk q1; have U1 := Aside0.mk q2; clear q1 q2) | (go_at_call 88; refine (dnumber_no (c) w2 H1.out (by omega) (by omega) HC.out).mono ?_; rintro e w3 ⟨rfl, rfl⟩) | (go_at_call 51; refine (dfail_any w2 H1.out).mono ?_; rintro e w9 ⟨rfl, q1, q2⟩; have H9 := Aside0.mk q1; have U9 := Aside0.mk (U1.out.trans q2); clear q1 q2))
  go_ret
  exact ⟨rfl, H9.out, U9.out⟩
set_option maxHeartbeats 1600000 in
set_option maxRecDepth 100000 in
theorem dn_big (most : Int) (w : World) (c : Int) (r : List Int) (h : RdAt 40 m w rb (c :: r, bad)) (m0 : 0 ≤ most) (m1 : most < 18446744073709551616) (hc : ¬ (8 < c ∨ (r.length : Int) < c ∨ 0 < c ∧ r[0]? = some 0)) (v : Int) (hv : valB (r.take (c).toNat) = v) (v0 : 0 ≤ v) (v1 : v < 18446744073709551616) (hq : most < v) :
    Calls Try.prog 50 #[.pointer (some ⟨rb, 0, none⟩), .int .u64 most] w fun e w' => e = .returned (.int .u64 0) ∧ RdAt 40 m w' rb ([], true) ∧ Upd rb w w' := by
  have HH := Aside0.mk h
  have hcb : 0 ≤ c ∧ c ≤ 255 := by obtain ⟨A, k, h⟩ := h; exact h.byte c (by simp)
  obtain ⟨z0, z1⟩ := hcb
  clear h
  have HC := Aside0.mk hc
  have HV := Aside0.mk hv
  clear hc hv
  have dq : decide (v ≤ most) = false := decide_eq_false (by omega)
  go_enter Try.func50, Try.ntmps50
  go_wp2_with (first | (go_at_call 87; refine (dfirst_c c r w HH.out).mono ?_; rintro e w2 ⟨rfl, q1, q2⟩; have H1 := Aside0.mk q1; have U1 := Aside0.mk q2; clear q1 q2) | (go_at_call 88; refine (dnumber_ok (c) w2 H1.out (by omega) (by omega) HC.out).mono ?_; rintro e w3 ⟨rfl, q1, q2⟩; have H2 := Aside0.mk q1; have U2 := Aside0.mk (U1.out.trans q2); clear q1 q2; rw [HV.out]) | (go_at_call 51; refine (dfail_any w3 H2.out).mono ?_; rintro e w9 ⟨rfl, q1, q2⟩; have H9 := Aside0.mk q1; have U9 := Aside0.mk (U2.out.trans q2); clear q1 q2))
  go_ret
  exact ⟨rfl, H9.out, U9.out⟩
set_option maxHeartbeats 1600000 in
set_option maxRecDepth 100000 in
theorem dn_ok (most : Int) (w : World) (c : Int) (r : List Int) (h : RdAt 40 m w rb (c :: r, bad)) (m0 : 0 ≤ most) (m1 : most < 18446744073709551616) (hc : ¬ (8 < c ∨ (r.length : Int) < c ∨ 0 < c ∧ r[0]? = some 0)) (v : Int) (hv : valB (r.take (c).toNat) = v) (v0 : 0 ≤ v) (v1 : v < 18446744073709551616) (hq : ¬ most < v) :
    Calls Try.prog 50 #[.pointer (some ⟨rb, 0, none⟩), .int .u64 most] w fun e w' => e = .returned (.int .u64 v) ∧ RdAt 40 m w' rb (r.drop (c).toNat, bad) ∧ Upd rb w w' := by
  have HH := Aside0.mk h
  have hcb : 0 ≤ c ∧ c ≤ 255 := by obtain ⟨A, k, h⟩ := h; exact h.byte c (by simp)
  obtain ⟨z0, z1⟩ := hcb
  clear h
  have HC := Aside0.mk hc
  have HV := Aside0.mk hv
  clear hc hv
  have dq : decide (v ≤ most) = true := decide_eq_true (by omega)
  go_enter Try.func50, Try.ntmps50
  go_wp2_with (first | (go_at_call 87; refine (dfirst_c c r w HH.out).mono ?_; rintro e w2 ⟨rfl, q1, q2⟩; have H1 := Aside0.mk q1; have U1 := Aside0.mk q2; clear q1 q2) | (go_at_call 88; refine (dnumber_ok (c) w2 H1.out (by omega) (by omega) HC.out).mono ?_; rintro e w3 ⟨rfl, q1, q2⟩; have H2 := Aside0.mk q1; have U2 := Aside0.mk (U1.out.trans q2); clear q1 q2; rw [HV.out]))
  go_ret
  exact ⟨rfl, H2.out, U2.out⟩
theorem dNum_any (most : Int) (w : World) (h : RdAt 40 m w rb s) (m0 : 0 ≤ most) (m1 : most < 18446744073709551616) :
    Calls Try.prog 50 #[.pointer (some ⟨rb, 0, none⟩), .int .u64 most] w fun e w' => e = .returned (.int .u64 (rdNum most s).1) ∧ RdAt 40 m w' rb (rdNum most s).2 ∧ Upd rb w w' := by
  obtain ⟨bs, bad⟩ := s
  unfold rdNum
  rcases bs with _ | ⟨c, r⟩
  · rw [rdN_none (s := ([], bad)) rfl]
    exact dn_nil most w h m0 m1
  · have hb : ∀ x, x ∈ c :: r → 0 ≤ x ∧ x ≤ 255 := by obtain ⟨A, k, h⟩ := h; exact h.byte
    have hn : numR false most (c :: r) = if 8 < c ∨ (r.length : Int) < c ∨ 0 < c ∧ r[0]? = some 0 then none else if most < valB (r.take c.toNat) then none else some (valB (r.take c.toNat), false && decide (128 ≤ c), r.drop c.toNat) := rfl
    by_cases hc : 8 < c ∨ (r.length : Int) < c ∨ 0 < c ∧ r[0]? = some 0
    · rw [if_pos hc] at hn
      rw [rdN_none (s := (c :: r, bad)) hn]
      exact dn_no most w c r h m0 m1 hc
    · rw [if_neg hc] at hn
      have hv := valB_big (r.take c.toNat) (fun x hx => hb x (List.mem_cons_of_mem _ (List.mem_of_mem_take hx))) (by rw [List.length_take]; omega)
      by_cases hq : most < valB (r.take c.toNat)
      · rw [if_pos hq] at hn
        rw [rdN_none (s := (c :: r, bad)) hn]
        exact dn_big most w c r h m0 m1 hc _ rfl hv.1 hv.2 hq
      · rw [if_neg hq] at hn
        rw [rdN_some (s := (c :: r, bad)) hn]
        exact dn_ok most w c r h m0 m1 hc _ rfl hv.1 hv.2 hq
end Go.Proofs.Ytepldlnmeenlbaa.Own
namespace Go.Proofs.Ytepldlnmeenlbaa.Own
open Go.RowKit Go.Proofs Go.Proofs.YtepldlnmeenlbaaW.PrintWords Go.Proofs.YtepldlnmeenlbaaW.PrintLast Go.Proofs.YtepldlnmeenlbaaW.PrintMore Go.Proofs.Ytepldlnmeenlbaa.Base
variable {t : TypeId} {m rb c : Nat} {w w' : World} {A : Option Addr} {s : List Int × Bool}
theorem RdAt.lt (h : RdAt t m w rb s) : rb < w.heap.size := by obtain ⟨A, c, h⟩ := h; exact blk_lt h.blk
theorem RdAt.mle (h : RdAt t m w rb s) : m ≤ rb := by obtain ⟨A, c, h⟩ := h; exact h.mrb
theorem RdAt.byte (h : RdAt t m w rb s) : ∀ x, x ∈ s.1 → 0 ≤ x ∧ x ≤ 255 := by obtain ⟨A, c, h⟩ := h; exact h.byte
theorem upd_set1 (w : World) (b i : Nat) (v : Value) : Upd b w (w.setCell ⟨b, i, none⟩ v) := (Upd.refl b w).set i v
theorem RdAt.seti (h : RdAt t m w rb s) {b : Nat} (i : Nat) (v : Value) (hb : m ≤ b) (hne : rb ≠ b) : RdAt t m (w.setCell ⟨b, i, none⟩ v) rb s := h.upd (upd_set1 w b i v) hb hne
theorem Upd.seti {W : World} {cb : Nat} (hu : Upd cb w W) {b : Nat} (hb : w.heap.size ≤ b) (i : Nat) (v : Value) : Upd cb w (W.setCell ⟨b, i, none⟩ v) :=
  ⟨hu.os, hu.tape, hu.output, by simpa using hu.size, fun k hk hne => (Below.heap_setCell _ _ _ _ (by show k ≠ b; omega)).trans (hu.block k hk hne)⟩
theorem rdNum_range {most : Int} {x : Int} {s' : List Int × Bool} (hb : ∀ x, x ∈ s.1 → 0 ≤ x ∧ x ≤ 255) (m0 : 0 ≤ most) (h : rdNum most s = (x, s')) : (0 ≤ x ∧ x ≤ most) ∧ ∀ x, x ∈ s'.1 → 0 ≤ x ∧ x ≤ 255 := by
  have h1 : (rdN false most s).1.1 = x := congrArg Prod.fst h
  have h2 : (rdN false most s).2 = s' := congrArg Prod.snd h
  refine ⟨h1 ▸ rdN_bound hb m0, ?_⟩
  rw [← h2]
  unfold rdN
  cases hn : numR false most s.1 with
  | none => intro x hx; cases hx
  | some r =>
    obtain ⟨k, hk⟩ := numR_rest hn
    obtain ⟨y, b, l⟩ := r
    intro x hx
    simp only at hk hx
    rw [hk] at hx
    exact hb x (List.mem_of_mem_drop hx)
end Go.Proofs.Ytepldlnmeenlbaa.Own
namespace Go.Proofs.Ytepldlnmeenlbaa.Own
open Go.RowKit Go.Proofs Go.Proofs.YtepldlnmeenlbaaW.PrintWords Go.Proofs.YtepldlnmeenlbaaW.PrintLast Go.Proofs.YtepldlnmeenlbaaW.PrintMore Go.Proofs.Ytepldlnmeenlbaa.Base
theorem map_at {k : IntKind} (l : List Int) (i : Nat) (h : i < l.length) : (l.map (Value.int k)).toArray[i]? = some (.int k (l.getD i 0)) := by
  simp [List.getD_eq_getElem?_getD, List.getElem?_eq_getElem h, h]
def numsB (l : List Int) : List Int := l.flatMap (numB 0)
theorem numsB_take (l : List Int) (i : Nat) (h : i < l.length) : numsB (l.take (i + 1)) = numsB (l.take i) ++ numB 0 (l.getD i 0) := by
  unfold numsB
  rw [List.take_add_one, List.flatMap_append]
  simp [List.getD_eq_getElem?_getD, List.getElem?_eq_getElem h]
theorem numsB_len (l : List Int) (h : ∀ x, x ∈ l → 0 ≤ x ∧ x < 18446744073709551616) : (numsB l).length ≤ 9 * l.length := by
  induction l with
  | nil => simp [numsB]
  | cons x r ih =>
    have h1 := numB_len 0 x (h x (by simp)).1 (h x (by simp)).2
    have h2 := ih (fun y hy => h y (List.mem_cons_of_mem _ hy))
    unfold numsB at h2 ⊢
    simp only [List.flatMap_cons, List.length_append, List.length_cons]
    omega
theorem getD_mem {l : List Int} {i : Nat} (h : i < l.length) : l.getD i 0 ∈ l := by
  rw [List.getD_eq_getElem?_getD, List.getElem?_eq_getElem h]; exact List.getElem_mem h
set_option maxHeartbeats 1600000 in
set_option maxRecDepth 100000 in
theorem wnums_any (g n wb : Nat) (bs l : List Int) (w : World) (h : WrAt w n wb bs) (hg : w.heap[g]? = some (.cells (l.map (Value.int .u64)).toArray 22 (0, 0))) (hr : ∀ x, x ∈ l → 0 ≤ x ∧ x < 18446744073709551616) (hl : bs.length + 9 * l.length ≤ 140737488355328) :
    Calls Try.prog 44 #[.pointer (some ⟨wb, 0, none⟩), .slice (some ⟨g, 0, none⟩) l.length l.length] w fun e w' => e = .returned (.tuple #[]) ∧ WrAt w' n wb (bs ++ numsB l) ∧ WUpd n wb w w' := by
  have hgw : g ≠ wb := by
    obtain ⟨v, hv⟩ := h
    rintro rfl
    rw [hv.blk] at hg
    injection hg with hg
    injection hg with _ hg
    revert hg
    decide
  have HG := Aside0.mk hg
  have HA0 := Aside0.mk h
  have HR := Aside0.mk hr
  clear hg h hr
  go_enter Try.func44, Try.ntmps44
  go_wp2
  go_loopw [10] (fun y wr => ∃ i : Nat, y = .int .i64 i ∧ i ≤ l.length ∧ Aside0 (WrAt wr n wb (bs ++ numsB (l.take i))) ∧ Aside0 (WUpd n wb w wr)) (fun y _ => l.length - (intOf y).toNat)
  case atStart => exact ⟨0, rfl, by omega, ⟨by simpa [numsB] using HA0.out⟩, ⟨WUpd.refl _ _ _⟩⟩
  case round =>
    obtain ⟨i, rfl, hi, HA, HU⟩ := hrel
    by_cases hlt : i < l.length
    · have hx := HR.out _ (getD_mem hlt)
      have hb : wr.heap[g]? = _ := HU.out.blk HG.out hgw (by decide)
      have c0 : wr.cell? ⟨g, i, none⟩ = some (.int .u64 (l.getD i 0)) := (blk_cell hb i).trans (map_at l i hlt)
      have hlen := numsB_len (l.take i) (fun y hy => HR.out y (List.mem_of_mem_take hy))
      have hll : (bs ++ numsB (l.take i)).length + 9 ≤ 140737488355328 := by rw [List.length_append]; rw [List.length_take] at hlen; omega
      have HN := Aside0.mk (numsB_take l i hlt)
      generalize l.getD i 0 = x at hx c0 HN
      obtain ⟨x0, x1⟩ := hx
      have p0 : (0 : Int) ≤ i := by omega
      have p1 : (i : Int) < l.length := by omega
      clear hb hlen
      go_wp2_with (go_at_call 85; refine (wnumber_any n wb _ x 0 wr HA.out x0 x1 (Int.le_refl _) (by omega) hll).mono ?_; rintro e w2 ⟨rfl, h2, u2⟩; have HA2 := Aside0.mk h2; have HU2 := Aside0.mk (HU.out.trans u2); clear h2 u2)
      exact ⟨⟨i + 1, by go_num, by omega, ⟨by rw [HN.out, ← List.append_assoc]; exact HA2.out⟩, HU2⟩, by simp [intOf]; omega⟩
    · have hi2 : i = l.length := by omega
      have HA2 : Aside0 (WrAt wr n wb (bs ++ numsB l)) := ⟨by have := HA.out; rw [hi2, List.take_length] at this; exact this⟩
      clear HA hi2
      go_wp2
      go_end0
      exact ⟨rfl, HA2.out, HU.out⟩
end Go.Proofs.Ytepldlnmeenlbaa.Own
namespace Go.Proofs.Ytepldlnmeenlbaa.Own
open Go.RowKit Go.Proofs Go.Proofs.YtepldlnmeenlbaaW.PrintWords Go.Proofs.YtepldlnmeenlbaaW.PrintLast Go.Proofs.YtepldlnmeenlbaaW.PrintMore Go.Proofs.Ytepldlnmeenlbaa.Base
theorem wnum9 (n wb : Nat) (bs : List Int) (a0 a1 a2 a3 a4 a5 a6 a7 a8 : Int) (w : World) (g : Nat) (h : WrAt w n wb bs) (hg : g = w.heap.size) (hr : ∀ x, x ∈ [a0, a1, a2, a3, a4, a5, a6, a7, a8] → 0 ≤ x ∧ x < 18446744073709551616) (hl : bs.length + 81 ≤ 140737488355328) :
    Calls Try.prog 44 #[.pointer (some ⟨wb, 0, none⟩), .slice (some ⟨g, 0, none⟩) 9 9] (w.alloc (.cells #[.int .u64 a0, .int .u64 a1, .int .u64 a2, .int .u64 a3, .int .u64 a4, .int .u64 a5, .int .u64 a6, .int .u64 a7, .int .u64 a8] 22)) fun e w' => e = .returned (.tuple #[]) ∧ WrAt w' n wb (bs ++ numsB [a0, a1, a2, a3, a4, a5, a6, a7, a8]) ∧ WUpd n wb w w' := by
  subst hg
  have hb0 : Below w.heap.size w (w.alloc (.cells #[.int .u64 a0, .int .u64 a1, .int .u64 a2, .int .u64 a3, .int .u64 a4, .int .u64 a5, .int .u64 a6, .int .u64 a7, .int .u64 a8] 22)) := below_alloc (Below.refl _ _) _
  exact (wnums_any w.heap.size n wb bs [a0, a1, a2, a3, a4, a5, a6, a7, a8] (w.alloc (.cells #[.int .u64 a0, .int .u64 a1, .int .u64 a2, .int .u64 a3, .int .u64 a4, .int .u64 a5, .int .u64 a6, .int .u64 a7, .int .u64 a8] 22)) (h.below hb0) (blk_new w (.cells #[.int .u64 a0, .int .u64 a1, .int .u64 a2, .int .u64 a3, .int .u64 a4, .int .u64 a5, .int .u64 a6, .int .u64 a7, .int .u64 a8] 22)) hr (by simpa using hl)).mono fun e w' ⟨h1, h2, h3⟩ => ⟨h1, h2, (WUpd.of_below hb0).trans h3⟩
theorem WrAt.lt {w : World} {n wb : Nat} {bs : List Int} (h : WrAt w n wb bs) : wb < w.heap.size := blk_lt h.choose_spec.blk
end Go.Proofs.Ytepldlnmeenlbaa.Own
namespace Go.Proofs.Ytepldlnmeenlbaa.Base
open Go.RowKit Go.Proofs.YtepldlnmeenlbaaW.PrintWords Go.Proofs.YtepldlnmeenlbaaW.PrintLast Go.Proofs.YtepldlnmeenlbaaW.PrintMore
attribute [local go_sem] max2_int min2_int max_two min_two max_three min_three max_four min_four   -- for this text's walks alone
def curfewref16_Sound.j0 : Nat → Bool → Int → Int → Int → Int → Int → Int → Int → Int → Int → Option (Bool)
  | 0, _, _, _, _, _, _, _, _, _, _ => none
  | k + 1, x35, x157000, x157001, x157002, x157003, x157004, x157005, x157006, x157007, x157008 => if x35 = true then (some false) else (if x157002 = 1 then (if x157004 = 0 then (some false) else (if x157006 ≥ 1 then (if x157005 ≥ 0 then (if x157007 ≤ 1125899906842624 then (if x157005 ≤ x157007 then (some (decide ((wrap64 (x157007 - x157005)) ≥ x157006))) else (some false)) else (some false)) else (some false)) else (some false))) else (if x157002 = 2 then (if x157004 = 0 then (if x157007 = 0 then (if x157006 ≥ 1 then (if x157006 ≤ 1125899906842624 then (if x157005 ≥ 0 then (some (decide (x157005 ≤ 1125899906842624))) else (some false)) else (some false)) else (some false)) else (some false)) else (some false)) else (if x157002 = 3 then (if x157004 = 0 then (if x157005 = 0 then (if x157006 = 0 then (some (x157007 == 0)) else (some false)) else (some false)) else (some false)) else (if x157002 = 4 then (if x157004 = 0 then (if x157005 = 0 then (if x157006 = 0 then (some (x157007 == 0)) else (some false)) else (some false)) else (some false)) else (some false)))))
def curfewref16_Sound.f (k : Nat) (a0_0 : Int) (a0_1 : Int) (a0_2 : Int) (a0_3 : Int) (a0_4 : Int) (a0_5 : Int) (a0_6 : Int) (a0_7 : Int) (a0_8 : Int) : Option (Bool) := if a0_1 < 0 then (curfewref16_Sound.j0 k true a0_0 a0_1 a0_2 a0_3 a0_4 a0_5 a0_6 a0_7 a0_8) else (if a0_1 > 15 then (curfewref16_Sound.j0 k true a0_0 a0_1 a0_2 a0_3 a0_4 a0_5 a0_6 a0_7 a0_8) else (if a0_3 < 0 then (curfewref16_Sound.j0 k true a0_0 a0_1 a0_2 a0_3 a0_4 a0_5 a0_6 a0_7 a0_8) else (if a0_3 > 5 then (curfewref16_Sound.j0 k true a0_0 a0_1 a0_2 a0_3 a0_4 a0_5 a0_6 a0_7 a0_8) else (if a0_8 < 0 then (curfewref16_Sound.j0 k true a0_0 a0_1 a0_2 a0_3 a0_4 a0_5 a0_6 a0_7 a0_8) else (if a0_8 > 2147483648 then (curfewref16_Sound.j0 k true a0_0 a0_1 a0_2 a0_3 a0_4 a0_5 a0_6 a0_7 a0_8) else (curfewref16_Sound.j0 k (decide (a0_4 > 1152921504606846976)) a0_0 a0_1 a0_2 a0_3 a0_4 a0_5 a0_6 a0_7 a0_8))))))
set_option maxHeartbeats 8000000 in
set_option maxRecDepth 100000 in
theorem curfewref16_Sound.calls (k : Nat) (a0_0 : Int) (a0_1 : Int) (a0_2 : Int) (a0_3 : Int) (a0_4 : Int) (a0_5 : Int) (a0_6 : Int) (a0_7 : Int) (a0_8 : Int) (r : Bool) (w : World) (h : curfewref16_Sound.f k a0_0 a0_1 a0_2 a0_3 a0_4 a0_5 a0_6 a0_7 a0_8 = some r) :
    Calls Try.prog 10 #[.agg #[.int .u64 a0_0, .int .i64 a0_1, .int .i64 a0_2, .int .i64 a0_3, .int .u64 a0_4, .int .i64 a0_5, .int .i64 a0_6, .int .i64 a0_7, .int .i64 a0_8]] w fun e w' => e = .returned (.bool r) ∧ Below w.heap.size w w' := by
  have hu24 := Try.underlying24
  have HB := Aside0.mk (Below.refl w.heap.size w)
  have H : (if a0_1 < 0 then (curfewref16_Sound.j0 k true a0_0 a0_1 a0_2 a0_3 a0_4 a0_5 a0_6 a0_7 a0_8) else (if a0_1 > 15 then (curfewref16_Sound.j0 k true a0_0 a0_1 a0_2 a0_3 a0_4 a0_5 a0_6 a0_7 a0_8) else (if a0_3 < 0 then (curfewref16_Sound.j0 k true a0_0 a0_1 a0_2 a0_3 a0_4 a0_5 a0_6 a0_7 a0_8) else (if a0_3 > 5 then (curfewref16_Sound.j0 k true a0_0 a0_1 a0_2 a0_3 a0_4 a0_5 a0_6 a0_7 a0_8) else (if a0_8 < 0 then (curfewref16_Sound.j0 k true a0_0 a0_1 a0_2 a0_3 a0_4 a0_5 a0_6 a0_7 a0_8) else (if a0_8 > 2147483648 then (curfewref16_Sound.j0 k true a0_0 a0_1 a0_2 a0_3 a0_4 a0_5 a0_6 a0_7 a0_8) else (curfewref16_Sound.j0 k (decide (a0_4 > 1152921504606846976)) a0_0 a0_1 a0_2 a0_3 a0_4 a0_5 a0_6 a0_7 a0_8))))))) = some r := h
  clear h
  have HC2 := Aside0.mk H
  clear H
  go_enter Try.func10, Try.ntmps10
  go_upto_region 1 with (first | ((with_reducible refine gate_dst (N := 1) rfl ?_); refine box_event ?hg (N := 1) ?hd (cs := #[.int .u64 a0_0, .int .i64 a0_1, .int .i64 a0_2, .int .i64 a0_3, .int .u64 a0_4, .int .i64 a0_5, .int .i64 a0_6, .int .i64 a0_7, .int .i64 a0_8]) (t := 24) ?hr ?_; (case hd => rfl); (case hg => rfl); (case hr => first | (go_simp; done) | (go_simp; rfl)); intro gb156 hg w3 hbox hb; have n0_ := Aside0.mk (below_step (by repeat (first | (with_reducible first | exact HB.out | apply below_alloc | apply pw_below_drewN | apply below_drew1) | exact HB.out)) hb); have n1_ := Aside0.mk (hbox); have n2_ := Aside0.mk ((by rw [hg]; exact (below_size (by repeat (first | (with_reducible first | exact HB.out | apply below_alloc | apply pw_below_drewN | apply below_drew1) | exact HB.out))) : w.heap.size ≤ gb156)); have n3_ := Aside0.mk ((by rw [hg]; exact (below_size (by repeat (first | (with_reducible first | exact HB.out | apply below_alloc | apply pw_below_drewN | apply below_drew1) | exact HB.out))) : w.heap.size ≤ gb156)); clear HB; have HB := n0_; have BK156 := n1_; have GW156 := n2_; have GE156 := n3_; clear n0_ n1_ n2_ n3_; clear hb hbox hg))
  (try simp only [Act.put, List.setIfInBounds_toArray, List.set_cons_zero, List.set_cons_succ])
  go_cut [35] (fun v35 wc => ∃ (kq : Nat) (x35_1 : Bool), v35 = .bool x35_1 ∧ Aside0 (curfewref16_Sound.j0 kq x35_1 a0_0 a0_1 a0_2 a0_3 a0_4 a0_5 a0_6 a0_7 a0_8 = some r) ∧ Aside0 (kq ≤ k) ∧ Aside0 (wc.heap[gb156]? = some (.cells #[.int .u64 a0_0, .int .i64 a0_1, .int .i64 a0_2, .int .i64 a0_3, .int .u64 a0_4, .int .i64 a0_5, .int .i64 a0_6, .int .i64 a0_7, .int .i64 a0_8] 24 (0, 0))) ∧ Aside0 (Below w.heap.size w wc))
  case first =>
    have H := HC2.out
    clear HC2
    by_cases c4 : a0_1 < 0
    · rw [if_pos c4] at H
      have c4b0 : decide (a0_1 < 0) = true := decide_eq_true c4
      clear c4
      (first | rw [c4b0] | (simp only [i64_w, i32_w]; rw [c4b0]) | skip)
      have H' := Aside0.mk H
      clear H
      have hcz5_0 : w3.cell? ⟨gb156, 0, none⟩ = some (.int .u64 a0_0) := (blk_cell BK156.out 0).trans rfl
      have hcz5_1 : w3.cell? ⟨gb156, 1, none⟩ = some (.int .i64 a0_1) := (blk_cell BK156.out 1).trans rfl
      have hcz5_2 : w3.cell? ⟨gb156, 2, none⟩ = some (.int .i64 a0_2) := (blk_cell BK156.out 2).trans rfl
      have hcz5_3 : w3.cell? ⟨gb156, 3, none⟩ = some (.int .i64 a0_3) := (blk_cell BK156.out 3).trans rfl
      have hcz5_4 : w3.cell? ⟨gb156, 4, none⟩ = some (.int .u64 a0_4) := (blk_cell BK156.out 4).trans rfl
      have hcz5_5 : w3.cell? ⟨gb156, 5, none⟩ = some (.int .i64 a0_5) := (blk_cell BK156.out 5).trans rfl
      have hcz5_6 : w3.cell? ⟨gb156, 6, none⟩ = some (.int .i64 a0_6) := (blk_cell BK156.out 6).trans rfl
      have hcz5_7 : w3.cell? ⟨gb156, 7, none⟩ = some (.int .i64 a0_7) := (blk_cell BK156.out 7).trans rfl
      have hcz5_8 : w3.cell? ⟨gb156, 8, none⟩ = some (.int .i64 a0_8) := (blk_cell BK156.out 8).trans rfl
      have hfz5_0 := blk_frozen BK156.out 0
      have hfz5_1 := blk_frozen BK156.out 1
      have hfz5_2 := blk_frozen BK156.out 2
      have hfz5_3 := blk_frozen BK156.out 3
      have hfz5_4 := blk_frozen BK156.out 4
      have hfz5_5 := blk_frozen BK156.out 5
      have hfz5_6 := blk_frozen BK156.out 6
      have hfz5_7 := blk_frozen BK156.out 7
      have hfz5_8 := blk_frozen BK156.out 8
      go_wp2
      go_meet
      case rel => exact ⟨_, (true), (by first | rfl | (simp; done) | (simp [*]; done)), H', ⟨by first | omega | exact Nat.le_refl _⟩, ⟨by (with_reducible repeat (first | refine blk_drewN ?_ _ | refine blk_drew ?_ | refine blk_alloc ?_ _)); exact BK156.out⟩, ⟨by repeat (first | (with_reducible first | exact HB.out | apply below_alloc | apply pw_below_drewN | apply below_drew1 | refine below_set ?_ GE156.out) | exact HB.out)⟩⟩
    · rw [if_neg c4] at H
      have c4b0 : decide (a0_1 < 0) = false := decide_eq_false c4
      clear c4
      (first | rw [c4b0] | (simp only [i64_w, i32_w]; rw [c4b0]) | skip)
      by_cases c6 : a0_1 > 15
      · rw [if_pos c6] at H
        have c6b0 : decide (15 < a0_1) = true := decide_eq_true c6
        clear c6
        have H' := Aside0.mk H
        clear H
        have hcz7_0 : w3.cell? ⟨gb156, 0, none⟩ = some (.int .u64 a0_0) := (blk_cell BK156.out 0).trans rfl
        have hcz7_1 : w3.cell? ⟨gb156, 1, none⟩ = some (.int .i64 a0_1) := (blk_cell BK156.out 1).trans rfl
        have hcz7_2 : w3.cell? ⟨gb156, 2, none⟩ = some (.int .i64 a0_2) := (blk_cell BK156.out 2).trans rfl
        have hcz7_3 : w3.cell? ⟨gb156, 3, none⟩ = some (.int .i64 a0_3) := (blk_cell BK156.out 3).trans rfl
        have hcz7_4 : w3.cell? ⟨gb156, 4, none⟩ = some (.int .u64 a0_4) := (blk_cell BK156.out 4).trans rfl
        have hcz7_5 : w3.cell? ⟨gb156, 5, none⟩ = some (.int .i64 a0_5) := (blk_cell BK156.out 5).trans rfl
        have hcz7_6 : w3.cell? ⟨gb156, 6, none⟩ = some (.int .i64 a0_6) := (blk_cell BK156.out 6).trans rfl
        have hcz7_7 : w3.cell? ⟨gb156, 7, none⟩ = some (.int .i64 a0_7) := (blk_cell BK156.out 7).trans rfl
        have hcz7_8 : w3.cell? ⟨gb156, 8, none⟩ = some (.int .i64 a0_8) := (blk_cell BK156.out 8).trans rfl
        have hfz7_0 := blk_frozen BK156.out 0
        have hfz7_1 := blk_frozen BK156.out 1
        have hfz7_2 := blk_frozen BK156.out 2
        have hfz7_3 := blk_frozen BK156.out 3
        have hfz7_4 := blk_frozen BK156.out 4
        have hfz7_5 := blk_frozen BK156.out 5
        have hfz7_6 := blk_frozen BK156.out 6
        have hfz7_7 := blk_frozen BK156.out 7
        have hfz7_8 := blk_frozen BK156.out 8
        go_wp2
        go_meet
        case rel => exact ⟨_, (true), (by first | rfl | (simp; done) | (simp [*]; done)), H', ⟨by first | omega | exact Nat.le_refl _⟩, ⟨by (with_reducible repeat (first | refine blk_drewN ?_ _ | refine blk_drew ?_ | refine blk_alloc ?_ _)); exact BK156.out⟩, ⟨by repeat (first | (with_reducible first | exact HB.out | apply below_alloc | apply pw_below_drewN | apply below_drew1 | refine below_set ?_ GE156.out) | exact HB.out)⟩⟩
      · rw [if_neg c6] at H
        have c6b0 : decide (15 < a0_1) = false := decide_eq_false c6
        clear c6
        by_cases c8 : a0_3 < 0
        · rw [if_pos c8] at H
          have c8b0 : decide (a0_3 < 0) = true := decide_eq_true c8
          clear c8
          have H' := Aside0.mk H
          clear H
          have hcz9_0 : w3.cell? ⟨gb156, 0, none⟩ = some (.int .u64 a0_0) := (blk_cell BK156.out 0).trans rfl
          have hcz9_1 : w3.cell? ⟨gb156, 1, none⟩ = some (.int .i64 a0_1) := (blk_cell BK156.out 1).trans rfl
          have hcz9_2 : w3.cell? ⟨gb156, 2, none⟩ = some (.int .i64 a0_2) := (blk_cell BK156.out 2).trans rfl
          have hcz9_3 : w3.cell? ⟨gb156, 3, none⟩ = some (.int .i64 a0_3) := (blk_cell BK156.out 3).trans rfl
          have hcz9_4 : w3.cell? ⟨gb156, 4, none⟩ = some (.int .u64 a0_4) := (blk_cell BK156.out 4).trans rfl
          have hcz9_5 : w3.cell? ⟨gb156, 5, none⟩ = some (.int .i64 a0_5) := (blk_cell BK156.out 5).trans rfl
          have hcz9_6 : w3.cell? ⟨gb156, 6, none⟩ = some (.int .i64 a0_6) := (blk_cell BK156.out 6).trans rfl
          have hcz9_7 : w3.cell? ⟨gb156, 7, none⟩ = some (.int .i64 a0_7) := (blk_cell BK156.out 7).trans rfl
          have hcz9_8 : w3.cell? ⟨gb156, 8, none⟩ = some (.int .i64 a0_8) := (blk_cell BK156.out 8).trans rfl
          have hfz9_0 := blk_frozen BK156.out 0
          have hfz9_1 := blk_frozen BK156.out 1
          have hfz9_2 := blk_frozen BK156.out 2
          have hfz9_3 := blk_frozen BK156.out 3
          have hfz9_4 := blk_frozen BK156.out 4
          have hfz9_5 := blk_frozen BK156.out 5
          have hfz9_6 := blk_frozen BK156.out 6
          have hfz9_7 := blk_frozen BK156.out 7
          have hfz9_8 := blk_frozen BK156.out 8
          go_wp2
          go_meet
          case rel => exact ⟨_, (true), (by first | rfl | (simp; done) | (simp [*]; done)), H', ⟨by first | omega | exact Nat.le_refl _⟩, ⟨by (with_reducible repeat (first | refine blk_drewN ?_ _ | refine blk_drew ?_ | refine blk_alloc ?_ _)); exact BK156.out⟩, ⟨by repeat (first | (with_reducible first | exact HB.out | apply below_alloc | apply pw_below_drewN | apply below_drew1 | refine below_set ?_ GE156.out) | exact HB.out)⟩⟩
        · rw [if_neg c8] at H
          have c8b0 : decide (a0_3 < 0) = false := decide_eq_false c8
          clear c8
          by_cases c10 : a0_3 > 5
          · rw [if_pos c10] at H
            have c10b0 : decide (5 < a0_3) = true := decide_eq_true c10
            clear c10
            have H' := Aside0.mk H
            clear H
            have hcz11_0 : w3.cell? ⟨gb156, 0, none⟩ = some (.int .u64 a0_0) := (blk_cell BK156.out 0).trans rfl
            have hcz11_1 : w3.cell? ⟨gb156, 1, none⟩ = some (.int .i64 a0_1) := (blk_cell BK156.out 1).trans rfl
            have hcz11_2 : w3.cell? ⟨gb156, 2, none⟩ = some (.int .i64 a0_2) := (blk_cell BK156.out 2).trans rfl
            have hcz11_3 : w3.cell? ⟨gb156, 3, none⟩ = some (.int .i64 a0_3) := (blk_cell BK156.out 3).trans rfl
            have hcz11_4 : w3.cell? ⟨gb156, 4, none⟩ = some (.int .u64 a0_4) := (blk_cell BK156.out 4).trans rfl
            have hcz11_5 : w3.cell? ⟨gb156, 5, none⟩ = some (.int .i64 a0_5) := (blk_cell BK156.out 5).trans rfl
            have hcz11_6 : w3.cell? ⟨gb156, 6, none⟩ = some (.int .i64 a0_6) := (blk_cell BK156.out 6).trans rfl
            have hcz11_7 : w3.cell? ⟨gb156, 7, none⟩ = some (.int .i64 a0_7) := (blk_cell BK156.out 7).trans rfl
            have hcz11_8 : w3.cell? ⟨gb156, 8, none⟩ = some (.int .i64 a0_8) := (blk_cell BK156.out 8).trans rfl
            have hfz11_0 := blk_frozen BK156.out 0
            have hfz11_1 := blk_frozen BK156.out 1
            have hfz11_2 := blk_frozen BK156.out 2
            have hfz11_3 := blk_frozen BK156.out 3
            have hfz11_4 := blk_frozen BK156.out 4
            have hfz11_5 := blk_frozen BK156.out 5
            have hfz11_6 := blk_frozen BK156.out 6
            have hfz11_7 := blk_frozen BK156.out 7
            have hfz11_8 := blk_frozen BK156.out 8
            go_wp2
            go_meet
            case rel => exact ⟨_, (true), (by first | rfl | (simp; done) | (simp [*]; done)), H', ⟨by first | omega | exact Nat.le_refl _⟩, ⟨by (with_reducible repeat (first | refine blk_drewN ?_ _ | refine blk_drew ?_ | refine blk_alloc ?_ _)); exact BK156.out⟩, ⟨by repeat (first | (with_reducible first | exact HB.out | apply below_alloc | apply pw_below_drewN | apply below_drew1 | refine below_set ?_ GE156.out) | exact HB.out)⟩⟩
          · rw [if_neg c10] at H
            have c10b0 : decide (5 < a0_3) = false := decide_eq_false c10
            clear c10
            by_cases c12 : a0_8 < 0
            · rw [if_pos c12] at H
              have c12b0 : decide (a0_8 < 0) = true := decide_eq_true c12
              clear c12
              have H' := Aside0.mk H
              clear H
              have hcz13_0 : w3.cell? ⟨gb156, 0, none⟩ = some (.int .u64 a0_0) := (blk_cell BK156.out 0).trans rfl
              have hcz13_1 : w3.cell? ⟨gb156, 1, none⟩ = some (.int .i64 a0_1) := (blk_cell BK156.out 1).trans rfl
              have hcz13_2 : w3.cell? ⟨gb156, 2, none⟩ = some (.int .i64 a0_2) := (blk_cell BK156.out 2).trans rfl
              have hcz13_3 : w3.cell? ⟨gb156, 3, none⟩ = some (.int .i64 a0_3) := (blk_cell BK156.out 3).trans rfl
              have hcz13_4 : w3.cell? ⟨gb156, 4, none⟩ = some (.int .u64 a0_4) := (blk_cell BK156.out 4).trans rfl
              have hcz13_5 : w3.cell? ⟨gb156, 5, none⟩ = some (.int .i64 a0_5) := (blk_cell BK156.out 5).trans rfl
              have hcz13_6 : w3.cell? ⟨gb156, 6, none⟩ = some (.int .i64 a0_6) := (blk_cell BK156.out 6).trans rfl
              have hcz13_7 : w3.cell? ⟨gb156, 7, none⟩ = some (.int .i64 a0_7) := (blk_cell BK156.out 7).trans rfl
              have hcz13_8 : w3.cell? ⟨gb156, 8, none⟩ = some (.int .i64 a0_8) := (blk_cell BK156.out 8).trans rfl
              have hfz13_0 := blk_frozen BK156.out 0
              have hfz13_1 := blk_frozen BK156.out 1
              have hfz13_2 := blk_frozen BK156.out 2
              have hfz13_3 := blk_frozen BK156.out 3
              have hfz13_4 := blk_frozen BK156.out 4
              have hfz13_5 := blk_frozen BK156.out 5
              have hfz13_6 := blk_frozen BK156.out 6
              have hfz13_7 := blk_frozen BK156.out 7
              have hfz13_8 := blk_frozen BK156.out 8
              go_wp2
              go_meet
              case rel => exact ⟨_, (true), (by first | rfl | (simp; done) | (simp [*]; done)), H', ⟨by first | omega | exact Nat.le_refl _⟩, ⟨by (with_reducible repeat (first | refine blk_drewN ?_ _ | refine blk_drew ?_ | refine blk_alloc ?_ _)); exact BK156.out⟩, ⟨by repeat (first | (with_reducible first | exact HB.out | apply below_alloc | apply pw_below_drewN | apply below_drew1 | refine below_set ?_ GE156.out) | exact HB.out)⟩⟩
            · rw [if_neg c12] at H
              have c12b0 : decide (a0_8 < 0) = false := decide_eq_false c12
              clear c12
              by_cases c14 : a0_8 > 2147483648
              · rw [if_pos c14] at H
                have c14b0 : decide (2147483648 < a0_8) = true := decide_eq_true c14
                clear c14
                have H' := Aside0.mk H
                clear H
                have hcz15_0 : w3.cell? ⟨gb156, 0, none⟩ = some (.int .u64 a0_0) := (blk_cell BK156.out 0).trans rfl
                have hcz15_1 : w3.cell? ⟨gb156, 1, none⟩ = some (.int .i64 a0_1) := (blk_cell BK156.out 1).trans rfl
                have hcz15_2 : w3.cell? ⟨gb156, 2, none⟩ = some (.int .i64 a0_2) := (blk_cell BK156.out 2).trans rfl
                have hcz15_3 : w3.cell? ⟨gb156, 3, none⟩ = some (.int .i64 a0_3) := (blk_cell BK156.out 3).trans rfl
                have hcz15_4 : w3.cell? ⟨gb156, 4, none⟩ = some (.int .u64 a0_4) := (blk_cell BK156.out 4).trans rfl
                have hcz15_5 : w3.cell? ⟨gb156, 5, none⟩ = some (.int .i64 a0_5) := (blk_cell BK156.out 5).trans rfl
                have hcz15_6 : w3.cell? ⟨gb156, 6, none⟩ = some (.int .i64 a0_6) := (blk_cell BK156.out 6).trans rfl
                have hcz15_7 : w3.cell? ⟨gb156, 7, none⟩ = some (.int .i64 a0_7) := (blk_cell BK156.out 7).trans rfl
                have hcz15_8 : w3.cell? ⟨gb156, 8, none⟩ = some (.int .i64 a0_8) := (blk_cell BK156.out 8).trans rfl
                have hfz15_0 := blk_frozen BK156.out 0
                have hfz15_1 := blk_frozen BK156.out 1
                have hfz15_2 := blk_frozen BK156.out 2
                have hfz15_3 := blk_frozen BK156.out 3
                have hfz15_4 := blk_frozen BK156.out 4
                have hfz15_5 := blk_frozen BK156.out 5
                have hfz15_6 := blk_frozen BK156.out 6
                have hfz15_7 := blk_frozen BK156.out 7
                have hfz15_8 := blk_frozen BK156.out 8
                go_wp2
                go_meet
                case rel => exact ⟨_, (true), (by first | rfl | (simp; done) | (simp [*]; done)), H', ⟨by first | omega | exact Nat.le_refl _⟩, ⟨by (with_reducible repeat (first | refine blk_drewN ?_ _ | refine blk_drew ?_ | refine blk_alloc ?_ _)); exact BK156.out⟩, ⟨by repeat (first | (with_reducible first | exact HB.out | apply below_alloc | apply pw_below_drewN | apply below_drew1 | refine below_set ?_ GE156.out) | exact HB.out)⟩⟩
              · rw [if_neg c14] at H
                have c14b0 : decide (2147483648 < a0_8) = false := decide_eq_false c14
                clear c14
                have H' := Aside0.mk H
                clear H
                have hcz16_0 : w3.cell? ⟨gb156, 0, none⟩ = some (.int .u64 a0_0) := (blk_cell BK156.out 0).trans rfl
                have hcz16_1 : w3.cell? ⟨gb156, 1, none⟩ = some (.int .i64 a0_1) := (blk_cell BK156.out 1).trans rfl
                have hcz16_2 : w3.cell? ⟨gb156, 2, none⟩ = some (.int .i64 a0_2) := (blk_cell BK156.out 2).trans rfl
                have hcz16_3 : w3.cell? ⟨gb156, 3, none⟩ = some (.int .i64 a0_3) := (blk_cell BK156.out 3).trans rfl
                have hcz16_4 : w3.cell? ⟨gb156, 4, none⟩ = some (.int .u64 a0_4) := (blk_cell BK156.out 4).trans rfl
                have hcz16_5 : w3.cell? ⟨gb156, 5, none⟩ = some (.int .i64 a0_5) := (blk_cell BK156.out 5).trans rfl
                have hcz16_6 : w3.cell? ⟨gb156, 6, none⟩ = some (.int .i64 a0_6) := (blk_cell BK156.out 6).trans rfl
                have hcz16_7 : w3.cell? ⟨gb156, 7, none⟩ = some (.int .i64 a0_7) := (blk_cell BK156.out 7).trans rfl
                have hcz16_8 : w3.cell? ⟨gb156, 8, none⟩ = some (.int .i64 a0_8) := (blk_cell BK156.out 8).trans rfl
                have hfz16_0 := blk_frozen BK156.out 0
                have hfz16_1 := blk_frozen BK156.out 1
                have hfz16_2 := blk_frozen BK156.out 2
                have hfz16_3 := blk_frozen BK156.out 3
                have hfz16_4 := blk_frozen BK156.out 4
                have hfz16_5 := blk_frozen BK156.out 5
                have hfz16_6 := blk_frozen BK156.out 6
                have hfz16_7 := blk_frozen BK156.out 7
                have hfz16_8 := blk_frozen BK156.out 8
                go_wp2
                go_meet
                case rel => exact ⟨_, (decide (a0_4 > 1152921504606846976)), (by first | rfl | (simp; done) | (simp [*]; done)), H', ⟨by first | omega | exact Nat.le_refl _⟩, ⟨by (with_reducible repeat (first | refine blk_drewN ?_ _ | refine blk_drew ?_ | refine blk_alloc ?_ _)); exact BK156.out⟩, ⟨by repeat (first | (with_reducible first | exact HB.out | apply below_alloc | apply pw_below_drewN | apply below_drew1 | refine below_set ?_ GE156.out) | exact HB.out)⟩⟩
  case rest =>
    clear HC2
    try clear c1
    try clear p2
    try clear c4
    try clear c4b0
    try clear c6
    try clear c6b0
    try clear c8
    try clear c8b0
    try clear c10
    try clear c10b0
    try clear c12
    try clear c12b0
    try clear c14
    try clear c14b0
    try clear hcz11_0
    try clear hcz11_1
    try clear hcz11_2
    try clear hcz11_3
    try clear hcz11_4
    try clear hcz11_5
    try clear hcz11_6
    try clear hcz11_7
    try clear hcz11_8
    try clear hcz13_0
    try clear hcz13_1
    try clear hcz13_2
    try clear hcz13_3
    try clear hcz13_4
    try clear hcz13_5
    try clear hcz13_6
    try clear hcz13_7
    try clear hcz13_8
    try clear hcz15_0
    try clear hcz15_1
    try clear hcz15_2
    try clear hcz15_3
    try clear hcz15_4
    try clear hcz15_5
    try clear hcz15_6
    try clear hcz15_7
    try clear hcz15_8
    try clear hcz16_0
    try clear hcz16_1
    try clear hcz16_2
    try clear hcz16_3
    try clear hcz16_4
    try clear hcz16_5
    try clear hcz16_6
    try clear hcz16_7
    try clear hcz16_8
    try clear hcz5_0
    try clear hcz5_1
    try clear hcz5_2
    try clear hcz5_3
    try clear hcz5_4
    try clear hcz5_5
    try clear hcz5_6
    try clear hcz5_7
    try clear hcz5_8
    try clear hcz7_0
    try clear hcz7_1
    try clear hcz7_2
    try clear hcz7_3
    try clear hcz7_4
    try clear hcz7_5
    try clear hcz7_6
    try clear hcz7_7
    try clear hcz7_8
    try clear hcz9_0
    try clear hcz9_1
    try clear hcz9_2
    try clear hcz9_3
    try clear hcz9_4
    try clear hcz9_5
    try clear hcz9_6
    try clear hcz9_7
    try clear hcz9_8
    try clear hfz11_0
    try clear hfz11_1
    try clear hfz11_2
    try clear hfz11_3
    try clear hfz11_4
    try clear hfz11_5
    try clear hfz11_6
    try clear hfz11_7
    try clear hfz11_8
    try clear hfz13_0
    try clear hfz13_1
    try clear hfz13_2
    try clear hfz13_3
    try clear hfz13_4
    try clear hfz13_5
    try clear hfz13_6
    try clear hfz13_7
    try clear hfz13_8
    try clear hfz15_0
    try clear hfz15_1
    try clear hfz15_2
    try clear hfz15_3
    try clear hfz15_4
    try clear hfz15_5
    try clear hfz15_6
    try clear hfz15_7
    try clear hfz15_8
    try clear hfz16_0
    try clear hfz16_1
    try clear hfz16_2
    try clear hfz16_3
    try clear hfz16_4
    try clear hfz16_5
    try clear hfz16_6
    try clear hfz16_7
    try clear hfz16_8
    try clear hfz5_0
    try clear hfz5_1
    try clear hfz5_2
    try clear hfz5_3
    try clear hfz5_4
    try clear hfz5_5
    try clear hfz5_6
    try clear hfz5_7
    try clear hfz5_8
    try clear hfz7_0
    try clear hfz7_1
    try clear hfz7_2
    try clear hfz7_3
    try clear hfz7_4
    try clear hfz7_5
    try clear hfz7_6
    try clear hfz7_7
    try clear hfz7_8
    try clear hfz9_0
    try clear hfz9_1
    try clear hfz9_2
    try clear hfz9_3
    try clear hfz9_4
    try clear hfz9_5
    try clear hfz9_6
    try clear hfz9_7
    try clear hfz9_8
    obtain ⟨kq, x35_1, rfl, HA, HJ1, BK156, HB⟩ := hcut
    cases kq with
    | zero => exact absurd HA.out (by simp [curfewref16_Sound.j0])
    | succ kj1 =>
      have H := HA.out
      clear HA
      simp only [curfewref16_Sound.j0] at H
      by_cases c17 : x35_1 = true
      · subst c17
        have H1 : (some false) = some r := by rw [if_pos rfl] at H; exact H
        clear H
        have H := H1
        clear H1
        obtain rfl := Option.some.inj H
        go_wp2
        go_ret
        exact ⟨by first | rfl | (simp [errW_none, errW_some] <;> rfl) | (simp [*, errW_none, errW_some] <;> rfl), by repeat (first | (with_reducible first | exact HB.out | apply below_alloc | apply pw_below_drewN | apply below_drew1 | refine below_set ?_ GE156.out) | exact HB.out)⟩
      · replace c17 := Bool.eq_false_iff.mpr c17
        subst c17
        have H1 : (if a0_2 = 1 then (if a0_4 = 0 then (some false) else (if a0_6 ≥ 1 then (if a0_5 ≥ 0 then (if a0_7 ≤ 1125899906842624 then (if a0_5 ≤ a0_7 then (some (decide ((wrap64 (a0_7 - a0_5)) ≥ a0_6))) else (some false)) else (some false)) else (some false)) else (some false))) else (if a0_2 = 2 then (if a0_4 = 0 then (if a0_7 = 0 then (if a0_6 ≥ 1 then (if a0_6 ≤ 1125899906842624 then (if a0_5 ≥ 0 then (some (decide (a0_5 ≤ 1125899906842624))) else (some false)) else (some false)) else (some false)) else (some false)) else (some false)) else (if a0_2 = 3 then (if a0_4 = 0 then (if a0_5 = 0 then (if a0_6 = 0 then (some (a0_7 == 0)) else (some false)) else (some false)) else (some false)) else (if a0_2 = 4 then (if a0_4 = 0 then (if a0_5 = 0 then (if a0_6 = 0 then (some (a0_7 == 0)) else (some false)) else (some false)) else (some false)) else (some false))))) = some r := by rw [if_neg (show ¬ (false = true) by decide)] at H; exact H
        clear H
        have H := H1
        clear H1
        by_cases c18 : a0_2 = 1
        · rw [if_pos c18] at H
          have c18b0 : (a0_2 == 1) = true := beq_iff_eq.mpr c18
          have c18b1 : (a0_2 != 1) = false := bne_eq_false_iff_eq.mpr c18
          clear c18
          by_cases c19 : a0_4 = 0
          · rw [if_pos c19] at H
            have c19b0 : (a0_4 == 0) = true := beq_iff_eq.mpr c19
            have c19b1 : (a0_4 != 0) = false := bne_eq_false_iff_eq.mpr c19
            clear c19
            obtain rfl := Option.some.inj H
            have hcz20_0 : wc.cell? ⟨gb156, 0, none⟩ = some (.int .u64 a0_0) := (blk_cell BK156.out 0).trans rfl
            have hcz20_1 : wc.cell? ⟨gb156, 1, none⟩ = some (.int .i64 a0_1) := (blk_cell BK156.out 1).trans rfl
            have hcz20_2 : wc.cell? ⟨gb156, 2, none⟩ = some (.int .i64 a0_2) := (blk_cell BK156.out 2).trans rfl
            have hcz20_3 : wc.cell? ⟨gb156, 3, none⟩ = some (.int .i64 a0_3) := (blk_cell BK156.out 3).trans rfl
            have hcz20_4 : wc.cell? ⟨gb156, 4, none⟩ = some (.int .u64 a0_4) := (blk_cell BK156.out 4).trans rfl
            have hcz20_5 : wc.cell? ⟨gb156, 5, none⟩ = some (.int .i64 a0_5) := (blk_cell BK156.out 5).trans rfl
            have hcz20_6 : wc.cell? ⟨gb156, 6, none⟩ = some (.int .i64 a0_6) := (blk_cell BK156.out 6).trans rfl
            have hcz20_7 : wc.cell? ⟨gb156, 7, none⟩ = some (.int .i64 a0_7) := (blk_cell BK156.out 7).trans rfl
            have hcz20_8 : wc.cell? ⟨gb156, 8, none⟩ = some (.int .i64 a0_8) := (blk_cell BK156.out 8).trans rfl
            have hfz20_0 := blk_frozen BK156.out 0
            have hfz20_1 := blk_frozen BK156.out 1
            have hfz20_2 := blk_frozen BK156.out 2
            have hfz20_3 := blk_frozen BK156.out 3
            have hfz20_4 := blk_frozen BK156.out 4
            have hfz20_5 := blk_frozen BK156.out 5
            have hfz20_6 := blk_frozen BK156.out 6
            have hfz20_7 := blk_frozen BK156.out 7
            have hfz20_8 := blk_frozen BK156.out 8
            go_wp2
            go_ret
            exact ⟨by first | rfl | (simp [errW_none, errW_some] <;> rfl) | (simp [*, errW_none, errW_some] <;> rfl), by repeat (first | (with_reducible first | exact HB.out | apply below_alloc | apply pw_below_drewN | apply below_drew1 | refine below_set ?_ GE156.out) | exact HB.out)⟩
          · rw [if_neg c19] at H
            have c19b0 : (a0_4 == 0) = false := beq_eq_false_iff_ne.mpr c19
            have c19b1 : (a0_4 != 0) = true := bne_iff_ne.mpr c19
            by_cases c21 : a0_6 ≥ 1
            · rw [if_pos c21] at H
              have c21b0 : decide (1 ≤ a0_6) = true := decide_eq_true c21
              clear c21
              by_cases c22 : a0_5 ≥ 0
              · rw [if_pos c22] at H
                have c22b0 : decide (0 ≤ a0_5) = true := decide_eq_true c22
                clear c22
                by_cases c23 : a0_7 ≤ 1125899906842624
                · rw [if_pos c23] at H
                  have c23b0 : decide (a0_7 ≤ 1125899906842624) = true := decide_eq_true c23
                  clear c23
                  by_cases c24 : a0_5 ≤ a0_7
                  · rw [if_pos c24] at H
                    have c24b0 : decide (a0_5 ≤ a0_7) = true := decide_eq_true c24
                    clear c24
                    obtain rfl := Option.some.inj H
                    have hcz25_0 : wc.cell? ⟨gb156, 0, none⟩ = some (.int .u64 a0_0) := (blk_cell BK156.out 0).trans rfl
                    have hcz25_1 : wc.cell? ⟨gb156, 1, none⟩ = some (.int .i64 a0_1) := (blk_cell BK156.out 1).trans rfl
                    have hcz25_2 : wc.cell? ⟨gb156, 2, none⟩ = some (.int .i64 a0_2) := (blk_cell BK156.out 2).trans rfl
                    have hcz25_3 : wc.cell? ⟨gb156, 3, none⟩ = some (.int .i64 a0_3) := (blk_cell BK156.out 3).trans rfl
                    have hcz25_4 : wc.cell? ⟨gb156, 4, none⟩ = some (.int .u64 a0_4) := (blk_cell BK156.out 4).trans rfl
                    have hcz25_5 : wc.cell? ⟨gb156, 5, none⟩ = some (.int .i64 a0_5) := (blk_cell BK156.out 5).trans rfl
                    have hcz25_6 : wc.cell? ⟨gb156, 6, none⟩ = some (.int .i64 a0_6) := (blk_cell BK156.out 6).trans rfl
                    have hcz25_7 : wc.cell? ⟨gb156, 7, none⟩ = some (.int .i64 a0_7) := (blk_cell BK156.out 7).trans rfl
                    have hcz25_8 : wc.cell? ⟨gb156, 8, none⟩ = some (.int .i64 a0_8) := (blk_cell BK156.out 8).trans rfl
                    have hfz25_0 := blk_frozen BK156.out 0
                    have hfz25_1 := blk_frozen BK156.out 1
                    have hfz25_2 := blk_frozen BK156.out 2
                    have hfz25_3 := blk_frozen BK156.out 3
                    have hfz25_4 := blk_frozen BK156.out 4
                    have hfz25_5 := blk_frozen BK156.out 5
                    have hfz25_6 := blk_frozen BK156.out 6
                    have hfz25_7 := blk_frozen BK156.out 7
                    have hfz25_8 := blk_frozen BK156.out 8
                    go_wp2
                    go_ret
                    exact ⟨by first | rfl | (simp [errW_none, errW_some] <;> rfl) | (simp [*, errW_none, errW_some] <;> rfl), by repeat (first | (with_reducible first | exact HB.out | apply below_alloc | apply pw_below_drewN | apply below_drew1 | refine below_set ?_ GE156.out) | exact HB.out)⟩
                  · rw [if_neg c24] at H
                    have c24b0 : decide (a0_5 ≤ a0_7) = false := decide_eq_false c24
                    clear c24
                    obtain rfl := Option.some.inj H
                    have hcz26_0 : wc.cell? ⟨gb156, 0, none⟩ = some (.int .u64 a0_0) := (blk_cell BK156.out 0).trans rfl
                    have hcz26_1 : wc.cell? ⟨gb156, 1, none⟩ = some (.int .i64 a0_1) := (blk_cell BK156.out 1).trans rfl
                    have hcz26_2 : wc.cell? ⟨gb156, 2, none⟩ = some (.int .i64 a0_2) := (blk_cell BK156.out 2).trans rfl
                    have hcz26_3 : wc.cell? ⟨gb156, 3, none⟩ = some (.int .i64 a0_3) := (blk_cell BK156.out 3).trans rfl
                    have hcz26_4 : wc.cell? ⟨gb156, 4, none⟩ = some (.int .u64 a0_4) := (blk_cell BK156.out 4).trans rfl
                    have hcz26_5 : wc.cell? ⟨gb156, 5, none⟩ = some (.int .i64 a0_5) := (blk_cell BK156.out 5).trans rfl
                    have hcz26_6 : wc.cell? ⟨gb156, 6, none⟩ = some (.int .i64 a0_6) := (blk_cell BK156.out 6).trans rfl
                    have hcz26_7 : wc.cell? ⟨gb156, 7, none⟩ = some (.int .i64 a0_7) := (blk_cell BK156.out 7).trans rfl
                    have hcz26_8 : wc.cell? ⟨gb156, 8, none⟩ = some (.int .i64 a0_8) := (blk_cell BK156.out 8).trans rfl
                    have hfz26_0 := blk_frozen BK156.out 0
                    have hfz26_1 := blk_frozen BK156.out 1
                    have hfz26_2 := blk_frozen BK156.out 2
                    have hfz26_3 := blk_frozen BK156.out 3
                    have hfz26_4 := blk_frozen BK156.out 4
                    have hfz26_5 := blk_frozen BK156.out 5
                    have hfz26_6 := blk_frozen BK156.out 6
                    have hfz26_7 := blk_frozen BK156.out 7
                    have hfz26_8 := blk_frozen BK156.out 8
                    go_wp2
                    go_ret
                    exact ⟨by first | rfl | (simp [errW_none, errW_some] <;> rfl) | (simp [*, errW_none, errW_some] <;> rfl), by repeat (first | (with_reducible first | exact HB.out | apply below_alloc | apply pw_below_drewN | apply below_drew1 | refine below_set ?_ GE156.out) | exact HB.out)⟩
                · rw [if_neg c23] at H
                  have c23b0 : decide (a0_7 ≤ 1125899906842624) = false := decide_eq_false c23
                  clear c23
                  obtain rfl := Option.some.inj H
                  have hcz27_0 : wc.cell? ⟨gb156, 0, none⟩ = some (.int .u64 a0_0) := (blk_cell BK156.out 0).trans rfl
                  have hcz27_1 : wc.cell? ⟨gb156, 1, none⟩ = some (.int .i64 a0_1) := (blk_cell BK156.out 1).trans rfl
                  have hcz27_2 : wc.cell? ⟨gb156, 2, none⟩ = some (.int .i64 a0_2) := (blk_cell BK156.out 2).trans rfl
                  have hcz27_3 : wc.cell? ⟨gb156, 3, none⟩ = some (.int .i64 a0_3) := (blk_cell BK156.out 3).trans rfl
                  have hcz27_4 : wc.cell? ⟨gb156, 4, none⟩ = some (.int .u64 a0_4) := (blk_cell BK156.out 4).trans rfl
                  have hcz27_5 : wc.cell? ⟨gb156, 5, none⟩ = some (.int .i64 a0_5) := (blk_cell BK156.out 5).trans rfl
                  have hcz27_6 : wc.cell? ⟨gb156, 6, none⟩ = some (.int .i64 a0_6) := (blk_cell BK156.out 6).trans rfl
                  have hcz27_7 : wc.cell? ⟨gb156, 7, none⟩ = some (.int .i64 a0_7) := (blk_cell BK156.out 7).trans rfl
                  have hcz27_8 : wc.cell? ⟨gb156, 8, none⟩ = some (.int .i64 a0_8) := (blk_cell BK156.out 8).trans rfl
                  have hfz27_0 := blk_frozen BK156.out 0
                  have hfz27_1 := blk_frozen BK156.out 1
                  have hfz27_2 := blk_frozen BK156.out 2
                  have hfz27_3 := blk_frozen BK156.out 3
                  have hfz27_4 := blk_frozen BK156.out 4
                  have hfz27_5 := blk_frozen BK156.out 5
                  have hfz27_6 := blk_frozen BK156.out 6
                  have hfz27_7 := blk_frozen BK156.out 7
                  have hfz27_8 := blk_frozen BK156.out 8
                  go_wp2
                  go_ret
                  exact ⟨by first | rfl | (simp [errW_none, errW_some] <;> rfl) | (simp [*, errW_none, errW_some] <;> rfl), by repeat (first | (with_reducible first | exact HB.out | apply below_alloc | apply pw_below_drewN | apply below_drew1 | refine below_set ?_ GE156.out) | exact HB.out)⟩
              · rw [if_neg c22] at H
                have c22b0 : decide (0 ≤ a0_5) = false := decide_eq_false c22
                clear c22
                obtain rfl := Option.some.inj H
                have hcz28_0 : wc.cell? ⟨gb156, 0, none⟩ = some (.int .u64 a0_0) := (blk_cell BK156.out 0).trans rfl
                have hcz28_1 : wc.cell? ⟨gb156, 1, none⟩ = some (.int .i64 a0_1) := (blk_cell BK156.out 1).trans rfl
                have hcz28_2 : wc.cell? ⟨gb156, 2, none⟩ = some (.int .i64 a0_2) := (blk_cell BK156.out 2).trans rfl
                have hcz28_3 : wc.cell? ⟨gb156, 3, none⟩ = some (.int .i64 a0_3) := (blk_cell BK156.out 3).trans rfl
                have hcz28_4 : wc.cell? ⟨gb156, 4, none⟩ = some (.int .u64 a0_4) := (blk_cell BK156.out 4).trans rfl
                have hcz28_5 : wc.cell? ⟨gb156, 5, none⟩ = some (.int .i64 a0_5) := (blk_cell BK156.out 5).trans rfl
                have hcz28_6 : wc.cell? ⟨gb156, 6, none⟩ = some (.int .i64 a0_6) := (blk_cell BK156.out 6).trans rfl
                have hcz28_7 : wc.cell? ⟨gb156, 7, none⟩ = some (.int .i64 a0_7) := (blk_cell BK156.out 7).trans rfl
                have hcz28_8 : wc.cell? ⟨gb156, 8, none⟩ = some (.int .i64 a0_8) := (blk_cell BK156.out 8).trans rfl
                have hfz28_0 := blk_frozen BK156.out 0
                have hfz28_1 := blk_frozen BK156.out 1
                have hfz28_2 := blk_frozen BK156.out 2
                have hfz28_3 := blk_frozen BK156.out 3
                have hfz28_4 := blk_frozen BK156.out 4
                have hfz28_5 := blk_frozen BK156.out 5
                have hfz28_6 := blk_frozen BK156.out 6
                have hfz28_7 := blk_frozen BK156.out 7
                have hfz28_8 := blk_frozen BK156.out 8
                go_wp2
                go_ret
                exact ⟨by first | rfl | (simp [errW_none, errW_some] <;> rfl) | (simp [*, errW_none, errW_some] <;> rfl), by repeat (first | (with_reducible first | exact HB.out | apply below_alloc | apply pw_below_drewN | apply below_drew1 | refine below_set ?_ GE156.out) | exact HB.out)⟩
            · rw [if_neg c21] at H
              have c21b0 : decide (1 ≤ a0_6) = false := decide_eq_false c21
              clear c21
              obtain rfl := Option.some.inj H
              have hcz29_0 : wc.cell? ⟨gb156, 0, none⟩ = some (.int .u64 a0_0) := (blk_cell BK156.out 0).trans rfl
              have hcz29_1 : wc.cell? ⟨gb156, 1, none⟩ = some (.int .i64 a0_1) := (blk_cell BK156.out 1).trans rfl
              have hcz29_2 : wc.cell? ⟨gb156, 2, none⟩ = some (.int .i64 a0_2) := (blk_cell BK156.out 2).trans rfl
              have hcz29_3 : wc.cell? ⟨gb156, 3, none⟩ = some (.int .i64 a0_3) := (blk_cell BK156.out 3).trans rfl
              have hcz29_4 : wc.cell? ⟨gb156, 4, none⟩ = some (.int .u64 a0_4) := (blk_cell BK156.out 4).trans rfl
              have hcz29_5 : wc.cell? ⟨gb156, 5, none⟩ = some (.int .i64 a0_5) := (blk_cell BK156.out 5).trans rfl
              have hcz29_6 : wc.cell? ⟨gb156, 6, none⟩ = some (.int .i64 a0_6) := (blk_cell BK156.out 6).trans rfl
              have hcz29_7 : wc.cell? ⟨gb156, 7, none⟩ = some (.int .i64 a0_7) := (blk_cell BK156.out 7).trans rfl
              have hcz29_8 : wc.cell? ⟨gb156, 8, none⟩ = some (.int .i64 a0_8) := (blk_cell BK156.out 8).trans rfl
              have hfz29_0 := blk_frozen BK156.out 0
              have hfz29_1 := blk_frozen BK156.out 1
              have hfz29_2 := blk_frozen BK156.out 2
              have hfz29_3 := blk_frozen BK156.out 3
              have hfz29_4 := blk_frozen BK156.out 4
              have hfz29_5 := blk_frozen BK156.out 5
              have hfz29_6 := blk_frozen BK156.out 6
              have hfz29_7 := blk_frozen BK156.out 7
              have hfz29_8 := blk_frozen BK156.out 8
              go_wp2
              go_ret
              exact ⟨by first | rfl | (simp [errW_none, errW_some] <;> rfl) | (simp [*, errW_none, errW_some] <;> rfl), by repeat (first | (with_reducible first | exact HB.out | apply below_alloc | apply pw_below_drewN | apply below_drew1 | refine below_set ?_ GE156.out) | exact HB.out)⟩
        · rw [if_neg c18] at H
          have c18b0 : (a0_2 == 1) = false := beq_eq_false_iff_ne.mpr c18
          have c18b1 : (a0_2 != 1) = true := bne_iff_ne.mpr c18
          by_cases c30 : a0_2 = 2
          · rw [if_pos c30] at H
            have c30b0 : (a0_2 == 2) = true := beq_iff_eq.mpr c30
            have c30b1 : (a0_2 != 2) = false := bne_eq_false_iff_eq.mpr c30
            clear c30
            by_cases c31 : a0_4 = 0
            · rw [if_pos c31] at H
              have c31b0 : (a0_4 == 0) = true := beq_iff_eq.mpr c31
              have c31b1 : (a0_4 != 0) = false := bne_eq_false_iff_eq.mpr c31
              clear c31
              by_cases c32 : a0_7 = 0
              · rw [if_pos c32] at H
                have c32b0 : (a0_7 == 0) = true := beq_iff_eq.mpr c32
                have c32b1 : (a0_7 != 0) = false := bne_eq_false_iff_eq.mpr c32
                clear c32
                by_cases c33 : a0_6 ≥ 1
                · rw [if_pos c33] at H
                  have c33b0 : decide (1 ≤ a0_6) = true := decide_eq_true c33
                  clear c33
                  by_cases c34 : a0_6 ≤ 1125899906842624
                  · rw [if_pos c34] at H
                    have c34b0 : decide (a0_6 ≤ 1125899906842624) = true := decide_eq_true c34
                    clear c34
                    by_cases c35 : a0_5 ≥ 0
                    · rw [if_pos c35] at H
                      have c35b0 : decide (0 ≤ a0_5) = true := decide_eq_true c35
                      clear c35
                      obtain rfl := Option.some.inj H
                      have hcz36_0 : wc.cell? ⟨gb156, 0, none⟩ = some (.int .u64 a0_0) := (blk_cell BK156.out 0).trans rfl
                      have hcz36_1 : wc.cell? ⟨gb156, 1, none⟩ = some (.int .i64 a0_1) := (blk_cell BK156.out 1).trans rfl
                      have hcz36_2 : wc.cell? ⟨gb156, 2, none⟩ = some (.int .i64 a0_2) := (blk_cell BK156.out 2).trans rfl
                      have hcz36_3 : wc.cell? ⟨gb156, 3, none⟩ = some (.int .i64 a0_3) := (blk_cell BK156.out 3).trans rfl
                      have hcz36_4 : wc.cell? ⟨gb156, 4, none⟩ = some (.int .u64 a0_4) := (blk_cell BK156.out 4).trans rfl
                      have hcz36_5 : wc.cell? ⟨gb156, 5, none⟩ = some (.int .i64 a0_5) := (blk_cell BK156.out 5).trans rfl
                      have hcz36_6 : wc.cell? ⟨gb156, 6, none⟩ = some (.int .i64 a0_6) := (blk_cell BK156.out 6).trans rfl
                      have hcz36_7 : wc.cell? ⟨gb156, 7, none⟩ = some (.int .i64 a0_7) := (blk_cell BK156.out 7).trans rfl
                      have hcz36_8 : wc.cell? ⟨gb156, 8, none⟩ = some (.int .i64 a0_8) := (blk_cell BK156.out 8).trans rfl
                      have hfz36_0 := blk_frozen BK156.out 0
                      have hfz36_1 := blk_frozen BK156.out 1
                      have hfz36_2 := blk_frozen BK156.out 2
                      have hfz36_3 := blk_frozen BK156.out 3
                      have hfz36_4 := blk_frozen BK156.out 4
                      have hfz36_5 := blk_frozen BK156.out 5
                      have hfz36_6 := blk_frozen BK156.out 6
                      have hfz36_7 := blk_frozen BK156.out 7
                      have hfz36_8 := blk_frozen BK156.out 8
                      go_wp2
                      go_ret
                      exact ⟨by first | rfl | (simp [errW_none, errW_some] <;> rfl) | (simp [*, errW_none, errW_some] <;> rfl), by repeat (first | (with_reducible first | exact HB.out | apply below_alloc | apply pw_below_drewN | apply below_drew1 | refine below_set ?_ GE156.out) | exact HB.out)⟩
                    · rw [if_neg c35] at H
                      have c35b0 : decide (0 ≤ a0_5) = false := decide_eq_false c35
                      clear c35
                      obtain rfl := Option.some.inj H
                      have hcz37_0 : wc.cell? ⟨gb156, 0, none⟩ = some (.int .u64 a0_0) := (blk_cell BK156.out 0).trans rfl
                      have hcz37_1 : wc.cell? ⟨gb156, 1, none⟩ = some (.int .i64 a0_1) := (blk_cell BK156.out 1).trans rfl
                      have hcz37_2 : wc.cell? ⟨gb156, 2, none⟩ = some (.int .i64 a0_2) := (blk_cell BK156.out 2).trans rfl
                      have hcz37_3 : wc.cell? ⟨gb156, 3, none⟩ = some (.int .i64 a0_3) := (blk_cell BK156.out 3).trans rfl
                      have hcz37_4 : wc.cell? ⟨gb156, 4, none⟩ = some (.int .u64 a0_4) := (blk_cell BK156.out 4).trans rfl
                      have hcz37_5 : wc.cell? ⟨gb156, 5, none⟩ = some (.int .i64 a0_5) := (blk_cell BK156.out 5).trans rfl
                      have hcz37_6 : wc.cell? ⟨gb156, 6, none⟩ = some (.int .i64 a0_6) := (blk_cell BK156.out 6).trans rfl
                      have hcz37_7 : wc.cell? ⟨gb156, 7, none⟩ = some (.int .i64 a0_7) := (blk_cell BK156.out 7).trans rfl
                      have hcz37_8 : wc.cell? ⟨gb156, 8, none⟩ = some (.int .i64 a0_8) := (blk_cell BK156.out 8).trans rfl
                      have hfz37_0 := blk_frozen BK156.out 0
                      have hfz37_1 := blk_frozen BK156.out 1
                      have hfz37_2 := blk_frozen BK156.out 2
                      have hfz37_3 := blk_frozen BK156.out 3
                      have hfz37_4 := blk_frozen BK156.out 4
                      have hfz37_5 := blk_frozen BK156.out 5
                      have hfz37_6 := blk_frozen BK156.out 6
                      have hfz37_7 := blk_frozen BK156.out 7
                      have hfz37_8 := blk_frozen BK156.out 8
                      go_wp2
                      go_ret
                      exact ⟨by first | rfl | (simp [errW_none, errW_some] <;> rfl) | (simp [*, errW_none, errW_some] <;> rfl), by repeat (first | (with_reducible first | exact HB.out | apply below_alloc | apply pw_below_drewN | apply below_drew1 | refine below_set ?_ GE156.out) | exact HB.out)⟩
                  · rw [if_neg c34] at H
                    have c34b0 : decide (a0_6 ≤ 1125899906842624) = false := decide_eq_false c34
                    clear c34
                    obtain rfl := Option.some.inj H
                    have hcz38_0 : wc.cell? ⟨gb156, 0, none⟩ = some (.int .u64 a0_0) := (blk_cell BK156.out 0).trans rfl
                    have hcz38_1 : wc.cell? ⟨gb156, 1, none⟩ = some (.int .i64 a0_1) := (blk_cell BK156.out 1).trans rfl
                    have hcz38_2 : wc.cell? ⟨gb156, 2, none⟩ = some (.int .i64 a0_2) := (blk_cell BK156.out 2).trans rfl
                    have hcz38_3 : wc.cell? ⟨gb156, 3, none⟩ = some (.int .i64 a0_3) := (blk_cell BK156.out 3).trans rfl
                    have hcz38_4 : wc.cell? ⟨gb156, 4, none⟩ = some (.int .u64 a0_4) := (blk_cell BK156.out 4).trans rfl
                    have hcz38_5 : wc.cell? ⟨gb156, 5, none⟩ = some (.int .i64 a0_5) := (blk_cell BK156.out 5).trans rfl
                    have hcz38_6 : wc.cell? ⟨gb156, 6, none⟩ = some (.int .i64 a0_6) := (blk_cell BK156.out 6).trans rfl
                    have hcz38_7 : wc.cell? ⟨gb156, 7, none⟩ = some (.int .i64 a0_7) := (blk_cell BK156.out 7).trans rfl
                    have hcz38_8 : wc.cell? ⟨gb156, 8, none⟩ = some (.int .i64 a0_8) := (blk_cell BK156.out 8).trans rfl
                    have hfz38_0 := blk_frozen BK156.out 0
                    have hfz38_1 := blk_frozen BK156.out 1
                    have hfz38_2 := blk_frozen BK156.out 2
                    have hfz38_3 := blk_frozen BK156.out 3
                    have hfz38_4 := blk_frozen BK156.out 4
                    have hfz38_5 := blk_frozen BK156.out 5
                    have hfz38_6 := blk_frozen BK156.out 6
                    have hfz38_7 := blk_frozen BK156.out 7
                    have hfz38_8 := blk_frozen BK156.out 8
                    go_wp2
                    go_ret
                    exact ⟨by first | rfl | (simp [errW_none, errW_some] <;> rfl) | (simp [*, errW_none, errW_some] <;> rfl), by repeat (first | (with_reducible first | exact HB.out | apply below_alloc | apply pw_below_drewN | apply below_drew1 | refine below_set ?_ GE156.out) | exact HB.out)⟩
                · rw [if_neg c33] at H
                  have c33b0 : decide (1 ≤ a0_6) = false := decide_eq_false c33
                  clear c33
                  obtain rfl := Option.some.inj H
                  have hcz39_0 : wc.cell? ⟨gb156, 0, none⟩ = some (.int .u64 a0_0) := (blk_cell BK156.out 0).trans rfl
                  have hcz39_1 : wc.cell? ⟨gb156, 1, none⟩ = some (.int .i64 a0_1) := (blk_cell BK156.out 1).trans rfl
                  have hcz39_2 : wc.cell? ⟨gb156, 2, none⟩ = some (.int .i64 a0_2) := (blk_cell BK156.out 2).trans rfl
                  have hcz39_3 : wc.cell? ⟨gb156, 3, none⟩ = some (.int .i64 a0_3) := (blk_cell BK156.out 3).trans rfl
                  have hcz39_4 : wc.cell? ⟨gb156, 4, none⟩ = some (.int .u64 a0_4) := (blk_cell BK156.out 4).trans rfl
                  have hcz39_5 : wc.cell? ⟨gb156, 5, none⟩ = some (.int .i64 a0_5) := (blk_cell BK156.out 5).trans rfl
                  have hcz39_6 : wc.cell? ⟨gb156, 6, none⟩ = some (.int .i64 a0_6) := (blk_cell BK156.out 6).trans rfl
                  have hcz39_7 : wc.cell? ⟨gb156, 7, none⟩ = some (.int .i64 a0_7) := (blk_cell BK156.out 7).trans rfl
                  have hcz39_8 : wc.cell? ⟨gb156, 8, none⟩ = some (.int .i64 a0_8) := (blk_cell BK156.out 8).trans rfl
                  have hfz39_0 := blk_frozen BK156.out 0
                  have hfz39_1 := blk_frozen BK156.out 1
                  have hfz39_2 := blk_frozen BK156.out 2
                  have hfz39_3 := blk_frozen BK156.out 3
                  have hfz39_4 := blk_frozen BK156.out 4
                  have hfz39_5 := blk_frozen BK156.out 5
                  have hfz39_6 := blk_frozen BK156.out 6
                  have hfz39_7 := blk_frozen BK156.out 7
                  have hfz39_8 := blk_frozen BK156.out 8
                  go_wp2
                  go_ret
                  exact ⟨by first | rfl | (simp [errW_none, errW_some] <;> rfl) | (simp [*, errW_none, errW_some] <;> rfl), by repeat (first | (with_reducible first | exact HB.out | apply below_alloc | apply pw_below_drewN | apply below_drew1 | refine below_set ?_ GE156.out) | exact HB.out)⟩
              · rw [if_neg c32] at H
                have c32b0 : (a0_7 == 0) = false := beq_eq_false_iff_ne.mpr c32
                have c32b1 : (a0_7 != 0) = true := bne_iff_ne.mpr c32
                obtain rfl := Option.some.inj H
                have hcz40_0 : wc.cell? ⟨gb156, 0, none⟩ = some (.int .u64 a0_0) := (blk_cell BK156.out 0).trans rfl
                have hcz40_1 : wc.cell? ⟨gb156, 1, none⟩ = some (.int .i64 a0_1) := (blk_cell BK156.out 1).trans rfl
                have hcz40_2 : wc.cell? ⟨gb156, 2, none⟩ = some (.int .i64 a0_2) := (blk_cell BK156.out 2).trans rfl
                have hcz40_3 : wc.cell? ⟨gb156, 3, none⟩ = some (.int .i64 a0_3) := (blk_cell BK156.out 3).trans rfl
                have hcz40_4 : wc.cell? ⟨gb156, 4, none⟩ = some (.int .u64 a0_4) := (blk_cell BK156.out 4).trans rfl
                have hcz40_5 : wc.cell? ⟨gb156, 5, none⟩ = some (.int .i64 a0_5) := (blk_cell BK156.out 5).trans rfl
                have hcz40_6 : wc.cell? ⟨gb156, 6, none⟩ = some (.int .i64 a0_6) := (blk_cell BK156.out 6).trans rfl
                have hcz40_7 : wc.cell? ⟨gb156, 7, none⟩ = some (.int .i64 a0_7) := (blk_cell BK156.out 7).trans rfl
                have hcz40_8 : wc.cell? ⟨gb156, 8, none⟩ = some (.int .i64 a0_8) := (blk_cell BK156.out 8).trans rfl
                have hfz40_0 := blk_frozen BK156.out 0
                have hfz40_1 := blk_frozen BK156.out 1
                have hfz40_2 := blk_frozen BK156.out 2
                have hfz40_3 := blk_frozen BK156.out 3
                have hfz40_4 := blk_frozen BK156.out 4
                have hfz40_5 := blk_frozen BK156.out 5
                have hfz40_6 := blk_frozen BK156.out 6
                have hfz40_7 := blk_frozen BK156.out 7
                have hfz40_8 := blk_frozen BK156.out 8
                go_wp2
                go_ret
                exact ⟨by first | rfl | (simp [errW_none, errW_some] <;> rfl) | (simp [*, errW_none, errW_some] <;> rfl), by repeat (first | (with_reducible first | exact HB.out | apply below_alloc | apply pw_below_drewN | apply below_drew1 | refine below_set ?_ GE156.out) | exact HB.out)⟩
            · rw [if_neg c31] at H
              have c31b0 : (a0_4 == 0) = false := beq_eq_false_iff_ne.mpr c31
              have c31b1 : (a0_4 != 0) = true := bne_iff_ne.mpr c31
              obtain rfl := Option.some.inj H
              have hcz41_0 : wc.cell? ⟨gb156, 0, none⟩ = some (.int .u64 a0_0) := (blk_cell BK156.out 0).trans rfl
              have hcz41_1 : wc.cell? ⟨gb156, 1, none⟩ = some (.int .i64 a0_1) := (blk_cell BK156.out 1).trans rfl
              have hcz41_2 : wc.cell? ⟨gb156, 2, none⟩ = some (.int .i64 a0_2) := (blk_cell BK156.out 2).trans rfl
              have hcz41_3 : wc.cell? ⟨gb156, 3, none⟩ = some (.int .i64 a0_3) := (blk_cell BK156.out 3).trans rfl
              have hcz41_4 : wc.cell? ⟨gb156, 4, none⟩ = some (.int .u64 a0_4) := (blk_cell BK156.out 4).trans rfl
              have hcz41_5 : wc.cell? ⟨gb156, 5, none⟩ = some (.int .i64 a0_5) := (blk_cell BK156.out 5).trans rfl
              have hcz41_6 : wc.cell? ⟨gb156, 6, none⟩ = some (.int .i64 a0_6) := (blk_cell BK156.out 6).trans rfl
              have hcz41_7 : wc.cell? ⟨gb156, 7, none⟩ = some (.int .i64 a0_7) := (blk_cell BK156.out 7).trans rfl
              have hcz41_8 : wc.cell? ⟨gb156, 8, none⟩ = some (.int .i64 a0_8) := (blk_cell BK156.out 8).trans rfl
              have hfz41_0 := blk_frozen BK156.out 0
              have hfz41_1 := blk_frozen BK156.out 1
              have hfz41_2 := blk_frozen BK156.out 2
              have hfz41_3 := blk_frozen BK156.out 3
              have hfz41_4 := blk_frozen BK156.out 4
              have hfz41_5 := blk_frozen BK156.out 5
              have hfz41_6 := blk_frozen BK156.out 6
              have hfz41_7 := blk_frozen BK156.out 7
              have hfz41_8 := blk_frozen BK156.out 8
              go_wp2
              go_ret
              exact ⟨by first | rfl | (simp [errW_none, errW_some] <;> rfl) | (simp [*, errW_none, errW_some] <;> rfl), by repeat (first | (with_reducible first | exact HB.out | apply below_alloc | apply pw_below_drewN | apply below_drew1 | refine below_set ?_ GE156.out) | exact HB.out)⟩
          · rw [if_neg c30] at H
            have c30b0 : (a0_2 == 2) = false := beq_eq_false_iff_ne.mpr c30
            have c30b1 : (a0_2 != 2) = true := bne_iff_ne.mpr c30
            by_cases c42 : a0_2 = 3
            · rw [if_pos c42] at H
              have c42b0 : (a0_2 == 3) = true := beq_iff_eq.mpr c42
              have c42b1 : (a0_2 != 3) = false := bne_eq_false_iff_eq.mpr c42
              clear c42
              by_cases c43 : a0_4 = 0
              · rw [if_pos c43] at H
                have c43b0 : (a0_4 == 0) = true := beq_iff_eq.mpr c43
                have c43b1 : (a0_4 != 0) = false := bne_eq_false_iff_eq.mpr c43
                clear c43
                by_cases c44 : a0_5 = 0
                · rw [if_pos c44] at H
                  have c44b0 : (a0_5 == 0) = true := beq_iff_eq.mpr c44
                  have c44b1 : (a0_5 != 0) = false := bne_eq_false_iff_eq.mpr c44
                  clear c44
                  by_cases c45 : a0_6 = 0
                  · rw [if_pos c45] at H
                    have c45b0 : (a0_6 == 0) = true := beq_iff_eq.mpr c45
                    have c45b1 : (a0_6 != 0) = false := bne_eq_false_iff_eq.mpr c45
                    clear c45
                    obtain rfl := Option.some.inj H
                    have hcz46_0 : wc.cell? ⟨gb156, 0, none⟩ = some (.int .u64 a0_0) := (blk_cell BK156.out 0).trans rfl
                    have hcz46_1 : wc.cell? ⟨gb156, 1, none⟩ = some (.int .i64 a0_1) := (blk_cell BK156.out 1).trans rfl
                    have hcz46_2 : wc.cell? ⟨gb156, 2, none⟩ = some (.int .i64 a0_2) := (blk_cell BK156.out 2).trans rfl
                    have hcz46_3 : wc.cell? ⟨gb156, 3, none⟩ = some (.int .i64 a0_3) := (blk_cell BK156.out 3).trans rfl
                    have hcz46_4 : wc.cell? ⟨gb156, 4, none⟩ = some (.int .u64 a0_4) := (blk_cell BK156.out 4).trans rfl
                    have hcz46_5 : wc.cell? ⟨gb156, 5, none⟩ = some (.int .i64 a0_5) := (blk_cell BK156.out 5).trans rfl
                    have hcz46_6 : wc.cell? ⟨gb156, 6, none⟩ = some (.int .i64 a0_6) := (blk_cell BK156.out 6).trans rfl
                    have hcz46_7 : wc.cell? ⟨gb156, 7, none⟩ = some (.int .i64 a0_7) := (blk_cell BK156.out 7).trans rfl
                    have hcz46_8 : wc.cell? ⟨gb156, 8, none⟩ = some (.int .i64 a0_8) := (blk_cell BK156.out 8).trans rfl
                    have hfz46_0 := blk_frozen BK156.out 0
                    have hfz46_1 := blk_frozen BK156.out 1
                    have hfz46_2 := blk_frozen BK156.out 2
                    have hfz46_3 := blk_frozen BK156.out 3
                    have hfz46_4 := blk_frozen BK156.out 4
                    have hfz46_5 := blk_frozen BK156.out 5
                    have hfz46_6 := blk_frozen BK156.out 6
                    have hfz46_7 := blk_frozen BK156.out 7
                    have hfz46_8 := blk_frozen BK156.out 8
                    go_wp2
                    go_ret
                    exact ⟨by first | rfl | (simp [errW_none, errW_some] <;> rfl) | (simp [*, errW_none, errW_some] <;> rfl), by repeat (first | (with_reducible first | exact HB.out | apply below_alloc | apply pw_below_drewN | apply below_drew1 | refine below_set ?_ GE156.out) | exact HB.out)⟩
                  · rw [if_neg c45] at H
                    have c45b0 : (a0_6 == 0) = false := beq_eq_false_iff_ne.mpr c45
                    have c45b1 : (a0_6 != 0) = true := bne_iff_ne.mpr c45
                    obtain rfl := Option.some.inj H
                    have hcz47_0 : wc.cell? ⟨gb156, 0, none⟩ = some (.int .u64 a0_0) := (blk_cell BK156.out 0).trans rfl
                    have hcz47_1 : wc.cell? ⟨gb156, 1, none⟩ = some (.int .i64 a0_1) := (blk_cell BK156.out 1).trans rfl
                    have hcz47_2 : wc.cell? ⟨gb156, 2, none⟩ = some (.int .i64 a0_2) := (blk_cell BK156.out 2).trans rfl
                    have hcz47_3 : wc.cell? ⟨gb156, 3, none⟩ = some (.int .i64 a0_3) := (blk_cell BK156.out 3).trans rfl
                    have hcz47_4 : wc.cell? ⟨gb156, 4, none⟩ = some (.int .u64 a0_4) := (blk_cell BK156.out 4).trans rfl
                    have hcz47_5 : wc.cell? ⟨gb156, 5, none⟩ = some (.int .i64 a0_5) := (blk_cell BK156.out 5).trans rfl
                    have hcz47_6 : wc.cell? ⟨gb156, 6, none⟩ = some (.int .i64 a0_6) := (blk_cell BK156.out 6).trans rfl
                    have hcz47_7 : wc.cell? ⟨gb156, 7, none⟩ = some (.int .i64 a0_7) := (blk_cell BK156.out 7).trans rfl
                    have hcz47_8 : wc.cell? ⟨gb156, 8, none⟩ = some (.int .i64 a0_8) := (blk_cell BK156.out 8).trans rfl
                    have hfz47_0 := blk_frozen BK156.out 0
                    have hfz47_1 := blk_frozen BK156.out 1
                    have hfz47_2 := blk_frozen BK156.out 2
                    have hfz47_3 := blk_frozen BK156.out 3
                    have hfz47_4 := blk_frozen BK156.out 4
                    have hfz47_5 := blk_frozen BK156.out 5
                    have hfz47_6 := blk_frozen BK156.out 6
                    have hfz47_7 := blk_frozen BK156.out 7
                    have hfz47_8 := blk_frozen BK156.out 8
                    go_wp2
                    go_ret
                    exact ⟨by first | rfl | (simp [errW_none, errW_some] <;> rfl) | (simp [*, errW_none, errW_some] <;> rfl), by repeat (first | (with_reducible first | exact HB.out | apply below_alloc | apply pw_below_drewN | apply below_drew1 | refine below_set ?_ GE156.out) | exact HB.out)⟩
                · rw [if_neg c44] at H
                  have c44b0 : (a0_5 == 0) = false := beq_eq_false_iff_ne.mpr c44
                  have c44b1 : (a0_5 != 0) = true := bne_iff_ne.mpr c44
                  obtain rfl := Option.some.inj H
                  have hcz48_0 : wc.cell? ⟨gb156, 0, none⟩ = some (.int .u64 a0_0) := (blk_cell BK156.out 0).trans rfl
                  have hcz48_1 : wc.cell? ⟨gb156, 1, none⟩ = some (.int .i64 a0_1) := (blk_cell BK156.out 1).trans rfl
                  have hcz48_2 : wc.cell? ⟨gb156, 2, none⟩ = some (.int .i64 a0_2) := (blk_cell BK156.out 2).trans rfl
                  have hcz48_3 : wc.cell? ⟨gb156, 3, none⟩ = some (.int .i64 a0_3) := (blk_cell BK156.out 3).trans rfl
                  have hcz48_4 : wc.cell? ⟨gb156, 4, none⟩ = some (.int .u64 a0_4) := (blk_cell BK156.out 4).trans rfl
                  have hcz48_5 : wc.cell? ⟨gb156, 5, none⟩ = some (.int .i64 a0_5) := (blk_cell BK156.out 5).trans rfl
                  have hcz48_6 : wc.cell? ⟨gb156, 6, none⟩ = some (.int .i64 a0_6) := (blk_cell BK156.out 6).trans rfl
                  have hcz48_7 : wc.cell? ⟨gb156, 7, none⟩ = some (.int .i64 a0_7) := (blk_cell BK156.out 7).trans rfl
                  have hcz48_8 : wc.cell? ⟨gb156, 8, none⟩ = some (.int .i64 a0_8) := (blk_cell BK156.out 8).trans rfl
                  have hfz48_0 := blk_frozen BK156.out 0
                  have hfz48_1 := blk_frozen BK156.out 1
                  have hfz48_2 := blk_frozen BK156.out 2
                  have hfz48_3 := blk_frozen BK156.out 3
                  have hfz48_4 := blk_frozen BK156.out 4
                  have hfz48_5 := blk_frozen BK156.out 5
                  have hfz48_6 := blk_frozen BK156.out 6
                  have hfz48_7 := blk_frozen BK156.out 7
                  have hfz48_8 := blk_frozen BK156.out 8
                  go_wp2
                  go_ret
                  exact ⟨by first | rfl | (simp [errW_none, errW_some] <;> rfl) | (simp [*, errW_none, errW_some] <;> rfl), by repeat (first | (with_reducible first | exact HB.out | apply below_alloc | apply pw_below_drewN | apply below_drew1 | refine below_set ?_ GE156.out) | exact HB.out)⟩
              · rw [if_neg c43] at H
                have c43b0 : (a0_4 == 0) = false := beq_eq_false_iff_ne.mpr c43
                have c43b1 : (a0_4 != 0) = true := bne_iff_ne.mpr c43
                obtain rfl := Option.some.inj H
                have hcz49_0 : wc.cell? ⟨gb156, 0, none⟩ = some (.int .u64 a0_0) := (blk_cell BK156.out 0).trans rfl
                have hcz49_1 : wc.cell? ⟨gb156, 1, none⟩ = some (.int .i64 a0_1) := (blk_cell BK156.out 1).trans rfl
                have hcz49_2 : wc.cell? ⟨gb156, 2, none⟩ = some (.int .i64 a0_2) := (blk_cell BK156.out 2).trans rfl
                have hcz49_3 : wc.cell? ⟨gb156, 3, none⟩ = some (.int .i64 a0_3) := (blk_cell BK156.out 3).trans rfl
                have hcz49_4 : wc.cell? ⟨gb156, 4, none⟩ = some (.int .u64 a0_4) := (blk_cell BK156.out 4).trans rfl
                have hcz49_5 : wc.cell? ⟨gb156, 5, none⟩ = some (.int .i64 a0_5) := (blk_cell BK156.out 5).trans rfl
                have hcz49_6 : wc.cell? ⟨gb156, 6, none⟩ = some (.int .i64 a0_6) := (blk_cell BK156.out 6).trans rfl
                have hcz49_7 : wc.cell? ⟨gb156, 7, none⟩ = some (.int .i64 a0_7) := (blk_cell BK156.out 7).trans rfl
                have hcz49_8 : wc.cell? ⟨gb156, 8, none⟩ = some (.int .i64 a0_8) := (blk_cell BK156.out 8).trans rfl
                have hfz49_0 := blk_frozen BK156.out 0
                have hfz49_1 := blk_frozen BK156.out 1
                have hfz49_2 := blk_frozen BK156.out 2
                have hfz49_3 := blk_frozen BK156.out 3
                have hfz49_4 := blk_frozen BK156.out 4
                have hfz49_5 := blk_frozen BK156.out 5
                have hfz49_6 := blk_frozen BK156.out 6
                have hfz49_7 := blk_frozen BK156.out 7
                have hfz49_8 := blk_frozen BK156.out 8
                go_wp2
                go_ret
                exact ⟨by first | rfl | (simp [errW_none, errW_some] <;> rfl) | (simp [*, errW_none, errW_some] <;> rfl), by repeat (first | (with_reducible first | exact HB.out | apply below_alloc | apply pw_below_drewN | apply below_drew1 | refine below_set ?_ GE156.out) | exact HB.out)⟩
            · rw [if_neg c42] at H
              have c42b0 : (a0_2 == 3) = false := beq_eq_false_iff_ne.mpr c42
              have c42b1 : (a0_2 != 3) = true := bne_iff_ne.mpr c42
              by_cases c50 : a0_2 = 4
              · rw [if_pos c50] at H
                have c50b0 : (a0_2 == 4) = true := beq_iff_eq.mpr c50
                have c50b1 : (a0_2 != 4) = false := bne_eq_false_iff_eq.mpr c50
                clear c50
                by_cases c51 : a0_4 = 0
                · rw [if_pos c51] at H
                  have c51b0 : (a0_4 == 0) = true := beq_iff_eq.mpr c51
                  have c51b1 : (a0_4 != 0) = false := bne_eq_false_iff_eq.mpr c51
                  clear c51
                  by_cases c52 : a0_5 = 0
                  · rw [if_pos c52] at H
                    have c52b0 : (a0_5 == 0) = true := beq_iff_eq.mpr c52
                    have c52b1 : (a0_5 != 0) = false := bne_eq_false_iff_eq.mpr c52
                    clear c52
                    by_cases c53 : a0_6 = 0
                    · rw [if_pos c53] at H
                      have c53b0 : (a0_6 == 0) = true := beq_iff_eq.mpr c53
                      have c53b1 : (a0_6 != 0) = false := bne_eq_false_iff_eq.mpr c53
                      clear c53
                      obtain rfl := Option.some.inj H
                      have hcz54_0 : wc.cell? ⟨gb156, 0, none⟩ = some (.int .u64 a0_0) := (blk_cell BK156.out 0).trans rfl
                      have hcz54_1 : wc.cell? ⟨gb156, 1, none⟩ = some (.int .i64 a0_1) := (blk_cell BK156.out 1).trans rfl
                      have hcz54_2 : wc.cell? ⟨gb156, 2, none⟩ = some (.int .i64 a0_2) := (blk_cell BK156.out 2).trans rfl
                      have hcz54_3 : wc.cell? ⟨gb156, 3, none⟩ = some (.int .i64 a0_3) := (blk_cell BK156.out 3).trans rfl
                      have hcz54_4 : wc.cell? ⟨gb156, 4, none⟩ = some (.int .u64 a0_4) := (blk_cell BK156.out 4).trans rfl
                      have hcz54_5 : wc.cell? ⟨gb156, 5, none⟩ = some (.int .i64 a0_5) := (blk_cell BK156.out 5).trans rfl
                      have hcz54_6 : wc.cell? ⟨gb156, 6, none⟩ = some (.int .i64 a0_6) := (blk_cell BK156.out 6).trans rfl
                      have hcz54_7 : wc.cell? ⟨gb156, 7, none⟩ = some (.int .i64 a0_7) := (blk_cell BK156.out 7).trans rfl
                      have hcz54_8 : wc.cell? ⟨gb156, 8, none⟩ = some (.int .i64 a0_8) := (blk_cell BK156.out 8).trans rfl
                      have hfz54_0 := blk_frozen BK156.out 0
                      have hfz54_1 := blk_frozen BK156.out 1
                      have hfz54_2 := blk_frozen BK156.out 2
                      have hfz54_3 := blk_frozen BK156.out 3
                      have hfz54_4 := blk_frozen BK156.out 4
                      have hfz54_5 := blk_frozen BK156.out 5
                      have hfz54_6 := blk_frozen BK156.out 6
                      have hfz54_7 := blk_frozen BK156.out 7
                      have hfz54_8 := blk_frozen BK156.out 8
                      go_wp2
                      go_ret
                      exact ⟨by first | rfl | (simp [errW_none, errW_some] <;> rfl) | (simp [*, errW_none, errW_some] <;> rfl), by repeat (first | (with_reducible first | exact HB.out | apply below_alloc | apply pw_below_drewN | apply below_drew1 | refine below_set ?_ GE156.out) | exact HB.out)⟩
                    · rw [if_neg c53] at H
                      have c53b0 : (a0_6 == 0) = false := beq_eq_false_iff_ne.mpr c53
                      have c53b1 : (a0_6 != 0) = true := bne_iff_ne.mpr c53
                      obtain rfl := Option.some.inj H
                      have hcz55_0 : wc.cell? ⟨gb156, 0, none⟩ = some (.int .u64 a0_0) := (blk_cell BK156.out 0).trans rfl
                      have hcz55_1 : wc.cell? ⟨gb156, 1, none⟩ = some (.int .i64 a0_1) := (blk_cell BK156.out 1).trans rfl
                      have hcz55_2 : wc.cell? ⟨gb156, 2, none⟩ = some (.int .i64 a0_2) := (blk_cell BK156.out 2).trans rfl
                      have hcz55_3 : wc.cell? ⟨gb156, 3, none⟩ = some (.int .i64 a0_3) := (blk_cell BK156.out 3).trans rfl
                      have hcz55_4 : wc.cell? ⟨gb156, 4, none⟩ = some (.int .u64 a0_4) := (blk_cell BK156.out 4).trans rfl
                      have hcz55_5 : wc.cell? ⟨gb156, 5, none⟩ = some (.int .i64 a0_5) := (blk_cell BK156.out 5).trans rfl
                      have hcz55_6 : wc.cell? ⟨gb156, 6, none⟩ = some (.int .i64 a0_6) := (blk_cell BK156.out 6).trans rfl
                      have hcz55_7 : wc.cell? ⟨gb156, 7, none⟩ = some (.int .i64 a0_7) := (blk_cell BK156.out 7).trans rfl
                      have hcz55_8 : wc.cell? ⟨gb156, 8, none⟩ = some (.int .i64 a0_8) := (blk_cell BK156.out 8).trans rfl
                      have hfz55_0 := blk_frozen BK156.out 0
                      have hfz55_1 := blk_frozen BK156.out 1
                      have hfz55_2 := blk_frozen BK156.out 2
                      have hfz55_3 := blk_frozen BK156.out 3
                      have hfz55_4 := blk_frozen BK156.out 4
                      have hfz55_5 := blk_frozen BK156.out 5
                      have hfz55_6 := blk_frozen BK156.out 6
                      have hfz55_7 := blk_frozen BK156.out 7
                      have hfz55_8 := blk_frozen BK156.out 8
                      go_wp2
                      go_ret
                      exact ⟨by first | rfl | (simp [errW_none, errW_some] <;> rfl) | (simp [*, errW_none, errW_some] <;> rfl), by repeat (first | (with_reducible first | exact HB.out | apply below_alloc | apply pw_below_drewN | apply below_drew1 | refine below_set ?_ GE156.out) | exact HB.out)⟩
                  · rw [if_neg c52] at H
                    have c52b0 : (a0_5 == 0) = false := beq_eq_false_iff_ne.mpr c52
                    have c52b1 : (a0_5 != 0) = true := bne_iff_ne.mpr c52
                    obtain rfl := Option.some.inj H
                    have hcz56_0 : wc.cell? ⟨gb156, 0, none⟩ = some (.int .u64 a0_0) := (blk_cell BK156.out 0).trans rfl
                    have hcz56_1 : wc.cell? ⟨gb156, 1, none⟩ = some (.int .i64 a0_1) := (blk_cell BK156.out 1).trans rfl
                    have hcz56_2 : wc.cell? ⟨gb156, 2, none⟩ = some (.int .i64 a0_2) := (blk_cell BK156.out 2).trans rfl
                    have hcz56_3 : wc.cell? ⟨gb156, 3, none⟩ = some (.int .i64 a0_3) := (blk_cell BK156.out 3).trans rfl
                    have hcz56_4 : wc.cell? ⟨gb156, 4, none⟩ = some (.int .u64 a0_4) := (blk_cell BK156.out 4).trans rfl
                    have hcz56_5 : wc.cell? ⟨gb156, 5, none⟩ = some (.int .i64 a0_5) := (blk_cell BK156.out 5).trans rfl
                    have hcz56_6 : wc.cell? ⟨gb156, 6, none⟩ = some (.int .i64 a0_6) := (blk_cell BK156.out 6).trans rfl
                    have hcz56_7 : wc.cell? ⟨gb156, 7, none⟩ = some (.int .i64 a0_7) := (blk_cell BK156.out 7).trans rfl
                    have hcz56_8 : wc.cell? ⟨gb156, 8, none⟩ = some (.int .i64 a0_8) := (blk_cell BK156.out 8).trans rfl
                    have hfz56_0 := blk_frozen BK156.out 0
                    have hfz56_1 := blk_frozen BK156.out 1
                    have hfz56_2 := blk_frozen BK156.out 2
                    have hfz56_3 := blk_frozen BK156.out 3
                    have hfz56_4 := blk_frozen BK156.out 4
                    have hfz56_5 := blk_frozen BK156.out 5
                    have hfz56_6 := blk_frozen BK156.out 6
                    have hfz56_7 := blk_frozen BK156.out 7
                    have hfz56_8 := blk_frozen BK156.out 8
                    go_wp2
                    go_ret
                    exact ⟨by first | rfl | (simp [errW_none, errW_some] <;> rfl) | (simp [*, errW_none, errW_some] <;> rfl), by repeat (first | (with_reducible first | exact HB.out | apply below_alloc | apply pw_below_drewN | apply below_drew1 | refine below_set ?_ GE156.out) | exact HB.out)⟩
                · rw [if_neg c51] at H
                  have c51b0 : (a0_4 == 0) = false := beq_eq_false_iff_ne.mpr c51
                  have c51b1 : (a0_4 != 0) = true := bne_iff_ne.mpr c51
                  obtain rfl := Option.some.inj H
                  have hcz57_0 : wc.cell? ⟨gb156, 0, none⟩ = some (.int .u64 a0_0) := (blk_cell BK156.out 0).trans rfl
                  have hcz57_1 : wc.cell? ⟨gb156, 1, none⟩ = some (.int .i64 a0_1) := (blk_cell BK156.out 1).trans rfl
                  have hcz57_2 : wc.cell? ⟨gb156, 2, none⟩ = some (.int .i64 a0_2) := (blk_cell BK156.out 2).trans rfl
                  have hcz57_3 : wc.cell? ⟨gb156, 3, none⟩ = some (.int .i64 a0_3) := (blk_cell BK156.out 3).trans rfl
                  have hcz57_4 : wc.cell? ⟨gb156, 4, none⟩ = some (.int .u64 a0_4) := (blk_cell BK156.out 4).trans rfl
                  have hcz57_5 : wc.cell? ⟨gb156, 5, none⟩ = some (.int .i64 a0_5) := (blk_cell BK156.out 5).trans rfl
                  have hcz57_6 : wc.cell? ⟨gb156, 6, none⟩ = some (.int .i64 a0_6) := (blk_cell BK156.out 6).trans rfl
                  have hcz57_7 : wc.cell? ⟨gb156, 7, none⟩ = some (.int .i64 a0_7) := (blk_cell BK156.out 7).trans rfl
                  have hcz57_8 : wc.cell? ⟨gb156, 8, none⟩ = some (.int .i64 a0_8) := (blk_cell BK156.out 8).trans rfl
                  have hfz57_0 := blk_frozen BK156.out 0
                  have hfz57_1 := blk_frozen BK156.out 1
                  have hfz57_2 := blk_frozen BK156.out 2
                  have hfz57_3 := blk_frozen BK156.out 3
                  have hfz57_4 := blk_frozen BK156.out 4
                  have hfz57_5 := blk_frozen BK156.out 5
                  have hfz57_6 := blk_frozen BK156.out 6
                  have hfz57_7 := blk_frozen BK156.out 7
                  have hfz57_8 := blk_frozen BK156.out 8
                  go_wp2
                  go_ret
                  exact ⟨by first | rfl | (simp [errW_none, errW_some] <;> rfl) | (simp [*, errW_none, errW_some] <;> rfl), by repeat (first | (with_reducible first | exact HB.out | apply below_alloc | apply pw_below_drewN | apply below_drew1 | refine below_set ?_ GE156.out) | exact HB.out)⟩
              · rw [if_neg c50] at H
                have c50b0 : (a0_2 == 4) = false := beq_eq_false_iff_ne.mpr c50
                have c50b1 : (a0_2 != 4) = true := bne_iff_ne.mpr c50
                obtain rfl := Option.some.inj H
                have hcz58_0 : wc.cell? ⟨gb156, 0, none⟩ = some (.int .u64 a0_0) := (blk_cell BK156.out 0).trans rfl
                have hcz58_1 : wc.cell? ⟨gb156, 1, none⟩ = some (.int .i64 a0_1) := (blk_cell BK156.out 1).trans rfl
                have hcz58_2 : wc.cell? ⟨gb156, 2, none⟩ = some (.int .i64 a0_2) := (blk_cell BK156.out 2).trans rfl
                have hcz58_3 : wc.cell? ⟨gb156, 3, none⟩ = some (.int .i64 a0_3) := (blk_cell BK156.out 3).trans rfl
                have hcz58_4 : wc.cell? ⟨gb156, 4, none⟩ = some (.int .u64 a0_4) := (blk_cell BK156.out 4).trans rfl
                have hcz58_5 : wc.cell? ⟨gb156, 5, none⟩ = some (.int .i64 a0_5) := (blk_cell BK156.out 5).trans rfl
                have hcz58_6 : wc.cell? ⟨gb156, 6, none⟩ = some (.int .i64 a0_6) := (blk_cell BK156.out 6).trans rfl
                have hcz58_7 : wc.cell? ⟨gb156, 7, none⟩ = some (.int .i64 a0_7) := (blk_cell BK156.out 7).trans rfl
                have hcz58_8 : wc.cell? ⟨gb156, 8, none⟩ = some (.int .i64 a0_8) := (blk_cell BK156.out 8).trans rfl
                have hfz58_0 := blk_frozen BK156.out 0
                have hfz58_1 := blk_frozen BK156.out 1
                have hfz58_2 := blk_frozen BK156.out 2
                have hfz58_3 := blk_frozen BK156.out 3
                have hfz58_4 := blk_frozen BK156.out 4
                have hfz58_5 := blk_frozen BK156.out 5
                have hfz58_6 := blk_frozen BK156.out 6
                have hfz58_7 := blk_frozen BK156.out 7
                have hfz58_8 := blk_frozen BK156.out 8
                go_wp2
                go_ret
                exact ⟨by first | rfl | (simp [errW_none, errW_some] <;> rfl) | (simp [*, errW_none, errW_some] <;> rfl), by repeat (first | (with_reducible first | exact HB.out | apply below_alloc | apply pw_below_drewN | apply below_drew1 | refine below_set ?_ GE156.out) | exact HB.out)⟩
end Go.Proofs.Ytepldlnmeenlbaa.Base
