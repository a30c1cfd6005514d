/- OwnA: Plan0, Sums, Cell, Clone, Row, WeekNew, At, Switch, Total, Open, Nth0, Nth, Alm. -/
import Derived.Test.YtknlpeabmpllmaaBase7
import Derived.Test.YtknlpeabmpllmaaSync
import Derived.StillTailTactics
import Derived.Outline
import Derived.Handy
import Derived.Test.YtknlpeabmpllmaaWSized
import Derived.Laws.EntriesVeiled
import Derived.WalkSpells
import Derived.Test.YtknlpeabmpllmaaWMore
import Derived.Test.YtknlpeabmpllmaaWLast
import Derived.Test.YtknlpeabmpllmaaWTab
set_option linter.unusedVariables false
set_option linter.unusedSimpArgs false
namespace Go.Proofs.Ytknlpeabmpllmaa.Own
open Go.RowKit Go.Proofs Go.Proofs.YtknlpeabmpllmaaW.PrintWords Go.Proofs.YtknlpeabmpllmaaW.PrintLast Go.Proofs.YtknlpeabmpllmaaW.PrintMore Go.Proofs.Ytknlpeabmpllmaa.Base

/-- A row of spans: ascending, apart, from lo on. -/
def RowFrom : Int → List S57 → Prop
  | _, [] => True
  | lo, s :: r => lo ≤ s.f0 ∧ s.f0 < s.f1 ∧ RowFrom s.f1 r
/-- How many seconds spans have. -/
def secs : List S57 → Int
  | [] => 0
  | s :: r => s.f1 - s.f0 + secs r
/-- A row up to hi. -/
structure RowOk (hi : Int) (l : List S57) : Prop where
  len : l.length ≤ 32
  row : RowFrom 0 l
  top : ∀ s, s ∈ l → s.f1 ≤ hi

theorem RowFrom.mono {lo lo' : Int} {l : List S57} (h : RowFrom lo l) (hl : lo' ≤ lo) : RowFrom lo' l := by
  cases l with
  | nil => trivial
  | cons s r => exact ⟨by have := h.1; omega, h.2⟩
theorem secs_append (a b : List S57) : secs (a ++ b) = secs a + secs b := by
  induction a with
  | nil => simp [secs]
  | cons s r ih => simp [secs, ih]; omega
theorem secs_bound {lo hi : Int} {l : List S57} (h : RowFrom lo l) (ht : ∀ s, s ∈ l → s.f1 ≤ hi) : 0 ≤ secs l ∧ (l ≠ [] → lo + secs l ≤ hi) := by
  induction l generalizing lo with
  | nil => exact ⟨Int.le_refl _, fun h => absurd rfl h⟩
  | cons s r ih =>
    obtain ⟨h1, h2, h3⟩ := h
    obtain ⟨i1, i2⟩ := ih h3 (fun s hs => ht s (List.mem_cons_of_mem _ hs))
    have := ht s List.mem_cons_self
    refine ⟨by simp only [secs]; omega, fun _ => ?_⟩
    simp only [secs]
    cases r with
    | nil => simp only [secs] at *; omega
    | cons t u => have := i2 (by simp); omega
theorem RowFrom.take {lo : Int} {l : List S57} (h : RowFrom lo l) (n : Nat) : RowFrom lo (l.take n) := by
  induction l generalizing lo n with
  | nil => simpa using h
  | cons s r ih =>
    cases n with
    | zero => trivial
    | succ n => exact ⟨h.1, h.2.1, ih h.2.2 n⟩
theorem RowOk.take {hi : Int} {l : List S57} (h : RowOk hi l) (n : Nat) : RowOk hi (l.take n) :=
  ⟨by have := h.len; have : (l.take n).length ≤ l.length := by simp [List.length_take]; omega
      omega, h.row.take n, fun s hs => h.top s (List.mem_of_mem_take hs)⟩
theorem RowOk.secs {hi : Int} {l : List S57} (h : RowOk hi l) (h0 : 0 ≤ hi) : 0 ≤ secs l ∧ secs l ≤ hi := by
  obtain ⟨a, b⟩ := secs_bound h.row h.top
  refine ⟨a, ?_⟩
  cases l with
  | nil => simpa [Own.secs] using h0
  | cons s r => have := b (by simp); omega
theorem RowOk.mem {hi : Int} {l : List S57} (h : RowOk hi l) : ∀ s, s ∈ l → 0 ≤ s.f0 ∧ s.f0 < s.f1 ∧ s.f1 ≤ hi := by
  have key : ∀ (l : List S57) (lo : Int), 0 ≤ lo → RowFrom lo l → ∀ s, s ∈ l → 0 ≤ s.f0 ∧ s.f0 < s.f1 := by
    intro l
    induction l with
    | nil => intro lo _ _ s hs; cases hs
    | cons t r ih =>
      intro lo hlo hr s hs
      obtain ⟨h1, h2, h3⟩ := hr
      rcases List.mem_cons.1 hs with rfl | hs
      · exact ⟨by omega, h2⟩
      · exact ih _ (by omega) h3 s hs
  intro s hs
  obtain ⟨a, b⟩ := key l 0 (Int.le_refl _) h.row s hs
  exact ⟨a, b, h.top s hs⟩

/-- How many seconds are ahead of each span, and of the end. -/
def psums (l : List S57) : List Int := (List.range (l.length + 1)).map fun i => secs (l.take i)
theorem psums_length (l : List S57) : (psums l).length = l.length + 1 := by simp [psums]
theorem psums_get (l : List S57) (i : Nat) (h : i ≤ l.length) : (psums l)[i]? = some (secs (l.take i)) := by
  simp [psums, List.getElem?_map, List.getElem?_range (show i < l.length + 1 by omega)]
theorem psums_take (l : List S57) (i : Nat) (h : i < l.length) : psums (l.take (i + 1)) = psums (l.take i) ++ [secs (l.take i) + (rd_T57 l i).f1 - (rd_T57 l i).f0] := by
  have hl : (l.take (i + 1)).length = i + 1 := by simp; omega
  have hl' : (l.take i).length = i := by simp; omega
  unfold psums
  rw [hl, hl', List.range_succ, List.map_append]
  congr 1
  · apply List.map_congr_left
    intro j hj
    have := List.mem_range.1 hj
    rw [List.take_take, List.take_take, Nat.min_eq_left (by omega), Nat.min_eq_left (by omega)]
  · simp only [List.map_cons, List.map_nil, List.cons.injEq, and_true]
    rw [List.take_take, Nat.min_eq_left (by omega), List.take_succ_eq_append_getElem h, secs_append]
    have : rd_T57 l i = l[i] := by simp [rd_T57, List.getD_eq_getElem?_getD, List.getElem?_eq_getElem h]
    rw [this]
    simp only [secs]
    omega
theorem rd_at (l : List S57) (i : Nat) (h : i < l.length) : rd_T57 l i = l[i] := by simp [rd_T57, List.getD_eq_getElem?_getD, List.getElem?_eq_getElem h]
end Go.Proofs.Ytknlpeabmpllmaa.Own

set_option linter.unusedVariables false
set_option linter.unusedSimpArgs false
namespace Go.Proofs.Ytknlpeabmpllmaa.Own
open Go.RowKit Go.Proofs Go.Proofs.YtknlpeabmpllmaaW.PrintWords Go.Proofs.YtknlpeabmpllmaaW.PrintLast Go.Proofs.YtknlpeabmpllmaaW.PrintMore Go.Proofs.Ytknlpeabmpllmaa.Base

theorem infoI64 : (Try.prog.info? 2).map (fun i => (i.zero, i.size, i.bytes)) = some (some (.int .i64 0), 1, 8) := by kernel_rfl

theorem made_take (n : Nat) : (madeCells #[.int .i64 0] (n + 1)).toList.take 1 = [.int .i64 0] := by
  simp [madeCells, Array.range]
theorem made_own (w : World) (base n : Nat) (hb : base ≤ w.heap.size) (hn : n + 1 ≤ maxLen) :
    Kd.R (Kd.int .i64) 2 (w.alloc (.cells (madeCells #[.int .i64 0] (n + 1)) 2)) base (fun _ => True) (.slice (some ⟨w.heap.size, 0, none⟩) 1 (n + 1)) [0] :=
  Kd.R_of_own (enc := Value.int .i64) ⟨by simp [encs], .inr ⟨w.heap.size, n + 1, _, rfl, hb, heap_alloc_new w _, by simp, hn, by simp [size_madeCells], by simpa [encs] using made_take n⟩⟩ (fun _ _ => trivial)

def sums_T5 : Bool × List (List Nat × List Nat) := (true, [([], []), ([], []), ([], []), ([1, 2], [1, 2]), ([3], [3]), ([], []), ([5], [5]), ([4, 6], [4, 6]), ([], []), ([8], [8]), ([7, 9], [7, 9]), ([10], [10]), ([0, 11], [0, 11]), ([12, 12, 0, 1, 2, 3, 4, 5, 6, 7, 8, 9, 10, 11, 12], [0, 1, 12])])
def sums_B5 : List Nat := [0, 0, 0, 6, 14, 0, 32, 126, 0, 256, 1022, 2046, 4095, 8191]
theorem sums_tab5 : rtab .any (opsOf Try.f55 5) = sums_T5 := by kernel_rfl
theorem sums_bits5 : waitsOk sums_T5.2 sums_B5 = true := by kernel_rfl


set_option maxHeartbeats 4000000 in
set_option maxRecDepth 100000 in
theorem sums_any (pb : Nat) (A : Option Addr) (c : Nat) (cv : Value) (row : List S57) (w : World)
    (hw : w.heap[pb]? = some (.cells #[.slice A row.length c, cv] 85 (0, 0))) (hr : Kd.C k57 w A row.length row) (hc : row.length ≤ c) (hok : RowOk 604800 row) :
    Calls Try.prog 55 #[.pointer (some ⟨pb, 0, none⟩)] w fun e w' => ∃ v', e = .returned v' ∧ Kd.R (Kd.int .i64) 2 w' w.heap.size (fun _ => True) v' (psums row) ∧ Below w.heap.size w w' := by
  have HR := Aside0.mk hr
  have hc0 : w.cell? ⟨pb, 0, none⟩ = some (.slice A row.length c) := (blk_cell hw 0).trans rfl
  have hl := hok.len
  have HOK := Aside0.mk hok
  obtain ⟨i2, hi2, hz⟩ := Option.map_eq_some_iff.1 infoI64
  simp only [Prod.mk.injEq] at hz
  obtain ⟨hz0, hz1, hz2⟩ := hz
  have hmk := run_make (P := Try.prog) w 87 2 i2 (.int .i64 0) Try.underlying87 hi2 hz0 .i64 .i64 1 ((row.length : Int) + 1) (by omega) (by omega) (by rw [hz2]; omega) (by omega)
  rw [hz1, show ((row.length : Int) + 1).toNat = row.length + 1 by omega, Nat.mul_one] at hmk
  have HO := Aside0.mk (made_own w w.heap.size row.length (Nat.le_refl _) (by unfold maxLen; omega))
  have HB := Aside0.mk (below_alloc (Below.refl w.heap.size w) (.cells (madeCells #[.int .i64 0] (row.length + 1)) 2))
  have hc1 : (w.alloc (.cells (madeCells #[.int .i64 0] (row.length + 1)) 2)).cell? ⟨pb, 0, none⟩ = some (.slice A row.length c) := (blk_cell (blk_alloc hw _) 0).trans rfl
  clear hr hok hi2 hz0 hz1 hz2
  go_enter Try.func55, Try.ntmps55
  go_wp2
  generalize (w.alloc (.cells (madeCells #[.int .i64 0] (row.length + 1)) 2)) = w1 at HO HB hc1 ⊢
  clear hmk
  go_wp2
  go_loopg [3, 18] row.length (fun g v3 v18 w' => ∃ i : Int, v18 = .int .i64 i ∧ Aside0 (0 ≤ i ∧ (g : Int) + i = row.length) ∧ Aside0 (Kd.R (Kd.int .i64) 2 w' w.heap.size (fun _ => True) v3 (psums (row.take i.toNat))) ∧ Aside0 (Below w.heap.size w w'))
  case atStart => exact ⟨0, rfl, ⟨by omega, by omega⟩, ⟨by simpa [psums, secs] using HO.out⟩, HB⟩
  case round =>
    clear HO HB hc1
    obtain ⟨i, rfl, HG, HO, HB⟩ := hrel
    by_cases hi : i < row.length
    · have p0 : 0 ≤ i := HG.out.1
      obtain ⟨ad, e, hx0, hx1⟩ := at_T57 HR.out i p0 hi
      cases e
      replace hx0 := (HB.out.cell (World.block_lt_of_cell? w _ hx0)).trans hx0
      replace hx1 := (HB.out.cell (World.block_lt_of_cell? w _ hx1)).trans hx1
      go_wp2
      obtain ⟨A2, c2, rfl, hl2, hC2⟩ := Kd.R_reads HO.out
      have hpl : ((psums (row.take i.toNat)).length : Int) = i + 1 := by rw [psums_length]; simp; omega
      have HN := Aside0.mk (psums_take row i.toNat (by omega))
      have hsec := (HOK.out.take i.toNat).secs (by omega)
      have hmem := HOK.out.mem (rd_T57 row i) (by rw [show i = ((i.toNat : Nat) : Int) by omega, rd_at row i.toNat (by omega)]; exact List.getElem_mem _)
      have hrd : rd (psums (row.take i.toNat)) i = secs (row.take i.toNat) := by
        unfold rd
        rw [List.getD_eq_getElem?_getD, psums_get _ _ (by simp; omega), List.take_take, Nat.min_self]
        rfl
      obtain ⟨ad2, e2, hx2⟩ := Kd.at_int hC2 i p0 (by omega)
      cases e2
      rw [hrd] at hx2
      obtain ⟨W, hW⟩ : ∃ W, W = wr.alloc (.cells #[Value.int .i64 (rd_T57 row i).f0, Value.int .i64 (rd_T57 row i).f1] 57) := ⟨_, rfl⟩
      rw [← hW]
      have HO1 := Aside0.mk (hW ▸ Kd.R_alloc HO.out (.cells #[Value.int .i64 (rd_T57 row i).f0, Value.int .i64 (rd_T57 row i).f1] 57))
      have HB1 := Aside0.mk (hW ▸ below_alloc HB.out (.cells #[Value.int .i64 (rd_T57 row i).f0, Value.int .i64 (rd_T57 row i).f1] 57))
      have BK := hW ▸ blk_new wr (.cells #[Value.int .i64 (rd_T57 row i).f0, Value.int .i64 (rd_T57 row i).f1] 57)
      have hx2' := hW ▸ (World.cell?_alloc_lt wr (.cells #[Value.int .i64 (rd_T57 row i).f0, Value.int .i64 (rd_T57 row i).f1] 57) _ (World.block_lt_of_cell? _ _ hx2)).trans hx2
      clear hW
      generalize wr.heap.size = gb at BK ⊢
      have hb0 : W.cell? ⟨gb, 0, none⟩ = some (.int .i64 (rd_T57 row i).f0) := (blk_cell BK 0).trans rfl
      have hb1 : W.cell? ⟨gb, 1, none⟩ = some (.int .i64 (rd_T57 row i).f1) := (blk_cell BK 1).trans rfl
      have HLT := Aside0.mk hpl
      have HO2 := Aside0.mk (Kd.R_drew HO1.out)
      have HB2 := Aside0.mk (below_drew1 HB1.out)
      have hlt : i < ((psums (row.take i.toNat)).length : Int) := by omega
      have HM := Aside0.mk hmem
      clear BK hx0 hx1 hx2 HO HB hpl hrd hsec hmem
      have p0' := eq_true p0
      have hlt' := eq_true hlt
      have hlt2 : decide (i < ((psums (row.take i.toNat)).length : Int)) = true := decide_eq_true hlt
      clear p0 hlt
      refine start_ (n := 14) (S := fun w' => w'.cell? ⟨gb, 0, none⟩ = some (.int .i64 (rd_T57 row i).f0) ∧ w'.cell? ⟨gb, 1, none⟩ = some (.int .i64 (rd_T57 row i).f1) ∧ w'.cell? (ad2.add i.toNat) = some (.int .i64 (secs (row.take i.toNat)))) (ds := [11, 12]) #[false, false, false, false, false, false, false, false, false, false, false, false, false, false] (by kernel_rfl) rfl rfl ⟨hb0, hb1, hx2'⟩ (fun hHeld => ?_); refine with_tabW sums_tab5 sums_bits5 (fun HT_ HW_ => ?_)
      generalize W.drew = WD at HO2 HB2 hHeld ⊢
      refine pure_ (i := 0) (N := some 23) (v := ?_) (a' := ?_) #[true, false, false, false, false, false, false, false, false, false, false, false, false, false] rfl rfl (any_of HT_.out (by kernel_rfl)) (fun _ _ _ h => h) (Or.inl ⟨by rfl, ?_⟩) ?_ ?_
      rotate_left
      · intro w'
        go_simp
        with_reducible rfl
      rotate_left
      · simp only [Act.put, List.setIfInBounds_toArray, List.set_cons_zero, List.set_cons_succ, i64_w, i32_w]
        rfl
      refine pure_ (i := 1) (N := some 24) (v := ?_) (a' := ?_) #[true, true, false, false, false, false, false, false, false, false, false, false, false, false] rfl rfl (any_of HT_.out (by kernel_rfl)) (fun _ _ _ h => h) (Or.inl ⟨by rfl, ?_⟩) ?_ ?_
      rotate_left
      · intro w'
        go_simp
        with_reducible rfl
      rotate_left
      · simp only [Act.put, List.setIfInBounds_toArray, List.set_cons_zero, List.set_cons_succ, i64_w, i32_w]
        rfl
      refine pure_ (i := 2) (N := some 25) (v := ?_) (a' := ?_) #[true, true, true, false, false, false, false, false, false, false, false, false, false, false] rfl rfl (any_of HT_.out (by kernel_rfl)) (fun _ _ _ h => h) (Or.inl ⟨by rfl, ?_⟩) ?_ ?_
      rotate_left
      · intro w'
        go_simp
        with_reducible rfl
      rotate_left
      · simp only [Act.put, List.setIfInBounds_toArray, List.set_cons_zero, List.set_cons_succ, i64_w, i32_w]
        rfl
      refine pure_ (i := 3) (N := some 26) (v := ?_) (a' := ?_) #[true, true, true, true, false, false, false, false, false, false, false, false, false, false] rfl rfl (any_of HT_.out (by kernel_rfl)) (fun _ _ _ h => h) (Or.inl ⟨by rfl, ?_⟩) ?_ ?_
      rotate_left
      · intro w'
        go_simp
        with_reducible rfl
      rotate_left
      · simp only [Act.put, List.setIfInBounds_toArray, List.set_cons_zero, List.set_cons_succ, i64_w, i32_w]
        rfl
      refine pure_ (i := 5) (N := some 28) (v := ?_) (a' := ?_) #[true, true, true, true, false, true, false, false, false, false, false, false, false, false] rfl rfl (any_of HT_.out (by kernel_rfl)) (fun _ _ _ h => h) (Or.inl ⟨by rfl, ?_⟩) ?_ ?_
      rotate_left
      · intro w'
        go_simp
        with_reducible rfl
      rotate_left
      · simp only [Act.put, List.setIfInBounds_toArray, List.set_cons_zero, List.set_cons_succ, i64_w, i32_w]
        rfl
      refine pure_ (i := 8) (N := some 31) (v := ?_) (a' := ?_) #[true, true, true, true, false, true, false, false, true, false, false, false, false, false] rfl rfl (any_of HT_.out (by kernel_rfl)) (fun _ _ _ h => h) (Or.inl ⟨by rfl, ?_⟩) ?_ ?_
      rotate_left
      · intro w'
        go_simp
        with_reducible rfl
      rotate_left
      · simp only [Act.put, List.setIfInBounds_toArray, List.set_cons_zero, List.set_cons_succ, i64_w, i32_w]
        rfl
      refine take_ (i := 4) (N := some 27) (v := ?_) (a' := ?_) #[true, true, true, true, true, true, false, false, true, false, false, false, false, false] rfl rfl (take_ofW HT_.out HW_.out (by kernel_rfl)) (fun _ _ _ h => h) (Or.inl ⟨by rfl, ?_⟩) hHeld ?_ ?_
      rotate_left
      · rintro w' ⟨s0, s1, s2⟩
        go_simp
        with_reducible rfl
      rotate_left
      · simp only [Act.put, List.setIfInBounds_toArray, List.set_cons_zero, List.set_cons_succ, i64_w, i32_w]
        rfl
      refine take_ (i := 6) (N := some 29) (v := ?_) (a' := ?_) #[true, true, true, true, true, true, true, false, true, false, false, false, false, false] rfl rfl (take_ofW HT_.out HW_.out (by kernel_rfl)) (fun _ _ _ h => h) (Or.inl ⟨by rfl, ?_⟩) hHeld ?_ ?_
      rotate_left
      · rintro w' ⟨s0, s1, s2⟩
        go_simp
        with_reducible rfl
      rotate_left
      · simp only [Act.put, List.setIfInBounds_toArray, List.set_cons_zero, List.set_cons_succ, i64_w, i32_w]
        rfl
      refine pure_ (i := 7) (N := some 30) (v := ?_) (a' := ?_) #[true, true, true, true, true, true, true, true, true, false, false, false, false, false] rfl rfl (any_of HT_.out (by kernel_rfl)) (fun _ _ _ h => h) (Or.inl ⟨by rfl, ?_⟩) ?_ ?_
      rotate_left
      · intro w'
        go_simp
        with_reducible rfl
      rotate_left
      · simp only [Act.put, List.setIfInBounds_toArray, List.set_cons_zero, List.set_cons_succ, i64_w, i32_w]
        rfl
      refine take_ (i := 9) (N := some 32) (v := ?_) (a' := ?_) #[true, true, true, true, true, true, true, true, true, true, false, false, false, false] rfl rfl (take_ofW HT_.out HW_.out (by kernel_rfl)) (fun _ _ _ h => h) (Or.inl ⟨by rfl, ?_⟩) hHeld ?_ ?_
      rotate_left
      · rintro w' ⟨s0, s1, s2⟩
        go_simp
        with_reducible rfl
      rotate_left
      · simp only [Act.put, List.setIfInBounds_toArray, List.set_cons_zero, List.set_cons_succ, i64_w, i32_w]
        rfl
      refine pure_ (i := 10) (N := some 33) (v := ?_) (a' := ?_) #[true, true, true, true, true, true, true, true, true, true, true, false, false, false] rfl rfl (any_of HT_.out (by kernel_rfl)) (fun _ _ _ h => h) (Or.inl ⟨by rfl, ?_⟩) ?_ ?_
      rotate_left
      · intro w'
        go_simp
        with_reducible rfl
      rotate_left
      · simp only [Act.put, List.setIfInBounds_toArray, List.set_cons_zero, List.set_cons_succ, i64_w, i32_w]
        rfl
      refine last_ (i := 11) (N := some 34) #[true, true, true, true, true, true, true, true, true, true, true, true, false, false] rfl rfl (one_of HT_.out (by kernel_rfl)) (by decide) (fun K hK => ?_)
      refine value_ (w1 := ?_) (v := ?_) (by rfl) rfl ?_ ?_
      rotate_left 2
      · go_simp
        constructor
        · rfl
        · rfl
      refine hK.out _ _ ?_
      clear hK K
      refine norm_ (a' := ?_) ?_ ?_
      rotate_left
      · show Act.put _ (some 34) _ = _
        simp only [Act.put, List.setIfInBounds_toArray, List.set_cons_zero, List.set_cons_succ, i64_w, i32_w]
        rfl
      refine last_ (i := 12) (N := some 35) #[true, true, true, true, true, true, true, true, true, true, true, true, true, false] rfl rfl (one_of HT_.out (by kernel_rfl)) (by decide) (fun K hK => ?_)
      refine Kd.R_append_step (Kd.int .i64) w.heap.size (by rfl) (.tmp 23) (.tmp 34) 87 2 (.int .i64 0) 8 rfl Try.underlying87 infoI64 rfl (by decide) (by omega) (.slice (some ad2) (psums (row.take i.toNat)).length c2) (psums (row.take i.toNat)) (wrap64 ((wrap64 ((secs (row.take i.toNat)) + ((rd_T57 row i).f1))) - ((rd_T57 row i).f0))) [.int .i64 (wrap64 ((wrap64 ((secs (row.take i.toNat)) + ((rd_T57 row i).f1))) - ((rd_T57 row i).f0)))] (fun _ => True) (fun _ => False) rfl rfl ?aP (fun _ hk => hk.elim) ?aF ?aO (Below.refl _ _) ?aS ?aL ?_
      (case aP => exact rfl)
      (case aF => exact (fun _ _ => trivial))
      (case aO => exact HO2.out)
      (case aS => exact HB2.out.size)
      (case aL => have := HLT.out; have := HG.out; omega)
      intro v1_ w1_ ho_ hb_ hg_ hat_
      have HOa := Aside0.mk ho_
      have HOaB := Aside0.mk hb_
      have HOaG := Aside0.mk hg_
      clear ho_ hb_ hg_ hat_
      refine hK.out _ _ ?_
      clear hK K
      refine norm_ (a' := ?_) ?_ ?_
      rotate_left
      · show Act.put _ (some 35) _ = _
        simp only [Act.put, List.setIfInBounds_toArray, List.set_cons_zero, List.set_cons_succ, i64_w, i32_w]
        rfl
      refine pure_ (i := 13) (N := some 3) (v := ?_) (a' := ?_) #[true, true, true, true, true, true, true, true, true, true, true, true, true, true] rfl rfl (any_of HT_.out (by kernel_rfl)) (fun _ _ _ h => h) (Or.inl ⟨by rfl, ?_⟩) ?_ ?_
      rotate_left
      · intro w'
        go_simp
        with_reducible rfl
      rotate_left
      · simp only [Act.put, List.setIfInBounds_toArray, List.set_cons_zero, List.set_cons_succ, i64_w, i32_w]
        rfl
      refine done_ (done_of HT_.out (by kernel_rfl)) ?_
      go_wp2
      have hv : wrap64 (wrap64 (secs (row.take i.toNat) + (rd_T57 row i).f1) - (rd_T57 row i).f0) = secs (row.take i.toNat) + (rd_T57 row i).f1 - (rd_T57 row i).f0 := by
        have h1 := (HOK.out.take i.toNat).secs (by omega)
        have h2 := HM.out
        unfold wrap64
        omega
      rw [hv] at HOa
      have hn := HN.out
      rw [show ((i.toNat : Nat) : Int) = i by have := HG.out; omega] at hn
      go_roundg (gk - 1)
      case measure => have := HG.out; omega
      case rel => exact ⟨i + 1, (by have := HG.out; first | rfl | (unfold wrap64; congr 1; omega) | go_num), ⟨by have := HG.out; omega, by have := HG.out; omega⟩, ⟨by rw [show (i + 1).toNat = i.toNat + 1 by have := HG.out; omega, hn]; exact HOa.out⟩, ⟨HB2.out.trans HOaB.out⟩⟩
    · have hi' : i = row.length := by have := HG.out; omega
      have HO1 := HO.out
      rw [hi', Int.toNat_natCast, List.take_length] at HO1
      have HO2 := Aside0.mk HO1
      clear HO HO1 hi'
      go_wp2
      go_ret
      exact ⟨_, rfl, HO2.out, HB.out⟩
end Go.Proofs.Ytknlpeabmpllmaa.Own

set_option linter.unusedVariables false
set_option linter.unusedSimpArgs false
namespace Go.Proofs.Ytknlpeabmpllmaa.Own
open Go.RowKit Go.Proofs Go.Proofs.YtknlpeabmpllmaaW.PrintWords Go.Proofs.YtknlpeabmpllmaaW.PrintLast Go.Proofs.YtknlpeabmpllmaaW.PrintMore Go.Proofs.Ytknlpeabmpllmaa.Base

/-- A cell's block. -/
def cellObj (d s m k : Int) (bf v : Value) : Obj := .cells #[.int .u32 d, .int .i32 s, .int .u32 0, .int .u32 m, .int .i64 k, bf, v] 119 (0, 0)
/-- What is made of it. -/
def sumsFn (pb : Nat) : Value := .func (.func 55) #[.pointer (some ⟨pb, 0, none⟩)] #[]

/-- One block may have been written, others are new. -/
abbrev Upd (b : Nat) (w w' : World) : Prop := w.grownBy w' (some b)
theorem Upd.refl (b : Nat) (w : World) : Upd b w w := ⟨rfl, rfl, rfl, Nat.le_refl _, fun _ _ _ => rfl⟩
theorem Upd.trans {b : Nat} {u v w : World} (h : Upd b u v) (k : Upd b v w) : Upd b u w :=
  ⟨k.os.trans h.os, k.tape.trans h.tape, k.output.trans h.output, Nat.le_trans h.size k.size, fun i hi hne => (k.block i (Nat.lt_of_lt_of_le hi h.size) hne).trans (h.block i hi hne)⟩
theorem Upd.set {b : Nat} {u v : World} (h : Upd b u v) (i : Nat) (x : Value) : Upd b u (v.setCell ⟨b, i, none⟩ x) :=
  h.trans ⟨rfl, rfl, rfl, by simp, fun k _ hne => Below.heap_setCell _ _ _ _ (fun e => hne (by rw [e]))⟩
theorem Upd.drew {b : Nat} {u v : World} (h : Upd b u v) : Upd b u v.drew := ⟨h.os, h.tape, h.output, h.size, h.block⟩
theorem Upd.alloc {b : Nat} {u v : World} (h : Upd b u v) (o : Obj) : Upd b u (v.alloc o) := h.trans (World.grownBy_alloc v o _)
theorem Upd.of_below {b : Nat} {u v : World} (h : Below u.heap.size u v) : Upd b u v := ⟨h.os, h.tape, h.output, h.size, fun k hk _ => h.block k hk⟩
theorem Upd.then {b : Nat} {u v w : World} (h : Upd b u v) (k : Below v.heap.size v w) : Upd b u w := h.trans (Upd.of_below k)
theorem Upd.below {b n : Nat} {u v : World} (h : Upd b u v) (hn : n ≤ u.heap.size) (hb : n ≤ b) : Below n u v :=
  ⟨h.os, h.tape, h.output, h.size, fun k hk => h.block k (by omega) (fun e => by injection e with e; omega)⟩
theorem Upd.blk {b g : Nat} {u v : World} {o : Obj} (h : Upd b u v) (hg : u.heap[g]? = some o) (hne : g ≠ b) : v.heap[g]? = some o :=
  (h.block g (blk_lt hg) (fun e => hne (by injection e))).trans hg

set_option maxHeartbeats 1600000 in
set_option maxRecDepth 100000 in
theorem fill_any (cb pb : Nat) (A : Option Addr) (c : Nat) (row : List S57) (m k : Int) (lv : Value) (w : World)
    (hcb : w.heap[cb]? = some (cellObj 0 1 m k (sumsFn pb) lv)) (hne : pb ≠ cb)
    (hw : w.heap[pb]? = some (.cells #[.slice A row.length c, .pointer (some ⟨cb, 0, none⟩)] 85 (0, 0))) (hr : Kd.C k57 w A row.length row) (hc : row.length ≤ c) (hok : RowOk 604800 row) :
    Calls Try.prog 72 #[.pointer (some ⟨cb, 0, none⟩)] w fun e w' => e = .returned (.tuple #[]) ∧ ∃ v', w'.heap[cb]? = some (cellObj 0 1 1 k .nilFunc v') ∧ Kd.R (Kd.int .i64) 2 w' w.heap.size (fun k => k ≠ cb) v' (psums row) ∧ Upd cb w w' := by
  have HR := Aside0.mk hr
  have HOK := Aside0.mk hok
  have HW := Aside0.mk hw
  have HC := Aside0.mk hcb
  have c5 : w.cell? ⟨cb, 5, none⟩ = some (sumsFn pb) := (blk_cell hcb 5).trans rfl
  unfold sumsFn at c5
  have hneq : ∀ (fn : Fn) (first captured : Array Value) (w : World), Sem.run Try.prog (binOp BinOp.neq 88 (Value.func fn first captured) Value.nilFunc) w = .ok (.bool true) w := fun _ _ _ _ => by kernel_rfl
  clear hr hok hw hcb
  go_enter Try.func72, Try.ntmps72
  go_wp2_with (go_at_call 55; refine (sums_any pb A c _ row _ HW.out HR.out hc HOK.out).mono ?_; rintro e w1 ⟨v1, rfl, HV0, hb⟩; obtain ⟨A1, k1, rfl, hl1, hC1⟩ := Kd.R_reads HV0; have HV := Aside0.mk HV0; have HB := Aside0.mk hb; have BK := Aside0.mk (blk_below HC.out hb); clear HV0 hC1 hl1 hb; have d6 : w1.cell? ⟨cb, 6, none⟩ = some lv := (blk_cell BK.out 6).trans rfl; have d5 : w1.cell? ⟨cb, 5, none⟩ = some (.func (.func 55) #[.pointer (some ⟨pb, 0, none⟩)] #[]) := (blk_cell BK.out 5).trans rfl; have f6 : w1.frozen? ⟨cb, 6, none⟩ = false := blk_frozen BK.out 6; have f5 : w1.frozen? ⟨cb, 5, none⟩ = false := blk_frozen BK.out 5)
  have BK2 : Aside0 (((w1.setCell ⟨cb, 6, none⟩ (.slice A1 (psums row).length k1)).setCell ⟨cb, 5, none⟩ .nilFunc).heap[cb]? = some (cellObj 0 1 m k .nilFunc (.slice A1 (psums row).length k1))) := ⟨blk_put (cs := #[.int .u32 0, .int .i32 1, .int .u32 0, .int .u32 m, .int .i64 k, sumsFn pb, .slice A1 (psums row).length k1]) (blk_put (cs := #[.int .u32 0, .int .i32 1, .int .u32 0, .int .u32 m, .int .i64 k, sumsFn pb, lv]) BK.out 6 _ rfl) 5 _ rfl⟩
  have U2 : Aside0 (Upd cb w ((w1.setCell ⟨cb, 6, none⟩ (.slice A1 (psums row).length k1)).setCell ⟨cb, 5, none⟩ .nilFunc)) := ⟨((Upd.of_below HB.out).set 6 _).set 5 _⟩
  have HV1 : Aside0 (Kd.R (Kd.int .i64) 2 w1 w.heap.size (fun k => k ≠ cb) (.slice A1 (psums row).length k1) (psums row)) := ⟨Kd.R_mono (Kd.R_bound HV.out) (fun k hk => by have := blk_lt HC.out; have := hk.2.1; omega)⟩
  have HV2 : Aside0 (Kd.R (Kd.int .i64) 2 ((w1.setCell ⟨cb, 6, none⟩ (.slice A1 (psums row).length k1)).setCell ⟨cb, 5, none⟩ .nilFunc) w.heap.size (fun k => k ≠ cb) (.slice A1 (psums row).length k1) (psums row)) := ⟨Kd.R_far (p := ⟨cb, 5, none⟩) (Kd.R_far (p := ⟨cb, 6, none⟩) HV1.out (fun _ h => h) _) (fun _ h => h) _⟩
  generalize ((w1.setCell ⟨cb, 6, none⟩ (.slice A1 (psums row).length k1)).setCell ⟨cb, 5, none⟩ .nilFunc) = w2 at BK2 U2 HV2 ⊢
  refine (store_true cb 3 (.int .u32 m) _ ((blk_cell BK2.out 3).trans rfl) (blk_frozen BK2.out 3)).mono ?_
  rintro e w3 ⟨rfl, rfl⟩
  go_wp2
  go_end0
  exact ⟨rfl, _, blk_put (cs := #[.int .u32 0, .int .i32 1, .int .u32 0, .int .u32 m, .int .i64 k, .nilFunc, .slice A1 (psums row).length k1]) (blk_drew BK2.out) 3 _ rfl, Kd.R_far (p := ⟨cb, 3, none⟩) (Kd.R_drew HV2.out) (fun _ h => h) _, (U2.out.drew).set 3 _⟩

set_option maxHeartbeats 1600000 in
set_option maxRecDepth 100000 in
theorem slow_any (cb pb : Nat) (A : Option Addr) (c n : Nat) (row : List S57) (m k : Int) (lv : Value) (w : World)
    (hcb : w.heap[cb]? = some (cellObj 0 0 m k (sumsFn pb) lv)) (hne : pb ≠ cb)
    (hw : w.heap[pb]? = some (.cells #[.slice A row.length c, .pointer (some ⟨cb, 0, none⟩)] 85 (0, 0))) (hr : Kd.R k57 57 w n (fun k => k ≠ cb) (.slice A row.length c) row) (hc : row.length ≤ c) (hok : RowOk 604800 row) :
    Calls Try.prog 85 #[.pointer (some ⟨cb, 0, none⟩), .func (.func 72) #[.pointer (some ⟨cb, 0, none⟩)] #[]] w fun e w' => e = .returned (.tuple #[]) ∧ ∃ v', w'.heap[cb]? = some (cellObj 1 0 1 k .nilFunc v') ∧ Kd.R (Kd.int .i64) 2 w' w.heap.size (fun k => k ≠ cb) v' (psums row) ∧ Upd cb w w' := by
  have HC := Aside0.mk hcb
  have HOK := Aside0.mk hok
  have c1 : w.cell? ⟨cb, 1, none⟩ = some (.int .i32 0) := (blk_cell hcb 1).trans rfl
  have f1 : w.frozen? ⟨cb, 1, none⟩ = false := blk_frozen hcb 1
  have BK1 : Aside0 ((w.setCell ⟨cb, 1, none⟩ (.int .i32 1)).heap[cb]? = some (cellObj 0 1 m k (sumsFn pb) lv)) := ⟨blk_put (cs := #[.int .u32 0, .int .i32 0, .int .u32 0, .int .u32 m, .int .i64 k, sumsFn pb, lv]) hcb 1 _ rfl⟩
  have PW1 : Aside0 ((w.setCell ⟨cb, 1, none⟩ (.int .i32 1)).heap[pb]? = some (.cells #[.slice A row.length c, .pointer (some ⟨cb, 0, none⟩)] 85 (0, 0))) := ⟨(Below.heap_setCell _ _ _ _ hne).trans hw⟩
  have HR1 := Aside0.mk (Kd.R_reads' (Kd.R_far (p := ⟨cb, 1, none⟩) hr (fun _ h => h) (.int .i32 1))).2.2
  have U1 : Aside0 (Upd cb w (w.setCell ⟨cb, 1, none⟩ (.int .i32 1))) := ⟨(Upd.refl cb w).set 1 _⟩
  have hnot : ∀ (x : Bool) (w : World), (Op.unary .not (.bool x)).run Try.prog w = .ok (.bool (!x)) w := fun _ _ => rfl
  have HSZ := Aside0.mk (show (w.setCell ⟨cb, 1, none⟩ (.int .i32 1)).heap.size = w.heap.size by simp)
  clear hcb hw hr hok
  go_enter_defers Try.func85, Try.ntmps85
  go_wp2_with (go_at_call 90; refine (lock_free cb 1 _ c1 f1).mono ?_; rintro e w' ⟨rfl, rfl⟩)
  clear c1 f1
  generalize (w.setCell ⟨cb, 1, none⟩ (.int .i32 1)) = w1 at BK1 PW1 HR1 U1 HSZ ⊢
  go_wp2_with (first | (go_at_call 84; refine (load_bool cb 0 0 _ ((blk_cell BK1.out 0).trans rfl)).mono ?_; rintro e w' ⟨rfl, rfl⟩) | (go_at_call 72; refine (fill_any cb pb A c row m k lv _ BK1.out hne PW1.out HR1.out hc HOK.out).mono ?_; rintro e w2 ⟨rfl, v', B2, R2, U2⟩))
  refine leaves_cons (f := 86) (args := #[.pointer (some ⟨cb, 0, none⟩), .bool true]) (by simp) (by simp [go_sem]) ?_
  refine (store_deferred cb 0 (.int .u32 0) .returning _ ((blk_cell B2 0).trans rfl) (blk_frozen B2 0)).mono ?_
  rintro e u' w3 ⟨rfl, rfl, rfl⟩
  have B3 : (w2.drew.setCell ⟨cb, 0, none⟩ (.int .u32 1)).heap[cb]? = some (cellObj 1 1 1 k .nilFunc v') := blk_put (cs := #[.int .u32 0, .int .i32 1, .int .u32 0, .int .u32 1, .int .i64 k, .nilFunc, v']) (blk_drew B2) 0 _ rfl
  have R3 : Kd.R (Kd.int .i64) 2 (w2.drew.setCell ⟨cb, 0, none⟩ (.int .u32 1)) w1.heap.size (fun k => k ≠ cb) v' (psums row) := Kd.R_far (p := ⟨cb, 0, none⟩) (Kd.R_drew R2) (fun _ h => h) _
  have U3 : Upd cb w (w2.drew.setCell ⟨cb, 0, none⟩ (.int .u32 1)) := ((U1.out.trans U2).drew).set 0 _
  generalize (w2.drew.setCell ⟨cb, 0, none⟩ (.int .u32 1)) = w3 at B3 R3 U3 ⊢
  refine leaves_cons (f := 91) (args := #[.pointer (some ⟨cb, 1, none⟩)]) (by simp [settle]) (by simp [go_sem]) ?_
  refine (unlock_deferred cb 1 _ _ ((blk_cell B3 1).trans rfl) (blk_frozen B3 1)).mono ?_
  rintro e u' w4 ⟨rfl, rfl, rfl⟩
  have hfin : ∃ v', (w3.setCell ⟨cb, 1, none⟩ (.int .i32 0)).heap[cb]? = some (cellObj 1 0 1 k .nilFunc v') ∧ Kd.R (Kd.int .i64) 2 (w3.setCell ⟨cb, 1, none⟩ (.int .i32 0)) w.heap.size (fun k => k ≠ cb) v' (psums row) ∧ Upd cb w (w3.setCell ⟨cb, 1, none⟩ (.int .i32 0)) :=
    ⟨v', blk_put (cs := #[.int .u32 1, .int .i32 1, .int .u32 0, .int .u32 1, .int .i64 k, .nilFunc, v']) B3 1 _ rfl, by rw [← HSZ.out]; exact Kd.R_far (p := ⟨cb, 1, none⟩) R3 (fun _ h => h) _, U3.set 1 _⟩
  simpa [Leaves, settle, results, Try.results85] using hfin

/-- A plan's cell: not filled yet, or filled. -/
def CellAt (w : World) (n cb pb : Nat) (row : List S57) : Prop :=
  ∃ m k, (∃ lv, w.heap[cb]? = some (cellObj 0 0 m k (sumsFn pb) lv)) ∨ (∃ v, w.heap[cb]? = some (cellObj 1 0 m k .nilFunc v) ∧ Kd.R (Kd.int .i64) 2 w n (fun k => k ≠ cb) v (psums row))
/-- A plan, made from block n on. -/
structure PlanAt (w : World) (n pb cb : Nat) (row : List S57) : Prop where
  ok : RowOk 604800 row
  npb : n ≤ pb
  ncb : n ≤ cb
  ne : pb ≠ cb
  blk : ∃ A c, w.heap[pb]? = some (.cells #[.slice A row.length c, .pointer (some ⟨cb, 0, none⟩)] 85 (0, 0)) ∧ row.length ≤ c ∧ Kd.R k57 57 w n (fun k => k ≠ cb) (.slice A row.length c) row
  cell : CellAt w n cb pb row
theorem CellAt.keep {w w' : World} {n cb pb : Nat} {row : List S57} (h : CellAt w n cb pb row) (hm : ∀ k, k < w.heap.size → n ≤ k → w'.heap[k]? = w.heap[k]?) (hn : n ≤ cb) : CellAt w' n cb pb row := by
  obtain ⟨m, k, ⟨lv, hb⟩ | ⟨v, hb, hr⟩⟩ := h
  · exact ⟨m, k, .inl ⟨lv, (hm cb (blk_lt hb) hn).trans hb⟩⟩
  · exact ⟨m, k, .inr ⟨v, (hm cb (blk_lt hb) hn).trans hb, Kd.R_mono (Kd.R_step (Kd.R_bound hr) (fun k hk hlt => hm k hlt hk.2.1)) (fun _ hk => hk.1)⟩⟩
theorem PlanAt.keep {w w' : World} {n cb pb : Nat} {row : List S57} (h : PlanAt w n pb cb row) (hm : ∀ k, k < w.heap.size → n ≤ k → w'.heap[k]? = w.heap[k]?) : PlanAt w' n pb cb row := by
  obtain ⟨A, c, hb, hc, hr⟩ := h.blk
  exact ⟨h.ok, h.npb, h.ncb, h.ne, ⟨A, c, (hm pb (blk_lt hb) h.npb).trans hb, hc, Kd.R_mono (Kd.R_step (Kd.R_bound hr) (fun k hk hlt => hm k hlt hk.2.1)) (fun _ hk => hk.1)⟩, h.cell.keep hm h.ncb⟩
theorem PlanAt.below {w w' : World} {n cb pb : Nat} {row : List S57} (h : PlanAt w n pb cb row) (hb : Below w.heap.size w w') : PlanAt w' n pb cb row := h.keep (fun k hk _ => hb.block k hk)

set_option maxHeartbeats 1600000 in
set_option maxRecDepth 100000 in
theorem do_first (cb pb : Nat) (A : Option Addr) (c n : Nat) (row : List S57) (m k : Int) (lv : Value) (w : World)
    (hcb : w.heap[cb]? = some (cellObj 0 0 m k (sumsFn pb) lv)) (hne : pb ≠ cb)
    (hw : w.heap[pb]? = some (.cells #[.slice A row.length c, .pointer (some ⟨cb, 0, none⟩)] 85 (0, 0))) (hr : Kd.R k57 57 w n (fun k => k ≠ cb) (.slice A row.length c) row) (hc : row.length ≤ c) (hok : RowOk 604800 row) :
    Calls Try.prog 71 #[.pointer (some ⟨cb, 0, none⟩), .func (.func 72) #[.pointer (some ⟨cb, 0, none⟩)] #[]] w fun e w' => e = .returned (.tuple #[]) ∧ ∃ v', w'.heap[cb]? = some (cellObj 1 0 1 k .nilFunc v') ∧ Kd.R (Kd.int .i64) 2 w' w.heap.size (fun k => k ≠ cb) v' (psums row) ∧ Upd cb w w' := by
  have H := Aside0.mk (slow_any cb pb A c n row m k lv w hcb hne hw hr hc hok)
  have HC := Aside0.mk hcb
  have hnot : ∀ (x : Bool) (w : World), (Op.unary .not (.bool x)).run Try.prog w = .ok (.bool (!x)) w := fun _ _ => rfl
  clear hcb hw hr hok
  go_enter Try.func71, Try.ntmps71
  go_wp2_with (first | (go_at_call 84; refine (load_bool cb 0 0 _ ((blk_cell HC.out 0).trans rfl)).mono ?_; rintro e w' ⟨rfl, rfl⟩) | (go_at_call 85; refine H.out.mono ?_; rintro e w2 ⟨rfl, h⟩))
  go_end0
  exact ⟨rfl, h⟩

theorem do_done (cb : Nat) (m k : Int) (v fv : Value) (w : World) (hcb : w.heap[cb]? = some (cellObj 1 0 m k .nilFunc v)) :
    Calls Try.prog 71 #[.pointer (some ⟨cb, 0, none⟩), fv] w fun e w' => e = .returned (.tuple #[]) ∧ w = w' := by
  have HC := Aside0.mk hcb
  have hnot : ∀ (x : Bool) (w : World), (Op.unary .not (.bool x)).run Try.prog w = .ok (.bool (!x)) w := fun _ _ => rfl
  clear hcb
  go_enter Try.func71, Try.ntmps71
  go_wp2_with (go_at_call 84; refine (load_bool cb 0 1 _ ((blk_cell HC.out 0).trans rfl)).mono ?_; rintro e w' ⟨rfl, rfl⟩)
  go_end0
  exact ⟨rfl, rfl⟩

set_option maxHeartbeats 1600000 in
set_option maxRecDepth 100000 in
/-- '(*lazy.Cell).Get' of a plan's cell: the sums. -/
theorem get_any (cb pb n : Nat) (row : List S57) (w : World) (h : PlanAt w n pb cb row) (hn : n ≤ w.heap.size) :
    Calls Try.prog 57 #[.pointer (some ⟨cb, 0, none⟩)] w fun e w' => ∃ A c, e = .returned (.slice A (psums row).length c) ∧ PlanAt w' n pb cb row ∧ Kd.C (Kd.int .i64) w' A (psums row).length (psums row) ∧ (psums row).length ≤ c ∧ Upd cb w w' := by
  obtain ⟨A, c, hb, hc, hr⟩ := h.blk
  obtain ⟨m, k, hcell⟩ := h.cell
  have HP := Aside0.mk h
  have hmf : ∀ (fn : Fn) (first cap : Array Value) (w : World), (Instr.makeFunc fn first cap).run Try.prog w = .ok (.func fn first cap) w := fun _ _ _ _ => rfl
  rcases hcell with ⟨lv, hcb⟩ | ⟨v, hcb, hv⟩
  · have c4 : w.cell? ⟨cb, 4, none⟩ = some (.int .i64 k) := (blk_cell hcb 4).trans rfl
    have f4 : w.frozen? ⟨cb, 4, none⟩ = false := blk_frozen hcb 4
    have B1 : Aside0 ((w.setCell ⟨cb, 4, none⟩ (.int .i64 (wrap64 (k + 1)))).heap[cb]? = some (cellObj 0 0 m (wrap64 (k + 1)) (sumsFn pb) lv)) := ⟨blk_put (cs := #[.int .u32 0, .int .i32 0, .int .u32 0, .int .u32 m, .int .i64 k, sumsFn pb, lv]) hcb 4 _ rfl⟩
    have P1 : Aside0 ((w.setCell ⟨cb, 4, none⟩ (.int .i64 (wrap64 (k + 1)))).heap[pb]? = some (.cells #[.slice A row.length c, .pointer (some ⟨cb, 0, none⟩)] 85 (0, 0))) := ⟨(Below.heap_setCell _ _ _ _ h.ne).trans hb⟩
    have R1 : Aside0 (Kd.R k57 57 (w.setCell ⟨cb, 4, none⟩ (.int .i64 (wrap64 (k + 1)))) n (fun k => k ≠ cb) (.slice A row.length c) row) := ⟨Kd.R_far (p := ⟨cb, 4, none⟩) hr (fun _ h => h) _⟩
    have U1 : Aside0 (Upd cb w (w.setCell ⟨cb, 4, none⟩ (.int .i64 (wrap64 (k + 1))))) := ⟨(Upd.refl cb w).set 4 _⟩
    clear hcb hb hr h
    go_enter Try.func57, Try.ntmps57
    go_wp2_with (go_at_call 70; refine (add_i64 cb 4 k 1 _ c4 f4).mono ?_; rintro e w' ⟨rfl, rfl⟩)
    generalize (w.setCell ⟨cb, 4, none⟩ (.int .i64 (wrap64 (k + 1)))) = w1 at B1 P1 R1 U1 ⊢
    go_wp2_with (go_at_call 71; refine (do_first cb pb A c n row m _ lv _ B1.out HP.out.ne P1.out R1.out hc HP.out.ok).mono ?_; rintro e w2 ⟨rfl, v', B2', R2', U2'⟩; obtain ⟨A2, k2, rfl, hl2, hC2⟩ := Kd.R_reads R2'; have c6 : w2.cell? ⟨cb, 6, none⟩ = some (.slice A2 (psums row).length k2) := (blk_cell B2' 6).trans rfl; have B2 := Aside0.mk B2'; have R2 := Aside0.mk R2'; have U2 := Aside0.mk U2'; have C2 := Aside0.mk hC2; clear B2' R2' U2' hC2)
    go_ret
    have hsz : n ≤ w1.heap.size := Nat.le_trans hn U1.out.size
    refine ⟨A2, k2, rfl, ⟨HP.out.ok, HP.out.npb, HP.out.ncb, HP.out.ne, ⟨A, c, U2.out.blk P1.out HP.out.ne, hc, Kd.R_grown R1.out U2.out (fun k hk e => hk (by injection e))⟩, ⟨_, _, .inr ⟨_, B2.out, Kd.R_lower R2.out hsz⟩⟩⟩, C2.out, hl2, U1.out.trans U2.out⟩
  · obtain ⟨A2, k2, rfl, hl2, hC2⟩ := Kd.R_reads hv
    have c4 : w.cell? ⟨cb, 4, none⟩ = some (.int .i64 k) := (blk_cell hcb 4).trans rfl
    have f4 : w.frozen? ⟨cb, 4, none⟩ = false := blk_frozen hcb 4
    have B1 : Aside0 ((w.setCell ⟨cb, 4, none⟩ (.int .i64 (wrap64 (k + 1)))).heap[cb]? = some (cellObj 1 0 m (wrap64 (k + 1)) .nilFunc (.slice A2 (psums row).length k2))) := ⟨blk_put (cs := #[.int .u32 1, .int .i32 0, .int .u32 0, .int .u32 m, .int .i64 k, .nilFunc, .slice A2 (psums row).length k2]) hcb 4 _ rfl⟩
    have P1 : Aside0 ((w.setCell ⟨cb, 4, none⟩ (.int .i64 (wrap64 (k + 1)))).heap[pb]? = some (.cells #[.slice A row.length c, .pointer (some ⟨cb, 0, none⟩)] 85 (0, 0))) := ⟨(Below.heap_setCell _ _ _ _ h.ne).trans hb⟩
    have R1 : Aside0 (Kd.R k57 57 (w.setCell ⟨cb, 4, none⟩ (.int .i64 (wrap64 (k + 1)))) n (fun k => k ≠ cb) (.slice A row.length c) row) := ⟨Kd.R_far (p := ⟨cb, 4, none⟩) hr (fun _ h => h) _⟩
    have V1 : Aside0 (Kd.R (Kd.int .i64) 2 (w.setCell ⟨cb, 4, none⟩ (.int .i64 (wrap64 (k + 1)))) n (fun k => k ≠ cb) (.slice A2 (psums row).length k2) (psums row)) := ⟨Kd.R_far (p := ⟨cb, 4, none⟩) hv (fun _ h => h) _⟩
    have U1 : Aside0 (Upd cb w (w.setCell ⟨cb, 4, none⟩ (.int .i64 (wrap64 (k + 1))))) := ⟨(Upd.refl cb w).set 4 _⟩
    clear hcb hb hr h hv hC2
    go_enter Try.func57, Try.ntmps57
    go_wp2_with (go_at_call 70; refine (add_i64 cb 4 k 1 _ c4 f4).mono ?_; rintro e w' ⟨rfl, rfl⟩)
    generalize (w.setCell ⟨cb, 4, none⟩ (.int .i64 (wrap64 (k + 1)))) = w1 at B1 P1 R1 V1 U1 ⊢
    have c6 : w1.cell? ⟨cb, 6, none⟩ = some (.slice A2 (psums row).length k2) := (blk_cell B1.out 6).trans rfl
    go_wp2_with (go_at_call 71; refine (do_done cb m _ _ _ _ B1.out).mono ?_; rintro e w2 ⟨rfl, rfl⟩)
    go_ret
    exact ⟨A2, k2, rfl, ⟨HP.out.ok, HP.out.npb, HP.out.ncb, HP.out.ne, ⟨A, c, P1.out, hc, R1.out⟩, ⟨_, _, .inr ⟨_, B1.out, V1.out⟩⟩⟩, (Kd.R_reads' V1.out).2.2, hl2, U1.out⟩
end Go.Proofs.Ytknlpeabmpllmaa.Own

set_option linter.unusedVariables false
set_option linter.unusedSimpArgs false
namespace Go.Proofs.Ytknlpeabmpllmaa.Own
open Go.RowKit Go.Proofs Go.Proofs.YtknlpeabmpllmaaW.PrintWords Go.Proofs.YtknlpeabmpllmaaW.PrintLast Go.Proofs.YtknlpeabmpllmaaW.PrintMore Go.Proofs.Ytknlpeabmpllmaa.Base

set_option maxRecDepth 100000 in
theorem clone_any (A : Option Addr) (c : Nat) (l : List S57) (w : World) (hr : Kd.C k57 w A l.length l) (hc : l.length ≤ c) (hl : l.length ≤ 32) :
    Calls Try.prog 53 #[.slice A l.length c] w fun e w' => ∃ A' c', e = .returned (.slice A' l.length c') ∧ l.length ≤ c' ∧ Kd.R k57 57 w' w.heap.size (fun _ => True) (.slice A' l.length c') l ∧ Below w.heap.size w w' := by
  have HR := Aside0.mk hr
  clear hr
  rcases A with _ | ad
  · have heq : ∀ W : World, (binOp .eql 22 (.slice none 0 c) (.slice none 0 0)).run Try.prog W = .ok (.bool true) W := fun W => Lib.run_eql_slice_nil W 22 57 none _ _ _ _ Try.underlying22
    have h0 : l = [] := by
      rcases l with _ | ⟨s, r⟩
      · rfl
      · obtain ⟨_, h, _⟩ := HR.out.2.2 (by simp)
        cases h
    subst h0
    simp only [List.length_nil]
    clear HR hc hl
    go_enter Try.func53, Try.ntmps53
    go_wp2
    go_ret
    exact ⟨none, 0, rfl, by simp, Kd.R_nil _ _ _ _ _, Below.refl _ _⟩
  · have heq : ∀ W : World, (binOp .eql 22 (.slice (some ad) l.length c) (.slice none 0 0)).run Try.prog W = .ok (.bool false) W := fun W => Lib.run_eql_slice_nil W 22 57 (some ad) _ _ _ _ Try.underlying22
    go_enter Try.func53, Try.ntmps53
    have HO : Aside0 (Kd.R k57 57 (w.alloc (.cells #[] 57)) w.heap.size (fun _ => True) (.slice (some ⟨w.heap.size, 0, none⟩) 0 0) ([] : List S57)) :=
      ⟨⟨fun _ _ => trivial, [], World.ownsRow_made w #[] 0 (Nat.le_refl _) (by unfold maxLen; omega) (by simp), by simp [Reps]⟩⟩
    have HR1 := Aside0.mk (Kd.C_below HR.out (below_alloc (Below.refl _ _) (.cells #[] 57)))
    have HB := Aside0.mk (below_alloc (Below.refl w.heap.size w) (.cells #[] 57))
    go_wp2_with (at_builtin; refine Kd.R_append_rows k57 (Rr := k57.K (w.alloc (.cells #[] 57))) w.heap.size rfl (.tmp 5) (.tmp 6) 22 57 (.agg #[.int .i64 0, .int .i64 0]) 16 rfl Try.underlying22 info57 rfl (by decide) (by omega) (.slice (some ⟨w.heap.size, 0, none⟩) 0 0) [] l (some ad) l.length c (fun _ => True) (fun _ => False) rfl rfl HO.out HR1.out ?hKM ?hokp ?hfr HB.out HB.out.size ?hl ?_; (case hKM => intro x cs h; obtain rfl := k57_open h; exact k57_mkM _ _ _ _); (case hokp => exact fun _ h => h.elim); (case hfr => exact fun _ _ => trivial); (case hl => simp; omega); intro v1 w1 ho hb _ _; obtain ⟨A1, c1, rfl, hl1, _⟩ := Kd.R_reads ho; have HO1 := Aside0.mk ho; have HB1 := Aside0.mk hb; clear ho hb)
    go_ret
    exact ⟨A1, c1, rfl, hl1, HO1.out, HB1.out⟩

theorem lazy_new (fn : Fn) (first cap : Array Value) (w : World) :
    Calls Try.prog 54 #[.func fn first cap] w fun e w' => e = .returned (.pointer (some ⟨w.heap.size, 0, none⟩)) ∧ w' = w.alloc (cellObj 0 0 0 0 (.func fn first cap) (.slice none 0 0)) := by
  go_enter Try.func54, Try.ntmps54
  go_wp2
  go_ret
  exact ⟨rfl, rfl⟩
end Go.Proofs.Ytknlpeabmpllmaa.Own

set_option linter.unusedVariables false
set_option linter.unusedSimpArgs false
namespace Go.Proofs.Ytknlpeabmpllmaa.Own
open Go.RowKit Go.Proofs Go.Proofs.YtknlpeabmpllmaaW.PrintWords Go.Proofs.YtknlpeabmpllmaaW.PrintLast Go.Proofs.YtknlpeabmpllmaaW.PrintMore Go.Proofs.Ytknlpeabmpllmaa.Base

theorem wrap_id {x : Int} (h0 : -9223372036854775808 ≤ x) (h1 : x ≤ 9223372036854775807) : wrap64 x = x := by unfold wrap64; omega
theorem drop_at {l : List S57} {i : Nat} (h : i < l.length) : l.drop i = rd_T57 l i :: l.drop (i + 1) := by
  rw [rd_at l i h, List.drop_eq_getElem_cons h]

def okRow (lo : Int) : List S57 → Bool
  | [] => true
  | s :: r => decide (0 ≤ s.f0 ∧ s.f0 < s.f1 ∧ s.f1 ≤ 1125899906842624 ∧ lo ≤ s.f0) && okRow s.f1 r
def rowErr (l : List S57) : Int := if 32 < l.length then 21 else if okRow 0 l then 0 else 2

theorem right_eq (a b : Int) : span_Right.f a b = some (decide (0 ≤ a ∧ a < b ∧ b ≤ 1125899906842624)) := by
  unfold span_Right.f
  by_cases h1 : 0 ≤ a
  · rw [if_pos h1]
    by_cases h2 : a < b
    · rw [if_pos h2]; simp [h1, h2]
    · rw [if_neg h2]; simp [h2]
  · rw [if_neg h1]; simp [h1]
theorem row_l0 (l : List S57) (hl : l.length ≤ 1000000) : ∀ (d k i : Nat) (lo : Int), i + d = l.length → d < k → span_Row.l0 k lo l (l.length : Int) (i : Int) = some (if okRow lo (l.drop i) then 0 else 2) := by
  intro d
  induction d with
  | zero =>
    intro k i lo hi hk
    obtain ⟨k, rfl⟩ : ∃ m, k = m + 1 := ⟨k - 1, by omega⟩
    rw [List.drop_eq_nil_of_le (by omega)]
    simp only [span_Row.l0]
    rw [if_neg (by omega)]
    rfl
  | succ d ih =>
    intro k i lo hi hk
    obtain ⟨k, rfl⟩ : ∃ m, k = m + 1 := ⟨k - 1, by omega⟩
    have hlt : i < l.length := by omega
    rw [drop_at hlt]
    simp only [span_Row.l0]
    rw [if_pos (by omega), if_pos (by omega), if_pos (by omega), right_eq, wrap_id (by omega) (by omega)]
    simp only [Option.bind_some, decide_eq_true_eq]
    have ih' := ih k (i + 1) (rd_T57 l i).f1 (by omega) (by omega)
    rw [show ((i + 1 : Nat) : Int) = (i : Int) + 1 by omega] at ih'
    by_cases h : 0 ≤ (rd_T57 l i).f0 ∧ (rd_T57 l i).f0 < (rd_T57 l i).f1 ∧ (rd_T57 l i).f1 ≤ 1125899906842624
    · rw [if_pos h]
      by_cases h2 : (rd_T57 l i).f0 < lo
      · rw [if_pos h2]
        have e : okRow lo (rd_T57 l i :: l.drop (i + 1)) = false := by unfold okRow; rw [decide_eq_false (by omega)]; rfl
        rw [e]; rfl
      · rw [if_neg h2, ih']
        have e : okRow lo (rd_T57 l i :: l.drop (i + 1)) = okRow (rd_T57 l i).f1 (l.drop (i + 1)) := by conv => lhs; unfold okRow
                                                                                                        rw [decide_eq_true (by omega)]; rfl
        rw [e]
    · rw [if_neg h]
      have e : okRow lo (rd_T57 l i :: l.drop (i + 1)) = false := by unfold okRow; rw [decide_eq_false (by omega)]; rfl
      rw [e]; rfl
theorem row_eq (l : List S57) (k : Nat) (hk : 33 < k) : span_Row.f k l = some (rowErr l) := by
  unfold span_Row.f rowErr
  by_cases h : 32 < l.length
  · rw [if_pos (by omega), if_pos h]
  · rw [if_neg (by omega), if_neg h]
    exact row_l0 l (by omega) l.length k 0 0 (by omega) (by omega)
theorem okRow_from {lo : Int} {l : List S57} (h : okRow lo l = true) : RowFrom lo l ∧ ∀ s, s ∈ l → s.f1 ≤ 1125899906842624 := by
  induction l generalizing lo with
  | nil => exact ⟨trivial, fun s hs => by cases hs⟩
  | cons s r ih =>
    simp only [okRow, Bool.and_eq_true, decide_eq_true_eq] at h
    obtain ⟨a, b⟩ := ih h.2
    refine ⟨⟨h.1.2.2.2, h.1.2.1, a⟩, fun t ht => ?_⟩
    rcases List.mem_cons.1 ht with rfl | ht
    · exact h.1.2.2.1
    · exact b t ht
theorem rowErr_ok {l : List S57} (h : rowErr l = 0) : RowOk 1125899906842624 l := by
  unfold rowErr at h
  split at h
  · omega
  · split at h
    · rename_i h1 h2
      obtain ⟨a, b⟩ := okRow_from h2
      exact ⟨by omega, a, b⟩
    · omega
theorem rowErr_cases (l : List S57) : rowErr l = 21 ∧ 32 < l.length ∨ rowErr l = 0 ∧ l.length ≤ 32 ∨ rowErr l = 2 ∧ l.length ≤ 32 := by
  unfold rowErr
  split
  · exact .inl ⟨rfl, ‹_›⟩
  · split
    · exact .inr (.inl ⟨rfl, by omega⟩)
    · exact .inr (.inr ⟨rfl, by omega⟩)
theorem row_any (A : Option Addr) (c : Nat) (l : List S57) (w : World) (hr : Kd.C k57 w A l.length l) (hc : l.length ≤ c) :
    Calls Try.prog 52 #[.slice A l.length c] w fun e w' => e = .returned (.int .i64 (rowErr l)) ∧ Below w.heap.size w w' :=
  span_Row.calls 40 A c l _ w hr hc (row_eq l 40 (by omega))

/-- The last span's end. -/
def lastEnd (l : List S57) : Int := match l.getLast? with | some s => s.f1 | none => 0
def weekErr (l : List S57) : Int := if rowErr l = 0 then (if 604800 < lastEnd l then 2 else 0) else rowErr l
theorem lastEnd_rd {l : List S57} (h : 0 < l.length) : lastEnd l = (rd_T57 l ((l.length : Int) - 1)).f1 := by
  unfold lastEnd rd_T57
  rw [List.getLast?_eq_getElem?, List.getD_eq_getElem?_getD, show ((l.length : Int) - 1).toNat = l.length - 1 by omega, List.getElem?_eq_getElem (by omega)]
  rfl
theorem RowFrom.le_last {lo : Int} {l : List S57} (h : RowFrom lo l) : ∀ s, s ∈ l → s.f1 ≤ lastEnd l := by
  induction l generalizing lo with
  | nil => intro s hs; cases hs
  | cons t r ih =>
    intro s hs
    cases r with
    | nil =>
      rcases List.mem_cons.1 hs with rfl | hs
      · exact Int.le_refl _
      · cases hs
    | cons u v =>
      have hl : lastEnd (t :: u :: v) = lastEnd (u :: v) := by simp [lastEnd, List.getLast?_cons_cons]
      rw [hl]
      rcases List.mem_cons.1 hs with rfl | hs
      · have h1 := ih h.2.2 u List.mem_cons_self
        have h2 := h.2.2.1
        have h3 := h.2.2.2.1
        omega
      · exact ih h.2.2 s hs
theorem weekErr_ok {l : List S57} (h : weekErr l = 0) : RowOk 604800 l := by
  unfold weekErr at h
  split at h
  · rename_i h1
    split at h
    · omega
    · have h2 := rowErr_ok h1
      exact ⟨h2.len, h2.row, fun s hs => by have := h2.row.le_last s hs; omega⟩
  · omega
end Go.Proofs.Ytknlpeabmpllmaa.Own

set_option linter.unusedVariables false
set_option linter.unusedSimpArgs false
namespace Go.Proofs.Ytknlpeabmpllmaa.Own
open Go.RowKit Go.Proofs Go.Proofs.YtknlpeabmpllmaaW.PrintWords Go.Proofs.YtknlpeabmpllmaaW.PrintLast Go.Proofs.YtknlpeabmpllmaaW.PrintMore Go.Proofs.Ytknlpeabmpllmaa.Base

set_option maxRecDepth 100000 in
theorem weeknew_no (A : Option Addr) (c : Nat) (l : List S57) (w : World) (hr : Kd.C k57 w A l.length l) (hc : l.length ≤ c) (he : weekErr l ≠ 0) :
    Calls Try.prog 28 #[.slice A l.length c] w fun e w' => e = .returned (.tuple #[.pointer none, .int .i64 (weekErr l)]) ∧ Below w.heap.size w w' := by
  have HR := Aside0.mk hr
  have HB := Aside0.mk (Below.refl w.heap.size w)
  clear hr
  by_cases h0 : rowErr l = 0
  · have hz : weekErr l = 2 ∧ 604800 < lastEnd l := by
      unfold weekErr at he ⊢
      rw [if_pos h0] at he ⊢
      split at he
      · exact ⟨by rw [if_pos ‹_›], ‹_›⟩
      · exact absurd rfl he
    obtain ⟨hz, hlast⟩ := hz
    have hpos : 0 < l.length := by
      rcases l with _ | ⟨s, r⟩
      · simp [lastEnd] at hlast
      · simp
    have hl32 := (rowErr_ok h0).len
    rw [lastEnd_rd hpos] at hlast
    obtain ⟨ad, e, hx0, hx1⟩ := at_T57 HR.out ((l.length : Int) - 1) (by omega) (by omega)
    cases e
    rw [show ((l.length : Int) - 1).toNat = l.length - 1 by omega] at hx0 hx1
    have H0 := Aside0.mk h0
    have HL := Aside0.mk hlast
    have p0 : (0 : Int) ≤ (l.length : Int) - 1 := by omega
    have p1 : (l.length : Int) - 1 < l.length := by omega
    have hgt : (0 : Int) < (l.length : Int) := by omega
    have hd : decide ((0 : Int) < (l.length : Int)) = true := decide_eq_true hgt
    rw [hz]
    clear h0 he hz
    go_enter Try.func28, Try.ntmps28
    go_wp2_with (go_at_call 52; refine (row_any _ c l _ HR.out hc).mono ?_; rintro e w1 ⟨rfl, hb⟩; rw [H0.out]; have n0 := Aside0.mk (HB.out.trans hb); clear HB; have HB := n0; clear n0; replace hx0 := (hb.cell (World.block_lt_of_cell? w _ hx0)).trans hx0; replace hx1 := (hb.cell (World.block_lt_of_cell? w _ hx1)).trans hx1; clear hb)
    go_ret2
    exact ⟨rfl, HB.out⟩
  · have hz : weekErr l = rowErr l := by unfold weekErr; rw [if_neg h0]
    rw [hz]
    have hne : (rowErr l != 0) = true := bne_iff_ne.mpr h0
    have hne' : (rowErr l == 0) = false := beq_eq_false_iff_ne.mpr h0
    clear he hz h0
    go_enter Try.func28, Try.ntmps28
    go_wp2_with (go_at_call 52; refine (row_any _ c l _ HR.out hc).mono ?_; rintro e w1 ⟨rfl, hb⟩; have n0 := Aside0.mk (HB.out.trans hb); clear HB; have HB := n0; clear n0; clear hb)
    go_ret2
    exact ⟨rfl, HB.out⟩

set_option maxHeartbeats 1600000 in
set_option maxRecDepth 100000 in
theorem weeknew_yes (A : Option Addr) (c : Nat) (l : List S57) (w : World) (hr : Kd.C k57 w A l.length l) (hc : l.length ≤ c) (he : weekErr l = 0) :
    Calls Try.prog 28 #[.slice A l.length c] w fun e w' => ∃ pb cb, e = .returned (.tuple #[.pointer (some ⟨pb, 0, none⟩), .int .i64 0]) ∧ PlanAt w' w.heap.size pb cb l ∧ Below w.heap.size w w' := by
  have HR := Aside0.mk hr
  have HB := Aside0.mk (Below.refl w.heap.size w)
  have HOK := Aside0.mk (weekErr_ok he)
  have H0 : Aside0 (rowErr l = 0) := ⟨by unfold weekErr at he; split at he <;> omega⟩
  have hmf : ∀ (fn : Fn) (first cap : Array Value) (w : World), (Instr.makeFunc fn first cap).run Try.prog w = .ok (.func fn first cap) w := fun _ _ _ _ => rfl
  have hl32 := HOK.out.len
  clear hr he
  by_cases hpos : 0 < l.length
  · have hlast : ¬ 604800 < (rd_T57 l ((l.length : Int) - 1)).f1 := by
      have h1 := HOK.out.top (rd_T57 l ((l.length : Int) - 1)) (by rw [show (l.length : Int) - 1 = ((l.length - 1 : Nat) : Int) by omega, rd_at l (l.length - 1) (by omega)]; exact List.getElem_mem _)
      omega
    obtain ⟨ad, e, hx0, hx1⟩ := at_T57 HR.out ((l.length : Int) - 1) (by omega) (by omega)
    cases e
    rw [show ((l.length : Int) - 1).toNat = l.length - 1 by omega] at hx0 hx1
    have p0 : (0 : Int) ≤ (l.length : Int) - 1 := by omega
    have p1 : (l.length : Int) - 1 < l.length := by omega
    have hgt : (0 : Int) < (l.length : Int) := by omega
    have hd : decide ((0 : Int) < (l.length : Int)) = true := decide_eq_true hgt
    go_enter Try.func28, Try.ntmps28
    go_wp2_with (first | (go_at_call 52; refine (row_any _ c l _ HR.out hc).mono ?_; rintro e w1 ⟨rfl, hb⟩; rw [H0.out]; have n0 := Aside0.mk (HB.out.trans hb); clear HB; have HB := n0; clear n0; replace hx0 := (hb.cell (World.block_lt_of_cell? w _ hx0)).trans hx0; replace hx1 := (hb.cell (World.block_lt_of_cell? w _ hx1)).trans hx1; clear hb) | (go_at_call 53; refine (clone_any _ c l _ (Kd.C_below HR.out HB.out) hc hl32).mono ?_; rintro e w2 ⟨A2, c2, rfl, hc2, hR2, hb⟩; have HR2 := Aside0.mk (Kd.R_lower hR2 HB.out.size); have n0 := Aside0.mk (below_step HB.out hb); clear HB; have HB := n0; clear n0 hR2 hb))
    clear hx0 hx1 hlast p0 p1 hgt hd
    have BP := Aside0.mk (blk_new w2 (.cells #[.slice A2 l.length c2, .pointer none] 85))
    have HB3 := Aside0.mk (below_alloc HB.out (.cells #[.slice A2 l.length c2, .pointer none] 85))
    have HR3 := Aside0.mk (Kd.R_alloc HR2.out (.cells #[.slice A2 l.length c2, .pointer none] 85))
    have HS3 : Aside0 (w.heap.size ≤ w2.heap.size) := ⟨HB.out.size⟩
    have HS4 : Aside0 ((w2.alloc (.cells #[.slice A2 l.length c2, .pointer none] 85)).heap.size = w2.heap.size + 1) := ⟨by simp⟩
    generalize (w2.alloc (.cells #[.slice A2 l.length c2, .pointer none] 85)) = w3 at BP HB3 HR3 HS4 ⊢
    generalize w2.heap.size = pb at BP HS3 HS4 ⊢
    refine (lazy_new _ _ _ w3).mono ?_
    rintro e w4 ⟨rfl, rfl⟩
    have BP4 := Aside0.mk (blk_alloc BP.out (cellObj 0 0 0 0 (sumsFn pb) (.slice none 0 0)))
    have BC4 := Aside0.mk (blk_new w3 (cellObj 0 0 0 0 (sumsFn pb) (.slice none 0 0)))
    have HB4 := Aside0.mk (below_alloc HB3.out (cellObj 0 0 0 0 (sumsFn pb) (.slice none 0 0)))
    have HR4 := Aside0.mk (Kd.R_alloc HR3.out (cellObj 0 0 0 0 (sumsFn pb) (.slice none 0 0)))
    unfold sumsFn at BP4 BC4 HB4 HR4
    generalize (w3.alloc (cellObj 0 0 0 0 (.func (.func 55) #[.pointer (some ⟨pb, 0, none⟩)] #[]) (.slice none 0 0))) = w4 at BP4 BC4 HB4 HR4 ⊢
    generalize w3.heap.size = cb at BC4 HS4 ⊢
    have c1 : w4.cell? ⟨pb, 1, none⟩ = some (.pointer none) := (blk_cell BP4.out 1).trans rfl
    have f1 : w4.frozen? ⟨pb, 1, none⟩ = false := blk_frozen BP4.out 1
    go_wp2
    go_ret2
    have hne : pb ≠ cb := by have := HS4.out; omega
    refine ⟨pb, cb, rfl, ⟨HOK.out, HS3.out, by have := HS3.out; have := HS4.out; omega, hne, ⟨A2, c2, blk_put (cs := #[.slice A2 l.length c2, .pointer none]) BP4.out 1 _ rfl, hc2, ?_⟩, ⟨0, 0, .inl ⟨_, blk_far (p := ⟨pb, 1, none⟩) BC4.out (fun e => hne e.symm) _⟩⟩⟩, below_set HB4.out HS3.out⟩
    exact Kd.R_mono (Kd.R_far (p := ⟨pb, 1, none⟩) (Kd.R_mono (Kd.R_types (Kd.R_types HR4.out BC4.out (by decide)) BP4.out (by decide)) (ok' := fun k => k ≠ cb ∧ k ≠ pb) (fun _ h => ⟨h.1.2, h.2⟩)) (fun _ h => h.2) _) (fun _ h => h.1)
  · have h0 : l = [] := List.eq_nil_of_length_eq_zero (by omega)
    have hgt : ¬ (0 : Int) < (l.length : Int) := by omega
    have hd : decide ((0 : Int) < (l.length : Int)) = false := decide_eq_false hgt
    have hd2 : decide (0 < l.length) = false := decide_eq_false (by omega)
    clear h0
    go_enter Try.func28, Try.ntmps28
    go_wp2_with (first | (go_at_call 52; refine (row_any _ c l _ HR.out hc).mono ?_; rintro e w1 ⟨rfl, hb⟩; rw [H0.out]; have n0 := Aside0.mk (HB.out.trans hb); clear HB; have HB := n0; clear n0; clear hb) | (go_at_call 53; refine (clone_any _ c l _ (Kd.C_below HR.out HB.out) hc hl32).mono ?_; rintro e w2 ⟨A2, c2, rfl, hc2, hR2, hb⟩; have HR2 := Aside0.mk (Kd.R_lower hR2 HB.out.size); have n0 := Aside0.mk (below_step HB.out hb); clear HB; have HB := n0; clear n0 hR2 hb))
    clear hgt hd hd2
    have BP := Aside0.mk (blk_new w2 (.cells #[.slice A2 l.length c2, .pointer none] 85))
    have HB3 := Aside0.mk (below_alloc HB.out (.cells #[.slice A2 l.length c2, .pointer none] 85))
    have HR3 := Aside0.mk (Kd.R_alloc HR2.out (.cells #[.slice A2 l.length c2, .pointer none] 85))
    have HS3 : Aside0 (w.heap.size ≤ w2.heap.size) := ⟨HB.out.size⟩
    have HS4 : Aside0 ((w2.alloc (.cells #[.slice A2 l.length c2, .pointer none] 85)).heap.size = w2.heap.size + 1) := ⟨by simp⟩
    generalize (w2.alloc (.cells #[.slice A2 l.length c2, .pointer none] 85)) = w3 at BP HB3 HR3 HS4 ⊢
    generalize w2.heap.size = pb at BP HS3 HS4 ⊢
    refine (lazy_new _ _ _ w3).mono ?_
    rintro e w4 ⟨rfl, rfl⟩
    have BP4 := Aside0.mk (blk_alloc BP.out (cellObj 0 0 0 0 (sumsFn pb) (.slice none 0 0)))
    have BC4 := Aside0.mk (blk_new w3 (cellObj 0 0 0 0 (sumsFn pb) (.slice none 0 0)))
    have HB4 := Aside0.mk (below_alloc HB3.out (cellObj 0 0 0 0 (sumsFn pb) (.slice none 0 0)))
    have HR4 := Aside0.mk (Kd.R_alloc HR3.out (cellObj 0 0 0 0 (sumsFn pb) (.slice none 0 0)))
    unfold sumsFn at BP4 BC4 HB4 HR4
    generalize (w3.alloc (cellObj 0 0 0 0 (.func (.func 55) #[.pointer (some ⟨pb, 0, none⟩)] #[]) (.slice none 0 0))) = w4 at BP4 BC4 HB4 HR4 ⊢
    generalize w3.heap.size = cb at BC4 HS4 ⊢
    have c1 : w4.cell? ⟨pb, 1, none⟩ = some (.pointer none) := (blk_cell BP4.out 1).trans rfl
    have f1 : w4.frozen? ⟨pb, 1, none⟩ = false := blk_frozen BP4.out 1
    go_wp2
    go_ret2
    have hne : pb ≠ cb := by have := HS4.out; omega
    refine ⟨pb, cb, rfl, ⟨HOK.out, HS3.out, by have := HS3.out; have := HS4.out; omega, hne, ⟨A2, c2, blk_put (cs := #[.slice A2 l.length c2, .pointer none]) BP4.out 1 _ rfl, hc2, ?_⟩, ⟨0, 0, .inl ⟨_, blk_far (p := ⟨pb, 1, none⟩) BC4.out (fun e => hne e.symm) _⟩⟩⟩, below_set HB4.out HS3.out⟩
    exact Kd.R_mono (Kd.R_far (p := ⟨pb, 1, none⟩) (Kd.R_mono (Kd.R_types (Kd.R_types HR4.out BC4.out (by decide)) BP4.out (by decide)) (ok' := fun k => k ≠ cb ∧ k ≠ pb) (fun _ h => ⟨h.1.2, h.2⟩)) (fun _ h => h.2) _) (fun _ h => h.1)
end Go.Proofs.Ytknlpeabmpllmaa.Own

set_option linter.unusedVariables false
set_option linter.unusedSimpArgs false
namespace Go.Proofs.Ytknlpeabmpllmaa.Own
open Go.RowKit Go.Proofs Go.Proofs.YtknlpeabmpllmaaW.PrintWords Go.Proofs.YtknlpeabmpllmaaW.PrintLast Go.Proofs.YtknlpeabmpllmaaW.PrintMore Go.Proofs.Ytknlpeabmpllmaa.Base

/-- The first span that ends behind t. -/
def atP (l : List S57) (t : Int) : Nat := l.findIdx fun s => decide (t < s.f1)
theorem atP_le (l : List S57) (t : Int) : atP l t ≤ l.length := List.findIdx_le_length
theorem atP_lt {l : List S57} {t : Int} {j : Nat} (h : j < atP l t) (hj : j < l.length) : (l[j]).f1 ≤ t := by
  have := List.not_of_lt_findIdx h
  simpa using this
theorem atP_at {l : List S57} {t : Int} (h : atP l t < l.length) : t < (l[atP l t]).f1 := by
  exact of_decide_eq_true (List.findIdx_getElem (p := fun s : S57 => decide (t < s.f1)) (w := h))
theorem RowFrom.ends {lo : Int} {l : List S57} (h : RowFrom lo l) : ∀ (i j : Nat) (hi : i ≤ j) (hj : j < l.length), (l[i]).f1 ≤ (l[j]).f1 := by
  induction l generalizing lo with
  | nil => intro i j _ hj; simp at hj
  | cons s r ih =>
    intro i j hi hj
    rcases i with _ | i
    · rcases j with _ | j
      · exact Int.le_refl _
      · simp only [List.getElem_cons_zero, List.getElem_cons_succ]
        have h1 : ∀ (m : Nat) (hm : m < r.length), s.f1 ≤ (r[m]).f1 := by
          intro m hm
          have h2 := ih h.2.2 0 m (Nat.zero_le _) hm
          have h3 : RowFrom s.f1 r := h.2.2
          cases r with
          | nil => simp at hm
          | cons u v => have h4 := h3.1; have h5 := h3.2.1; simp only [List.getElem_cons_zero] at h2; omega
        exact h1 j (by simpa using hj)
    · rcases j with _ | j
      · omega
      · simp only [List.getElem_cons_succ]
        exact ih h.2.2 i j (by omega) (by simpa using hj)
theorem atP_gt {lo : Int} {l : List S57} {t : Int} (h : RowFrom lo l) {j : Nat} (hj : j < l.length) (ht : (l[j]).f1 ≤ t) : j < atP l t := by
  apply Nat.lt_of_not_le
  intro hle
  have h1 := atP_at (l := l) (t := t) (by omega)
  have h2 := h.ends (atP l t) j hle hj
  omega
theorem atP_ge {l : List S57} {t : Int} {j : Nat} (hj : j < l.length) (ht : t < (l[j]).f1) : atP l t ≤ j := by
  apply Nat.le_of_not_lt
  intro hlt
  have := atP_lt hlt hj
  omega

theorem cmp_any (a b t : Int) (w : World) :
    Calls Try.prog 78 #[.agg #[.int .i64 a, .int .i64 b], .int .i64 t] w fun e w' => e = .returned (.int .i64 (if b ≤ t then -1 else 1)) ∧ Below w.heap.size w w' := by
  by_cases h : b ≤ t
  · rw [if_pos h]
    go_enter Try.func78, Try.ntmps78
    go_wp2
    go_ret
    exact ⟨rfl, below_alloc (Below.refl _ _) _⟩
  · rw [if_neg h]
    go_enter Try.func78, Try.ntmps78
    go_wp2
    go_ret
    exact ⟨rfl, below_alloc (Below.refl _ _) _⟩

set_option maxHeartbeats 1600000 in
set_option maxRecDepth 100000 in
theorem search_any (A : Option Addr) (c : Nat) (l : List S57) (t : Int) (w : World) (hr : Kd.C k57 w A l.length l) (hc : l.length ≤ c) {hi : Int} (hok : RowOk hi l) :
    Calls Try.prog 77 #[.slice A l.length c, .int .i64 t, .func (.func 78) #[] #[]] w fun e w' => e = .returned (.tuple #[.int .i64 (atP l t : Int), .bool false]) ∧ Below w.heap.size w w' := by
  have HR := Aside0.mk hr
  have HB := Aside0.mk (Below.refl w.heap.size w)
  have HOK := Aside0.mk hok
  have hl := hok.len
  clear hr hok
  go_enter Try.func77, Try.ntmps77
  go_wp2
  go_loopg [9, 10] l.length (fun g v9 v10 w' => ∃ i j : Int, v9 = .int .i64 i ∧ v10 = .int .i64 j ∧ Aside0 (0 ≤ i ∧ i ≤ atP l t ∧ (atP l t : Int) ≤ j ∧ j ≤ l.length ∧ (g : Int) = j - i) ∧ Aside0 (Below w.heap.size w w'))
  case atStart => exact ⟨0, l.length, rfl, rfl, ⟨by omega, by omega, by have := atP_le l t; omega, by omega, by omega⟩, HB⟩
  case round =>
    clear HB
    obtain ⟨i, j, rfl, rfl, HI, HB⟩ := hrel
    have hI := HI.out
    by_cases hlt : i < j
    · have p0 : 0 ≤ i := hI.1
      have p1 : i ≤ 32 := by omega
      have p2 : 0 ≤ j := by omega
      have p3 : j ≤ 32 := by omega
      have p4 : 0 ≤ (i + j) / 2 := by omega
      have p5 : (i + j) / 2 < l.length := by omega
      obtain ⟨ad, e, hx0, hx1⟩ := at_T57 HR.out ((i + j) / 2) p4 p5
      cases e
      replace hx0 := (HB.out.cell (World.block_lt_of_cell? w _ hx0)).trans hx0
      replace hx1 := (HB.out.cell (World.block_lt_of_cell? w _ hx1)).trans hx1
      have hrd : rd_T57 l ((i + j) / 2) = l[((i + j) / 2).toNat]'(by omega) := by
        rw [← rd_at l ((i + j) / 2).toNat (by omega)]
        congr 1
        omega
      have HRD := Aside0.mk hrd
      clear hI hrd
      go_wp2
      · have hle : (rd_T57 l ((i + j) / 2)).f1 ≤ t := by assumption
        rw [HRD.out] at hle
        have h1 := atP_gt HOK.out.row (by have := HI.out; omega) hle
        go_roundg (j - ((i + j) / 2 + 1)).toNat
        case measure => have := HI.out; omega
        case rel => exact ⟨(i + j) / 2 + 1, j, rfl, rfl, ⟨by have := HI.out; omega, by omega, by have := HI.out; omega, by have := HI.out; omega, by have := HI.out; omega⟩, ⟨by repeat (first | exact HB.out | apply below_alloc)⟩⟩
      · have hle : t < (rd_T57 l ((i + j) / 2)).f1 := by assumption
        rw [HRD.out] at hle
        have h1 := atP_ge (by have := HI.out; omega) hle
        go_roundg ((i + j) / 2 - i).toNat
        case measure => have := HI.out; omega
        case rel => exact ⟨i, (i + j) / 2, rfl, rfl, ⟨by have := HI.out; omega, by have := HI.out; omega, by omega, by have := HI.out; omega, by have := HI.out; omega⟩, ⟨by repeat (first | exact HB.out | apply below_alloc)⟩⟩
    · have hi' : i = atP l t := by omega
      subst hi'
      by_cases hat : atP l t < l.length
      · have p0 : (0 : Int) ≤ atP l t := by omega
        have p1 : (atP l t : Int) < l.length := by omega
        obtain ⟨ad, e, hx0, hx1⟩ := at_T57 HR.out (atP l t) p0 p1
        cases e
        replace hx0 := (HB.out.cell (World.block_lt_of_cell? w _ hx0)).trans hx0
        replace hx1 := (HB.out.cell (World.block_lt_of_cell? w _ hx1)).trans hx1
        rw [Int.toNat_natCast] at hx0 hx1
        have hd : decide (atP l t < l.length) = true := decide_eq_true hat
        have hlt2 : t < (rd_T57 l (atP l t)).f1 := by rw [rd_at l _ hat]; exact atP_at hat
        clear hI
        go_wp2
        go_ret2
        exact ⟨rfl, below_alloc HB.out _⟩
      · have hd : decide (atP l t < l.length) = false := decide_eq_false hat
        have hge : ¬ (atP l t : Int) < l.length := by omega
        clear hI
        go_wp2
        go_ret2
        exact ⟨rfl, HB.out⟩

set_option maxRecDepth 100000 in
theorem at_any (n pb cb : Nat) (row : List S57) (t : Int) (w : World) (h : PlanAt w n pb cb row) :
    Calls Try.prog 62 #[.pointer (some ⟨pb, 0, none⟩), .int .i64 t] w fun e w' => e = .returned (.int .i64 (atP row t : Int)) ∧ Below w.heap.size w w' := by
  obtain ⟨A, c, hb, hc, hr⟩ := h.blk
  have c0 : w.cell? ⟨pb, 0, none⟩ = some (.slice A row.length c) := (blk_cell hb 0).trans rfl
  have HR := Aside0.mk (Kd.R_reads' hr).2.2
  have HOK := Aside0.mk h.ok
  clear hb hr h
  go_enter Try.func62, Try.ntmps62
  go_wp2_with (go_at_call 77; refine (search_any A c row t _ HR.out hc HOK.out).mono ?_; rintro e w1 ⟨rfl, hb⟩; have HB := Aside0.mk hb; clear hb)
  go_ret
  exact ⟨rfl, HB.out⟩

theorem plannone_any (n pb cb : Nat) (row : List S57) (w : World) (h : PlanAt w n pb cb row) :
    Calls Try.prog 56 #[.pointer (some ⟨pb, 0, none⟩)] w fun e w' => e = .returned (.bool false) ∧ w = w' := by
  obtain ⟨A, c, hb, hc, hr⟩ := h.blk
  have c1 : w.cell? ⟨pb, 1, none⟩ = some (.pointer (some ⟨cb, 0, none⟩)) := (blk_cell hb 1).trans rfl
  clear hb hr h
  go_enter Try.func56, Try.ntmps56
  go_wp2
  go_ret
  exact ⟨rfl, rfl⟩

set_option maxRecDepth 100000 in
theorem planrow_any (n pb cb : Nat) (row : List S57) (w : World) (h : PlanAt w n pb cb row) :
    Calls Try.prog 41 #[.pointer (some ⟨pb, 0, none⟩)] w fun e w' => ∃ A' c', e = .returned (.slice A' row.length c') ∧ row.length ≤ c' ∧ Kd.R k57 57 w' w.heap.size (fun _ => True) (.slice A' row.length c') row ∧ Below w.heap.size w w' := by
  obtain ⟨A, c, hb, hc, hr⟩ := h.blk
  have c0 : w.cell? ⟨pb, 0, none⟩ = some (.slice A row.length c) := (blk_cell hb 0).trans rfl
  have HR := Aside0.mk (Kd.R_reads' hr).2.2
  have HP := Aside0.mk h
  have hl := h.ok.len
  clear hb hr h
  go_enter Try.func41, Try.ntmps41
  go_wp2_with (first | (go_at_call 56; refine (plannone_any n pb cb row _ HP.out).mono ?_; rintro e w1 ⟨rfl, rfl⟩) | (go_at_call 53; refine (clone_any _ c row _ HR.out hc hl).mono ?_; rintro e w2 ⟨A2, c2, rfl, hc2, hR2, hb⟩; have HR2 := Aside0.mk hR2; have HB := Aside0.mk hb; clear hb hR2))
  go_ret
  exact ⟨A2, c2, rfl, hc2, HR2.out, HB.out⟩
end Go.Proofs.Ytknlpeabmpllmaa.Own

set_option linter.unusedVariables false
namespace Go.Proofs.Ytknlpeabmpllmaa.Own
open Go.RowKit Go.Proofs Go.Proofs.YtknlpeabmpllmaaW.PrintWords Go.Proofs.YtknlpeabmpllmaaW.PrintLast Go.Proofs.YtknlpeabmpllmaaW.PrintMore

theorem wpAnyLast_switch {P : Program} {ops : Array Oper} {Q : Exit → Act → World → Prop} {md : Region.Mode} {S : World → Prop} {ds : List Nat} (w1 : World) :
    ∀ (fuel : Nat) (l : Array Bool) (a : Act) (w : World), w = w1 → wpAnyLast P md ops Q (fun w' => w' = w1) [] fuel l a w → wpAnyLast P md ops Q S ds fuel l a w
  | 0, _, _, _, _, h => h
  | fuel + 1, l, a, w, he, h => by
    refine ⟨h.1, fun i hi => wpOp_mono (fun a' w' h' => ?_) (h.2 i hi)⟩
    have h1 : w' = w1 := h'.1 (by simp) he
    exact ⟨fun _ hS => by rw [h1, ← he]; exact hS, wpAnyLast_switch w1 fuel _ a' w' h1 h'.2⟩
/-- From here on the world stays as it is. -/
theorem switch_ {P : Program} {ops : Array Oper} {Q : Exit → Act → World → Prop} {md : Region.Mode} {S : World → Prop} {ds : List Nat} {fuel : Nat} {l : Array Bool} {a : Act} {w : World}
    (h : w = w → wpAnyLast P md ops Q (fun w' => w' = w) [] fuel l a w) : wpAnyLast P md ops Q S ds fuel l a w := wpAnyLast_switch w fuel l a w rfl (h rfl)
end Go.Proofs.Ytknlpeabmpllmaa.Own

set_option linter.unusedVariables false
set_option linter.unusedSimpArgs false
namespace Go.Proofs.Ytknlpeabmpllmaa.Own
open Go.RowKit Go.Proofs Go.Proofs.YtknlpeabmpllmaaW.PrintWords Go.Proofs.YtknlpeabmpllmaaW.PrintLast Go.Proofs.YtknlpeabmpllmaaW.PrintMore Go.Proofs.Ytknlpeabmpllmaa.Base

theorem max2_mx (k k' : IntKind) (x y : Int) : Builtin.max2 (.int k x) (.int k' y) = pure (.int k (mx x y)) := max2_int k k' x y
theorem min2_mn (k k' : IntKind) (x y : Int) : Builtin.min2 (.int k x) (.int k' y) = pure (.int k (mn x y)) := min2_int k k' x y
attribute [local go_sem] max2_mx min2_mn max_two min_two
def total_T3 : Bool × List (List Nat × List Nat) := (true, [([], []), ([0], [0]), ([1], [1]), ([2], [2]), ([3], [3]), ([], []), ([5], [5]), ([6], [6]), ([7], [7]), ([8], [8]), ([4, 9], [4, 9]), ([10], [10]), ([11, 4, 0, 1, 2, 3, 4, 5, 6, 7, 8, 9, 10, 11], [11])])
def total_B3 : List Nat := [0, 1, 3, 7, 15, 0, 32, 96, 224, 480, 1023, 2047, 4095]
theorem total_tab3 : rtab .any (opsOf Try.f32 3) = total_T3 := by kernel_rfl
theorem total_bits3 : waitsOk total_T3.2 total_B3 = true := by kernel_rfl

theorem psums_rd (l : List S57) (i : Nat) (h : i ≤ l.length) : rd (psums l) i = secs (l.take i) := by
  unfold rd
  rw [List.getD_eq_getElem?_getD, Int.toNat_natCast, psums_get _ _ h]
  rfl

set_option maxHeartbeats 1600000 in
set_option maxRecDepth 100000 in
theorem total_any (n pb cb : Nat) (row : List S57) (w : World) (h : PlanAt w n pb cb row) (hn : n ≤ w.heap.size) :
    Calls Try.prog 32 #[.pointer (some ⟨pb, 0, none⟩)] w fun e w' => e = .returned (.int .i64 (secs row)) ∧ PlanAt w' n pb cb row ∧ Upd cb w w' := by
  obtain ⟨A, c, hb, hc, hr⟩ := h.blk
  have c0 : w.drew.cell? ⟨pb, 0, none⟩ = some (.slice A row.length c) := (blk_cell hb 0).trans rfl
  have c1 : w.drew.cell? ⟨pb, 1, none⟩ = some (.pointer (some ⟨cb, 0, none⟩)) := (blk_cell hb 1).trans rfl
  have HBK := Aside0.mk (blk_drew hb)
  have HP := Aside0.mk h
  have HP1 : Aside0 (PlanAt w.drew n pb cb row) := ⟨h.keep (fun _ _ _ => rfl)⟩
  have HU1 : Aside0 (Upd cb w w.drew) := ⟨(Upd.refl cb w).drew⟩
  have HN1 : Aside0 (n ≤ w.drew.heap.size) := ⟨hn⟩
  clear hb hr h
  go_enter Try.func32, Try.ntmps32
  go_wp2_with (go_at_call 56; refine (plannone_any n pb cb row _ HP.out).mono ?_; rintro e w1 ⟨rfl, rfl⟩)
  refine start_ (n := 13) (S := fun w' => w'.cell? ⟨pb, 0, none⟩ = some (.slice A row.length c) ∧ w'.cell? ⟨pb, 1, none⟩ = some (.pointer (some ⟨cb, 0, none⟩))) (ds := []) #[false, false, false, false, false, false, false, false, false, false, false, false, false] (by kernel_rfl) rfl rfl ⟨c0, c1⟩ (fun hHeld => ?_); refine with_tabW total_tab3 total_bits3 (fun HT_ HW_ => ?_)
  refine pure_ (i := 0) (N := some 5) (v := ?_) (a' := ?_) #[true, false, false, false, false, false, false, false, false, false, false, false, false] rfl rfl (any_of HT_.out (by kernel_rfl)) (fun _ _ _ h => h) (Or.inl ⟨by rfl, ?_⟩) ?_ ?_
  rotate_left
  · intro w'
    go_simp
    with_reducible rfl
  rotate_left
  · simp only [Act.put, List.setIfInBounds_toArray, List.set_cons_zero, List.set_cons_succ, i64_w, i32_w]
    rfl
  refine pure_ (i := 1) (N := some 6) (v := ?_) (a' := ?_) #[true, true, false, false, false, false, false, false, false, false, false, false, false] rfl rfl (any_of HT_.out (by kernel_rfl)) (fun _ _ _ h => h) (Or.inl ⟨by rfl, ?_⟩) ?_ ?_
  rotate_left
  · intro w'
    go_simp
    with_reducible rfl
  rotate_left
  · simp only [Act.put, List.setIfInBounds_toArray, List.set_cons_zero, List.set_cons_succ, i64_w, i32_w]
    rfl
  refine pure_ (i := 2) (N := some 7) (v := ?_) (a' := ?_) #[true, true, true, false, false, false, false, false, false, false, false, false, false] rfl rfl (any_of HT_.out (by kernel_rfl)) (fun _ _ _ h => h) (Or.inl ⟨by rfl, ?_⟩) ?_ ?_
  rotate_left
  · intro w'
    go_simp
    with_reducible rfl
  rotate_left
  · simp only [Act.put, List.setIfInBounds_toArray, List.set_cons_zero, List.set_cons_succ, i64_w, i32_w]
    rfl
  refine pure_ (i := 5) (N := some 10) (v := ?_) (a' := ?_) #[true, true, true, false, false, true, false, false, false, false, false, false, false] rfl rfl (any_of HT_.out (by kernel_rfl)) (fun _ _ _ h => h) (Or.inl ⟨by rfl, ?_⟩) ?_ ?_
  rotate_left
  · intro w'
    go_simp
    with_reducible rfl
  rotate_left
  · simp only [Act.put, List.setIfInBounds_toArray, List.set_cons_zero, List.set_cons_succ, i64_w, i32_w]
    rfl
  refine pure_ (i := 6) (N := some 11) (v := ?_) (a' := ?_) #[true, true, true, false, false, true, true, false, false, false, false, false, false] rfl rfl (any_of HT_.out (by kernel_rfl)) (fun _ _ _ h => h) (Or.inl ⟨by rfl, ?_⟩) ?_ ?_
  rotate_left
  · intro w'
    go_simp
    with_reducible rfl
  rotate_left
  · simp only [Act.put, List.setIfInBounds_toArray, List.set_cons_zero, List.set_cons_succ, i64_w, i32_w]
    rfl
  refine pure_ (i := 7) (N := some 12) (v := ?_) (a' := ?_) #[true, true, true, false, false, true, true, true, false, false, false, false, false] rfl rfl (any_of HT_.out (by kernel_rfl)) (fun _ _ _ h => h) (Or.inl ⟨by rfl, ?_⟩) ?_ ?_
  rotate_left
  · intro w'
    go_simp
    with_reducible rfl
  rotate_left
  · simp only [Act.put, List.setIfInBounds_toArray, List.set_cons_zero, List.set_cons_succ, i64_w, i32_w]
    rfl
  refine take_ (i := 3) (N := some 8) (v := ?_) (a' := ?_) #[true, true, true, true, false, true, true, true, false, false, false, false, false] rfl rfl (take_ofW HT_.out HW_.out (by kernel_rfl)) (fun _ _ _ h => h) (Or.inl ⟨by rfl, ?_⟩) hHeld ?_ ?_
  rotate_left
  · rintro w' ⟨s0, s1⟩
    go_simp
    with_reducible rfl
  rotate_left
  · simp only [Act.put, List.setIfInBounds_toArray, List.set_cons_zero, List.set_cons_succ, i64_w, i32_w]
    rfl
  refine take_ (i := 8) (N := some 13) (v := ?_) (a' := ?_) #[true, true, true, true, false, true, true, true, true, false, false, false, false] rfl rfl (take_ofW HT_.out HW_.out (by kernel_rfl)) (fun _ _ _ h => h) (Or.inl ⟨by rfl, ?_⟩) hHeld ?_ ?_
  rotate_left
  · rintro w' ⟨s0, s1⟩
    go_simp
    with_reducible rfl
  rotate_left
  · simp only [Act.put, List.setIfInBounds_toArray, List.set_cons_zero, List.set_cons_succ, i64_w, i32_w]
    rfl
  refine pure_ (i := 9) (N := some 14) (v := ?_) (a' := ?_) #[true, true, true, true, false, true, true, true, true, true, false, false, false] rfl rfl (any_of HT_.out (by kernel_rfl)) (fun _ _ _ h => h) (Or.inl ⟨by rfl, ?_⟩) ?_ ?_
  rotate_left
  · intro w'
    go_simp
    with_reducible rfl
  rotate_left
  · simp only [Act.put, List.setIfInBounds_toArray, List.set_cons_zero, List.set_cons_succ, i64_w, i32_w]
    rfl
  refine one_ (i := 4) (N := some 9) #[true, true, true, true, true, true, true, true, true, true, false, false, false] rfl rfl (one_of HT_.out (by kernel_rfl)) (by decide) (fun K hK => ?_)
  refine goes_ Try.func57 (by kernel_rfl) rfl #[.pointer (some ⟨cb, 0, none⟩)] (by rfl) rfl rfl (by (try simp only [List.map_toArray, List.map_cons, List.map_nil]); first | done | rfl) ?_
  refine (get_any cb pb n row _ HP1.out HN1.out).mono ?_
  rintro e w2 ⟨A2, k2, rfl, P2, hC2, hl2, U2⟩
  refine ⟨_, rfl, ?_⟩
  have hBK2 := U2.blk HBK.out HP1.out.ne
  have d0 : w2.cell? ⟨pb, 0, none⟩ = some (.slice A row.length c) := (blk_cell hBK2 0).trans rfl
  have d1 : w2.cell? ⟨pb, 1, none⟩ = some (.pointer (some ⟨cb, 0, none⟩)) := (blk_cell hBK2 1).trans rfl
  obtain ⟨ad2, e2, hx2⟩ := Kd.at_int hC2 row.length (by omega) (by rw [psums_length]; omega)
  cases e2
  rw [psums_rd row row.length (Nat.le_refl _), List.take_length, Int.toNat_natCast] at hx2
  have HP2 := Aside0.mk P2
  have HU2 := Aside0.mk (HU1.out.trans U2)
  have hlt : (row.length : Int) < ((psums row).length : Int) := by rw [psums_length]; omega
  have hlt' : row.length < (psums row).length := by omega
  clear hC2 P2 U2 hBK2
  refine hK.out _ _ ⟨d0, d1⟩ (fun hHeld => ?_)
  clear hK K
  refine norm_ (a' := ?_) ?_ ?_
  rotate_left
  · show Act.put _ (some 9) _ = _
    simp only [Act.put, List.setIfInBounds_toArray, List.set_cons_zero, List.set_cons_succ, i64_w, i32_w]
    rfl
  refine switch_ (fun hHeld => ?_)
  refine pure_ (i := 10) (N := some 15) (v := ?_) (a' := ?_) #[true, true, true, true, true, true, true, true, true, true, true, false, false] rfl rfl (any_of HT_.out (by kernel_rfl)) (fun _ _ _ h => h) (Or.inl ⟨by rfl, ?_⟩) ?_ ?_
  rotate_left
  · intro w'
    go_simp
    with_reducible rfl
  rotate_left
  · simp only [Act.put, List.setIfInBounds_toArray, List.set_cons_zero, List.set_cons_succ, i64_w, i32_w]
    rfl
  refine take_ (i := 11) (N := some 16) (v := ?_) (a' := ?_) #[true, true, true, true, true, true, true, true, true, true, true, true, false] rfl rfl (take_ofW HT_.out HW_.out (by kernel_rfl)) (fun _ _ _ h => h) (Or.inl ⟨by rfl, ?_⟩) hHeld ?_ ?_
  rotate_left
  · rintro w' rfl
    go_simp
    with_reducible rfl
  rotate_left
  · simp only [Act.put, List.setIfInBounds_toArray, List.set_cons_zero, List.set_cons_succ, i64_w, i32_w]
    rfl
  refine pure_ (i := 12) (N := some 2) (v := ?_) (a' := ?_) #[true, true, true, true, true, true, true, true, true, true, true, true, true] rfl rfl (any_of HT_.out (by kernel_rfl)) (fun _ _ _ h => h) (Or.inl ⟨by rfl, ?_⟩) ?_ ?_
  rotate_left
  · intro w'
    go_simp
    with_reducible rfl
  rotate_left
  · simp only [Act.put, List.setIfInBounds_toArray, List.set_cons_zero, List.set_cons_succ, i64_w, i32_w]
    rfl
  refine done_ (done_of HT_.out (by kernel_rfl)) ?_
  go_wp2
  go_ret
  exact ⟨rfl, HP2.out, HU2.out⟩

/-- How many open seconds of the weeks are ahead of t. -/
def untilP (row : List S57) (t : Int) : Int :=
  mn (mx t 0) 2251799813685248 / 604800 * secs row + secs (row.take (atP row (mn (mx t 0) 2251799813685248 % 604800))) +
    if atP row (mn (mx t 0) 2251799813685248 % 604800) < row.length then mx (mn (mx t 0) 2251799813685248 % 604800 - (rd_T57 row (atP row (mn (mx t 0) 2251799813685248 % 604800))).f0) 0 else 0
theorem clamp_bound (t : Int) : 0 ≤ mn (mx t 0) 2251799813685248 ∧ mn (mx t 0) 2251799813685248 ≤ 2251799813685248 := by
  unfold mn mx; split <;> split <;> omega

def until_T6 : Bool × List (List Nat × List Nat) := (true, [([], []), ([], []), ([1], [1]), ([0, 2], [0, 2]), ([], []), ([4], [4]), ([5], [5]), ([6], [6]), ([7, 2], [7]), ([], []), ([8, 9], [8, 9]), ([10], [10]), ([3, 11], [3, 11]), ([12, 8, 0, 1, 2, 3, 4, 5, 6, 7, 8, 9, 10, 11, 12], [12])])
def until_B6 : List Nat := [0, 0, 2, 7, 0, 16, 48, 112, 246, 0, 1014, 2038, 4095, 8191]
theorem until_tab6 : rtab .any (opsOf Try.f36 6) = until_T6 := by kernel_rfl
theorem until_bits6 : waitsOk until_T6.2 until_B6 = true := by kernel_rfl

set_option maxHeartbeats 4000000 in
set_option maxRecDepth 100000 in
theorem until_any (n pb cb : Nat) (row : List S57) (t : Int) (w : World) (h : PlanAt w n pb cb row) (hn : n ≤ w.heap.size) :
    Calls Try.prog 36 #[.pointer (some ⟨pb, 0, none⟩), .int .i64 t] w fun e w' => e = .returned (.int .i64 (untilP row t)) ∧ PlanAt w' n pb cb row ∧ Upd cb w w' := by
  obtain ⟨A, c, hb, hc, hr⟩ := h.blk
  have HBK0 := Aside0.mk hb
  have HP0 := Aside0.mk h
  have HN0 := Aside0.mk hn
  have HU0 := Aside0.mk (Upd.refl cb w)
  have HR0 := Aside0.mk (Kd.R_reads' hr).2.2
  have HRR := Aside0.mk hr
  have HOK := Aside0.mk h.ok
  clear hb hr h hn
  have HUE : Aside0 (untilP row t = mn (mx t 0) 2251799813685248 / 604800 * secs row + secs (row.take (atP row (mn (mx t 0) 2251799813685248 % 604800))) +
    if atP row (mn (mx t 0) 2251799813685248 % 604800) < row.length then mx (mn (mx t 0) 2251799813685248 % 604800 - (rd_T57 row (atP row (mn (mx t 0) 2251799813685248 % 604800))).f0) 0 else 0) := ⟨rfl⟩
  generalize untilP row t = U at HUE ⊢
  obtain ⟨b0, b1⟩ := clamp_bound t
  go_enter Try.func36, Try.ntmps36
  go_wp2_with (go_at_call 56; refine (plannone_any n pb cb row _ HP0.out).mono ?_; rintro e w1 ⟨rfl, rfl⟩)
  generalize mn (mx t 0) 2251799813685248 = x at b0 b1 HUE ⊢
  go_wp2_with (go_at_call 62; refine (at_any n pb cb row (x % 604800) _ HP0.out).mono ?_; rintro e w1 ⟨rfl, hb⟩; have HP1 := Aside0.mk (HP0.out.below hb); have HBK1 := Aside0.mk (blk_below HBK0.out hb); have HU1 := Aside0.mk (HU0.out.then hb); clear hb)
  have hat := atP_le row (x % 604800)
  generalize atP row (x % 604800) = i at hat HUE ⊢
  have HP2 : Aside0 (PlanAt w1.drew n pb cb row) := ⟨HP1.out.keep (fun _ _ _ => rfl)⟩
  have HU2 : Aside0 (Upd cb w w1.drew) := ⟨HU1.out.drew⟩
  have HN2 : Aside0 (n ≤ w1.drew.heap.size) := ⟨Nat.le_trans HN0.out HU2.out.size⟩
  have HBK2 := Aside0.mk (blk_drew HBK1.out)
  have c1 : w1.drew.cell? ⟨pb, 1, none⟩ = some (.pointer (some ⟨cb, 0, none⟩)) := (blk_cell HBK2.out 1).trans rfl
  refine start_ (n := 14) (S := fun w' => w'.cell? ⟨pb, 1, none⟩ = some (.pointer (some ⟨cb, 0, none⟩))) (ds := []) #[false, false, false, false, false, false, false, false, false, false, false, false, false, false] (by kernel_rfl) rfl rfl c1 (fun hHeld => ?_); refine with_tabW until_tab6 until_bits6 (fun HT_ HW_ => ?_)
  refine pure_ (i := 0) (N := some 21) (v := ?_) (a' := ?_) #[true, false, false, false, false, false, false, false, false, false, false, false, false, false] rfl rfl (any_of HT_.out (by kernel_rfl)) (fun _ _ _ h => h) (Or.inl ⟨by rfl, ?_⟩) ?_ ?_
  rotate_left
  · intro w'
    go_simp
    with_reducible rfl
  rotate_left
  · simp only [Act.put, List.setIfInBounds_toArray, List.set_cons_zero, List.set_cons_succ, i64_w, i32_w]
    rfl
  refine pure_ (i := 1) (N := some 22) (v := ?_) (a' := ?_) #[true, true, false, false, false, false, false, false, false, false, false, false, false, false] rfl rfl (any_of HT_.out (by kernel_rfl)) (fun _ _ _ h => h) (Or.inl ⟨by rfl, ?_⟩) ?_ ?_
  rotate_left
  · intro w'
    go_simp
    with_reducible rfl
  rotate_left
  · simp only [Act.put, List.setIfInBounds_toArray, List.set_cons_zero, List.set_cons_succ, i64_w, i32_w]
    rfl
  refine pure_ (i := 4) (N := some 25) (v := ?_) (a' := ?_) #[true, true, false, false, true, false, false, false, false, false, false, false, false, false] rfl rfl (any_of HT_.out (by kernel_rfl)) (fun _ _ _ h => h) (Or.inl ⟨by rfl, ?_⟩) ?_ ?_
  rotate_left
  · intro w'
    go_simp
    with_reducible rfl
  rotate_left
  · simp only [Act.put, List.setIfInBounds_toArray, List.set_cons_zero, List.set_cons_succ, i64_w, i32_w]
    rfl
  refine pure_ (i := 5) (N := some 26) (v := ?_) (a' := ?_) #[true, true, false, false, true, true, false, false, false, false, false, false, false, false] rfl rfl (any_of HT_.out (by kernel_rfl)) (fun _ _ _ h => h) (Or.inl ⟨by rfl, ?_⟩) ?_ ?_
  rotate_left
  · intro w'
    go_simp
    with_reducible rfl
  rotate_left
  · simp only [Act.put, List.setIfInBounds_toArray, List.set_cons_zero, List.set_cons_succ, i64_w, i32_w]
    rfl
  refine pure_ (i := 6) (N := some 27) (v := ?_) (a' := ?_) #[true, true, false, false, true, true, true, false, false, false, false, false, false, false] rfl rfl (any_of HT_.out (by kernel_rfl)) (fun _ _ _ h => h) (Or.inl ⟨by rfl, ?_⟩) ?_ ?_
  rotate_left
  · intro w'
    go_simp
    with_reducible rfl
  rotate_left
  · simp only [Act.put, List.setIfInBounds_toArray, List.set_cons_zero, List.set_cons_succ, i64_w, i32_w]
    rfl
  refine pure_ (i := 9) (N := some 30) (v := ?_) (a' := ?_) #[true, true, false, false, true, true, true, false, false, true, false, false, false, false] rfl rfl (any_of HT_.out (by kernel_rfl)) (fun _ _ _ h => h) (Or.inl ⟨by rfl, ?_⟩) ?_ ?_
  rotate_left
  · intro w'
    go_simp
    with_reducible rfl
  rotate_left
  · simp only [Act.put, List.setIfInBounds_toArray, List.set_cons_zero, List.set_cons_succ, i64_w, i32_w]
    rfl
  refine take_ (i := 7) (N := some 28) (v := ?_) (a' := ?_) #[true, true, false, false, true, true, true, true, false, true, false, false, false, false] rfl rfl (take_ofW HT_.out HW_.out (by kernel_rfl)) (fun _ _ _ h => h) (Or.inl ⟨by rfl, ?_⟩) hHeld ?_ ?_
  rotate_left
  · rintro w' s0
    go_simp
    with_reducible rfl
  rotate_left
  · simp only [Act.put, List.setIfInBounds_toArray, List.set_cons_zero, List.set_cons_succ, i64_w, i32_w]
    rfl
  refine one_ (i := 2) (N := some 23) #[true, true, true, false, true, true, true, true, false, true, false, false, false, false] rfl rfl (one_of HT_.out (by kernel_rfl)) (by decide) (fun K hK => ?_)
  refine goes_ Try.func32 (by kernel_rfl) rfl #[.pointer (some ⟨pb, 0, none⟩)] (by rfl) rfl rfl (by (try simp only [List.map_toArray, List.map_cons, List.map_nil]); first | done | rfl) ?_
  refine (total_any n pb cb row _ HP2.out HN2.out).mono ?_
  rintro e w3 ⟨rfl, P3, U3⟩
  refine ⟨_, rfl, ?_⟩
  have HBK3 := Aside0.mk (U3.blk HBK2.out HP2.out.ne)
  have d1 : w3.cell? ⟨pb, 1, none⟩ = some (.pointer (some ⟨cb, 0, none⟩)) := (blk_cell HBK3.out 1).trans rfl
  have HP3 := Aside0.mk P3
  have HU3 := Aside0.mk (HU2.out.trans U3)
  have HN3 : Aside0 (n ≤ w3.heap.size) := ⟨Nat.le_trans HN0.out HU3.out.size⟩
  clear P3 U3
  refine hK.out _ _ d1 (fun hHeld => ?_)
  clear hK K
  refine norm_ (a' := ?_) ?_ ?_
  rotate_left
  · show Act.put _ (some 23) _ = _
    simp only [Act.put, List.setIfInBounds_toArray, List.set_cons_zero, List.set_cons_succ, i64_w, i32_w]
    rfl
  refine pure_ (i := 3) (N := some 24) (v := ?_) (a' := ?_) #[true, true, true, true, true, true, true, true, false, true, false, false, false, false] rfl rfl (any_of HT_.out (by kernel_rfl)) (fun _ _ _ h => h) (Or.inl ⟨by rfl, ?_⟩) ?_ ?_
  rotate_left
  · intro w'
    go_simp
    with_reducible rfl
  rotate_left
  · simp only [Act.put, List.setIfInBounds_toArray, List.set_cons_zero, List.set_cons_succ, i64_w, i32_w]
    rfl
  refine one_ (i := 8) (N := some 29) #[true, true, true, true, true, true, true, true, true, true, false, false, false, false] rfl rfl (one_of HT_.out (by kernel_rfl)) (by decide) (fun K hK => ?_)
  refine goes_ Try.func57 (by kernel_rfl) rfl #[.pointer (some ⟨cb, 0, none⟩)] (by rfl) rfl rfl (by (try simp only [List.map_toArray, List.map_cons, List.map_nil]); first | done | rfl) ?_
  refine (get_any cb pb n row _ HP3.out HN3.out).mono ?_
  rintro e w4 ⟨A2, k2, rfl, P4, hC4, hl4, U4⟩
  refine ⟨_, rfl, ?_⟩
  have HBK4 := Aside0.mk (U4.blk HBK3.out HP3.out.ne)
  have d0 : w4.cell? ⟨pb, 0, none⟩ = some (.slice A row.length c) := (blk_cell HBK4.out 0).trans rfl
  have d1 : w4.cell? ⟨pb, 1, none⟩ = some (.pointer (some ⟨cb, 0, none⟩)) := (blk_cell HBK4.out 1).trans rfl
  obtain ⟨ad2, e2, hx2⟩ := Kd.at_int hC4 i (by omega) (by rw [psums_length]; omega)
  cases e2
  rw [psums_rd row i hat, Int.toNat_natCast] at hx2
  have HP4 := Aside0.mk P4
  have HU4 := Aside0.mk (HU3.out.trans U4)
  have hlt : (i : Int) < ((psums row).length : Int) := by rw [psums_length]; omega
  have hlt' : i < (psums row).length := by omega
  clear hC4 P4 U4
  refine hK.out _ _ d1 (fun hHeld => ?_)
  clear hK K
  refine norm_ (a' := ?_) ?_ ?_
  rotate_left
  · show Act.put _ (some 29) _ = _
    simp only [Act.put, List.setIfInBounds_toArray, List.set_cons_zero, List.set_cons_succ, i64_w, i32_w]
    rfl
  refine switch_ (fun hHeld => ?_)
  refine pure_ (i := 10) (N := some 31) (v := ?_) (a' := ?_) #[true, true, true, true, true, true, true, true, true, true, true, false, false, false] rfl rfl (any_of HT_.out (by kernel_rfl)) (fun _ _ _ h => h) (Or.inl ⟨by rfl, ?_⟩) ?_ ?_
  rotate_left
  · intro w'
    go_simp
    with_reducible rfl
  rotate_left
  · simp only [Act.put, List.setIfInBounds_toArray, List.set_cons_zero, List.set_cons_succ, i64_w, i32_w]
    rfl
  refine take_ (i := 11) (N := some 32) (v := ?_) (a' := ?_) #[true, true, true, true, true, true, true, true, true, true, true, true, false, false] rfl rfl (take_ofW HT_.out HW_.out (by kernel_rfl)) (fun _ _ _ h => h) (Or.inl ⟨by rfl, ?_⟩) hHeld ?_ ?_
  rotate_left
  · rintro w' rfl
    go_simp
    with_reducible rfl
  rotate_left
  · simp only [Act.put, List.setIfInBounds_toArray, List.set_cons_zero, List.set_cons_succ, i64_w, i32_w]
    rfl
  refine pure_ (i := 12) (N := some 33) (v := ?_) (a' := ?_) #[true, true, true, true, true, true, true, true, true, true, true, true, true, false] rfl rfl (any_of HT_.out (by kernel_rfl)) (fun _ _ _ h => h) (Or.inl ⟨by rfl, ?_⟩) ?_ ?_
  rotate_left
  · intro w'
    go_simp
    with_reducible rfl
  rotate_left
  · simp only [Act.put, List.setIfInBounds_toArray, List.set_cons_zero, List.set_cons_succ, i64_w, i32_w]
    rfl
  refine pure_ (i := 13) (N := some 8) (v := ?_) (a' := ?_) #[true, true, true, true, true, true, true, true, true, true, true, true, true, true] rfl rfl (any_of HT_.out (by kernel_rfl)) (fun _ _ _ h => h) (Or.inl ⟨by rfl, ?_⟩) ?_ ?_
  rotate_left
  · intro w'
    go_simp
    with_reducible rfl
  rotate_left
  · simp only [Act.put, List.setIfInBounds_toArray, List.set_cons_zero, List.set_cons_succ, i64_w, i32_w]
    rfl
  refine done_ (done_of HT_.out (by kernel_rfl)) ?_
  have s0 := HOK.out.secs (by omega)
  have s1 := (HOK.out.take i).secs (by omega)
  have q0 : 0 ≤ x / 604800 ∧ x / 604800 ≤ 3723213977 := by omega
  have m0 : 0 ≤ x / 604800 * secs row := Int.mul_nonneg q0.1 s0.1
  have m1 : x / 604800 * secs row ≤ 3723213977 * 604800 := Int.mul_le_mul q0.2 s0.2 s0.1 (by omega)
  have hv : wrap64 (wrap64 (x / 604800 * secs row) + secs (row.take i)) = x / 604800 * secs row + secs (row.take i) := by
    rw [wrap_id (x := x / 604800 * secs row) (by omega) (by omega), wrap_id (by omega) (by omega)]
  rw [hv]
  have v0 : 0 ≤ x / 604800 * secs row + secs (row.take i) := by omega
  have v1 : x / 604800 * secs row + secs (row.take i) ≤ 2251799813685248 + 1209600 := by omega
  generalize x / 604800 * secs row + secs (row.take i) = V at v0 v1 HUE ⊢
  clear hv m0 m1 q0 s0 s1
  by_cases hi : i < row.length
  · have p0 : (0 : Int) ≤ i := by omega
    have p1 : (i : Int) < row.length := by omega
    have hd : decide (i < row.length) = true := decide_eq_true hi
    have hmem := HOK.out.mem (rd_T57 row i) (by rw [rd_at row i hi]; exact List.getElem_mem _)
    obtain ⟨m0, m1, m2⟩ := hmem
    have hrC := (Kd.R_reads' (Kd.R_grown HRR.out HU4.out (fun k hk e => hk (by injection e)))).2.2
    obtain ⟨ad, e, hx0, hx1⟩ := at_T57 hrC i p0 p1
    cases e
    rw [Int.toNat_natCast] at hx0 hx1
    have hmx : 0 ≤ mx (x % 604800 - (rd_T57 row i).f0) 0 ∧ mx (x % 604800 - (rd_T57 row i).f0) 0 ≤ 604800 := by unfold mx; split <;> omega
    obtain ⟨mm0, mm1⟩ := hmx
    have HE : Aside0 (U = V + mx (x % 604800 - (rd_T57 row i).f0) 0) := ⟨by rw [HUE.out, if_pos hi]⟩
    clear hrC hx1 HUE
    go_wp2
    go_ret
    exact ⟨by rw [HE.out]; rfl, HP4.out, HU4.out⟩
  · have hd : decide (i < row.length) = false := decide_eq_false hi
    have p1 : ¬ (i : Int) < row.length := by omega
    have HE : Aside0 (U = V) := ⟨by rw [HUE.out, if_neg hi]; omega⟩
    clear HUE
    go_wp2
    go_ret
    exact ⟨by rw [HE.out]; rfl, HP4.out, HU4.out⟩
end Go.Proofs.Ytknlpeabmpllmaa.Own

set_option linter.unusedVariables false
set_option linter.unusedSimpArgs false
namespace Go.Proofs.Ytknlpeabmpllmaa.Own
open Go.RowKit Go.Proofs Go.Proofs.YtknlpeabmpllmaaW.PrintWords Go.Proofs.YtknlpeabmpllmaaW.PrintLast Go.Proofs.YtknlpeabmpllmaaW.PrintMore Go.Proofs.Ytknlpeabmpllmaa.Base
attribute [local go_sem] max2_mx min2_mn max_two min_two

theorem until_bound {row : List S57} (h : RowOk 604800 row) (t : Int) : 0 ≤ untilP row t ∧ untilP row t ≤ 2251799815500000 := by
  unfold untilP
  obtain ⟨b0, b1⟩ := clamp_bound t
  generalize mn (mx t 0) 2251799813685248 = x at b0 b1 ⊢
  have hat := atP_le row (x % 604800)
  generalize atP row (x % 604800) = i at hat ⊢
  have s0 := h.secs (by omega)
  have s1 := (h.take i).secs (by omega)
  have q0 : 0 ≤ x / 604800 ∧ x / 604800 ≤ 3723213977 := by omega
  have m0 : 0 ≤ x / 604800 * secs row := Int.mul_nonneg q0.1 s0.1
  have m1 : x / 604800 * secs row ≤ 3723213977 * 604800 := Int.mul_le_mul q0.2 s0.2 s0.1 (by omega)
  split
  · rename_i hi
    have hmem := h.mem (rd_T57 row i) (by rw [rd_at row i hi]; exact List.getElem_mem _)
    have hmx : 0 ≤ mx (x % 604800 - (rd_T57 row i).f0) 0 ∧ mx (x % 604800 - (rd_T57 row i).f0) 0 ≤ 604800 := by unfold mx; split <;> omega
    omega
  · omega
def betweenP (row : List S57) (a b : Int) : Int := mx (untilP row b - untilP row a) 0
theorem between_bound {row : List S57} (h : RowOk 604800 row) (a b : Int) : 0 ≤ betweenP row a b ∧ betweenP row a b ≤ 2251799815500000 := by
  have h1 := until_bound h a
  have h2 := until_bound h b
  unfold betweenP mx
  split <;> omega

set_option maxHeartbeats 1600000 in
set_option maxRecDepth 100000 in
theorem between_any (n pb cb : Nat) (row : List S57) (a b : Int) (w : World) (h : PlanAt w n pb cb row) (hn : n ≤ w.heap.size) :
    Calls Try.prog 60 #[.pointer (some ⟨pb, 0, none⟩), .int .i64 a, .int .i64 b] w fun e w' => e = .returned (.int .i64 (betweenP row a b)) ∧ PlanAt w' n pb cb row ∧ Upd cb w w' := by
  have HP := Aside0.mk h
  have HN := Aside0.mk hn
  have HU := Aside0.mk (Upd.refl cb w)
  obtain ⟨a0, a1⟩ := until_bound h.ok a
  obtain ⟨b0, b1⟩ := until_bound h.ok b
  have hmf : ∀ (fn : Fn) (first cap : Array Value) (w : World), (Instr.makeFunc fn first cap).run Try.prog w = .ok (.func fn first cap) w := fun _ _ _ _ => rfl
  clear h hn
  go_enter Try.func60, Try.ntmps60
  go_wp2_with (go_at_call 36; refine (until_any n pb cb row _ _ HP.out HN.out).mono ?_; rintro e w1 ⟨rfl, P1, U1⟩; have n0 := Aside0.mk P1; have n1 := Aside0.mk (HU.out.trans U1); have n2 := Aside0.mk (Nat.le_trans HN.out U1.size); clear HP HU HN P1 U1; have HP := n0; have HU := n1; have HN := n2; clear n0 n1 n2)
  go_ret
  exact ⟨rfl, HP.out, HU.out⟩

/-- Is a second of a week (t modulo a week) open? -/
def weekOpen (row : List S57) (t : Int) : Bool := decide (atP row (t % 604800) < row.length ∧ (rd_T57 row (atP row (t % 604800))).f0 ≤ t % 604800)
set_option maxHeartbeats 1600000 in
set_option maxRecDepth 100000 in
theorem planopen_any (n pb cb : Nat) (row : List S57) (t : Int) (w : World) (h : PlanAt w n pb cb row) (h0 : 0 ≤ t) (h1 : t ≤ 2251799813685248) :
    Calls Try.prog 38 #[.pointer (some ⟨pb, 0, none⟩), .int .i64 t] w fun e w' => e = .returned (.bool (weekOpen row t)) ∧ Below w.heap.size w w' := by
  obtain ⟨A, c, hb, hc, hr⟩ := h.blk
  have HBK0 := Aside0.mk hb
  have HP0 := Aside0.mk h
  have HR0 := Aside0.mk (Kd.R_reads' hr).2.2
  have HOK := Aside0.mk h.ok
  have d1 : decide (t < 0) = false := decide_eq_false (by omega)
  have d2 : decide (2251799813685248 < t) = false := decide_eq_false (by omega)
  have HUE : Aside0 (weekOpen row t = decide (atP row (t % 604800) < row.length ∧ (rd_T57 row (atP row (t % 604800))).f0 ≤ t % 604800)) := ⟨rfl⟩
  generalize weekOpen row t = U at HUE ⊢
  clear hb hr h
  have hat := atP_le row (t % 604800)
  have HAT : Aside0 (Calls Try.prog 62 #[.pointer (some ⟨pb, 0, none⟩), .int .i64 (t % 604800)] w (fun e w' => e = .returned (.int .i64 (atP row (t % 604800) : Int)) ∧ Below w.heap.size w w')) := ⟨at_any n pb cb row (t % 604800) _ HP0.out⟩
  generalize atP row (t % 604800) = i at hat HAT HUE
  by_cases hi : i < row.length
  · have p0 : (0 : Int) ≤ i := by omega
    have p1 : (i : Int) < row.length := by omega
    have hd : decide (i < row.length) = true := decide_eq_true hi
    obtain ⟨ad, e, hx0, hx1⟩ := at_T57 HR0.out i p0 p1
    cases e
    rw [Int.toNat_natCast] at hx0 hx1
    have HE : Aside0 (U = decide ((rd_T57 row i).f0 ≤ t % 604800)) := ⟨by rw [HUE.out]; simp [hi]⟩
    clear HUE hx1
    go_enter Try.func38, Try.ntmps38
    go_wp2_with (first | (go_at_call 56; refine (plannone_any n pb cb row _ HP0.out).mono ?_; rintro e w1 ⟨rfl, rfl⟩) | (go_at_call 62; refine HAT.out.mono ?_; rintro e w1 ⟨rfl, hb⟩; have HB1 := Aside0.mk hb; have HBK1 := Aside0.mk (blk_below HBK0.out hb); have c0 : w1.cell? ⟨pb, 0, none⟩ = some (.slice (some ad) row.length c) := (blk_cell HBK1.out 0).trans rfl; replace hx0 := (hb.cell (World.block_lt_of_cell? w _ hx0)).trans hx0; clear hb))
    go_ret
    exact ⟨by rw [HE.out]; rfl, HB1.out⟩
  · have p1 : ¬ (i : Int) < row.length := by omega
    have hd : decide (i < row.length) = false := decide_eq_false hi
    have HE : Aside0 (U = false) := ⟨by rw [HUE.out]; simp [hi]⟩
    clear HUE
    go_enter Try.func38, Try.ntmps38
    go_wp2_with (first | (go_at_call 56; refine (plannone_any n pb cb row _ HP0.out).mono ?_; rintro e w1 ⟨rfl, rfl⟩) | (go_at_call 62; refine HAT.out.mono ?_; rintro e w1 ⟨rfl, hb⟩; have HB1 := Aside0.mk hb; have HBK1 := Aside0.mk (blk_below HBK0.out hb); have c0 : w1.cell? ⟨pb, 0, none⟩ = some (.slice A row.length c) := (blk_cell HBK1.out 0).trans rfl; clear hb))
    go_ret
    exact ⟨by rw [HE.out]; rfl, HB1.out⟩
end Go.Proofs.Ytknlpeabmpllmaa.Own

set_option linter.unusedVariables false
set_option linter.unusedSimpArgs false
namespace Go.Proofs.Ytknlpeabmpllmaa.Own
open Go.RowKit Go.Proofs Go.Proofs.YtknlpeabmpllmaaW.PrintWords Go.Proofs.YtknlpeabmpllmaaW.PrintLast Go.Proofs.YtknlpeabmpllmaaW.PrintMore Go.Proofs.Ytknlpeabmpllmaa.Base

/-- The first number of a list that is at least t. -/
def geP (l : List Int) (t : Int) : Nat := l.findIdx fun x => decide (t ≤ x)
theorem geP_le (l : List Int) (t : Int) : geP l t ≤ l.length := List.findIdx_le_length
theorem geP_lt {l : List Int} {t : Int} {j : Nat} (h : j < geP l t) (hj : j < l.length) : l[j] < t := by
  have := List.not_of_lt_findIdx h
  simpa using this
theorem geP_at {l : List Int} {t : Int} (h : geP l t < l.length) : t ≤ l[geP l t] := of_decide_eq_true (List.findIdx_getElem (p := fun x : Int => decide (t ≤ x)) (w := h))
def Rising (l : List Int) : Prop := ∀ (i j : Nat) (_ : i ≤ j) (hj : j < l.length), l[i] ≤ l[j]
theorem geP_gt {l : List Int} {t : Int} (h : Rising l) {j : Nat} (hj : j < l.length) (ht : l[j] < t) : j < geP l t := by
  apply Nat.lt_of_not_le
  intro hle
  have h1 := geP_at (l := l) (t := t) (by omega)
  have h2 := h (geP l t) j hle hj
  omega
theorem geP_ge {l : List Int} {t : Int} {j : Nat} (hj : j < l.length) (ht : t ≤ l[j]) : geP l t ≤ j := by
  apply Nat.le_of_not_lt
  intro hlt
  have := geP_lt hlt hj
  omega
theorem less_eq (a b : Int) : cmp_Less_int64.f a b = some (decide (a < b)) := by
  simp [cmp_Less_int64.f, cmp_isNaN_int64.f]
theorem rdi_at (l : List Int) (i : Int) (h0 : 0 ≤ i) (h : i < l.length) : rd l i = l[i.toNat]'(by omega) := by
  unfold rd
  rw [List.getD_eq_getElem?_getD, List.getElem?_eq_getElem (by omega)]
  rfl
theorem bs_l0 (l : List Int) (t : Int) (hs : Rising l) (hl : l.length ≤ 100) : ∀ (d k : Nat) (i j : Int), 0 ≤ i → i ≤ geP l t → (geP l t : Int) ≤ j → j ≤ l.length → j - i ≤ d → d < k →
    ∃ b, slices_BinarySearch_int64_int64.l0 k l t (l.length : Int) i j = some ((geP l t : Int), b) := by
  intro d
  induction d with
  | zero =>
    intro k i j h0 h1 h2 h3 hd hk
    obtain ⟨k, rfl⟩ : ∃ m, k = m + 1 := ⟨k - 1, by omega⟩
    have hi : i = geP l t := by omega
    subst hi
    simp only [slices_BinarySearch_int64_int64.l0]
    rw [if_neg (by omega)]
    by_cases hlt : (geP l t : Int) < l.length
    · rw [if_pos hlt, if_pos (by omega), if_pos hlt]
      by_cases he : rd l (geP l t) = t
      · rw [if_pos he]; exact ⟨_, rfl⟩
      · rw [if_neg he]
        simp [slices_isNaN_int64.f]
    · rw [if_neg hlt]; exact ⟨_, rfl⟩
  | succ d ih =>
    intro k i j h0 h1 h2 h3 hd hk
    obtain ⟨k, rfl⟩ : ∃ m, k = m + 1 := ⟨k - 1, by omega⟩
    by_cases hij : i < j
    · have hw : wrap64 ((IntKind.u64.wrap (wrap64 (i + j))) / 2) = (i + j) / 2 := by
        rw [wrap_id (x := i + j) (by omega) (by omega), IntWalk.u64_in _ (by omega), wrap_id (by omega) (by omega)]
      simp only [slices_BinarySearch_int64_int64.l0]
      rw [if_pos hij, hw, if_pos (by omega), if_pos (by omega), less_eq, rdi_at l _ (by omega) (by omega), wrap_id (by omega) (by omega)]
      simp only [Option.bind_some, decide_eq_true_eq]
      by_cases hlt : l[((i + j) / 2).toNat]'(by omega) < t
      · rw [if_pos hlt]
        have := geP_gt hs (by omega) hlt
        exact ih k _ j (by omega) (by omega) h2 h3 (by omega) (by omega)
      · rw [if_neg hlt]
        have := geP_ge (l := l) (t := t) (j := ((i + j) / 2).toNat) (by omega) (by omega)
        exact ih k i _ h0 h1 (by omega) (by omega) (by omega) (by omega)
    · exact ih (k + 1) i j h0 h1 h2 h3 (by omega) (by omega)
theorem bs_eq (l : List Int) (t : Int) (hs : Rising l) (hl : l.length ≤ 100) : ∃ b, slices_BinarySearch_int64_int64.f 200 l t = some ((geP l t : Int), b) := by
  unfold slices_BinarySearch_int64_int64.f
  exact bs_l0 l t hs hl 150 200 0 l.length (by omega) (by omega) (by have := geP_le l t; omega) (by omega) (by omega) (by omega)
theorem secs_take_le {lo hi : Int} {l : List S57} (h : RowFrom lo l) (ht : ∀ s, s ∈ l → s.f1 ≤ hi) (i j : Nat) (hij : i ≤ j) : secs (l.take i) ≤ secs (l.take j) := by
  induction l generalizing lo i j with
  | nil => simp
  | cons s r ih =>
    rcases j with _ | j
    · rw [show i = 0 by omega]; exact Int.le_refl _
    · rcases i with _ | i
      · have h1 := (secs_bound (h.take (j + 1)) (fun s hs => ht s (List.mem_of_mem_take hs))).1
        simpa [secs] using h1
      · simp only [List.take_succ_cons, secs]
        have := ih h.2.2 (fun s hs => ht s (List.mem_cons_of_mem _ hs)) i j (by omega)
        omega
theorem psums_rising {hi : Int} {l : List S57} (h : RowOk hi l) : Rising (psums l) := by
  intro i j hij hj
  have hj' : j ≤ l.length := by rw [psums_length] at hj; omega
  have e1 := psums_get l i (by omega)
  have e2 := psums_get l j hj'
  rw [List.getElem?_eq_getElem (by omega)] at e1 e2
  injection e1 with e1
  injection e2 with e2
  rw [e1, e2]
  exact secs_take_le h.row h.top i j hij
end Go.Proofs.Ytknlpeabmpllmaa.Own

set_option linter.unusedVariables false
set_option linter.unusedSimpArgs false
namespace Go.Proofs.Ytknlpeabmpllmaa.Own
open Go.RowKit Go.Proofs Go.Proofs.YtknlpeabmpllmaaW.PrintWords Go.Proofs.YtknlpeabmpllmaaW.PrintLast Go.Proofs.YtknlpeabmpllmaaW.PrintMore Go.Proofs.Ytknlpeabmpllmaa.Base

/-- Behind how many spans the open second with 'rest' of its week ahead lies. -/
def nthI (row : List S57) (n : Int) : Nat := geP (psums row) (n % secs row + 1) - 1
/-- The open second with n ahead. -/
def nthP (row : List S57) (n : Int) : Int := n / secs row * 604800 + (rd_T57 row (nthI row n)).f0 + n % secs row - secs (row.take (nthI row n))
theorem nthI_spec {row : List S57} (h : RowOk 604800 row) (n : Int) (hs : 0 < secs row) (h0 : 0 ≤ n) :
    nthI row n < row.length ∧ geP (psums row) (n % secs row + 1) = nthI row n + 1 ∧ secs (row.take (nthI row n)) ≤ n % secs row ∧ n % secs row < secs (row.take (nthI row n + 1)) := by
  have hr0 := Int.emod_nonneg n (show secs row ≠ 0 by omega)
  have hr1 := Int.emod_lt_of_pos n hs
  generalize hrest : n % secs row = rest at hr0 hr1
  have hpl := psums_length row
  have hg : ∀ (j : Nat) (hj : j < (psums row).length), (psums row)[j] = secs (row.take j) := by
    intro j hj
    have e := psums_get row j (by omega)
    rw [List.getElem?_eq_getElem hj] at e
    injection e
  have h1 : 0 < geP (psums row) (rest + 1) := by
    refine geP_gt (psums_rising h) (j := 0) (by omega) ?_
    rw [hg]; simp [secs]; omega
  have h2 : geP (psums row) (rest + 1) ≤ row.length := by
    refine geP_ge (j := row.length) (by omega) ?_
    rw [hg, List.take_length]; omega
  have hI : nthI row n = geP (psums row) (rest + 1) - 1 := by unfold nthI; rw [hrest]
  refine ⟨by omega, by omega, ?_, ?_⟩
  · have := geP_lt (l := psums row) (t := rest + 1) (j := nthI row n) (by omega) (by omega)
    rw [hg] at this
    omega
  · have := geP_at (l := psums row) (t := rest + 1) (by omega)
    rw [hg] at this
    rw [show nthI row n + 1 = geP (psums row) (rest + 1) by omega]
    omega

def nth_T12 : Bool × List (List Nat × List Nat) := (true, [([], []), ([], []), ([0, 1], [0, 1]), ([2], [2]), ([], []), ([4], [4]), ([5], [5]), ([6], [6]), ([], []), ([8], [8]), ([7, 9], [7, 9]), ([10], [10]), ([11], [11]), ([3, 12], [3, 12]), ([], []), ([13, 14], [13, 14]), ([], []), ([16], [16]), ([17], [17]), ([18], [18]), ([19], [19]), ([], []), ([21], [21]), ([20, 22], [20, 22]), ([23], [23]), ([15, 24], [15, 24]), ([25, 20, 0, 1, 2, 3, 4, 5, 6, 7, 8, 9, 10, 11, 12, 13, 14, 15, 16, 17, 18, 19, 20, 21, 22, 23, 24, 25], [25])])
def nth_B12 : List Nat := [0, 0, 3, 7, 0, 16, 48, 112, 0, 256, 1008, 2032, 4080, 8191, 0, 32767, 0, 65536, 196608, 458752, 983040, 0, 2097152, 8323072, 16711680, 33554431, 67108863]
theorem nth_tab12 : rtab .any (opsOf Try.f35 12) = nth_T12 := by kernel_rfl
theorem nth_bits12 : waitsOk nth_T12.2 nth_B12 = true := by kernel_rfl

set_option maxHeartbeats 4000000 in
set_option maxRecDepth 100000 in
theorem nth_any (n pb cb : Nat) (row : List S57) (k : Int) (w : World) (h : PlanAt w n pb cb row) (hn : n ≤ w.heap.size)
    (hs : 0 < secs row) (h0 : 0 ≤ k) (hk : k / secs row ≤ 3723213977) (hk2 : nthP row k ≤ 2251799813685248) (hk3 : 0 ≤ nthP row k) :
    Calls Try.prog 35 #[.pointer (some ⟨pb, 0, none⟩), .int .i64 k] w fun e w' => e = .returned (.tuple #[.int .i64 (nthP row k), .int .i64 0]) ∧ PlanAt w' n pb cb row ∧ Upd cb w w' := by
  obtain ⟨i0, i1, i2, i3⟩ := nthI_spec h.ok k hs h0
  obtain ⟨A, c, hb, hc, hr⟩ := h.blk
  have HBK0 := Aside0.mk hb
  have HP0 := Aside0.mk h
  have HN0 := Aside0.mk hn
  have HU0 := Aside0.mk (Upd.refl cb w)
  have HRR := Aside0.mk hr
  have HOK := Aside0.mk h.ok
  have s0 := h.ok.secs (by omega)
  have HI1 := Aside0.mk i1
  have HI2 := Aside0.mk (And.intro i2 i3)
  have HE : Aside0 (nthP row k = k / secs row * 604800 + (rd_T57 row (nthI row k)).f0 + k % secs row - secs (row.take (nthI row k))) := ⟨rfl⟩
  obtain ⟨b, hbs⟩ := bs_eq (psums row) (k % secs row + 1) (psums_rising h.ok) (by rw [psums_length]; have := h.ok.len; omega)
  rw [i1] at hbs
  have HBS := Aside0.mk hbs
  have r0 := Int.emod_nonneg k (show secs row ≠ 0 by omega)
  have r1 := Int.emod_lt_of_pos k hs
  have q0 : 0 ≤ k / secs row := Int.ediv_nonneg h0 s0.1
  generalize nthP row k = U at HE hk2 hk3 ⊢
  have hwq : wrap64 (k.tdiv (secs row)) = k / secs row := by rw [Int.tdiv_eq_ediv_of_nonneg h0]; exact wrap_id (by omega) (by omega)
  have z1 : (secs row == 0) = false := beq_eq_false_iff_ne.mpr (by omega)
  have z2 : ¬ secs row = 0 := by omega
  clear hb hr h hn i1 i2 i3 hbs
  go_enter Try.func35, Try.ntmps35
  go_wp2_with (first | (go_at_call 32; refine (total_any n pb cb row _ HP0.out HN0.out).mono ?_; rintro e w1 ⟨rfl, P1, U1⟩; have n0 := Aside0.mk P1; have n1 := Aside0.mk (HU0.out.trans U1); have n2 := Aside0.mk (Nat.le_trans HN0.out U1.size); have n3 := Aside0.mk (U1.blk HBK0.out HP0.out.ne); clear HP0 HU0 HN0 HBK0 P1 U1; have HP0 := n0; have HU0 := n1; have HN0 := n2; have HBK0 := n3; clear n0 n1 n2 n3; have c1 : w1.cell? ⟨pb, 1, none⟩ = some (.pointer (some ⟨cb, 0, none⟩)) := (blk_cell HBK0.out 1).trans rfl) | (go_at_call 56; refine (plannone_any n pb cb row _ HP0.out).mono ?_; rintro e w1 ⟨rfl, rfl⟩) | (go_at_call 57; refine (get_any cb pb n row _ HP0.out HN0.out).mono ?_; rintro e w2 ⟨A2, k2, rfl, P2, hC2, hl2, U2⟩; have n0 := Aside0.mk P2; have n1 := Aside0.mk (HU0.out.trans U2); have n2 := Aside0.mk (Nat.le_trans HN0.out U2.size); have n3 := Aside0.mk (U2.blk HBK0.out HP0.out.ne); have HC2 := Aside0.mk hC2; clear HP0 HU0 HN0 HBK0 P2 U2 hC2; have HP0 := n0; have HU0 := n1; have HN0 := n2; have HBK0 := n3; clear n0 n1 n2 n3) | (go_at_call 61; refine (slices_BinarySearch_int64_int64.calls 200 A2 k2 (psums row) (k % secs row + 1) _ b _ HC2.out hl2 HBS.out).mono ?_; rintro e w3 ⟨rfl, hd⟩; have hb := hd.below; have n0 := Aside0.mk (HP0.out.below hb); have n1 := Aside0.mk (HU0.out.then hb); have n2 := Aside0.mk (Nat.le_trans HN0.out hb.size); have n3 := Aside0.mk (blk_below HBK0.out hb); clear HP0 HU0 HN0 HBK0 hb hd; have HP0 := n0; have HU0 := n1; have HN0 := n2; have HBK0 := n3; clear n0 n1 n2 n3))
  have HN4 : Aside0 (n ≤ w3.drew.heap.size) := ⟨HN0.out⟩
  have HP4 : Aside0 (PlanAt w3.drew n pb cb row) := ⟨HP0.out.keep (fun _ _ _ => rfl)⟩
  have HU4 : Aside0 (Upd cb w w3.drew) := ⟨HU0.out.drew⟩
  have HBK4 := Aside0.mk (blk_drew HBK0.out)
  have d0 : w3.drew.cell? ⟨pb, 0, none⟩ = some (.slice A row.length c) := (blk_cell HBK4.out 0).trans rfl
  have d1 : w3.drew.cell? ⟨pb, 1, none⟩ = some (.pointer (some ⟨cb, 0, none⟩)) := (blk_cell HBK4.out 1).trans rfl
  have hRR4 := (Kd.R_grown HRR.out HU4.out (fun k hk e => hk (by injection e)))
  have HRR4 := Aside0.mk hRR4
  obtain ⟨q, hq⟩ : ∃ q : Int, q = (nthI row k : Int) + 1 := ⟨_, rfl⟩
  rw [← hq]
  have hl32 := HOK.out.len
  have hmw : wrap64 (q - 1) = (nthI row k : Int) := by rw [wrap_id (by omega) (by omega)]; omega
  have p0 : 0 ≤ wrap64 (q - 1) := by rw [hmw]; omega
  have p1 : wrap64 (q - 1) < row.length := by rw [hmw]; omega
  have p2 : wrap64 (q - 1) < ((psums row).length : Int) := by rw [hmw, psums_length]; omega
  obtain ⟨ad, e, hx0, hx1⟩ := at_T57 (Kd.R_reads' hRR4).2.2 _ p0 p1
  cases e
  have HMW := Aside0.mk hmw
  have HRD := Aside0.mk (show (rd_T57 row (wrap64 (q - 1))).f0 = (rd_T57 row (nthI row k)).f0 by rw [hmw])
  have HI0 := Aside0.mk i0
  have p0' := eq_true p0
  have p1' := eq_true p1
  have p2' := eq_true p2
  clear hx1 hq hmw hRR4 hl32 i0 p0 p1 p2 s0 HBS
  refine start_ (n := 27) (S := fun w' => w'.cell? ⟨pb, 0, none⟩ = some (.slice (some ad) row.length c) ∧ w'.cell? ⟨pb, 1, none⟩ = some (.pointer (some ⟨cb, 0, none⟩)) ∧ w'.cell? (ad.add ((wrap64 (q - 1)).toNat * 2)) = some (.int .i64 (rd_T57 row (wrap64 (q - 1))).f0)) (ds := []) #[false, false, false, false, false, false, false, false, false, false, false, false, false, false, false, false, false, false, false, false, false, false, false, false, false, false, false] (by kernel_rfl) rfl rfl ⟨d0, d1, hx0⟩ (fun hHeld => ?_); refine with_tabW nth_tab12 nth_bits12 (fun HT_ HW_ => ?_)
  refine pure_ (i := 0) (N := some 41) (v := ?_) (a' := ?_) #[true, false, false, false, false, false, false, false, false, false, false, false, false, false, false, false, false, false, false, false, false, false, false, false, false, false, false] rfl rfl (any_of HT_.out (by kernel_rfl)) (fun _ _ _ h => h) (Or.inl ⟨by rfl, ?_⟩) ?_ ?_
  rotate_left
  · intro w'
    go_simp
    with_reducible rfl
  rotate_left
  · simp only [Act.put, List.setIfInBounds_toArray, List.set_cons_zero, List.set_cons_succ, i64_w, i32_w]
    rfl
  refine pure_ (i := 1) (N := some 42) (v := ?_) (a' := ?_) #[true, true, false, false, false, false, false, false, false, false, false, false, false, false, false, false, false, false, false, false, false, false, false, false, false, false, false] rfl rfl (any_of HT_.out (by kernel_rfl)) (fun _ _ _ h => h) (Or.inl ⟨by rfl, ?_⟩) ?_ ?_
  rotate_left
  · intro w'
    go_simp
    with_reducible rfl
  rotate_left
  · simp only [Act.put, List.setIfInBounds_toArray, List.set_cons_zero, List.set_cons_succ, i64_w, i32_w]
    rfl
  refine pure_ (i := 2) (N := some 43) (v := ?_) (a' := ?_) #[true, true, true, false, false, false, false, false, false, false, false, false, false, false, false, false, false, false, false, false, false, false, false, false, false, false, false] rfl rfl (any_of HT_.out (by kernel_rfl)) (fun _ _ _ h => h) (Or.inl ⟨by rfl, ?_⟩) ?_ ?_
  rotate_left
  · intro w'
    go_simp
    with_reducible rfl
  rotate_left
  · simp only [Act.put, List.setIfInBounds_toArray, List.set_cons_zero, List.set_cons_succ, i64_w, i32_w]
    rfl
  refine pure_ (i := 3) (N := some 44) (v := ?_) (a' := ?_) #[true, true, true, true, false, false, false, false, false, false, false, false, false, false, false, false, false, false, false, false, false, false, false, false, false, false, false] rfl rfl (any_of HT_.out (by kernel_rfl)) (fun _ _ _ h => h) (Or.inl ⟨by rfl, ?_⟩) ?_ ?_
  rotate_left
  · intro w'
    go_simp
    with_reducible rfl
  rotate_left
  · simp only [Act.put, List.setIfInBounds_toArray, List.set_cons_zero, List.set_cons_succ, i64_w, i32_w]
    rfl
  refine pure_ (i := 4) (N := some 45) (v := ?_) (a' := ?_) #[true, true, true, true, true, false, false, false, false, false, false, false, false, false, false, false, false, false, false, false, false, false, false, false, false, false, false] rfl rfl (any_of HT_.out (by kernel_rfl)) (fun _ _ _ h => h) (Or.inl ⟨by rfl, ?_⟩) ?_ ?_
  rotate_left
  · intro w'
    go_simp
    with_reducible rfl
  rotate_left
  · simp only [Act.put, List.setIfInBounds_toArray, List.set_cons_zero, List.set_cons_succ, i64_w, i32_w]
    rfl
  refine pure_ (i := 5) (N := some 46) (v := ?_) (a' := ?_) #[true, true, true, true, true, true, false, false, false, false, false, false, false, false, false, false, false, false, false, false, false, false, false, false, false, false, false] rfl rfl (any_of HT_.out (by kernel_rfl)) (fun _ _ _ h => h) (Or.inl ⟨by rfl, ?_⟩) ?_ ?_
  rotate_left
  · intro w'
    go_simp
    with_reducible rfl
  rotate_left
  · simp only [Act.put, List.setIfInBounds_toArray, List.set_cons_zero, List.set_cons_succ, i64_w, i32_w]
    rfl
  refine pure_ (i := 6) (N := some 47) (v := ?_) (a' := ?_) #[true, true, true, true, true, true, true, false, false, false, false, false, false, false, false, false, false, false, false, false, false, false, false, false, false, false, false] rfl rfl (any_of HT_.out (by kernel_rfl)) (fun _ _ _ h => h) (Or.inl ⟨by rfl, ?_⟩) ?_ ?_
  rotate_left
  · intro w'
    go_simp
    with_reducible rfl
  rotate_left
  · simp only [Act.put, List.setIfInBounds_toArray, List.set_cons_zero, List.set_cons_succ, i64_w, i32_w]
    rfl
  refine pure_ (i := 8) (N := some 49) (v := ?_) (a' := ?_) #[true, true, true, true, true, true, true, false, true, false, false, false, false, false, false, false, false, false, false, false, false, false, false, false, false, false, false] rfl rfl (any_of HT_.out (by kernel_rfl)) (fun _ _ _ h => h) (Or.inl ⟨by rfl, ?_⟩) ?_ ?_
  rotate_left
  · intro w'
    go_simp
    with_reducible rfl
  rotate_left
  · simp only [Act.put, List.setIfInBounds_toArray, List.set_cons_zero, List.set_cons_succ, i64_w, i32_w]
    rfl
  refine pure_ (i := 9) (N := some 50) (v := ?_) (a' := ?_) #[true, true, true, true, true, true, true, false, true, true, false, false, false, false, false, false, false, false, false, false, false, false, false, false, false, false, false] rfl rfl (any_of HT_.out (by kernel_rfl)) (fun _ _ _ h => h) (Or.inl ⟨by rfl, ?_⟩) ?_ ?_
  rotate_left
  · intro w'
    go_simp
    with_reducible rfl
  rotate_left
  · simp only [Act.put, List.setIfInBounds_toArray, List.set_cons_zero, List.set_cons_succ, i64_w, i32_w]
    rfl
  refine pure_ (i := 14) (N := some 55) (v := ?_) (a' := ?_) #[true, true, true, true, true, true, true, false, true, true, false, false, false, false, true, false, false, false, false, false, false, false, false, false, false, false, false] rfl rfl (any_of HT_.out (by kernel_rfl)) (fun _ _ _ h => h) (Or.inl ⟨by rfl, ?_⟩) ?_ ?_
  rotate_left
  · intro w'
    go_simp
    with_reducible rfl
  rotate_left
  · simp only [Act.put, List.setIfInBounds_toArray, List.set_cons_zero, List.set_cons_succ, i64_w, i32_w]
    rfl
  refine pure_ (i := 16) (N := some 57) (v := ?_) (a' := ?_) #[true, true, true, true, true, true, true, false, true, true, false, false, false, false, true, false, true, false, false, false, false, false, false, false, false, false, false] rfl rfl (any_of HT_.out (by kernel_rfl)) (fun _ _ _ h => h) (Or.inl ⟨by rfl, ?_⟩) ?_ ?_
  rotate_left
  · intro w'
    go_simp
    with_reducible rfl
  rotate_left
  · simp only [Act.put, List.setIfInBounds_toArray, List.set_cons_zero, List.set_cons_succ, i64_w, i32_w]
    rfl
  refine pure_ (i := 17) (N := some 58) (v := ?_) (a' := ?_) #[true, true, true, true, true, true, true, false, true, true, false, false, false, false, true, false, true, true, false, false, false, false, false, false, false, false, false] rfl rfl (any_of HT_.out (by kernel_rfl)) (fun _ _ _ h => h) (Or.inl ⟨by rfl, ?_⟩) ?_ ?_
  rotate_left
  · intro w'
    go_simp
    with_reducible rfl
  rotate_left
  · simp only [Act.put, List.setIfInBounds_toArray, List.set_cons_zero, List.set_cons_succ, i64_w, i32_w]
    rfl
  refine pure_ (i := 18) (N := some 59) (v := ?_) (a' := ?_) #[true, true, true, true, true, true, true, false, true, true, false, false, false, false, true, false, true, true, true, false, false, false, false, false, false, false, false] rfl rfl (any_of HT_.out (by kernel_rfl)) (fun _ _ _ h => h) (Or.inl ⟨by rfl, ?_⟩) ?_ ?_
  rotate_left
  · intro w'
    go_simp
    with_reducible rfl
  rotate_left
  · simp only [Act.put, List.setIfInBounds_toArray, List.set_cons_zero, List.set_cons_succ, i64_w, i32_w]
    rfl
  refine pure_ (i := 21) (N := some 62) (v := ?_) (a' := ?_) #[true, true, true, true, true, true, true, false, true, true, false, false, false, false, true, false, true, true, true, false, false, true, false, false, false, false, false] rfl rfl (any_of HT_.out (by kernel_rfl)) (fun _ _ _ h => h) (Or.inl ⟨by rfl, ?_⟩) ?_ ?_
  rotate_left
  · intro w'
    go_simp
    with_reducible rfl
  rotate_left
  · simp only [Act.put, List.setIfInBounds_toArray, List.set_cons_zero, List.set_cons_succ, i64_w, i32_w]
    rfl
  refine pure_ (i := 22) (N := some 63) (v := ?_) (a' := ?_) #[true, true, true, true, true, true, true, false, true, true, false, false, false, false, true, false, true, true, true, false, false, true, true, false, false, false, false] rfl rfl (any_of HT_.out (by kernel_rfl)) (fun _ _ _ h => h) (Or.inl ⟨by rfl, ?_⟩) ?_ ?_
  rotate_left
  · intro w'
    go_simp
    with_reducible rfl
  rotate_left
  · simp only [Act.put, List.setIfInBounds_toArray, List.set_cons_zero, List.set_cons_succ, i64_w, i32_w]
    rfl
  refine take_ (i := 7) (N := some 48) (v := ?_) (a' := ?_) #[true, true, true, true, true, true, true, true, true, true, false, false, false, false, true, false, true, true, true, false, false, true, true, false, false, false, false] rfl rfl (take_ofW HT_.out HW_.out (by kernel_rfl)) (fun _ _ _ h => h) (Or.inl ⟨by rfl, ?_⟩) hHeld ?_ ?_
  rotate_left
  · rintro w' ⟨s0, s1, s2⟩
    go_simp
    with_reducible rfl
  rotate_left
  · simp only [Act.put, List.setIfInBounds_toArray, List.set_cons_zero, List.set_cons_succ, i64_w, i32_w]
    rfl
  refine pure_ (i := 10) (N := some 51) (v := ?_) (a' := ?_) #[true, true, true, true, true, true, true, true, true, true, true, false, false, false, true, false, true, true, true, false, false, true, true, false, false, false, false] rfl rfl (any_of HT_.out (by kernel_rfl)) (fun _ _ _ h => h) (Or.inl ⟨by rfl, ?_⟩) ?_ ?_
  rotate_left
  · intro w'
    go_simp
    with_reducible rfl
  rotate_left
  · simp only [Act.put, List.setIfInBounds_toArray, List.set_cons_zero, List.set_cons_succ, i64_w, i32_w]
    rfl
  refine pure_ (i := 11) (N := some 52) (v := ?_) (a' := ?_) #[true, true, true, true, true, true, true, true, true, true, true, true, false, false, true, false, true, true, true, false, false, true, true, false, false, false, false] rfl rfl (any_of HT_.out (by kernel_rfl)) (fun _ _ _ h => h) (Or.inl ⟨by rfl, ?_⟩) ?_ ?_
  rotate_left
  · intro w'
    go_simp
    with_reducible rfl
  rotate_left
  · simp only [Act.put, List.setIfInBounds_toArray, List.set_cons_zero, List.set_cons_succ, i64_w, i32_w]
    rfl
  refine take_ (i := 12) (N := some 53) (v := ?_) (a' := ?_) #[true, true, true, true, true, true, true, true, true, true, true, true, true, false, true, false, true, true, true, false, false, true, true, false, false, false, false] rfl rfl (take_ofW HT_.out HW_.out (by kernel_rfl)) (fun _ _ _ h => h) (Or.inl ⟨by rfl, ?_⟩) hHeld ?_ ?_
  rotate_left
  · rintro w' ⟨s0, s1, s2⟩
    go_simp
    with_reducible rfl
  rotate_left
  · simp only [Act.put, List.setIfInBounds_toArray, List.set_cons_zero, List.set_cons_succ, i64_w, i32_w]
    rfl
  refine pure_ (i := 13) (N := some 54) (v := ?_) (a' := ?_) #[true, true, true, true, true, true, true, true, true, true, true, true, true, true, true, false, true, true, true, false, false, true, true, false, false, false, false] rfl rfl (any_of HT_.out (by kernel_rfl)) (fun _ _ _ h => h) (Or.inl ⟨by rfl, ?_⟩) ?_ ?_
  rotate_left
  · intro w'
    go_simp
    with_reducible rfl
  rotate_left
  · simp only [Act.put, List.setIfInBounds_toArray, List.set_cons_zero, List.set_cons_succ, i64_w, i32_w]
    rfl
  refine pure_ (i := 15) (N := some 56) (v := ?_) (a' := ?_) #[true, true, true, true, true, true, true, true, true, true, true, true, true, true, true, true, true, true, true, false, false, true, true, false, false, false, false] rfl rfl (any_of HT_.out (by kernel_rfl)) (fun _ _ _ h => h) (Or.inl ⟨by rfl, ?_⟩) ?_ ?_
  rotate_left
  · intro w'
    go_simp
    with_reducible rfl
  rotate_left
  · simp only [Act.put, List.setIfInBounds_toArray, List.set_cons_zero, List.set_cons_succ, i64_w, i32_w]
    rfl
  refine take_ (i := 19) (N := some 60) (v := ?_) (a' := ?_) #[true, true, true, true, true, true, true, true, true, true, true, true, true, true, true, true, true, true, true, true, false, true, true, false, false, false, false] rfl rfl (take_ofW HT_.out HW_.out (by kernel_rfl)) (fun _ _ _ h => h) (Or.inl ⟨by rfl, ?_⟩) hHeld ?_ ?_
  rotate_left
  · rintro w' ⟨s0, s1, s2⟩
    go_simp
    with_reducible rfl
  rotate_left
  · simp only [Act.put, List.setIfInBounds_toArray, List.set_cons_zero, List.set_cons_succ, i64_w, i32_w]
    rfl
  refine one_ (i := 20) (N := some 61) #[true, true, true, true, true, true, true, true, true, true, true, true, true, true, true, true, true, true, true, true, true, true, true, false, false, false, false] rfl rfl (one_of HT_.out (by kernel_rfl)) (by decide) (fun K hK => ?_)
  refine goes_ Try.func57 (by kernel_rfl) rfl #[.pointer (some ⟨cb, 0, none⟩)] (by rfl) rfl rfl (by (try simp only [List.map_toArray, List.map_cons, List.map_nil]); first | done | rfl) ?_
  refine (get_any cb pb n row _ HP4.out HN4.out).mono ?_
  rintro e w5 ⟨A5, k5, rfl, P5, hC5, hl5, U5⟩
  refine ⟨_, rfl, ?_⟩
  have HBK5 := Aside0.mk (U5.blk HBK4.out HP4.out.ne)
  have e0 : w5.cell? ⟨pb, 0, none⟩ = some (.slice (some ad) row.length c) := (blk_cell HBK5.out 0).trans rfl
  have e1 : w5.cell? ⟨pb, 1, none⟩ = some (.pointer (some ⟨cb, 0, none⟩)) := (blk_cell HBK5.out 1).trans rfl
  obtain ⟨ad4, ee, ex0, _⟩ := at_T57 (Kd.R_reads' (Kd.R_grown HRR4.out U5 (fun k hk e => hk (by injection e)))).2.2 (wrap64 (q - 1)) (of_eq_true p0') (of_eq_true p1')
  cases ee
  obtain ⟨ad2, e2, hx2⟩ := Kd.at_int hC5 (wrap64 (q - 1)) (of_eq_true p0') (of_eq_true p2')
  cases e2
  have HRS : Aside0 (rd (psums row) (wrap64 (q - 1)) = secs (row.take (nthI row k))) := ⟨by rw [HMW.out]; exact psums_rd row _ (by have := HI0.out; omega)⟩
  have HP5 := Aside0.mk P5
  have HU5 := Aside0.mk (HU4.out.trans U5)
  clear hC5 P5 U5
  refine hK.out _ _ ⟨e0, e1, ex0⟩ (fun hHeld => ?_)
  clear hK K
  refine norm_ (a' := ?_) ?_ ?_
  rotate_left
  · show Act.put _ (some 61) _ = _
    simp only [Act.put, List.setIfInBounds_toArray, List.set_cons_zero, List.set_cons_succ, i64_w, i32_w]
    rfl
  refine switch_ (fun hHeld => ?_)
  refine pure_ (i := 23) (N := some 64) (v := ?_) (a' := ?_) #[true, true, true, true, true, true, true, true, true, true, true, true, true, true, true, true, true, true, true, true, true, true, true, true, false, false, false] rfl rfl (any_of HT_.out (by kernel_rfl)) (fun _ _ _ h => h) (Or.inl ⟨by rfl, ?_⟩) ?_ ?_
  rotate_left
  · intro w'
    go_simp
    with_reducible rfl
  rotate_left
  · simp only [Act.put, List.setIfInBounds_toArray, List.set_cons_zero, List.set_cons_succ, i64_w, i32_w]
    rfl
  refine take_ (i := 24) (N := some 65) (v := ?_) (a' := ?_) #[true, true, true, true, true, true, true, true, true, true, true, true, true, true, true, true, true, true, true, true, true, true, true, true, true, false, false] rfl rfl (take_ofW HT_.out HW_.out (by kernel_rfl)) (fun _ _ _ h => h) (Or.inl ⟨by rfl, ?_⟩) hHeld ?_ ?_
  rotate_left
  · rintro w' rfl
    go_simp
    with_reducible rfl
  rotate_left
  · simp only [Act.put, List.setIfInBounds_toArray, List.set_cons_zero, List.set_cons_succ, i64_w, i32_w]
    rfl
  refine pure_ (i := 25) (N := some 66) (v := ?_) (a' := ?_) #[true, true, true, true, true, true, true, true, true, true, true, true, true, true, true, true, true, true, true, true, true, true, true, true, true, true, false] rfl rfl (any_of HT_.out (by kernel_rfl)) (fun _ _ _ h => h) (Or.inl ⟨by rfl, ?_⟩) ?_ ?_
  rotate_left
  · intro w'
    go_simp
    with_reducible rfl
  rotate_left
  · simp only [Act.put, List.setIfInBounds_toArray, List.set_cons_zero, List.set_cons_succ, i64_w, i32_w]
    rfl
  refine pure_ (i := 26) (N := some 10) (v := ?_) (a' := ?_) #[true, true, true, true, true, true, true, true, true, true, true, true, true, true, true, true, true, true, true, true, true, true, true, true, true, true, true] rfl rfl (any_of HT_.out (by kernel_rfl)) (fun _ _ _ h => h) (Or.inl ⟨by rfl, ?_⟩) ?_ ?_
  rotate_left
  · intro w'
    go_simp
    with_reducible rfl
  rotate_left
  · simp only [Act.put, List.setIfInBounds_toArray, List.set_cons_zero, List.set_cons_succ, i64_w, i32_w]
    rfl
  refine done_ (done_of HT_.out (by kernel_rfl)) ?_
  have hv : wrap64 (wrap64 (wrap64 (wrap64 (k / secs row * 604800) + (rd_T57 row (wrap64 (q - 1))).f0) + k % secs row) - rd (psums row) (wrap64 (q - 1))) = U := by
    have hmem := HOK.out.mem (rd_T57 row (nthI row k)) (by rw [rd_at row _ HI0.out]; exact List.getElem_mem _)
    have h2 := (HOK.out.take (nthI row k)).secs (by omega)
    rw [HRS.out, HRD.out, HE.out]
    have h3 := HOK.out.secs (by omega)
    rw [wrap_id (x := k / secs row * 604800) (by omega) (by omega), wrap_id (x := k / secs row * 604800 + (rd_T57 row (nthI row k)).f0) (by omega) (by omega), wrap_id (x := k / secs row * 604800 + (rd_T57 row (nthI row k)).f0 + k % secs row) (by omega) (by omega), wrap_id (by omega) (by omega)]
  rw [hv]
  have hgt : ¬ 2251799813685248 < U := by omega
  have hgd : decide (2251799813685248 < U) = false := decide_eq_false hgt
  clear hv hHeld
  go_wp2
  go_ret2
  exact ⟨rfl, HP5.out, HU5.out⟩
end Go.Proofs.Ytknlpeabmpllmaa.Own

set_option linter.unusedVariables false
set_option linter.unusedSimpArgs false
namespace Go.Proofs.Ytknlpeabmpllmaa.Own
open Go.RowKit Go.Proofs Go.Proofs.YtknlpeabmpllmaaW.PrintWords Go.Proofs.YtknlpeabmpllmaaW.PrintLast Go.Proofs.YtknlpeabmpllmaaW.PrintMore Go.Proofs.Ytknlpeabmpllmaa.Base

/-- An almanac, made from block n on; none of its blocks is cb. -/
structure AlmAt (w : World) (n ab cb : Nat) (row : List S57) : Prop where
  ok : RowOk 1125899906842624 row
  nab : n ≤ ab
  ne : ab ≠ cb
  blk : ∃ A c, w.heap[ab]? = some (.cells #[.slice A row.length c] 90 (0, 0)) ∧ row.length ≤ c ∧ Kd.R k57 57 w n (fun k => k ≠ cb) (.slice A row.length c) row
theorem AlmAt.keep {w w' : World} {n ab cb : Nat} {row : List S57} (h : AlmAt w n ab cb row) (hm : ∀ k, k < w.heap.size → n ≤ k → k ≠ cb → w'.heap[k]? = w.heap[k]?) : AlmAt w' n ab cb row := by
  obtain ⟨A, c, hb, hc, hr⟩ := h.blk
  exact ⟨h.ok, h.nab, h.ne, ⟨A, c, (hm ab (blk_lt hb) h.nab h.ne).trans hb, hc, Kd.R_mono (Kd.R_step (Kd.R_bound hr) (fun k hk hlt => hm k hlt hk.2.1 hk.1)) (fun _ hk => hk.1)⟩⟩
theorem AlmAt.below {w w' : World} {n ab cb : Nat} {row : List S57} (h : AlmAt w n ab cb row) (hb : Below w.heap.size w w') : AlmAt w' n ab cb row := h.keep (fun k hk _ _ => hb.block k hk)
theorem AlmAt.upd {w w' : World} {n ab cb : Nat} {row : List S57} (h : AlmAt w n ab cb row) (hu : Upd cb w w') : AlmAt w' n ab cb row := h.keep (fun k hk _ hne => hu.block k hk (fun e => hne (by injection e)))

set_option maxRecDepth 100000 in
theorem almnew_no (A : Option Addr) (c : Nat) (l : List S57) (w : World) (hr : Kd.C k57 w A l.length l) (hc : l.length ≤ c) (he : rowErr l ≠ 0) :
    Calls Try.prog 29 #[.slice A l.length c] w fun e w' => e = .returned (.tuple #[.pointer none, .int .i64 (rowErr l)]) ∧ Below w.heap.size w w' := by
  have HR := Aside0.mk hr
  have hne : (rowErr l != 0) = true := bne_iff_ne.mpr he
  have hne' : (rowErr l == 0) = false := beq_eq_false_iff_ne.mpr he
  clear hr he
  go_enter Try.func29, Try.ntmps29
  go_wp2_with (go_at_call 52; refine (row_any _ c l _ HR.out hc).mono ?_; rintro e w1 ⟨rfl, hb⟩; have HB := Aside0.mk hb; clear hb)
  go_ret2
  exact ⟨rfl, HB.out⟩

set_option maxRecDepth 100000 in
theorem almnew_yes (A : Option Addr) (c : Nat) (l : List S57) (w : World) (hr : Kd.C k57 w A l.length l) (hc : l.length ≤ c) (he : rowErr l = 0) :
    Calls Try.prog 29 #[.slice A l.length c] w fun e w' => ∃ ab A' c', e = .returned (.tuple #[.pointer (some ⟨ab, 0, none⟩), .int .i64 0]) ∧ w'.heap[ab]? = some (.cells #[.slice A' l.length c'] 90 (0, 0)) ∧ l.length ≤ c' ∧ Kd.R k57 57 w' w.heap.size (fun _ => True) (.slice A' l.length c') l ∧ w.heap.size ≤ ab ∧ Below w.heap.size w w' := by
  have HR := Aside0.mk hr
  have HOK := Aside0.mk (rowErr_ok he)
  have H0 := Aside0.mk he
  have hl32 := HOK.out.len
  clear hr he
  go_enter Try.func29, Try.ntmps29
  go_wp2_with (first | (go_at_call 52; refine (row_any _ c l _ HR.out hc).mono ?_; rintro e w1 ⟨rfl, hb⟩; rw [H0.out]; have HB := Aside0.mk hb; clear hb) | (go_at_call 53; refine (clone_any _ c l _ (Kd.C_below HR.out HB.out) hc hl32).mono ?_; rintro e w2 ⟨A2, c2, rfl, hc2, hR2, hb⟩; have HR2 := Aside0.mk (Kd.R_lower hR2 HB.out.size); have n0 := Aside0.mk (below_step HB.out hb); clear HB; have HB := n0; clear n0 hR2 hb))
  go_ret2
  exact ⟨w2.heap.size, A2, c2, rfl, blk_new w2 _, hc2, Kd.R_alloc HR2.out _, HB.out.size, below_alloc HB.out _⟩

theorem all_any (n ab cb : Nat) (row : List S57) (A : Option Addr) (c : Nat) (w : World) (hb : w.heap[ab]? = some (.cells #[.slice A row.length c] 90 (0, 0))) :
    Calls Try.prog 63 #[.pointer (some ⟨ab, 0, none⟩)] w fun e w' => e = .returned (.slice A row.length c) ∧ w = w' := by
  have c0 : w.cell? ⟨ab, 0, none⟩ = some (.slice A row.length c) := (blk_cell hb 0).trans rfl
  clear hb
  go_enter Try.func63, Try.ntmps63
  go_wp2
  go_ret
  exact ⟨rfl, rfl⟩

theorem almrow_any (n ab cb : Nat) (row : List S57) (w : World) (h : AlmAt w n ab cb row) :
    Calls Try.prog 42 #[.pointer (some ⟨ab, 0, none⟩)] w fun e w' => ∃ A' c', e = .returned (.slice A' row.length c') ∧ row.length ≤ c' ∧ Kd.R k57 57 w' w.heap.size (fun _ => True) (.slice A' row.length c') row ∧ Below w.heap.size w w' := by
  obtain ⟨A, c, hb, hc, hr⟩ := h.blk
  have HBK := Aside0.mk hb
  have HR := Aside0.mk (Kd.R_reads' hr).2.2
  have hl := h.ok.len
  clear hb hr h
  go_enter Try.func42, Try.ntmps42
  go_wp2_with (first | (go_at_call 63; refine (all_any n ab cb row A c _ HBK.out).mono ?_; rintro e w1 ⟨rfl, rfl⟩) | (go_at_call 53; refine (clone_any _ c row _ HR.out hc hl).mono ?_; rintro e w2 ⟨A2, c2, rfl, hc2, hR2, hb⟩; have HR2 := Aside0.mk hR2; have HB := Aside0.mk hb; clear hb hR2))
  go_ret
  exact ⟨A2, c2, rfl, hc2, HR2.out, HB.out⟩

set_option maxHeartbeats 1600000 in
set_option maxRecDepth 100000 in
theorem index_any (A : Option Addr) (c tb : Nat) (l : List S57) (t : Int) (w : World) (hr : Kd.C k57 w A l.length l) (hc : l.length ≤ c) (hl : l.length ≤ 32) (ht : w.cell? ⟨tb, 0, none⟩ = some (.int .i64 t)) :
    Calls Try.prog 73 #[.slice A l.length c, .func (.func 74) #[] #[.pointer (some ⟨tb, 0, none⟩)]] w fun e w' => e = .returned (.int .i64 (if atP l t < l.length then (atP l t : Int) else -1)) ∧ Below w.heap.size w w' := by
  have HR := Aside0.mk hr
  have HT := Aside0.mk ht
  have HB := Aside0.mk (Below.refl w.heap.size w)
  have HE : Aside0 ((if atP l t < l.length then (atP l t : Int) else -1) = (if atP l t < l.length then (atP l t : Int) else -1)) := ⟨rfl⟩
  generalize hU : (if atP l t < l.length then (atP l t : Int) else -1) = U
  have HU := Aside0.mk hU
  clear hr ht hU HE
  go_enter Try.func73, Try.ntmps73
  go_wp2
  go_loopg [8, 5] l.length (fun g v8 v5 w' => ∃ i : Int, v8 = .int .i64 i ∧ Aside0 (0 ≤ i ∧ i ≤ atP l t ∧ i ≤ l.length ∧ (g : Int) = l.length - i) ∧ Aside0 (Below w.heap.size w w'))
  case atStart => exact ⟨0, rfl, ⟨by omega, by omega, by omega, by omega⟩, HB⟩
  case round =>
    clear HB
    obtain ⟨i, rfl, HI, HB⟩ := hrel
    have hI := HI.out
    by_cases hlt : i < l.length
    · have p0 : 0 ≤ i := hI.1
      obtain ⟨ad, e, hx0, hx1⟩ := at_T57 HR.out i p0 hlt
      cases e
      replace hx0 := (HB.out.cell (World.block_lt_of_cell? w _ hx0)).trans hx0
      replace hx1 := (HB.out.cell (World.block_lt_of_cell? w _ hx1)).trans hx1
      have ct : wr.cell? ⟨tb, 0, none⟩ = some (.int .i64 t) := (HB.out.cell (World.block_lt_of_cell? w _ HT.out)).trans HT.out
      have htb : tb < wr.heap.size := World.block_lt_of_cell? _ _ ct
      have p1 : i ≤ 32 := by omega
      have hin : i.toNat < l.length := by omega
      have hrd : rd_T57 l i = l[i.toNat]'hin := by
        rw [← rd_at l i.toNat hin]
        congr 1
        omega
      have HRD := Aside0.mk hrd
      clear hI hrd
      go_wp2
      · have hle : t < (rd_T57 l i).f1 := by assumption
        rw [HRD.out] at hle
        have h1 := atP_ge hin hle
        have hU : U = i := by rw [← HU.out, if_pos (by have := HI.out; omega)]; have := HI.out; omega
        go_ret
        exact ⟨by rw [hU]; rfl, below_alloc HB.out _⟩
      · have hle : (rd_T57 l i).f1 ≤ t := by assumption
        rw [HRD.out] at hle
        have h1 : i.toNat < atP l t := by
          rcases Nat.lt_or_ge i.toNat (atP l t) with h | h
          · exact h
          · have h2 : i.toNat = atP l t := by have := HI.out; omega
            have h3 := atP_at (l := l) (t := t) (by omega)
            simp only [← h2] at h3
            omega
        go_roundg (gk - 1)
        case measure => have := HI.out; omega
        case rel => exact ⟨i + 1, by (first | rfl | go_num), ⟨by have := HI.out; omega, by omega, by omega, by have := HI.out; omega⟩, ⟨below_alloc HB.out _⟩⟩
    · have hU : U = -1 := by rw [← HU.out, if_neg (by omega)]
      have HU1 := Aside0.mk hU
      clear hI hU HU
      go_wp2
      go_ret
      exact ⟨by rw [HU1.out]; rfl, HB.out⟩

/-- The next closed span. -/
def nxtP (row : List S57) (t : Int) : S57 := if atP row t < row.length then rd_T57 row (atP row t) else ⟨0, 0⟩
set_option maxHeartbeats 1600000 in
set_option maxRecDepth 100000 in
theorem next_any (n ab cb : Nat) (row : List S57) (t : Int) (w : World) (h : AlmAt w n ab cb row) :
    Calls Try.prog 59 #[.pointer (some ⟨ab, 0, none⟩), .int .i64 t] w fun e w' => e = .returned (.tuple #[.agg #[.int .i64 (nxtP row t).f0, .int .i64 (nxtP row t).f1], .bool (decide (atP row t < row.length))]) ∧ Below w.heap.size w w' := by
  obtain ⟨A, c, hb, hc, hr⟩ := h.blk
  have hmf : ∀ (fn : Fn) (first cap : Array Value) (w : World), (Instr.makeFunc fn first cap).run Try.prog w = .ok (.func fn first cap) w := fun _ _ _ _ => rfl
  have hl := h.ok.len
  have HR := Aside0.mk (Kd.R_reads' hr).2.2
  have W2 : Aside0 (Below w.heap.size w ((w.alloc (.cells #[.int .i64 t] 2)).alloc (.cells #[.int .i64 0, .int .i64 0] 57))) := ⟨below_alloc (below_alloc (Below.refl _ _) _) _⟩
  have HBK := Aside0.mk (blk_below hb W2.out)
  have BT := Aside0.mk (blk_alloc (blk_new w (.cells #[.int .i64 t] 2)) (.cells #[.int .i64 0, .int .i64 0] 57))
  have BS := Aside0.mk (blk_new (w.alloc (.cells #[.int .i64 t] 2)) (.cells #[.int .i64 0, .int .i64 0] 57))
  have HSZ : Aside0 ((w.alloc (.cells #[.int .i64 t] 2)).heap.size = w.heap.size + 1) := ⟨by simp⟩
  have HRW := Aside0.mk (Kd.C_below HR.out W2.out)
  clear hb hr h
  rw [show (w.alloc (.cells #[.int .i64 t] 2)).heap.size = w.heap.size + 1 by simp] at BS
  have hat := atP_le row t
  have HIX := fun (w2 : World) (h1 : Kd.C k57 w2 A row.length row) (h2 : w2.cell? ⟨w.heap.size, 0, none⟩ = some (.int .i64 t)) => index_any A c w.heap.size row t w2 h1 hc hl h2
  have HX := Aside0.mk HIX
  clear HIX
  unfold nxtP
  generalize atP row t = i at hat HX ⊢
  by_cases hi : i < row.length
  · simp only [if_pos hi] at HX ⊢
    rw [decide_eq_true hi]
    have p0 : (0 : Int) ≤ i := by omega
    have p1 : (i : Int) < row.length := by omega
    obtain ⟨ad, e, hx0, hx1⟩ := at_T57 HRW.out i p0 p1
    cases e
    rw [Int.toNat_natCast] at hx0 hx1
    go_enter Try.func59, Try.ntmps59
    go_wp2_with fail
    generalize ((w.alloc (.cells #[.int .i64 t] 2)).alloc (.cells #[.int .i64 0, .int .i64 0] 57)) = w2 at W2 HBK BT BS HRW hx0 hx1 ⊢
    go_wp2_with (first | (go_at_call 63; refine (all_any n ab cb row _ c _ HBK.out).mono ?_; rintro e w1 ⟨rfl, rfl⟩) | (go_at_call 73; refine (HX.out _ HRW.out ((blk_cell BT.out 0).trans rfl)).mono ?_; rintro e w3 ⟨rfl, hb⟩; have B3 := Aside0.mk (below_step W2.out hb); have BS3 := Aside0.mk (blk_below BS.out hb); replace hx0 := (hb.cell (World.block_lt_of_cell? _ _ hx0)).trans hx0; replace hx1 := (hb.cell (World.block_lt_of_cell? _ _ hx1)).trans hx1; clear hb; have d0 : w3.cell? ⟨w.heap.size + 1, 0, none⟩ = some (.int .i64 0) := (blk_cell BS3.out 0).trans rfl; have d1 : w3.cell? ⟨w.heap.size + 1, 1, none⟩ = some (.int .i64 0) := (blk_cell BS3.out 1).trans rfl; have f0 : w3.frozen? ⟨w.heap.size + 1, 0, none⟩ = false := blk_frozen BS3.out 0; have f1 : w3.frozen? ⟨w.heap.size + 1, 1, none⟩ = false := blk_frozen BS3.out 1))
    refine bodyPost_ret (v := .tuple #[.agg #[.int .i64 (rd_T57 row i).f0, .int .i64 (rd_T57 row i).f1], .bool true]) (by simp [results, Try.results59, go_sem, d0, d1]) rfl ⟨rfl, ?_⟩
    repeat (first | exact B3.out | refine below_set ?_ (Nat.le_succ _))
  · simp only [if_neg hi] at HX ⊢
    rw [decide_eq_false hi]
    go_enter Try.func59, Try.ntmps59
    go_wp2_with fail
    generalize ((w.alloc (.cells #[.int .i64 t] 2)).alloc (.cells #[.int .i64 0, .int .i64 0] 57)) = w2 at W2 HBK BT BS HRW ⊢
    go_wp2_with (first | (go_at_call 63; refine (all_any n ab cb row _ c _ HBK.out).mono ?_; rintro e w1 ⟨rfl, rfl⟩) | (go_at_call 73; refine (HX.out _ HRW.out ((blk_cell BT.out 0).trans rfl)).mono ?_; rintro e w3 ⟨rfl, hb⟩; have B3 := Aside0.mk (below_step W2.out hb); have BS3 := Aside0.mk (blk_below BS.out hb); clear hb; have d0 : w3.cell? ⟨w.heap.size + 1, 0, none⟩ = some (.int .i64 0) := (blk_cell BS3.out 0).trans rfl; have d1 : w3.cell? ⟨w.heap.size + 1, 1, none⟩ = some (.int .i64 0) := (blk_cell BS3.out 1).trans rfl; have f0 : w3.frozen? ⟨w.heap.size + 1, 0, none⟩ = false := blk_frozen BS3.out 0; have f1 : w3.frozen? ⟨w.heap.size + 1, 1, none⟩ = false := blk_frozen BS3.out 1))
    refine bodyPost_ret (v := .tuple #[.agg #[.int .i64 0, .int .i64 0], .bool false]) (by simp [results, Try.results59, go_sem, d0, d1]) rfl ⟨rfl, ?_⟩
    repeat (first | exact B3.out | refine below_set ?_ (Nat.le_succ _))

/-- Is a second closed? -/
def closedP (row : List S57) (t : Int) : Bool := decide (atP row t < row.length) && decide ((nxtP row t).f0 ≤ t)
set_option maxRecDepth 100000 in
theorem closed_any (n ab cb : Nat) (row : List S57) (t : Int) (w : World) (h : AlmAt w n ab cb row) :
    Calls Try.prog 37 #[.pointer (some ⟨ab, 0, none⟩), .int .i64 t] w fun e w' => e = .returned (.bool (closedP row t)) ∧ Below w.heap.size w w' := by
  have HN := Aside0.mk (next_any n ab cb row t w h)
  clear h
  have HE : Aside0 (closedP row t = (decide (atP row t < row.length) && decide ((nxtP row t).f0 ≤ t))) := ⟨rfl⟩
  generalize closedP row t = U at HE ⊢
  generalize nxtP row t = s at HN HE
  by_cases hi : atP row t < row.length
  · rw [decide_eq_true hi] at HN HE
    go_enter Try.func37, Try.ntmps37
    go_wp2_with (go_at_call 59; refine HN.out.mono ?_; rintro e w1 ⟨rfl, hb⟩; have HB := Aside0.mk hb; clear hb)
    go_ret
    exact ⟨by rw [HE.out]; simp, below_alloc HB.out _⟩
  · rw [decide_eq_false hi] at HN HE
    go_enter Try.func37, Try.ntmps37
    go_wp2_with (go_at_call 59; refine HN.out.mono ?_; rintro e w1 ⟨rfl, hb⟩; have HB := Aside0.mk hb; clear hb)
    go_ret
    exact ⟨by rw [HE.out]; simp, below_alloc HB.out _⟩
end Go.Proofs.Ytknlpeabmpllmaa.Own
