/- ChainPlans, part 4: what the claim needs of Plan0, Sums, Cell, Clone, Row, WeekNew, At, Switch, Total, Open, Nth0, Nth, Alm, Clock, Cut, Lost, New, Clk2, Far, Free0, Math, Math2, Round, Free, Due0. -/
import Derived.Test.YtepldlnmeenlbaaGreatChainPlans3
import Derived.Test.YtepldlnmeenlbaaGreatProg
import Derived.Below
import Derived.Deep.Draws
import Derived.Deep.AppendLies
import Derived.Maps.AppendAt
import Derived.OwnWalk
import Derived.Laws.BytesArg
import Derived.Laws.MakeOwn
import Derived.Laws.OwnMore
import Derived.Deep.OwnRows
import Derived.Tactics
import Derived.Lib.ConvBytes
import Derived.Laws.Slices
import Derived.WalkKit
import Derived.KernelRfl
import Derived.RowKit3
import Derived.Deep.LoopGhost
import Derived.Deep.QuietTactic
import Derived.BigQuiet
import Derived.WideLaws
import Derived.Deep.DeepCutAuto
import Derived.Deep.CutBlock
import Derived.Deep.RegionHeld3
import Derived.Laws.Rows
import Derived.Lib.AppendStr
import Derived.ArgAppend
import Derived.Laws.IdiomCopy
import Derived.OrdersHeld
import Derived.Laws.BitsLemmas
import Derived.RowKit
import Derived.Laws.StructEq
import Derived.Tactics2
import Derived.Defers
import Derived.Laws.Pointers
import Derived.Laws.LoneSync
import Derived.Laws.NewBlocks
import Derived.RegionTactic
import Derived.RegionCalls
import Derived.ChangeAlike
import Derived.StillTailTactics
import Derived.Outline
import Derived.Handy
import Derived.SizedLaws
import Derived.ChangeSlices
import Derived.Laws.EntriesVeiled
import Derived.WalkSpells
import Derived.RangeFuncNested
import Derived.RangeFuncBound
import Derived.RangeFuncCalls
import Derived.RangeFuncLeaves
import Derived.Shelf.Abstract
import Derived.Shelf.RegionOpen
import Derived.OwnWalkIn
import Derived.TacticsInMore
import Derived.LoopNIn
import Derived.LoopIn
import Derived.OrdersIn
set_option linter.unusedVariables false
set_option linter.unusedSimpArgs false
namespace Go.Proofs.YtepldlnmeenlbaaGreat.Own
open Go.RowKit Go.Proofs Go.Proofs.YtepldlnmeenlbaaGreatW.PrintWords Go.Proofs.YtepldlnmeenlbaaGreatW.PrintLast Go.Proofs.YtepldlnmeenlbaaGreatW.PrintMore Go.Proofs.YtepldlnmeenlbaaGreat.Base
def RowFrom : Int → List S114 → Prop
  | _, [] => True
  | lo, s :: r => lo ≤ s.f0 ∧ s.f0 < s.f1 ∧ RowFrom s.f1 r
def secs : List S114 → Int
  | [] => 0
  | s :: r => s.f1 - s.f0 + secs r
structure RowOk (hi : Int) (l : List S114) : Prop where
  len : l.length ≤ 32
  row : RowFrom 0 l
  top : ∀ s, s ∈ l → s.f1 ≤ hi
theorem RowFrom.mono {lo lo' : Int} {l : List S114} (h : RowFrom lo l) (hl : lo' ≤ lo) : RowFrom lo' l := by
  cases l with
  | nil => trivial
  | cons s r => exact ⟨by have := h.1; omega, h.2⟩
theorem secs_append (a b : List S114) : secs (a ++ b) = secs a + secs b := by
  induction a with
  | nil => simp [secs]
  | cons s r ih => simp [secs, ih]; omega
theorem secs_bound {lo hi : Int} {l : List S114} (h : RowFrom lo l) (ht : ∀ s, s ∈ l → s.f1 ≤ hi) : 0 ≤ secs l ∧ (l ≠ [] → lo + secs l ≤ hi) := by
  induction l generalizing lo with
  | nil => exact ⟨Int.le_refl _, fun h => absurd rfl h⟩
  | cons s r ih =>
    obtain ⟨h1, h2, h3⟩ := h
    obtain ⟨i1, i2⟩ := ih h3 (fun s hs => ht s (List.mem_cons_of_mem _ hs))
    have := ht s List.mem_cons_self
    refine ⟨by simp only [secs]; omega, fun _ => ?_⟩
    simp only [secs]
    cases r with
    | nil => simp only [secs] at *; omega
    | cons t u => have := i2 (by simp); omega
theorem RowFrom.take {lo : Int} {l : List S114} (h : RowFrom lo l) (n : Nat) : RowFrom lo (l.take n) := by
  induction l generalizing lo n with
  | nil => simpa using h
  | cons s r ih =>
    cases n with
    | zero => trivial
    | succ n => exact ⟨h.1, h.2.1, ih h.2.2 n⟩
theorem RowOk.take {hi : Int} {l : List S114} (h : RowOk hi l) (n : Nat) : RowOk hi (l.take n) :=
  ⟨by have := h.len; have : (l.take n).length ≤ l.length := by simp [List.length_take]; omega
      omega, h.row.take n, fun s hs => h.top s (List.mem_of_mem_take hs)⟩
theorem RowOk.secs {hi : Int} {l : List S114} (h : RowOk hi l) (h0 : 0 ≤ hi) : 0 ≤ secs l ∧ secs l ≤ hi := by
  obtain ⟨a, b⟩ := secs_bound h.row h.top
  refine ⟨a, ?_⟩
  cases l with
  | nil => simpa [Own.secs] using h0
  | cons s r => have := b (by simp); omega
theorem RowOk.mem {hi : Int} {l : List S114} (h : RowOk hi l) : ∀ s, s ∈ l → 0 ≤ s.f0 ∧ s.f0 < s.f1 ∧ s.f1 ≤ hi := by
  have key : ∀ (l : List S114) (lo : Int), 0 ≤ lo → RowFrom lo l → ∀ s, s ∈ l → 0 ≤ s.f0 ∧ s.f0 < s.f1 := by
    intro l
    induction l with
    | nil => intro lo _ _ s hs; cases hs
    | cons t r ih =>
      intro lo hlo hr s hs
      obtain ⟨h1, h2, h3⟩ := hr
      rcases List.mem_cons.1 hs with rfl | hs
      · exact ⟨by omega, h2⟩
      · exact ih _ (by omega) h3 s hs
  intro s hs
  obtain ⟨a, b⟩ := key l 0 (Int.le_refl _) h.row s hs
  exact ⟨a, b, h.top s hs⟩
def psums (l : List S114) : List Int := (List.range (l.length + 1)).map fun i => secs (l.take i)
theorem psums_length (l : List S114) : (psums l).length = l.length + 1 := by simp [psums]
theorem psums_get (l : List S114) (i : Nat) (h : i ≤ l.length) : (psums l)[i]? = some (secs (l.take i)) := by
  simp [psums, List.getElem?_map, List.getElem?_range (show i < l.length + 1 by omega)]
theorem psums_take (l : List S114) (i : Nat) (h : i < l.length) : psums (l.take (i + 1)) = psums (l.take i) ++ [secs (l.take i) + (rd_T114 l i).f1 - (rd_T114 l i).f0] := by
  have hl : (l.take (i + 1)).length = i + 1 := by simp; omega
  have hl' : (l.take i).length = i := by simp; omega
  unfold psums
  rw [hl, hl', List.range_succ, List.map_append]
  congr 1
  · apply List.map_congr_left
    intro j hj
    have := List.mem_range.1 hj
    rw [List.take_take, List.take_take, Nat.min_eq_left (by omega), Nat.min_eq_left (by omega)]
  · simp only [List.map_cons, List.map_nil, List.cons.injEq, and_true]
    rw [List.take_take, Nat.min_eq_left (by omega), List.take_succ_eq_append_getElem h, secs_append]
    have : rd_T114 l i = l[i] := by simp [rd_T114, List.getD_eq_getElem?_getD, List.getElem?_eq_getElem h]
    rw [this]
    simp only [secs]
    omega
theorem rd_at (l : List S114) (i : Nat) (h : i < l.length) : rd_T114 l i = l[i] := by simp [rd_T114, List.getD_eq_getElem?_getD, List.getElem?_eq_getElem h]
end Go.Proofs.YtepldlnmeenlbaaGreat.Own
namespace Go.Proofs.YtepldlnmeenlbaaGreat.Own
open Go.RowKit Go.Proofs Go.Proofs.YtepldlnmeenlbaaGreatW.PrintWords Go.Proofs.YtepldlnmeenlbaaGreatW.PrintLast Go.Proofs.YtepldlnmeenlbaaGreatW.PrintMore Go.Proofs.YtepldlnmeenlbaaGreat.Base
theorem infoI64 : (Tryz.prog.info? 2).map (fun i => (i.zero, i.size, i.bytes)) = some (some (.int .i64 0), 1, 8) := by kernel_rfl
theorem made_take (n : Nat) : (madeCells #[.int .i64 0] (n + 1)).toList.take 1 = [.int .i64 0] := by
  simp [madeCells, Array.range]
theorem made_own (w : World) (base n : Nat) (hb : base ≤ w.heap.size) (hn : n + 1 ≤ maxLen) :
    Kd.R (Kd.int .i64) 2 (w.alloc (.cells (madeCells #[.int .i64 0] (n + 1)) 2)) base (fun _ => True) (.slice (some ⟨w.heap.size, 0, none⟩) 1 (n + 1)) [0] :=
  Kd.R_of_own (enc := Value.int .i64) ⟨by simp [encs], .inr ⟨w.heap.size, n + 1, _, rfl, hb, heap_alloc_new w _, by simp, hn, by simp [size_madeCells], by simpa [encs] using made_take n⟩⟩ (fun _ _ => trivial)
def sums_T5 : Bool × List (List Nat × List Nat) := (true, [([], []), ([], []), ([], []), ([1, 2], [1, 2]), ([3], [3]), ([], []), ([5], [5]), ([4, 6], [4, 6]), ([], []), ([8], [8]), ([7, 9], [7, 9]), ([10], [10]), ([0, 11], [0, 11]), ([12, 12, 0, 1, 2, 3, 4, 5, 6, 7, 8, 9, 10, 11, 12], [0, 1, 12])])
def sums_B5 : List Nat := [0, 0, 0, 6, 14, 0, 32, 126, 0, 256, 1022, 2046, 4095, 8191]
theorem sums_tab5 : rtab .any (opsOf Tryz.f122 5) = sums_T5 := by kernel_rfl
theorem sums_bits5 : waitsOk sums_T5.2 sums_B5 = true := by kernel_rfl
set_option maxHeartbeats 4000000 in
set_option maxRecDepth 100000 in
theorem sums_any (pb : Nat) (A : Option Addr) (c : Nat) (cv : Value) (row : List S114) (w : World)
    (hw : w.heap[pb]? = some (.cells #[.slice A row.length c, cv] 199 (0, 0))) (hr : Kd.C k114 w A row.length row) (hc : row.length ≤ c) (hok : RowOk 604800 row) :
    Calls Tryz.prog 122 #[.pointer (some ⟨pb, 0, none⟩)] w fun e w' => ∃ v', e = .returned v' ∧ Kd.R (Kd.int .i64) 2 w' w.heap.size (fun _ => True) v' (psums row) ∧ Below w.heap.size w w' := by
  have HR := Aside0.mk hr
  have hc0 : w.cell? ⟨pb, 0, none⟩ = some (.slice A row.length c) := (blk_cell hw 0).trans rfl
  have hl := hok.len
  have HOK := Aside0.mk hok
  obtain ⟨i2, hi2, hz⟩ := Option.map_eq_some_iff.1 infoI64
  simp only [Prod.mk.injEq] at hz
  obtain ⟨hz0, hz1, hz2⟩ := hz
  have hmk := run_make (P := Tryz.prog) w 185 2 i2 (.int .i64 0) Tryz.underlying185 hi2 hz0 .i64 .i64 1 ((row.length : Int) + 1) (by omega) (by omega) (by rw [hz2]; omega) (by omega)
  rw [hz1, show ((row.length : Int) + 1).toNat = row.length + 1 by omega, Nat.mul_one] at hmk
  have HO := Aside0.mk (made_own w w.heap.size row.length (Nat.le_refl _) (by unfold maxLen; omega))
  have HB := Aside0.mk (below_alloc (Below.refl w.heap.size w) (.cells (madeCells #[.int .i64 0] (row.length + 1)) 2))
  have hc1 : (w.alloc (.cells (madeCells #[.int .i64 0] (row.length + 1)) 2)).cell? ⟨pb, 0, none⟩ = some (.slice A row.length c) := (blk_cell (blk_alloc hw _) 0).trans rfl
  clear hr hok hi2 hz0 hz1 hz2
  go_enter Tryz.func122, Tryz.ntmps122
  go_wp2
  generalize (w.alloc (.cells (madeCells #[.int .i64 0] (row.length + 1)) 2)) = w1 at HO HB hc1 ⊢
  clear hmk
  go_wp2
  go_loopg [3, 18] row.length (fun g v3 v18 w' => ∃ i : Int, v18 = .int .i64 i ∧ Aside0 (0 ≤ i ∧ (g : Int) + i = row.length) ∧ Aside0 (Kd.R (Kd.int .i64) 2 w' w.heap.size (fun _ => True) v3 (psums (row.take i.toNat))) ∧ Aside0 (Below w.heap.size w w'))
  case atStart => exact ⟨0, rfl, ⟨by omega, by omega⟩, ⟨by simpa [psums, secs] using HO.out⟩, HB⟩
  case round =>
    clear HO HB hc1
    obtain ⟨i, rfl, HG, HO, HB⟩ := hrel
    by_cases hi : i < row.length
    · have p0 : 0 ≤ i := HG.out.1
      obtain ⟨ad, e, hx0, hx1⟩ := at_T114 HR.out i p0 hi
      cases e
      replace hx0 := (HB.out.cell (World.block_lt_of_cell? w _ hx0)).trans hx0
      replace hx1 := (HB.out.cell (World.block_lt_of_cell? w _ hx1)).trans hx1
      go_wp2
      obtain ⟨A2, c2, rfl, hl2, hC2⟩ := Kd.R_reads HO.out
      have hpl : ((psums (row.take i.toNat)).length : Int) = i + 1 := by rw [psums_length]; simp; omega
      have HN := Aside0.mk (psums_take row i.toNat (by omega))
      have hsec := (HOK.out.take i.toNat).secs (by omega)
      have hmem := HOK.out.mem (rd_T114 row i) (by rw [show i = ((i.toNat : Nat) : Int) by omega, rd_at row i.toNat (by omega)]; exact List.getElem_mem _)
      have hrd : rd (psums (row.take i.toNat)) i = secs (row.take i.toNat) := by
        unfold rd
        rw [List.getD_eq_getElem?_getD, psums_get _ _ (by simp; omega), List.take_take, Nat.min_self]
        rfl
      obtain ⟨ad2, e2, hx2⟩ := Kd.at_int hC2 i p0 (by omega)
      cases e2
      rw [hrd] at hx2
      obtain ⟨W, hW⟩ : ∃ W, W = wr.alloc (.cells #[Value.int .i64 (rd_T114 row i).f0, Value.int .i64 (rd_T114 row i).f1] 114) := ⟨_, rfl⟩
      rw [← hW]
      have HO1 := Aside0.mk (hW ▸ Kd.R_alloc HO.out (.cells #[Value.int .i64 (rd_T114 row i).f0, Value.int .i64 (rd_T114 row i).f1] 114))
      have HB1 := Aside0.mk (hW ▸ below_alloc HB.out (.cells #[Value.int .i64 (rd_T114 row i).f0, Value.int .i64 (rd_T114 row i).f1] 114))
      have BK := hW ▸ blk_new wr (.cells #[Value.int .i64 (rd_T114 row i).f0, Value.int .i64 (rd_T114 row i).f1] 114)
      have hx2' := hW ▸ (World.cell?_alloc_lt wr (.cells #[Value.int .i64 (rd_T114 row i).f0, Value.int .i64 (rd_T114 row i).f1] 114) _ (World.block_lt_of_cell? _ _ hx2)).trans hx2
      clear hW
      generalize wr.heap.size = gb at BK ⊢
      have hb0 : W.cell? ⟨gb, 0, none⟩ = some (.int .i64 (rd_T114 row i).f0) := (blk_cell BK 0).trans rfl
      have hb1 : W.cell? ⟨gb, 1, none⟩ = some (.int .i64 (rd_T114 row i).f1) := (blk_cell BK 1).trans rfl
      have HLT := Aside0.mk hpl
      have HO2 := Aside0.mk (Kd.R_drew HO1.out)
      have HB2 := Aside0.mk (below_drew1 HB1.out)
      have hlt : i < ((psums (row.take i.toNat)).length : Int) := by omega
      have HM := Aside0.mk hmem
      clear BK hx0 hx1 hx2 HO HB hpl hrd hsec hmem
      have p0' := eq_true p0
      have hlt' := eq_true hlt
      have hlt2 : decide (i < ((psums (row.take i.toNat)).length : Int)) = true := decide_eq_true hlt
      clear p0 hlt
      refine start_ (n := 14) (S := fun w' => w'.cell? ⟨gb, 0, none⟩ = some (.int .i64 (rd_T114 row i).f0) ∧ w'.cell? ⟨gb, 1, none⟩ = some (.int .i64 (rd_T114 row i).f1) ∧ w'.cell? (ad2.add i.toNat) = some (.int .i64 (secs (row.take i.toNat)))) (ds := [11, 12]) #[false, false, false, false, false, false, false, false, false, false, false, false, false, false] (by kernel_rfl) rfl rfl ⟨hb0, hb1, hx2'⟩ (fun hHeld => ?_); refine with_tabW sums_tab5 sums_bits5 (fun HT_ HW_ => ?_)
      generalize W.drew = WD at HO2 HB2 hHeld ⊢
      refine pure_ (i := 0) (N := some 23) (v := ?_) (a' := ?_) #[true, false, false, false, false, false, false, false, false, false, false, false, false, false] rfl rfl (any_of HT_.out (by kernel_rfl)) (fun _ _ _ h => h) (Or.inl ⟨by rfl, ?_⟩) ?_ ?_
      rotate_left
      · intro w'
        go_simp
        with_reducible rfl
      rotate_left
      · simp only [Act.put, List.setIfInBounds_toArray, List.set_cons_zero, List.set_cons_succ, i64_w, i32_w]
        rfl
      refine pure_ (i := 1) (N := some 24) (v := ?_) (a' := ?_) #[true, true, false, false, false, false, false, false, false, false, false, false, false, false] rfl rfl (any_of HT_.out (by kernel_rfl)) (fun _ _ _ h => h) (Or.inl ⟨by rfl, ?_⟩) ?_ ?_
      rotate_left
      · intro w'
        go_simp
        with_reducible rfl
      rotate_left
      · simp only [Act.put, List.setIfInBounds_toArray, List.set_cons_zero, List.set_cons_succ, i64_w, i32_w]
        rfl
      refine pure_ (i := 2) (N := some 25) (v := ?_) (a' := ?_) #[true, true, true, false, false, false, false, false, false, false, false, false, false, false] rfl rfl (any_of HT_.out (by kernel_rfl)) (fun _ _ _ h => h) (Or.inl ⟨by rfl, ?_⟩) ?_ ?_
      rotate_left
      · intro w'
        go_simp
        with_reducible rfl
      rotate_left
      · simp only [Act.put, List.setIfInBounds_toArray, List.set_cons_zero, List.set_cons_succ, i64_w, i32_w]
        rfl
      refine pure_ (i := 3) (N := some 26) (v := ?_) (a' := ?_) #[true, true, true, true, false, false, false, false, false, false, false, false, false, false] rfl rfl (any_of HT_.out (by kernel_rfl)) (fun _ _ _ h => h) (Or.inl ⟨by rfl, ?_⟩) ?_ ?_
      rotate_left
      · intro w'
        go_simp
        with_reducible rfl
      rotate_left
      · simp only [Act.put, List.setIfInBounds_toArray, List.set_cons_zero, List.set_cons_succ, i64_w, i32_w]
        rfl
      refine pure_ (i := 5) (N := some 28) (v := ?_) (a' := ?_) #[true, true, true, true, false, true, false, false, false, false, false, false, false, false] rfl rfl (any_of HT_.out (by kernel_rfl)) (fun _ _ _ h => h) (Or.inl ⟨by rfl, ?_⟩) ?_ ?_
      rotate_left
      · intro w'
        go_simp
        with_reducible rfl
      rotate_left
      · simp only [Act.put, List.setIfInBounds_toArray, List.set_cons_zero, List.set_cons_succ, i64_w, i32_w]
        rfl
      refine pure_ (i := 8) (N := some 31) (v := ?_) (a' := ?_) #[true, true, true, true, false, true, false, false, true, false, false, false, false, false] rfl rfl (any_of HT_.out (by kernel_rfl)) (fun _ _ _ h => h) (Or.inl ⟨by rfl, ?_⟩) ?_ ?_
      rotate_left
      · intro w'
        go_simp
        with_reducible rfl
      rotate_left
      · simp only [Act.put, List.setIfInBounds_toArray, List.set_cons_zero, List.set_cons_succ, i64_w, i32_w]
        rfl
      refine take_ (i := 4) (N := some 27) (v := ?_) (a' := ?_) #[true, true, true, true, true, true, false, false, true, false, false, false, false, false] rfl rfl (take_ofW HT_.out HW_.out (by kernel_rfl)) (fun _ _ _ h => h) (Or.inl ⟨by rfl, ?_⟩) hHeld ?_ ?_
      rotate_left
      · rintro w' ⟨s0, s1, s2⟩
        go_simp
        with_reducible rfl
      rotate_left
      · simp only [Act.put, List.setIfInBounds_toArray, List.set_cons_zero, List.set_cons_succ, i64_w, i32_w]
        rfl
      refine take_ (i := 6) (N := some 29) (v := ?_) (a' := ?_) #[true, true, true, true, true, true, true, false, true, false, false, false, false, false] rfl rfl (take_ofW HT_.out HW_.out (by kernel_rfl)) (fun _ _ _ h => h) (Or.inl ⟨by rfl, ?_⟩) hHeld ?_ ?_
      rotate_left
      · rintro w' ⟨s0, s1, s2⟩
        go_simp
        with_reducible rfl
      rotate_left
      · simp only [Act.put, List.setIfInBounds_toArray, List.set_cons_zero, List.set_cons_succ, i64_w, i32_w]
        rfl
      refine pure_ (i := 7) (N := some 30) (v := ?_) (a' := ?_) #[true, true, true, true, true, true, true, true, true, false, false, false, false, false] rfl rfl (any_of HT_.out (by kernel_rfl)) (fun _ _ _ h => h) (Or.inl ⟨by rfl, ?_⟩) ?_ ?_
      rotate_left
      · intro w'
        go_simp
        with_reducible rfl
      rotate_left
      · simp only [Act.put, List.setIfInBounds_toArray, List.set_cons_zero, List.set_cons_succ, i64_w, i32_w]
        rfl
      refine take_ (i := 9) (N := some 32) (v := ?_) (a' := ?_) #[true, true, true, true, true, true, true, true, true, true, false, false, false, false] rfl rfl (take_ofW HT_.out HW_.out (by kernel_rfl)) (fun _ _ _ h => h) (Or.inl ⟨by rfl, ?_⟩) hHeld ?_ ?_
      rotate_left
      · rintro w' ⟨s0, s1, s2⟩
        go_simp
        with_reducible rfl
      rotate_left
      · simp only [Act.put, List.setIfInBounds_toArray, List.set_cons_zero, List.set_cons_succ, i64_w, i32_w]
        rfl
      refine pure_ (i := 10) (N := some 33) (v := ?_) (a' := ?_) #[true, true, true, true, true, true, true, true, true, true, true, false, false, false] rfl rfl (any_of HT_.out (by kernel_rfl)) (fun _ _ _ h => h) (Or.inl ⟨by rfl, ?_⟩) ?_ ?_
      rotate_left
      · intro w'
        go_simp
        with_reducible rfl
      rotate_left
      · simp only [Act.put, List.setIfInBounds_toArray, List.set_cons_zero, List.set_cons_succ, i64_w, i32_w]
        rfl
      refine last_ (i := 11) (N := some 34) #[true, true, true, true, true, true, true, true, true, true, true, true, false, false] rfl rfl (one_of HT_.out (by kernel_rfl)) (by decide) (fun K hK => ?_)
      refine value_ (w1 := ?_) (v := ?_) (by rfl) rfl ?_ ?_
      rotate_left 2
      · go_simp
        constructor
        · rfl
        · rfl
      refine hK.out _ _ ?_
      clear hK K
      refine norm_ (a' := ?_) ?_ ?_
      rotate_left
      · show Act.put _ (some 34) _ = _
        simp only [Act.put, List.setIfInBounds_toArray, List.set_cons_zero, List.set_cons_succ, i64_w, i32_w]
        rfl
      refine last_ (i := 12) (N := some 35) #[true, true, true, true, true, true, true, true, true, true, true, true, true, false] rfl rfl (one_of HT_.out (by kernel_rfl)) (by decide) (fun K hK => ?_)
      refine Kd.R_append_step (Kd.int .i64) w.heap.size (by rfl) (.tmp 23) (.tmp 34) 185 2 (.int .i64 0) 8 rfl Tryz.underlying185 infoI64 rfl (by decide) (by omega) (.slice (some ad2) (psums (row.take i.toNat)).length c2) (psums (row.take i.toNat)) (wrap64 ((wrap64 ((secs (row.take i.toNat)) + ((rd_T114 row i).f1))) - ((rd_T114 row i).f0))) [.int .i64 (wrap64 ((wrap64 ((secs (row.take i.toNat)) + ((rd_T114 row i).f1))) - ((rd_T114 row i).f0)))] (fun _ => True) (fun _ => False) rfl rfl ?aP (fun _ hk => hk.elim) ?aF ?aO (Below.refl _ _) ?aS ?aL ?_
      (case aP => exact rfl)
      (case aF => exact (fun _ _ => trivial))
      (case aO => exact HO2.out)
      (case aS => exact HB2.out.size)
      (case aL => have := HLT.out; have := HG.out; omega)
      intro v1_ w1_ ho_ hb_ hg_ hat_
      have HOa := Aside0.mk ho_
      have HOaB := Aside0.mk hb_
      have HOaG := Aside0.mk hg_
      clear ho_ hb_ hg_ hat_
      refine hK.out _ _ ?_
      clear hK K
      refine norm_ (a' := ?_) ?_ ?_
      rotate_left
      · show Act.put _ (some 35) _ = _
        simp only [Act.put, List.setIfInBounds_toArray, List.set_cons_zero, List.set_cons_succ, i64_w, i32_w]
        rfl
      refine pure_ (i := 13) (N := some 3) (v := ?_) (a' := ?_) #[true, true, true, true, true, true, true, true, true, true, true, true, true, true] rfl rfl (any_of HT_.out (by kernel_rfl)) (fun _ _ _ h => h) (Or.inl ⟨by rfl, ?_⟩) ?_ ?_
      rotate_left
      · intro w'
        go_simp
        with_reducible rfl
      rotate_left
      · simp only [Act.put, List.setIfInBounds_toArray, List.set_cons_zero, List.set_cons_succ, i64_w, i32_w]
        rfl
      refine done_ (done_of HT_.out (by kernel_rfl)) ?_
      go_wp2
      have hv : wrap64 (wrap64 (secs (row.take i.toNat) + (rd_T114 row i).f1) - (rd_T114 row i).f0) = secs (row.take i.toNat) + (rd_T114 row i).f1 - (rd_T114 row i).f0 := by
        have h1 := (HOK.out.take i.toNat).secs (by omega)
        have h2 := HM.out
        unfold wrap64
        omega
      rw [hv] at HOa
      have hn := HN.out
      rw [show ((i.toNat : Nat) : Int) = i by have := HG.out; omega] at hn
      go_roundg (gk - 1)
      case measure => have := HG.out; omega
      case rel => exact ⟨i + 1, (by have := HG.out; first | rfl | (unfold wrap64; congr 1; omega) | go_num), ⟨by have := HG.out; omega, by have := HG.out; omega⟩, ⟨by rw [show (i + 1).toNat = i.toNat + 1 by have := HG.out; omega, hn]; exact HOa.out⟩, ⟨HB2.out.trans HOaB.out⟩⟩
    · have hi' : i = row.length := by have := HG.out; omega
      have HO1 := HO.out
      rw [hi', Int.toNat_natCast, List.take_length] at HO1
      have HO2 := Aside0.mk HO1
      clear HO HO1 hi'
      go_wp2
      go_ret
      exact ⟨_, rfl, HO2.out, HB.out⟩
end Go.Proofs.YtepldlnmeenlbaaGreat.Own
namespace Go.Proofs.YtepldlnmeenlbaaGreat.Own
open Go.RowKit Go.Proofs Go.Proofs.YtepldlnmeenlbaaGreatW.PrintWords Go.Proofs.YtepldlnmeenlbaaGreatW.PrintLast Go.Proofs.YtepldlnmeenlbaaGreatW.PrintMore Go.Proofs.YtepldlnmeenlbaaGreat.Base
def cellObj (d s m k : Int) (bf v : Value) : Obj := .cells #[.int .u32 d, .int .i32 s, .int .u32 0, .int .u32 m, .int .i64 k, bf, v] 239 (0, 0)
def sumsFn (pb : Nat) : Value := .func (.func 122) #[.pointer (some ⟨pb, 0, none⟩)] #[]
abbrev Upd (b : Nat) (w w' : World) : Prop := w.grownBy w' (some b)
theorem Upd.refl (b : Nat) (w : World) : Upd b w w := ⟨rfl, rfl, rfl, Nat.le_refl _, fun _ _ _ => rfl⟩
theorem Upd.trans {b : Nat} {u v w : World} (h : Upd b u v) (k : Upd b v w) : Upd b u w :=
  ⟨k.os.trans h.os, k.tape.trans h.tape, k.output.trans h.output, Nat.le_trans h.size k.size, fun i hi hne => (k.block i (Nat.lt_of_lt_of_le hi h.size) hne).trans (h.block i hi hne)⟩
theorem Upd.set {b : Nat} {u v : World} (h : Upd b u v) (i : Nat) (x : Value) : Upd b u (v.setCell ⟨b, i, none⟩ x) :=
  h.trans ⟨rfl, rfl, rfl, by simp, fun k _ hne => Below.heap_setCell _ _ _ _ (fun e => hne (by rw [e]))⟩
theorem Upd.drew {b : Nat} {u v : World} (h : Upd b u v) : Upd b u v.drew := ⟨h.os, h.tape, h.output, h.size, h.block⟩
theorem Upd.alloc {b : Nat} {u v : World} (h : Upd b u v) (o : Obj) : Upd b u (v.alloc o) := h.trans (World.grownBy_alloc v o _)
theorem Upd.of_below {b : Nat} {u v : World} (h : Below u.heap.size u v) : Upd b u v := ⟨h.os, h.tape, h.output, h.size, fun k hk _ => h.block k hk⟩
theorem Upd.then {b : Nat} {u v w : World} (h : Upd b u v) (k : Below v.heap.size v w) : Upd b u w := h.trans (Upd.of_below k)
theorem Upd.below {b n : Nat} {u v : World} (h : Upd b u v) (hn : n ≤ u.heap.size) (hb : n ≤ b) : Below n u v :=
  ⟨h.os, h.tape, h.output, h.size, fun k hk => h.block k (by omega) (fun e => by injection e with e; omega)⟩
theorem Upd.blk {b g : Nat} {u v : World} {o : Obj} (h : Upd b u v) (hg : u.heap[g]? = some o) (hne : g ≠ b) : v.heap[g]? = some o :=
  (h.block g (blk_lt hg) (fun e => hne (by injection e))).trans hg
set_option maxHeartbeats 1600000 in
set_option maxRecDepth 100000 in
theorem fill_any (cb pb : Nat) (A : Option Addr) (c : Nat) (row : List S114) (m k : Int) (lv : Value) (w : World)
    (hcb : w.heap[cb]? = some (cellObj 0 1 m k (sumsFn pb) lv)) (hne : pb ≠ cb)
    (hw : w.heap[pb]? = some (.cells #[.slice A row.length c, .pointer (some ⟨cb, 0, none⟩)] 199 (0, 0))) (hr : Kd.C k114 w A row.length row) (hc : row.length ≤ c) (hok : RowOk 604800 row) :
    Calls Tryz.prog 153 #[.pointer (some ⟨cb, 0, none⟩)] w fun e w' => e = .returned (.tuple #[]) ∧ ∃ v', w'.heap[cb]? = some (cellObj 0 1 1 k .nilFunc v') ∧ Kd.R (Kd.int .i64) 2 w' w.heap.size (fun k => k ≠ cb) v' (psums row) ∧ Upd cb w w' := by
  have HR := Aside0.mk hr
  have HOK := Aside0.mk hok
  have HW := Aside0.mk hw
  have HC := Aside0.mk hcb
  have c5 : w.cell? ⟨cb, 5, none⟩ = some (sumsFn pb) := (blk_cell hcb 5).trans rfl
  unfold sumsFn at c5
  have hneq : ∀ (fn : Fn) (first captured : Array Value) (w : World), Sem.run Tryz.prog (binOp BinOp.neq 201 (Value.func fn first captured) Value.nilFunc) w = .ok (.bool true) w := fun _ _ _ _ => by kernel_rfl
  clear hr hok hw hcb
  go_enter Tryz.func153, Tryz.ntmps153
  go_wp2_with (go_at_call 122; refine (sums_any pb A c _ row _ HW.out HR.out hc HOK.out).mono ?_; rintro e w1 ⟨v1, rfl, HV0, hb⟩; obtain ⟨A1, k1, rfl, hl1, hC1⟩ := Kd.R_reads HV0; have HV := Aside0.mk HV0; have HB := Aside0.mk hb; have BK := Aside0.mk (blk_below HC.out hb); clear HV0 hC1 hl1 hb; have d6 : w1.cell? ⟨cb, 6, none⟩ = some lv := (blk_cell BK.out 6).trans rfl; have d5 : w1.cell? ⟨cb, 5, none⟩ = some (.func (.func 122) #[.pointer (some ⟨pb, 0, none⟩)] #[]) := (blk_cell BK.out 5).trans rfl; have f6 : w1.frozen? ⟨cb, 6, none⟩ = false := blk_frozen BK.out 6; have f5 : w1.frozen? ⟨cb, 5, none⟩ = false := blk_frozen BK.out 5)
  have BK2 : Aside0 (((w1.setCell ⟨cb, 6, none⟩ (.slice A1 (psums row).length k1)).setCell ⟨cb, 5, none⟩ .nilFunc).heap[cb]? = some (cellObj 0 1 m k .nilFunc (.slice A1 (psums row).length k1))) := ⟨blk_put (cs := #[.int .u32 0, .int .i32 1, .int .u32 0, .int .u32 m, .int .i64 k, sumsFn pb, .slice A1 (psums row).length k1]) (blk_put (cs := #[.int .u32 0, .int .i32 1, .int .u32 0, .int .u32 m, .int .i64 k, sumsFn pb, lv]) BK.out 6 _ rfl) 5 _ rfl⟩
  have U2 : Aside0 (Upd cb w ((w1.setCell ⟨cb, 6, none⟩ (.slice A1 (psums row).length k1)).setCell ⟨cb, 5, none⟩ .nilFunc)) := ⟨((Upd.of_below HB.out).set 6 _).set 5 _⟩
  have HV1 : Aside0 (Kd.R (Kd.int .i64) 2 w1 w.heap.size (fun k => k ≠ cb) (.slice A1 (psums row).length k1) (psums row)) := ⟨Kd.R_mono (Kd.R_bound HV.out) (fun k hk => by have := blk_lt HC.out; have := hk.2.1; omega)⟩
  have HV2 : Aside0 (Kd.R (Kd.int .i64) 2 ((w1.setCell ⟨cb, 6, none⟩ (.slice A1 (psums row).length k1)).setCell ⟨cb, 5, none⟩ .nilFunc) w.heap.size (fun k => k ≠ cb) (.slice A1 (psums row).length k1) (psums row)) := ⟨Kd.R_far (p := ⟨cb, 5, none⟩) (Kd.R_far (p := ⟨cb, 6, none⟩) HV1.out (fun _ h => h) _) (fun _ h => h) _⟩
  generalize ((w1.setCell ⟨cb, 6, none⟩ (.slice A1 (psums row).length k1)).setCell ⟨cb, 5, none⟩ .nilFunc) = w2 at BK2 U2 HV2 ⊢
  refine (store_true cb 3 (.int .u32 m) _ ((blk_cell BK2.out 3).trans rfl) (blk_frozen BK2.out 3)).mono ?_
  rintro e w3 ⟨rfl, rfl⟩
  go_wp2
  go_end0
  exact ⟨rfl, _, blk_put (cs := #[.int .u32 0, .int .i32 1, .int .u32 0, .int .u32 m, .int .i64 k, .nilFunc, .slice A1 (psums row).length k1]) (blk_drew BK2.out) 3 _ rfl, Kd.R_far (p := ⟨cb, 3, none⟩) (Kd.R_drew HV2.out) (fun _ h => h) _, (U2.out.drew).set 3 _⟩
set_option maxHeartbeats 1600000 in
set_option maxRecDepth 100000 in
theorem slow_any (cb pb : Nat) (A : Option Addr) (c n : Nat) (row : List S114) (m k : Int) (lv : Value) (w : World)
    (hcb : w.heap[cb]? = some (cellObj 0 0 m k (sumsFn pb) lv)) (hne : pb ≠ cb)
    (hw : w.heap[pb]? = some (.cells #[.slice A row.length c, .pointer (some ⟨cb, 0, none⟩)] 199 (0, 0))) (hr : Kd.R k114 114 w n (fun k => k ≠ cb) (.slice A row.length c) row) (hc : row.length ≤ c) (hok : RowOk 604800 row) :
    Calls Tryz.prog 151 #[.pointer (some ⟨cb, 0, none⟩), .func (.func 153) #[.pointer (some ⟨cb, 0, none⟩)] #[]] w fun e w' => e = .returned (.tuple #[]) ∧ ∃ v', w'.heap[cb]? = some (cellObj 1 0 1 k .nilFunc v') ∧ Kd.R (Kd.int .i64) 2 w' w.heap.size (fun k => k ≠ cb) v' (psums row) ∧ Upd cb w w' := by
  have HC := Aside0.mk hcb
  have HOK := Aside0.mk hok
  have c1 : w.cell? ⟨cb, 1, none⟩ = some (.int .i32 0) := (blk_cell hcb 1).trans rfl
  have f1 : w.frozen? ⟨cb, 1, none⟩ = false := blk_frozen hcb 1
  have BK1 : Aside0 ((w.setCell ⟨cb, 1, none⟩ (.int .i32 1)).heap[cb]? = some (cellObj 0 1 m k (sumsFn pb) lv)) := ⟨blk_put (cs := #[.int .u32 0, .int .i32 0, .int .u32 0, .int .u32 m, .int .i64 k, sumsFn pb, lv]) hcb 1 _ rfl⟩
  have PW1 : Aside0 ((w.setCell ⟨cb, 1, none⟩ (.int .i32 1)).heap[pb]? = some (.cells #[.slice A row.length c, .pointer (some ⟨cb, 0, none⟩)] 199 (0, 0))) := ⟨(Below.heap_setCell _ _ _ _ hne).trans hw⟩
  have HR1 := Aside0.mk (Kd.R_reads' (Kd.R_far (p := ⟨cb, 1, none⟩) hr (fun _ h => h) (.int .i32 1))).2.2
  have U1 : Aside0 (Upd cb w (w.setCell ⟨cb, 1, none⟩ (.int .i32 1))) := ⟨(Upd.refl cb w).set 1 _⟩
  have hnot : ∀ (x : Bool) (w : World), (Op.unary .not (.bool x)).run Tryz.prog w = .ok (.bool (!x)) w := fun _ _ => rfl
  have HSZ := Aside0.mk (show (w.setCell ⟨cb, 1, none⟩ (.int .i32 1)).heap.size = w.heap.size by simp)
  clear hcb hw hr hok
  go_enter_defers Tryz.func151, Tryz.ntmps151
  go_wp2_with (go_at_call 167; refine (lock_free cb 1 _ c1 f1).mono ?_; rintro e w' ⟨rfl, rfl⟩)
  clear c1 f1
  generalize (w.setCell ⟨cb, 1, none⟩ (.int .i32 1)) = w1 at BK1 PW1 HR1 U1 HSZ ⊢
  go_wp2_with (first | (go_at_call 150; refine (load_bool cb 0 0 _ ((blk_cell BK1.out 0).trans rfl)).mono ?_; rintro e w' ⟨rfl, rfl⟩) | (go_at_call 153; refine (fill_any cb pb A c row m k lv _ BK1.out hne PW1.out HR1.out hc HOK.out).mono ?_; rintro e w2 ⟨rfl, v', B2, R2, U2⟩))
  refine leaves_cons (f := 152) (args := #[.pointer (some ⟨cb, 0, none⟩), .bool true]) (by simp) (by simp [go_sem]) ?_
  refine (store_deferred cb 0 (.int .u32 0) .returning _ ((blk_cell B2 0).trans rfl) (blk_frozen B2 0)).mono ?_
  rintro e u' w3 ⟨rfl, rfl, rfl⟩
  have B3 : (w2.drew.setCell ⟨cb, 0, none⟩ (.int .u32 1)).heap[cb]? = some (cellObj 1 1 1 k .nilFunc v') := blk_put (cs := #[.int .u32 0, .int .i32 1, .int .u32 0, .int .u32 1, .int .i64 k, .nilFunc, v']) (blk_drew B2) 0 _ rfl
  have R3 : Kd.R (Kd.int .i64) 2 (w2.drew.setCell ⟨cb, 0, none⟩ (.int .u32 1)) w1.heap.size (fun k => k ≠ cb) v' (psums row) := Kd.R_far (p := ⟨cb, 0, none⟩) (Kd.R_drew R2) (fun _ h => h) _
  have U3 : Upd cb w (w2.drew.setCell ⟨cb, 0, none⟩ (.int .u32 1)) := ((U1.out.trans U2).drew).set 0 _
  generalize (w2.drew.setCell ⟨cb, 0, none⟩ (.int .u32 1)) = w3 at B3 R3 U3 ⊢
  refine leaves_cons (f := 168) (args := #[.pointer (some ⟨cb, 1, none⟩)]) (by simp [settle]) (by simp [go_sem]) ?_
  refine (unlock_deferred cb 1 _ _ ((blk_cell B3 1).trans rfl) (blk_frozen B3 1)).mono ?_
  rintro e u' w4 ⟨rfl, rfl, rfl⟩
  have hfin : ∃ v', (w3.setCell ⟨cb, 1, none⟩ (.int .i32 0)).heap[cb]? = some (cellObj 1 0 1 k .nilFunc v') ∧ Kd.R (Kd.int .i64) 2 (w3.setCell ⟨cb, 1, none⟩ (.int .i32 0)) w.heap.size (fun k => k ≠ cb) v' (psums row) ∧ Upd cb w (w3.setCell ⟨cb, 1, none⟩ (.int .i32 0)) :=
    ⟨v', blk_put (cs := #[.int .u32 1, .int .i32 1, .int .u32 0, .int .u32 1, .int .i64 k, .nilFunc, v']) B3 1 _ rfl, by rw [← HSZ.out]; exact Kd.R_far (p := ⟨cb, 1, none⟩) R3 (fun _ h => h) _, U3.set 1 _⟩
  simpa [Leaves, settle, results, Tryz.results151] using hfin
def CellAt (w : World) (n cb pb : Nat) (row : List S114) : Prop :=
  ∃ m k, (∃ lv, w.heap[cb]? = some (cellObj 0 0 m k (sumsFn pb) lv)) ∨ (∃ v, w.heap[cb]? = some (cellObj 1 0 m k .nilFunc v) ∧ Kd.R (Kd.int .i64) 2 w n (fun k => k ≠ cb) v (psums row))
structure PlanAt (w : World) (n pb cb : Nat) (row : List S114) : Prop where
  ok : RowOk 604800 row
  npb : n ≤ pb
  ncb : n ≤ cb
  ne : pb ≠ cb
  blk : ∃ A c, w.heap[pb]? = some (.cells #[.slice A row.length c, .pointer (some ⟨cb, 0, none⟩)] 199 (0, 0)) ∧ row.length ≤ c ∧ Kd.R k114 114 w n (fun k => k ≠ cb) (.slice A row.length c) row
  cell : CellAt w n cb pb row
theorem CellAt.keep {w w' : World} {n cb pb : Nat} {row : List S114} (h : CellAt w n cb pb row) (hm : ∀ k, k < w.heap.size → n ≤ k → w'.heap[k]? = w.heap[k]?) (hn : n ≤ cb) : CellAt w' n cb pb row := by
  obtain ⟨m, k, ⟨lv, hb⟩ | ⟨v, hb, hr⟩⟩ := h
  · exact ⟨m, k, .inl ⟨lv, (hm cb (blk_lt hb) hn).trans hb⟩⟩
  · exact ⟨m, k, .inr ⟨v, (hm cb (blk_lt hb) hn).trans hb, Kd.R_mono (Kd.R_step (Kd.R_bound hr) (fun k hk hlt => hm k hlt hk.2.1)) (fun _ hk => hk.1)⟩⟩
theorem PlanAt.keep {w w' : World} {n cb pb : Nat} {row : List S114} (h : PlanAt w n pb cb row) (hm : ∀ k, k < w.heap.size → n ≤ k → w'.heap[k]? = w.heap[k]?) : PlanAt w' n pb cb row := by
  obtain ⟨A, c, hb, hc, hr⟩ := h.blk
  exact ⟨h.ok, h.npb, h.ncb, h.ne, ⟨A, c, (hm pb (blk_lt hb) h.npb).trans hb, hc, Kd.R_mono (Kd.R_step (Kd.R_bound hr) (fun k hk hlt => hm k hlt hk.2.1)) (fun _ hk => hk.1)⟩, h.cell.keep hm h.ncb⟩
theorem PlanAt.below {w w' : World} {n cb pb : Nat} {row : List S114} (h : PlanAt w n pb cb row) (hb : Below w.heap.size w w') : PlanAt w' n pb cb row := h.keep (fun k hk _ => hb.block k hk)
set_option maxHeartbeats 1600000 in
set_option maxRecDepth 100000 in
theorem do_first (cb pb : Nat) (A : Option Addr) (c n : Nat) (row : List S114) (m k : Int) (lv : Value) (w : World)
    (hcb : w.heap[cb]? = some (cellObj 0 0 m k (sumsFn pb) lv)) (hne : pb ≠ cb)
    (hw : w.heap[pb]? = some (.cells #[.slice A row.length c, .pointer (some ⟨cb, 0, none⟩)] 199 (0, 0))) (hr : Kd.R k114 114 w n (fun k => k ≠ cb) (.slice A row.length c) row) (hc : row.length ≤ c) (hok : RowOk 604800 row) :
    Calls Tryz.prog 134 #[.pointer (some ⟨cb, 0, none⟩), .func (.func 153) #[.pointer (some ⟨cb, 0, none⟩)] #[]] w fun e w' => e = .returned (.tuple #[]) ∧ ∃ v', w'.heap[cb]? = some (cellObj 1 0 1 k .nilFunc v') ∧ Kd.R (Kd.int .i64) 2 w' w.heap.size (fun k => k ≠ cb) v' (psums row) ∧ Upd cb w w' := by
  have H := Aside0.mk (slow_any cb pb A c n row m k lv w hcb hne hw hr hc hok)
  have HC := Aside0.mk hcb
  have hnot : ∀ (x : Bool) (w : World), (Op.unary .not (.bool x)).run Tryz.prog w = .ok (.bool (!x)) w := fun _ _ => rfl
  clear hcb hw hr hok
  go_enter Tryz.func134, Tryz.ntmps134
  go_wp2_with (first | (go_at_call 150; refine (load_bool cb 0 0 _ ((blk_cell HC.out 0).trans rfl)).mono ?_; rintro e w' ⟨rfl, rfl⟩) | (go_at_call 151; refine H.out.mono ?_; rintro e w2 ⟨rfl, h⟩))
  go_end0
  exact ⟨rfl, h⟩
theorem do_done (cb : Nat) (m k : Int) (v fv : Value) (w : World) (hcb : w.heap[cb]? = some (cellObj 1 0 m k .nilFunc v)) :
    Calls Tryz.prog 134 #[.pointer (some ⟨cb, 0, none⟩), fv] w fun e w' => e = .returned (.tuple #[]) ∧ w = w' := by
  have HC := Aside0.mk hcb
  have hnot : ∀ (x : Bool) (w : World), (Op.unary .not (.bool x)).run Tryz.prog w = .ok (.bool (!x)) w := fun _ _ => rfl
  clear hcb
  go_enter Tryz.func134, Tryz.ntmps134
  go_wp2_with (go_at_call 150; refine (load_bool cb 0 1 _ ((blk_cell HC.out 0).trans rfl)).mono ?_; rintro e w' ⟨rfl, rfl⟩)
  go_end0
  exact ⟨rfl, rfl⟩
set_option maxHeartbeats 1600000 in
set_option maxRecDepth 100000 in
theorem get_any (cb pb n : Nat) (row : List S114) (w : World) (h : PlanAt w n pb cb row) (hn : n ≤ w.heap.size) :
    Calls Tryz.prog 137 #[.pointer (some ⟨cb, 0, none⟩)] w fun e w' => ∃ A c, e = .returned (.slice A (psums row).length c) ∧ PlanAt w' n pb cb row ∧ Kd.C (Kd.int .i64) w' A (psums row).length (psums row) ∧ (psums row).length ≤ c ∧ Upd cb w w' := by
  obtain ⟨A, c, hb, hc, hr⟩ := h.blk
  obtain ⟨m, k, hcell⟩ := h.cell
  have HP := Aside0.mk h
  have hmf : ∀ (fn : Fn) (first cap : Array Value) (w : World), (Instr.makeFunc fn first cap).run Tryz.prog w = .ok (.func fn first cap) w := fun _ _ _ _ => rfl
  rcases hcell with ⟨lv, hcb⟩ | ⟨v, hcb, hv⟩
  · have c4 : w.cell? ⟨cb, 4, none⟩ = some (.int .i64 k) := (blk_cell hcb 4).trans rfl
    have f4 : w.frozen? ⟨cb, 4, none⟩ = false := blk_frozen hcb 4
    have B1 : Aside0 ((w.setCell ⟨cb, 4, none⟩ (.int .i64 (wrap64 (k + 1)))).heap[cb]? = some (cellObj 0 0 m (wrap64 (k + 1)) (sumsFn pb) lv)) := ⟨blk_put (cs := #[.int .u32 0, .int .i32 0, .int .u32 0, .int .u32 m, .int .i64 k, sumsFn pb, lv]) hcb 4 _ rfl⟩
    have P1 : Aside0 ((w.setCell ⟨cb, 4, none⟩ (.int .i64 (wrap64 (k + 1)))).heap[pb]? = some (.cells #[.slice A row.length c, .pointer (some ⟨cb, 0, none⟩)] 199 (0, 0))) := ⟨(Below.heap_setCell _ _ _ _ h.ne).trans hb⟩
    have R1 : Aside0 (Kd.R k114 114 (w.setCell ⟨cb, 4, none⟩ (.int .i64 (wrap64 (k + 1)))) n (fun k => k ≠ cb) (.slice A row.length c) row) := ⟨Kd.R_far (p := ⟨cb, 4, none⟩) hr (fun _ h => h) _⟩
    have U1 : Aside0 (Upd cb w (w.setCell ⟨cb, 4, none⟩ (.int .i64 (wrap64 (k + 1))))) := ⟨(Upd.refl cb w).set 4 _⟩
    clear hcb hb hr h
    go_enter Tryz.func137, Tryz.ntmps137
    go_wp2_with (go_at_call 133; refine (add_i64 cb 4 k 1 _ c4 f4).mono ?_; rintro e w' ⟨rfl, rfl⟩)
    generalize (w.setCell ⟨cb, 4, none⟩ (.int .i64 (wrap64 (k + 1)))) = w1 at B1 P1 R1 U1 ⊢
    go_wp2_with (go_at_call 134; refine (do_first cb pb A c n row m _ lv _ B1.out HP.out.ne P1.out R1.out hc HP.out.ok).mono ?_; rintro e w2 ⟨rfl, v', B2', R2', U2'⟩; obtain ⟨A2, k2, rfl, hl2, hC2⟩ := Kd.R_reads R2'; have c6 : w2.cell? ⟨cb, 6, none⟩ = some (.slice A2 (psums row).length k2) := (blk_cell B2' 6).trans rfl; have B2 := Aside0.mk B2'; have R2 := Aside0.mk R2'; have U2 := Aside0.mk U2'; have C2 := Aside0.mk hC2; clear B2' R2' U2' hC2)
    go_ret
    have hsz : n ≤ w1.heap.size := Nat.le_trans hn U1.out.size
    refine ⟨A2, k2, rfl, ⟨HP.out.ok, HP.out.npb, HP.out.ncb, HP.out.ne, ⟨A, c, U2.out.blk P1.out HP.out.ne, hc, Kd.R_grown R1.out U2.out (fun k hk e => hk (by injection e))⟩, ⟨_, _, .inr ⟨_, B2.out, Kd.R_lower R2.out hsz⟩⟩⟩, C2.out, hl2, U1.out.trans U2.out⟩
  · obtain ⟨A2, k2, rfl, hl2, hC2⟩ := Kd.R_reads hv
    have c4 : w.cell? ⟨cb, 4, none⟩ = some (.int .i64 k) := (blk_cell hcb 4).trans rfl
    have f4 : w.frozen? ⟨cb, 4, none⟩ = false := blk_frozen hcb 4
    have B1 : Aside0 ((w.setCell ⟨cb, 4, none⟩ (.int .i64 (wrap64 (k + 1)))).heap[cb]? = some (cellObj 1 0 m (wrap64 (k + 1)) .nilFunc (.slice A2 (psums row).length k2))) := ⟨blk_put (cs := #[.int .u32 1, .int .i32 0, .int .u32 0, .int .u32 m, .int .i64 k, .nilFunc, .slice A2 (psums row).length k2]) hcb 4 _ rfl⟩
    have P1 : Aside0 ((w.setCell ⟨cb, 4, none⟩ (.int .i64 (wrap64 (k + 1)))).heap[pb]? = some (.cells #[.slice A row.length c, .pointer (some ⟨cb, 0, none⟩)] 199 (0, 0))) := ⟨(Below.heap_setCell _ _ _ _ h.ne).trans hb⟩
    have R1 : Aside0 (Kd.R k114 114 (w.setCell ⟨cb, 4, none⟩ (.int .i64 (wrap64 (k + 1)))) n (fun k => k ≠ cb) (.slice A row.length c) row) := ⟨Kd.R_far (p := ⟨cb, 4, none⟩) hr (fun _ h => h) _⟩
    have V1 : Aside0 (Kd.R (Kd.int .i64) 2 (w.setCell ⟨cb, 4, none⟩ (.int .i64 (wrap64 (k + 1)))) n (fun k => k ≠ cb) (.slice A2 (psums row).length k2) (psums row)) := ⟨Kd.R_far (p := ⟨cb, 4, none⟩) hv (fun _ h => h) _⟩
    have U1 : Aside0 (Upd cb w (w.setCell ⟨cb, 4, none⟩ (.int .i64 (wrap64 (k + 1))))) := ⟨(Upd.refl cb w).set 4 _⟩
    clear hcb hb hr h hv hC2
    go_enter Tryz.func137, Tryz.ntmps137
    go_wp2_with (go_at_call 133; refine (add_i64 cb 4 k 1 _ c4 f4).mono ?_; rintro e w' ⟨rfl, rfl⟩)
    generalize (w.setCell ⟨cb, 4, none⟩ (.int .i64 (wrap64 (k + 1)))) = w1 at B1 P1 R1 V1 U1 ⊢
    have c6 : w1.cell? ⟨cb, 6, none⟩ = some (.slice A2 (psums row).length k2) := (blk_cell B1.out 6).trans rfl
    go_wp2_with (go_at_call 134; refine (do_done cb m _ _ _ _ B1.out).mono ?_; rintro e w2 ⟨rfl, rfl⟩)
    go_ret
    exact ⟨A2, k2, rfl, ⟨HP.out.ok, HP.out.npb, HP.out.ncb, HP.out.ne, ⟨A, c, P1.out, hc, R1.out⟩, ⟨_, _, .inr ⟨_, B1.out, V1.out⟩⟩⟩, (Kd.R_reads' V1.out).2.2, hl2, U1.out⟩
end Go.Proofs.YtepldlnmeenlbaaGreat.Own
namespace Go.Proofs.YtepldlnmeenlbaaGreat.Own
open Go.RowKit Go.Proofs Go.Proofs.YtepldlnmeenlbaaGreatW.PrintWords Go.Proofs.YtepldlnmeenlbaaGreatW.PrintLast Go.Proofs.YtepldlnmeenlbaaGreatW.PrintMore Go.Proofs.YtepldlnmeenlbaaGreat.Base
set_option maxRecDepth 100000 in
theorem clone_any (A : Option Addr) (c : Nat) (l : List S114) (w : World) (hr : Kd.C k114 w A l.length l) (hc : l.length ≤ c) (hl : l.length ≤ 32) :
    Calls Tryz.prog 120 #[.slice A l.length c] w fun e w' => ∃ A' c', e = .returned (.slice A' l.length c') ∧ l.length ≤ c' ∧ Kd.R k114 114 w' w.heap.size (fun _ => True) (.slice A' l.length c') l ∧ Below w.heap.size w w' := by
  have HR := Aside0.mk hr
  clear hr
  rcases A with _ | ad
  · have heq : ∀ W : World, (binOp .eql 22 (.slice none 0 c) (.slice none 0 0)).run Tryz.prog W = .ok (.bool true) W := fun W => Lib.run_eql_slice_nil W 22 114 none _ _ _ _ Tryz.underlying22
    have h0 : l = [] := by
      rcases l with _ | ⟨s, r⟩
      · rfl
      · obtain ⟨_, h, _⟩ := HR.out.2.2 (by simp)
        cases h
    subst h0
    simp only [List.length_nil]
    clear HR hc hl
    go_enter Tryz.func120, Tryz.ntmps120
    go_wp2
    go_ret
    exact ⟨none, 0, rfl, by simp, Kd.R_nil _ _ _ _ _, Below.refl _ _⟩
  · have heq : ∀ W : World, (binOp .eql 22 (.slice (some ad) l.length c) (.slice none 0 0)).run Tryz.prog W = .ok (.bool false) W := fun W => Lib.run_eql_slice_nil W 22 114 (some ad) _ _ _ _ Tryz.underlying22
    go_enter Tryz.func120, Tryz.ntmps120
    have HO : Aside0 (Kd.R k114 114 (w.alloc (.cells #[] 114)) w.heap.size (fun _ => True) (.slice (some ⟨w.heap.size, 0, none⟩) 0 0) ([] : List S114)) :=
      ⟨⟨fun _ _ => trivial, [], World.ownsRow_made w #[] 0 (Nat.le_refl _) (by unfold maxLen; omega) (by simp), by simp [Reps]⟩⟩
    have HR1 := Aside0.mk (Kd.C_below HR.out (below_alloc (Below.refl _ _) (.cells #[] 114)))
    have HB := Aside0.mk (below_alloc (Below.refl w.heap.size w) (.cells #[] 114))
    go_wp2_with (at_builtin; refine Kd.R_append_rows k114 (Rr := k114.K (w.alloc (.cells #[] 114))) w.heap.size rfl (.tmp 5) (.tmp 6) 22 114 (.agg #[.int .i64 0, .int .i64 0]) 16 rfl Tryz.underlying22 info114 rfl (by decide) (by omega) (.slice (some ⟨w.heap.size, 0, none⟩) 0 0) [] l (some ad) l.length c (fun _ => True) (fun _ => False) rfl rfl HO.out HR1.out ?hKM ?hokp ?hfr HB.out HB.out.size ?hl ?_; (case hKM => intro x cs h; obtain rfl := k114_open h; exact k114_mkM _ _ _ _); (case hokp => exact fun _ h => h.elim); (case hfr => exact fun _ _ => trivial); (case hl => simp; omega); intro v1 w1 ho hb _ _; obtain ⟨A1, c1, rfl, hl1, _⟩ := Kd.R_reads ho; have HO1 := Aside0.mk ho; have HB1 := Aside0.mk hb; clear ho hb)
    go_ret
    exact ⟨A1, c1, rfl, hl1, HO1.out, HB1.out⟩
theorem lazy_new (fn : Fn) (first cap : Array Value) (w : World) :
    Calls Tryz.prog 121 #[.func fn first cap] w fun e w' => e = .returned (.pointer (some ⟨w.heap.size, 0, none⟩)) ∧ w' = w.alloc (cellObj 0 0 0 0 (.func fn first cap) (.slice none 0 0)) := by
  go_enter Tryz.func121, Tryz.ntmps121
  go_wp2
  go_ret
  exact ⟨rfl, rfl⟩
end Go.Proofs.YtepldlnmeenlbaaGreat.Own
namespace Go.Proofs.YtepldlnmeenlbaaGreat.Own
open Go.RowKit Go.Proofs Go.Proofs.YtepldlnmeenlbaaGreatW.PrintWords Go.Proofs.YtepldlnmeenlbaaGreatW.PrintLast Go.Proofs.YtepldlnmeenlbaaGreatW.PrintMore Go.Proofs.YtepldlnmeenlbaaGreat.Base
theorem wrap_id {x : Int} (h0 : -9223372036854775808 ≤ x) (h1 : x ≤ 9223372036854775807) : wrap64 x = x := by unfold wrap64; omega
theorem drop_at {l : List S114} {i : Nat} (h : i < l.length) : l.drop i = rd_T114 l i :: l.drop (i + 1) := by
  rw [rd_at l i h, List.drop_eq_getElem_cons h]
def okRow (lo : Int) : List S114 → Bool
  | [] => true
  | s :: r => decide (0 ≤ s.f0 ∧ s.f0 < s.f1 ∧ s.f1 ≤ 1125899906842624 ∧ lo ≤ s.f0) && okRow s.f1 r
def rowErr (l : List S114) : Int := if 32 < l.length then 21 else if okRow 0 l then 0 else 2
theorem right_eq (a b : Int) : span_Right.f a b = some (decide (0 ≤ a ∧ a < b ∧ b ≤ 1125899906842624)) := by
  unfold span_Right.f
  by_cases h1 : 0 ≤ a
  · rw [if_pos h1]
    by_cases h2 : a < b
    · rw [if_pos h2]; simp [h1, h2]
    · rw [if_neg h2]; simp [h2]
  · rw [if_neg h1]; simp [h1]
theorem row_l0 (l : List S114) (hl : l.length ≤ 1000000) : ∀ (d k i : Nat) (lo : Int), i + d = l.length → d < k → span_Row.l0 k lo l (l.length : Int) (i : Int) = some (if okRow lo (l.drop i) then 0 else 2) := by
  intro d
  induction d with
  | zero =>
    intro k i lo hi hk
    obtain ⟨k, rfl⟩ : ∃ m, k = m + 1 := ⟨k - 1, by omega⟩
    rw [List.drop_eq_nil_of_le (by omega)]
    simp only [span_Row.l0]
    rw [if_neg (by omega)]
    rfl
  | succ d ih =>
    intro k i lo hi hk
    obtain ⟨k, rfl⟩ : ∃ m, k = m + 1 := ⟨k - 1, by omega⟩
    have hlt : i < l.length := by omega
    rw [drop_at hlt]
    simp only [span_Row.l0]
    rw [if_pos (by omega), if_pos (by omega), if_pos (by omega), right_eq, wrap_id (by omega) (by omega)]
    simp only [Option.bind_some, decide_eq_true_eq]
    have ih' := ih k (i + 1) (rd_T114 l i).f1 (by omega) (by omega)
    rw [show ((i + 1 : Nat) : Int) = (i : Int) + 1 by omega] at ih'
    by_cases h : 0 ≤ (rd_T114 l i).f0 ∧ (rd_T114 l i).f0 < (rd_T114 l i).f1 ∧ (rd_T114 l i).f1 ≤ 1125899906842624
    · rw [if_pos h]
      by_cases h2 : (rd_T114 l i).f0 < lo
      · rw [if_pos h2]
        have e : okRow lo (rd_T114 l i :: l.drop (i + 1)) = false := by unfold okRow; rw [decide_eq_false (by omega)]; rfl
        rw [e]; rfl
      · rw [if_neg h2, ih']
        have e : okRow lo (rd_T114 l i :: l.drop (i + 1)) = okRow (rd_T114 l i).f1 (l.drop (i + 1)) := by
          conv => lhs; unfold okRow
          rw [decide_eq_true (by omega)]; rfl
        rw [e]
    · rw [if_neg h]
      have e : okRow lo (rd_T114 l i :: l.drop (i + 1)) = false := by unfold okRow; rw [decide_eq_false (by omega)]; rfl
      rw [e]; rfl
theorem row_eq (l : List S114) (k : Nat) (hk : 33 < k) : span_Row.f k l = some (rowErr l) := by
  unfold span_Row.f rowErr
  by_cases h : 32 < l.length
  · rw [if_pos (by omega), if_pos h]
  · rw [if_neg (by omega), if_neg h]
    exact row_l0 l (by omega) l.length k 0 0 (by omega) (by omega)
theorem okRow_from {lo : Int} {l : List S114} (h : okRow lo l = true) : RowFrom lo l ∧ ∀ s, s ∈ l → s.f1 ≤ 1125899906842624 := by
  induction l generalizing lo with
  | nil => exact ⟨trivial, fun s hs => by cases hs⟩
  | cons s r ih =>
    simp only [okRow, Bool.and_eq_true, decide_eq_true_eq] at h
    obtain ⟨a, b⟩ := ih h.2
    refine ⟨⟨h.1.2.2.2, h.1.2.1, a⟩, fun t ht => ?_⟩
    rcases List.mem_cons.1 ht with rfl | ht
    · exact h.1.2.2.1
    · exact b t ht
theorem rowErr_ok {l : List S114} (h : rowErr l = 0) : RowOk 1125899906842624 l := by
  unfold rowErr at h
  split at h
  · omega
  · split at h
    · rename_i h1 h2
      obtain ⟨a, b⟩ := okRow_from h2
      exact ⟨by omega, a, b⟩
    · omega
theorem row_any (A : Option Addr) (c : Nat) (l : List S114) (w : World) (hr : Kd.C k114 w A l.length l) (hc : l.length ≤ c) :
    Calls Tryz.prog 119 #[.slice A l.length c] w fun e w' => e = .returned (.int .i64 (rowErr l)) ∧ Below w.heap.size w w' :=
  span_Row.calls 40 A c l _ w hr hc (row_eq l 40 (by omega))
def lastEnd (l : List S114) : Int := match l.getLast? with | some s => s.f1 | none => 0
def weekErr (l : List S114) : Int := if rowErr l = 0 then (if 604800 < lastEnd l then 2 else 0) else rowErr l
theorem RowFrom.le_last {lo : Int} {l : List S114} (h : RowFrom lo l) : ∀ s, s ∈ l → s.f1 ≤ lastEnd l := by
  induction l generalizing lo with
  | nil => intro s hs; cases hs
  | cons t r ih =>
    intro s hs
    cases r with
    | nil =>
      rcases List.mem_cons.1 hs with rfl | hs
      · exact Int.le_refl _
      · cases hs
    | cons u v =>
      have hl : lastEnd (t :: u :: v) = lastEnd (u :: v) := by simp [lastEnd, List.getLast?_cons_cons]
      rw [hl]
      rcases List.mem_cons.1 hs with rfl | hs
      · have h1 := ih h.2.2 u List.mem_cons_self
        have h2 := h.2.2.1
        have h3 := h.2.2.2.1
        omega
      · exact ih h.2.2 s hs
theorem weekErr_ok {l : List S114} (h : weekErr l = 0) : RowOk 604800 l := by
  unfold weekErr at h
  split at h
  · rename_i h1
    split at h
    · omega
    · have h2 := rowErr_ok h1
      exact ⟨h2.len, h2.row, fun s hs => by have := h2.row.le_last s hs; omega⟩
  · omega
end Go.Proofs.YtepldlnmeenlbaaGreat.Own
namespace Go.Proofs.YtepldlnmeenlbaaGreat.Own
open Go.RowKit Go.Proofs Go.Proofs.YtepldlnmeenlbaaGreatW.PrintWords Go.Proofs.YtepldlnmeenlbaaGreatW.PrintLast Go.Proofs.YtepldlnmeenlbaaGreatW.PrintMore Go.Proofs.YtepldlnmeenlbaaGreat.Base
set_option maxHeartbeats 1600000 in
set_option maxRecDepth 100000 in
theorem weeknew_yes (A : Option Addr) (c : Nat) (l : List S114) (w : World) (hr : Kd.C k114 w A l.length l) (hc : l.length ≤ c) (he : weekErr l = 0) :
    Calls Tryz.prog 81 #[.slice A l.length c] w fun e w' => ∃ pb cb, e = .returned (.tuple #[.pointer (some ⟨pb, 0, none⟩), .int .i64 0]) ∧ PlanAt w' w.heap.size pb cb l ∧ Below w.heap.size w w' := by
  have HR := Aside0.mk hr
  have HB := Aside0.mk (Below.refl w.heap.size w)
  have HOK := Aside0.mk (weekErr_ok he)
  have H0 : Aside0 (rowErr l = 0) := ⟨by unfold weekErr at he; split at he <;> omega⟩
  have hmf : ∀ (fn : Fn) (first cap : Array Value) (w : World), (Instr.makeFunc fn first cap).run Tryz.prog w = .ok (.func fn first cap) w := fun _ _ _ _ => rfl
  have hl32 := HOK.out.len
  clear hr he
  by_cases hpos : 0 < l.length
  · have hlast : ¬ 604800 < (rd_T114 l ((l.length : Int) - 1)).f1 := by
      have h1 := HOK.out.top (rd_T114 l ((l.length : Int) - 1)) (by rw [show (l.length : Int) - 1 = ((l.length - 1 : Nat) : Int) by omega, rd_at l (l.length - 1) (by omega)]; exact List.getElem_mem _)
      omega
    obtain ⟨ad, e, hx0, hx1⟩ := at_T114 HR.out ((l.length : Int) - 1) (by omega) (by omega)
    cases e
    rw [show ((l.length : Int) - 1).toNat = l.length - 1 by omega] at hx0 hx1
    have p0 : (0 : Int) ≤ (l.length : Int) - 1 := by omega
    have p1 : (l.length : Int) - 1 < l.length := by omega
    have hgt : (0 : Int) < (l.length : Int) := by omega
    have hd : decide ((0 : Int) < (l.length : Int)) = true := decide_eq_true hgt
    go_enter Tryz.func81, Tryz.ntmps81
    go_wp2_with (first | (go_at_call 119; refine (row_any _ c l _ HR.out hc).mono ?_; rintro e w1 ⟨rfl, hb⟩; rw [H0.out]; have n0 := Aside0.mk (HB.out.trans hb); clear HB; have HB := n0; clear n0; replace hx0 := (hb.cell (World.block_lt_of_cell? w _ hx0)).trans hx0; replace hx1 := (hb.cell (World.block_lt_of_cell? w _ hx1)).trans hx1; clear hb) | (go_at_call 120; refine (clone_any _ c l _ (Kd.C_below HR.out HB.out) hc hl32).mono ?_; rintro e w2 ⟨A2, c2, rfl, hc2, hR2, hb⟩; have HR2 := Aside0.mk (Kd.R_lower hR2 HB.out.size); have n0 := Aside0.mk (below_step HB.out hb); clear HB; have HB := n0; clear n0 hR2 hb))
    clear hx0 hx1 hlast p0 p1 hgt hd
    have BP := Aside0.mk (blk_new w2 (.cells #[.slice A2 l.length c2, .pointer none] 199))
    have HB3 := Aside0.mk (below_alloc HB.out (.cells #[.slice A2 l.length c2, .pointer none] 199))
    have HR3 := Aside0.mk (Kd.R_alloc HR2.out (.cells #[.slice A2 l.length c2, .pointer none] 199))
    have HS3 : Aside0 (w.heap.size ≤ w2.heap.size) := ⟨HB.out.size⟩
    have HS4 : Aside0 ((w2.alloc (.cells #[.slice A2 l.length c2, .pointer none] 199)).heap.size = w2.heap.size + 1) := ⟨by simp⟩
    generalize (w2.alloc (.cells #[.slice A2 l.length c2, .pointer none] 199)) = w3 at BP HB3 HR3 HS4 ⊢
    generalize w2.heap.size = pb at BP HS3 HS4 ⊢
    refine (lazy_new _ _ _ w3).mono ?_
    rintro e w4 ⟨rfl, rfl⟩
    have BP4 := Aside0.mk (blk_alloc BP.out (cellObj 0 0 0 0 (sumsFn pb) (.slice none 0 0)))
    have BC4 := Aside0.mk (blk_new w3 (cellObj 0 0 0 0 (sumsFn pb) (.slice none 0 0)))
    have HB4 := Aside0.mk (below_alloc HB3.out (cellObj 0 0 0 0 (sumsFn pb) (.slice none 0 0)))
    have HR4 := Aside0.mk (Kd.R_alloc HR3.out (cellObj 0 0 0 0 (sumsFn pb) (.slice none 0 0)))
    unfold sumsFn at BP4 BC4 HB4 HR4
    generalize (w3.alloc (cellObj 0 0 0 0 (.func (.func 122) #[.pointer (some ⟨pb, 0, none⟩)] #[]) (.slice none 0 0))) = w4 at BP4 BC4 HB4 HR4 ⊢
    generalize w3.heap.size = cb at BC4 HS4 ⊢
    have c1 : w4.cell? ⟨pb, 1, none⟩ = some (.pointer none) := (blk_cell BP4.out 1).trans rfl
    have f1 : w4.frozen? ⟨pb, 1, none⟩ = false := blk_frozen BP4.out 1
    go_wp2
    go_ret2
    have hne : pb ≠ cb := by have := HS4.out; omega
    refine ⟨pb, cb, rfl, ⟨HOK.out, HS3.out, by have := HS3.out; have := HS4.out; omega, hne, ⟨A2, c2, blk_put (cs := #[.slice A2 l.length c2, .pointer none]) BP4.out 1 _ rfl, hc2, ?_⟩, ⟨0, 0, .inl ⟨_, blk_far (p := ⟨pb, 1, none⟩) BC4.out (fun e => hne e.symm) _⟩⟩⟩, below_set HB4.out HS3.out⟩
    exact Kd.R_mono (Kd.R_far (p := ⟨pb, 1, none⟩) (Kd.R_mono (Kd.R_types (Kd.R_types HR4.out BC4.out (by decide)) BP4.out (by decide)) (ok' := fun k => k ≠ cb ∧ k ≠ pb) (fun _ h => ⟨h.1.2, h.2⟩)) (fun _ h => h.2) _) (fun _ h => h.1)
  · have h0 : l = [] := List.eq_nil_of_length_eq_zero (by omega)
    have hgt : ¬ (0 : Int) < (l.length : Int) := by omega
    have hd : decide ((0 : Int) < (l.length : Int)) = false := decide_eq_false hgt
    have hd2 : decide (0 < l.length) = false := decide_eq_false (by omega)
    clear h0
    go_enter Tryz.func81, Tryz.ntmps81
    go_wp2_with (first | (go_at_call 119; refine (row_any _ c l _ HR.out hc).mono ?_; rintro e w1 ⟨rfl, hb⟩; rw [H0.out]; have n0 := Aside0.mk (HB.out.trans hb); clear HB; have HB := n0; clear n0; clear hb) | (go_at_call 120; refine (clone_any _ c l _ (Kd.C_below HR.out HB.out) hc hl32).mono ?_; rintro e w2 ⟨A2, c2, rfl, hc2, hR2, hb⟩; have HR2 := Aside0.mk (Kd.R_lower hR2 HB.out.size); have n0 := Aside0.mk (below_step HB.out hb); clear HB; have HB := n0; clear n0 hR2 hb))
    clear hgt hd hd2
    have BP := Aside0.mk (blk_new w2 (.cells #[.slice A2 l.length c2, .pointer none] 199))
    have HB3 := Aside0.mk (below_alloc HB.out (.cells #[.slice A2 l.length c2, .pointer none] 199))
    have HR3 := Aside0.mk (Kd.R_alloc HR2.out (.cells #[.slice A2 l.length c2, .pointer none] 199))
    have HS3 : Aside0 (w.heap.size ≤ w2.heap.size) := ⟨HB.out.size⟩
    have HS4 : Aside0 ((w2.alloc (.cells #[.slice A2 l.length c2, .pointer none] 199)).heap.size = w2.heap.size + 1) := ⟨by simp⟩
    generalize (w2.alloc (.cells #[.slice A2 l.length c2, .pointer none] 199)) = w3 at BP HB3 HR3 HS4 ⊢
    generalize w2.heap.size = pb at BP HS3 HS4 ⊢
    refine (lazy_new _ _ _ w3).mono ?_
    rintro e w4 ⟨rfl, rfl⟩
    have BP4 := Aside0.mk (blk_alloc BP.out (cellObj 0 0 0 0 (sumsFn pb) (.slice none 0 0)))
    have BC4 := Aside0.mk (blk_new w3 (cellObj 0 0 0 0 (sumsFn pb) (.slice none 0 0)))
    have HB4 := Aside0.mk (below_alloc HB3.out (cellObj 0 0 0 0 (sumsFn pb) (.slice none 0 0)))
    have HR4 := Aside0.mk (Kd.R_alloc HR3.out (cellObj 0 0 0 0 (sumsFn pb) (.slice none 0 0)))
    unfold sumsFn at BP4 BC4 HB4 HR4
    generalize (w3.alloc (cellObj 0 0 0 0 (.func (.func 122) #[.pointer (some ⟨pb, 0, none⟩)] #[]) (.slice none 0 0))) = w4 at BP4 BC4 HB4 HR4 ⊢
    generalize w3.heap.size = cb at BC4 HS4 ⊢
    have c1 : w4.cell? ⟨pb, 1, none⟩ = some (.pointer none) := (blk_cell BP4.out 1).trans rfl
    have f1 : w4.frozen? ⟨pb, 1, none⟩ = false := blk_frozen BP4.out 1
    go_wp2
    go_ret2
    have hne : pb ≠ cb := by have := HS4.out; omega
    refine ⟨pb, cb, rfl, ⟨HOK.out, HS3.out, by have := HS3.out; have := HS4.out; omega, hne, ⟨A2, c2, blk_put (cs := #[.slice A2 l.length c2, .pointer none]) BP4.out 1 _ rfl, hc2, ?_⟩, ⟨0, 0, .inl ⟨_, blk_far (p := ⟨pb, 1, none⟩) BC4.out (fun e => hne e.symm) _⟩⟩⟩, below_set HB4.out HS3.out⟩
    exact Kd.R_mono (Kd.R_far (p := ⟨pb, 1, none⟩) (Kd.R_mono (Kd.R_types (Kd.R_types HR4.out BC4.out (by decide)) BP4.out (by decide)) (ok' := fun k => k ≠ cb ∧ k ≠ pb) (fun _ h => ⟨h.1.2, h.2⟩)) (fun _ h => h.2) _) (fun _ h => h.1)
end Go.Proofs.YtepldlnmeenlbaaGreat.Own
namespace Go.Proofs.YtepldlnmeenlbaaGreat.Own
open Go.RowKit Go.Proofs Go.Proofs.YtepldlnmeenlbaaGreatW.PrintWords Go.Proofs.YtepldlnmeenlbaaGreatW.PrintLast Go.Proofs.YtepldlnmeenlbaaGreatW.PrintMore Go.Proofs.YtepldlnmeenlbaaGreat.Base
def atP (l : List S114) (t : Int) : Nat := l.findIdx fun s => decide (t < s.f1)
theorem atP_le (l : List S114) (t : Int) : atP l t ≤ l.length := List.findIdx_le_length
theorem atP_lt {l : List S114} {t : Int} {j : Nat} (h : j < atP l t) (hj : j < l.length) : (l[j]).f1 ≤ t := by
  have := List.not_of_lt_findIdx h
  simpa using this
theorem atP_at {l : List S114} {t : Int} (h : atP l t < l.length) : t < (l[atP l t]).f1 := by
  exact of_decide_eq_true (List.findIdx_getElem (p := fun s : S114 => decide (t < s.f1)) (w := h))
theorem RowFrom.ends {lo : Int} {l : List S114} (h : RowFrom lo l) : ∀ (i j : Nat) (hi : i ≤ j) (hj : j < l.length), (l[i]).f1 ≤ (l[j]).f1 := by
  induction l generalizing lo with
  | nil => intro i j _ hj; simp at hj
  | cons s r ih =>
    intro i j hi hj
    rcases i with _ | i
    · rcases j with _ | j
      · exact Int.le_refl _
      · simp only [List.getElem_cons_zero, List.getElem_cons_succ]
        have h1 : ∀ (m : Nat) (hm : m < r.length), s.f1 ≤ (r[m]).f1 := by
          intro m hm
          have h2 := ih h.2.2 0 m (Nat.zero_le _) hm
          have h3 : RowFrom s.f1 r := h.2.2
          cases r with
          | nil => simp at hm
          | cons u v => have h4 := h3.1; have h5 := h3.2.1; simp only [List.getElem_cons_zero] at h2; omega
        exact h1 j (by simpa using hj)
    · rcases j with _ | j
      · omega
      · simp only [List.getElem_cons_succ]
        exact ih h.2.2 i j (by omega) (by simpa using hj)
theorem atP_gt {lo : Int} {l : List S114} {t : Int} (h : RowFrom lo l) {j : Nat} (hj : j < l.length) (ht : (l[j]).f1 ≤ t) : j < atP l t := by
  apply Nat.lt_of_not_le
  intro hle
  have h1 := atP_at (l := l) (t := t) (by omega)
  have h2 := h.ends (atP l t) j hle hj
  omega
theorem atP_ge {l : List S114} {t : Int} {j : Nat} (hj : j < l.length) (ht : t < (l[j]).f1) : atP l t ≤ j := by
  apply Nat.le_of_not_lt
  intro hlt
  have := atP_lt hlt hj
  omega
set_option maxHeartbeats 1600000 in
set_option maxRecDepth 100000 in
theorem search_any (A : Option Addr) (c : Nat) (l : List S114) (t : Int) (w : World) (hr : Kd.C k114 w A l.length l) (hc : l.length ≤ c) {hi : Int} (hok : RowOk hi l) :
    Calls Tryz.prog 158 #[.slice A l.length c, .int .i64 t, .func (.func 159) #[] #[]] w fun e w' => e = .returned (.tuple #[.int .i64 (atP l t : Int), .bool false]) ∧ Below w.heap.size w w' := by
  have HR := Aside0.mk hr
  have HB := Aside0.mk (Below.refl w.heap.size w)
  have HOK := Aside0.mk hok
  have hl := hok.len
  clear hr hok
  go_enter Tryz.func158, Tryz.ntmps158
  go_wp2
  go_loopg [9, 10] l.length (fun g v9 v10 w' => ∃ i j : Int, v9 = .int .i64 i ∧ v10 = .int .i64 j ∧ Aside0 (0 ≤ i ∧ i ≤ atP l t ∧ (atP l t : Int) ≤ j ∧ j ≤ l.length ∧ (g : Int) = j - i) ∧ Aside0 (Below w.heap.size w w'))
  case atStart => exact ⟨0, l.length, rfl, rfl, ⟨by omega, by omega, by have := atP_le l t; omega, by omega, by omega⟩, HB⟩
  case round =>
    clear HB
    obtain ⟨i, j, rfl, rfl, HI, HB⟩ := hrel
    have hI := HI.out
    by_cases hlt : i < j
    · have p0 : 0 ≤ i := hI.1
      have p1 : i ≤ 32 := by omega
      have p2 : 0 ≤ j := by omega
      have p3 : j ≤ 32 := by omega
      have p4 : 0 ≤ (i + j) / 2 := by omega
      have p5 : (i + j) / 2 < l.length := by omega
      obtain ⟨ad, e, hx0, hx1⟩ := at_T114 HR.out ((i + j) / 2) p4 p5
      cases e
      replace hx0 := (HB.out.cell (World.block_lt_of_cell? w _ hx0)).trans hx0
      replace hx1 := (HB.out.cell (World.block_lt_of_cell? w _ hx1)).trans hx1
      have hrd : rd_T114 l ((i + j) / 2) = l[((i + j) / 2).toNat]'(by omega) := by
        rw [← rd_at l ((i + j) / 2).toNat (by omega)]
        congr 1
        omega
      have HRD := Aside0.mk hrd
      clear hI hrd
      go_wp2
      · have hle : (rd_T114 l ((i + j) / 2)).f1 ≤ t := by assumption
        rw [HRD.out] at hle
        have h1 := atP_gt HOK.out.row (by have := HI.out; omega) hle
        go_roundg (j - ((i + j) / 2 + 1)).toNat
        case measure => have := HI.out; omega
        case rel => exact ⟨(i + j) / 2 + 1, j, rfl, rfl, ⟨by have := HI.out; omega, by omega, by have := HI.out; omega, by have := HI.out; omega, by have := HI.out; omega⟩, ⟨by repeat (first | exact HB.out | apply below_alloc)⟩⟩
      · have hle : t < (rd_T114 l ((i + j) / 2)).f1 := by assumption
        rw [HRD.out] at hle
        have h1 := atP_ge (by have := HI.out; omega) hle
        go_roundg ((i + j) / 2 - i).toNat
        case measure => have := HI.out; omega
        case rel => exact ⟨i, (i + j) / 2, rfl, rfl, ⟨by have := HI.out; omega, by have := HI.out; omega, by omega, by have := HI.out; omega, by have := HI.out; omega⟩, ⟨by repeat (first | exact HB.out | apply below_alloc)⟩⟩
    · have hi' : i = atP l t := by omega
      subst hi'
      by_cases hat : atP l t < l.length
      · have p0 : (0 : Int) ≤ atP l t := by omega
        have p1 : (atP l t : Int) < l.length := by omega
        obtain ⟨ad, e, hx0, hx1⟩ := at_T114 HR.out (atP l t) p0 p1
        cases e
        replace hx0 := (HB.out.cell (World.block_lt_of_cell? w _ hx0)).trans hx0
        replace hx1 := (HB.out.cell (World.block_lt_of_cell? w _ hx1)).trans hx1
        rw [Int.toNat_natCast] at hx0 hx1
        have hd : decide (atP l t < l.length) = true := decide_eq_true hat
        have hlt2 : t < (rd_T114 l (atP l t)).f1 := by rw [rd_at l _ hat]; exact atP_at hat
        clear hI
        go_wp2
        go_ret2
        exact ⟨rfl, below_alloc HB.out _⟩
      · have hd : decide (atP l t < l.length) = false := decide_eq_false hat
        have hge : ¬ (atP l t : Int) < l.length := by omega
        clear hI
        go_wp2
        go_ret2
        exact ⟨rfl, HB.out⟩
set_option maxRecDepth 100000 in
theorem at_any (n pb cb : Nat) (row : List S114) (t : Int) (w : World) (h : PlanAt w n pb cb row) :
    Calls Tryz.prog 141 #[.pointer (some ⟨pb, 0, none⟩), .int .i64 t] w fun e w' => e = .returned (.int .i64 (atP row t : Int)) ∧ Below w.heap.size w w' := by
  obtain ⟨A, c, hb, hc, hr⟩ := h.blk
  have c0 : w.cell? ⟨pb, 0, none⟩ = some (.slice A row.length c) := (blk_cell hb 0).trans rfl
  have HR := Aside0.mk (Kd.R_reads' hr).2.2
  have HOK := Aside0.mk h.ok
  clear hb hr h
  go_enter Tryz.func141, Tryz.ntmps141
  go_wp2_with (go_at_call 158; refine (search_any A c row t _ HR.out hc HOK.out).mono ?_; rintro e w1 ⟨rfl, hb⟩; have HB := Aside0.mk hb; clear hb)
  go_ret
  exact ⟨rfl, HB.out⟩
theorem plannone_any (n pb cb : Nat) (row : List S114) (w : World) (h : PlanAt w n pb cb row) :
    Calls Tryz.prog 136 #[.pointer (some ⟨pb, 0, none⟩)] w fun e w' => e = .returned (.bool false) ∧ w = w' := by
  obtain ⟨A, c, hb, hc, hr⟩ := h.blk
  have c1 : w.cell? ⟨pb, 1, none⟩ = some (.pointer (some ⟨cb, 0, none⟩)) := (blk_cell hb 1).trans rfl
  clear hb hr h
  go_enter Tryz.func136, Tryz.ntmps136
  go_wp2
  go_ret
  exact ⟨rfl, rfl⟩
end Go.Proofs.YtepldlnmeenlbaaGreat.Own
namespace Go.Proofs.YtepldlnmeenlbaaGreat.Own
open Go.RowKit Go.Proofs Go.Proofs.YtepldlnmeenlbaaGreatW.PrintWords Go.Proofs.YtepldlnmeenlbaaGreatW.PrintLast Go.Proofs.YtepldlnmeenlbaaGreatW.PrintMore
theorem wpAnyLast_switch {P : Program} {ops : Array Oper} {Q : Exit → Act → World → Prop} {md : Region.Mode} {S : World → Prop} {ds : List Nat} (w1 : World) :
    ∀ (fuel : Nat) (l : Array Bool) (a : Act) (w : World), w = w1 → wpAnyLast P md ops Q (fun w' => w' = w1) [] fuel l a w → wpAnyLast P md ops Q S ds fuel l a w
  | 0, _, _, _, _, h => h
  | fuel + 1, l, a, w, he, h => by
    refine ⟨h.1, fun i hi => wpOp_mono (fun a' w' h' => ?_) (h.2 i hi)⟩
    have h1 : w' = w1 := h'.1 (by simp) he
    exact ⟨fun _ hS => by rw [h1, ← he]; exact hS, wpAnyLast_switch w1 fuel _ a' w' h1 h'.2⟩
theorem switch_ {P : Program} {ops : Array Oper} {Q : Exit → Act → World → Prop} {md : Region.Mode} {S : World → Prop} {ds : List Nat} {fuel : Nat} {l : Array Bool} {a : Act} {w : World}
    (h : w = w → wpAnyLast P md ops Q (fun w' => w' = w) [] fuel l a w) : wpAnyLast P md ops Q S ds fuel l a w := wpAnyLast_switch w fuel l a w rfl (h rfl)
end Go.Proofs.YtepldlnmeenlbaaGreat.Own
namespace Go.Proofs.YtepldlnmeenlbaaGreat.Own
open Go.RowKit Go.Proofs Go.Proofs.YtepldlnmeenlbaaGreatW.PrintWords Go.Proofs.YtepldlnmeenlbaaGreatW.PrintLast Go.Proofs.YtepldlnmeenlbaaGreatW.PrintMore Go.Proofs.YtepldlnmeenlbaaGreat.Base
theorem max2_mx (k k' : IntKind) (x y : Int) : Builtin.max2 (.int k x) (.int k' y) = pure (.int k (mx x y)) := max2_int k k' x y
theorem min2_mn (k k' : IntKind) (x y : Int) : Builtin.min2 (.int k x) (.int k' y) = pure (.int k (mn x y)) := min2_int k k' x y
attribute [local go_sem] max2_mx min2_mn max_two min_two
def total_T3 : Bool × List (List Nat × List Nat) := (true, [([], []), ([0], [0]), ([1], [1]), ([2], [2]), ([3], [3]), ([], []), ([5], [5]), ([6], [6]), ([7], [7]), ([8], [8]), ([4, 9], [4, 9]), ([10], [10]), ([11, 4, 0, 1, 2, 3, 4, 5, 6, 7, 8, 9, 10, 11], [11])])
def total_B3 : List Nat := [0, 1, 3, 7, 15, 0, 32, 96, 224, 480, 1023, 2047, 4095]
theorem total_tab3 : rtab .any (opsOf Tryz.f105 3) = total_T3 := by kernel_rfl
theorem total_bits3 : waitsOk total_T3.2 total_B3 = true := by kernel_rfl
theorem psums_rd (l : List S114) (i : Nat) (h : i ≤ l.length) : rd (psums l) i = secs (l.take i) := by
  unfold rd
  rw [List.getD_eq_getElem?_getD, Int.toNat_natCast, psums_get _ _ h]
  rfl
set_option maxHeartbeats 1600000 in
set_option maxRecDepth 100000 in
theorem total_any (n pb cb : Nat) (row : List S114) (w : World) (h : PlanAt w n pb cb row) (hn : n ≤ w.heap.size) :
    Calls Tryz.prog 105 #[.pointer (some ⟨pb, 0, none⟩)] w fun e w' => e = .returned (.int .i64 (secs row)) ∧ PlanAt w' n pb cb row ∧ Upd cb w w' := by
  obtain ⟨A, c, hb, hc, hr⟩ := h.blk
  have c0 : w.drew.cell? ⟨pb, 0, none⟩ = some (.slice A row.length c) := (blk_cell hb 0).trans rfl
  have c1 : w.drew.cell? ⟨pb, 1, none⟩ = some (.pointer (some ⟨cb, 0, none⟩)) := (blk_cell hb 1).trans rfl
  have HBK := Aside0.mk (blk_drew hb)
  have HP := Aside0.mk h
  have HP1 : Aside0 (PlanAt w.drew n pb cb row) := ⟨h.keep (fun _ _ _ => rfl)⟩
  have HU1 : Aside0 (Upd cb w w.drew) := ⟨(Upd.refl cb w).drew⟩
  have HN1 : Aside0 (n ≤ w.drew.heap.size) := ⟨hn⟩
  clear hb hr h
  go_enter Tryz.func105, Tryz.ntmps105
  go_wp2_with (go_at_call 136; refine (plannone_any n pb cb row _ HP.out).mono ?_; rintro e w1 ⟨rfl, rfl⟩)
  refine start_ (n := 13) (S := fun w' => w'.cell? ⟨pb, 0, none⟩ = some (.slice A row.length c) ∧ w'.cell? ⟨pb, 1, none⟩ = some (.pointer (some ⟨cb, 0, none⟩))) (ds := []) #[false, false, false, false, false, false, false, false, false, false, false, false, false] (by kernel_rfl) rfl rfl ⟨c0, c1⟩ (fun hHeld => ?_); refine with_tabW total_tab3 total_bits3 (fun HT_ HW_ => ?_)
  refine pure_ (i := 0) (N := some 5) (v := ?_) (a' := ?_) #[true, false, false, false, false, false, false, false, false, false, false, false, false] rfl rfl (any_of HT_.out (by kernel_rfl)) (fun _ _ _ h => h) (Or.inl ⟨by rfl, ?_⟩) ?_ ?_
  rotate_left
  · intro w'
    go_simp
    with_reducible rfl
  rotate_left
  · simp only [Act.put, List.setIfInBounds_toArray, List.set_cons_zero, List.set_cons_succ, i64_w, i32_w]
    rfl
  refine pure_ (i := 1) (N := some 6) (v := ?_) (a' := ?_) #[true, true, false, false, false, false, false, false, false, false, false, false, false] rfl rfl (any_of HT_.out (by kernel_rfl)) (fun _ _ _ h => h) (Or.inl ⟨by rfl, ?_⟩) ?_ ?_
  rotate_left
  · intro w'
    go_simp
    with_reducible rfl
  rotate_left
  · simp only [Act.put, List.setIfInBounds_toArray, List.set_cons_zero, List.set_cons_succ, i64_w, i32_w]
    rfl
  refine pure_ (i := 2) (N := some 7) (v := ?_) (a' := ?_) #[true, true, true, false, false, false, false, false, false, false, false, false, false] rfl rfl (any_of HT_.out (by kernel_rfl)) (fun _ _ _ h => h) (Or.inl ⟨by rfl, ?_⟩) ?_ ?_
  rotate_left
  · intro w'
    go_simp
    with_reducible rfl
  rotate_left
  · simp only [Act.put, List.setIfInBounds_toArray, List.set_cons_zero, List.set_cons_succ, i64_w, i32_w]
    rfl
  refine pure_ (i := 5) (N := some 10) (v := ?_) (a' := ?_) #[true, true, true, false, false, true, false, false, false, false, false, false, false] rfl rfl (any_of HT_.out (by kernel_rfl)) (fun _ _ _ h => h) (Or.inl ⟨by rfl, ?_⟩) ?_ ?_
  rotate_left
  · intro w'
    go_simp
    with_reducible rfl
  rotate_left
  · simp only [Act.put, List.setIfInBounds_toArray, List.set_cons_zero, List.set_cons_succ, i64_w, i32_w]
    rfl
  refine pure_ (i := 6) (N := some 11) (v := ?_) (a' := ?_) #[true, true, true, false, false, true, true, false, false, false, false, false, false] rfl rfl (any_of HT_.out (by kernel_rfl)) (fun _ _ _ h => h) (Or.inl ⟨by rfl, ?_⟩) ?_ ?_
  rotate_left
  · intro w'
    go_simp
    with_reducible rfl
  rotate_left
  · simp only [Act.put, List.setIfInBounds_toArray, List.set_cons_zero, List.set_cons_succ, i64_w, i32_w]
    rfl
  refine pure_ (i := 7) (N := some 12) (v := ?_) (a' := ?_) #[true, true, true, false, false, true, true, true, false, false, false, false, false] rfl rfl (any_of HT_.out (by kernel_rfl)) (fun _ _ _ h => h) (Or.inl ⟨by rfl, ?_⟩) ?_ ?_
  rotate_left
  · intro w'
    go_simp
    with_reducible rfl
  rotate_left
  · simp only [Act.put, List.setIfInBounds_toArray, List.set_cons_zero, List.set_cons_succ, i64_w, i32_w]
    rfl
  refine take_ (i := 3) (N := some 8) (v := ?_) (a' := ?_) #[true, true, true, true, false, true, true, true, false, false, false, false, false] rfl rfl (take_ofW HT_.out HW_.out (by kernel_rfl)) (fun _ _ _ h => h) (Or.inl ⟨by rfl, ?_⟩) hHeld ?_ ?_
  rotate_left
  · rintro w' ⟨s0, s1⟩
    go_simp
    with_reducible rfl
  rotate_left
  · simp only [Act.put, List.setIfInBounds_toArray, List.set_cons_zero, List.set_cons_succ, i64_w, i32_w]
    rfl
  refine take_ (i := 8) (N := some 13) (v := ?_) (a' := ?_) #[true, true, true, true, false, true, true, true, true, false, false, false, false] rfl rfl (take_ofW HT_.out HW_.out (by kernel_rfl)) (fun _ _ _ h => h) (Or.inl ⟨by rfl, ?_⟩) hHeld ?_ ?_
  rotate_left
  · rintro w' ⟨s0, s1⟩
    go_simp
    with_reducible rfl
  rotate_left
  · simp only [Act.put, List.setIfInBounds_toArray, List.set_cons_zero, List.set_cons_succ, i64_w, i32_w]
    rfl
  refine pure_ (i := 9) (N := some 14) (v := ?_) (a' := ?_) #[true, true, true, true, false, true, true, true, true, true, false, false, false] rfl rfl (any_of HT_.out (by kernel_rfl)) (fun _ _ _ h => h) (Or.inl ⟨by rfl, ?_⟩) ?_ ?_
  rotate_left
  · intro w'
    go_simp
    with_reducible rfl
  rotate_left
  · simp only [Act.put, List.setIfInBounds_toArray, List.set_cons_zero, List.set_cons_succ, i64_w, i32_w]
    rfl
  refine one_ (i := 4) (N := some 9) #[true, true, true, true, true, true, true, true, true, true, false, false, false] rfl rfl (one_of HT_.out (by kernel_rfl)) (by decide) (fun K hK => ?_)
  refine goes_ Tryz.func137 (by kernel_rfl) rfl #[.pointer (some ⟨cb, 0, none⟩)] (by rfl) rfl rfl (by (try simp only [List.map_toArray, List.map_cons, List.map_nil]); first | done | rfl) ?_
  refine (get_any cb pb n row _ HP1.out HN1.out).mono ?_
  rintro e w2 ⟨A2, k2, rfl, P2, hC2, hl2, U2⟩
  refine ⟨_, rfl, ?_⟩
  have hBK2 := U2.blk HBK.out HP1.out.ne
  have d0 : w2.cell? ⟨pb, 0, none⟩ = some (.slice A row.length c) := (blk_cell hBK2 0).trans rfl
  have d1 : w2.cell? ⟨pb, 1, none⟩ = some (.pointer (some ⟨cb, 0, none⟩)) := (blk_cell hBK2 1).trans rfl
  obtain ⟨ad2, e2, hx2⟩ := Kd.at_int hC2 row.length (by omega) (by rw [psums_length]; omega)
  cases e2
  rw [psums_rd row row.length (Nat.le_refl _), List.take_length, Int.toNat_natCast] at hx2
  have HP2 := Aside0.mk P2
  have HU2 := Aside0.mk (HU1.out.trans U2)
  have hlt : (row.length : Int) < ((psums row).length : Int) := by rw [psums_length]; omega
  have hlt' : row.length < (psums row).length := by omega
  clear hC2 P2 U2 hBK2
  refine hK.out _ _ ⟨d0, d1⟩ (fun hHeld => ?_)
  clear hK K
  refine norm_ (a' := ?_) ?_ ?_
  rotate_left
  · show Act.put _ (some 9) _ = _
    simp only [Act.put, List.setIfInBounds_toArray, List.set_cons_zero, List.set_cons_succ, i64_w, i32_w]
    rfl
  refine switch_ (fun hHeld => ?_)
  refine pure_ (i := 10) (N := some 15) (v := ?_) (a' := ?_) #[true, true, true, true, true, true, true, true, true, true, true, false, false] rfl rfl (any_of HT_.out (by kernel_rfl)) (fun _ _ _ h => h) (Or.inl ⟨by rfl, ?_⟩) ?_ ?_
  rotate_left
  · intro w'
    go_simp
    with_reducible rfl
  rotate_left
  · simp only [Act.put, List.setIfInBounds_toArray, List.set_cons_zero, List.set_cons_succ, i64_w, i32_w]
    rfl
  refine take_ (i := 11) (N := some 16) (v := ?_) (a' := ?_) #[true, true, true, true, true, true, true, true, true, true, true, true, false] rfl rfl (take_ofW HT_.out HW_.out (by kernel_rfl)) (fun _ _ _ h => h) (Or.inl ⟨by rfl, ?_⟩) hHeld ?_ ?_
  rotate_left
  · rintro w' rfl
    go_simp
    with_reducible rfl
  rotate_left
  · simp only [Act.put, List.setIfInBounds_toArray, List.set_cons_zero, List.set_cons_succ, i64_w, i32_w]
    rfl
  refine pure_ (i := 12) (N := some 2) (v := ?_) (a' := ?_) #[true, true, true, true, true, true, true, true, true, true, true, true, true] rfl rfl (any_of HT_.out (by kernel_rfl)) (fun _ _ _ h => h) (Or.inl ⟨by rfl, ?_⟩) ?_ ?_
  rotate_left
  · intro w'
    go_simp
    with_reducible rfl
  rotate_left
  · simp only [Act.put, List.setIfInBounds_toArray, List.set_cons_zero, List.set_cons_succ, i64_w, i32_w]
    rfl
  refine done_ (done_of HT_.out (by kernel_rfl)) ?_
  go_wp2
  go_ret
  exact ⟨rfl, HP2.out, HU2.out⟩
def untilP (row : List S114) (t : Int) : Int :=
  mn (mx t 0) 2251799813685248 / 604800 * secs row + secs (row.take (atP row (mn (mx t 0) 2251799813685248 % 604800))) +
    if atP row (mn (mx t 0) 2251799813685248 % 604800) < row.length then mx (mn (mx t 0) 2251799813685248 % 604800 - (rd_T114 row (atP row (mn (mx t 0) 2251799813685248 % 604800))).f0) 0 else 0
theorem clamp_bound (t : Int) : 0 ≤ mn (mx t 0) 2251799813685248 ∧ mn (mx t 0) 2251799813685248 ≤ 2251799813685248 := by
  unfold mn mx; split <;> split <;> omega
def until_T6 : Bool × List (List Nat × List Nat) := (true, [([], []), ([], []), ([1], [1]), ([0, 2], [0, 2]), ([], []), ([4], [4]), ([5], [5]), ([6], [6]), ([7, 2], [7]), ([], []), ([8, 9], [8, 9]), ([10], [10]), ([3, 11], [3, 11]), ([12, 8, 0, 1, 2, 3, 4, 5, 6, 7, 8, 9, 10, 11, 12], [12])])
def until_B6 : List Nat := [0, 0, 2, 7, 0, 16, 48, 112, 246, 0, 1014, 2038, 4095, 8191]
theorem until_tab6 : rtab .any (opsOf Tryz.f108 6) = until_T6 := by kernel_rfl
theorem until_bits6 : waitsOk until_T6.2 until_B6 = true := by kernel_rfl
set_option maxHeartbeats 4000000 in
set_option maxRecDepth 100000 in
theorem until_any (n pb cb : Nat) (row : List S114) (t : Int) (w : World) (h : PlanAt w n pb cb row) (hn : n ≤ w.heap.size) :
    Calls Tryz.prog 108 #[.pointer (some ⟨pb, 0, none⟩), .int .i64 t] w fun e w' => e = .returned (.int .i64 (untilP row t)) ∧ PlanAt w' n pb cb row ∧ Upd cb w w' := by
  obtain ⟨A, c, hb, hc, hr⟩ := h.blk
  have HBK0 := Aside0.mk hb
  have HP0 := Aside0.mk h
  have HN0 := Aside0.mk hn
  have HU0 := Aside0.mk (Upd.refl cb w)
  have HR0 := Aside0.mk (Kd.R_reads' hr).2.2
  have HRR := Aside0.mk hr
  have HOK := Aside0.mk h.ok
  clear hb hr h hn
  have HUE : Aside0 (untilP row t = mn (mx t 0) 2251799813685248 / 604800 * secs row + secs (row.take (atP row (mn (mx t 0) 2251799813685248 % 604800))) +
    if atP row (mn (mx t 0) 2251799813685248 % 604800) < row.length then mx (mn (mx t 0) 2251799813685248 % 604800 - (rd_T114 row (atP row (mn (mx t 0) 2251799813685248 % 604800))).f0) 0 else 0) := ⟨rfl⟩
  generalize untilP row t = U at HUE ⊢
  obtain ⟨b0, b1⟩ := clamp_bound t
  go_enter Tryz.func108, Tryz.ntmps108
  go_wp2_with (go_at_call 136; refine (plannone_any n pb cb row _ HP0.out).mono ?_; rintro e w1 ⟨rfl, rfl⟩)
  generalize mn (mx t 0) 2251799813685248 = x at b0 b1 HUE ⊢
  go_wp2_with (go_at_call 141; refine (at_any n pb cb row (x % 604800) _ HP0.out).mono ?_; rintro e w1 ⟨rfl, hb⟩; have HP1 := Aside0.mk (HP0.out.below hb); have HBK1 := Aside0.mk (blk_below HBK0.out hb); have HU1 := Aside0.mk (HU0.out.then hb); clear hb)
  have hat := atP_le row (x % 604800)
  generalize atP row (x % 604800) = i at hat HUE ⊢
  have HP2 : Aside0 (PlanAt w1.drew n pb cb row) := ⟨HP1.out.keep (fun _ _ _ => rfl)⟩
  have HU2 : Aside0 (Upd cb w w1.drew) := ⟨HU1.out.drew⟩
  have HN2 : Aside0 (n ≤ w1.drew.heap.size) := ⟨Nat.le_trans HN0.out HU2.out.size⟩
  have HBK2 := Aside0.mk (blk_drew HBK1.out)
  have c1 : w1.drew.cell? ⟨pb, 1, none⟩ = some (.pointer (some ⟨cb, 0, none⟩)) := (blk_cell HBK2.out 1).trans rfl
  refine start_ (n := 14) (S := fun w' => w'.cell? ⟨pb, 1, none⟩ = some (.pointer (some ⟨cb, 0, none⟩))) (ds := []) #[false, false, false, false, false, false, false, false, false, false, false, false, false, false] (by kernel_rfl) rfl rfl c1 (fun hHeld => ?_); refine with_tabW until_tab6 until_bits6 (fun HT_ HW_ => ?_)
  refine pure_ (i := 0) (N := some 21) (v := ?_) (a' := ?_) #[true, false, false, false, false, false, false, false, false, false, false, false, false, false] rfl rfl (any_of HT_.out (by kernel_rfl)) (fun _ _ _ h => h) (Or.inl ⟨by rfl, ?_⟩) ?_ ?_
  rotate_left
  · intro w'
    go_simp
    with_reducible rfl
  rotate_left
  · simp only [Act.put, List.setIfInBounds_toArray, List.set_cons_zero, List.set_cons_succ, i64_w, i32_w]
    rfl
  refine pure_ (i := 1) (N := some 22) (v := ?_) (a' := ?_) #[true, true, false, false, false, false, false, false, false, false, false, false, false, false] rfl rfl (any_of HT_.out (by kernel_rfl)) (fun _ _ _ h => h) (Or.inl ⟨by rfl, ?_⟩) ?_ ?_
  rotate_left
  · intro w'
    go_simp
    with_reducible rfl
  rotate_left
  · simp only [Act.put, List.setIfInBounds_toArray, List.set_cons_zero, List.set_cons_succ, i64_w, i32_w]
    rfl
  refine pure_ (i := 4) (N := some 25) (v := ?_) (a' := ?_) #[true, true, false, false, true, false, false, false, false, false, false, false, false, false] rfl rfl (any_of HT_.out (by kernel_rfl)) (fun _ _ _ h => h) (Or.inl ⟨by rfl, ?_⟩) ?_ ?_
  rotate_left
  · intro w'
    go_simp
    with_reducible rfl
  rotate_left
  · simp only [Act.put, List.setIfInBounds_toArray, List.set_cons_zero, List.set_cons_succ, i64_w, i32_w]
    rfl
  refine pure_ (i := 5) (N := some 26) (v := ?_) (a' := ?_) #[true, true, false, false, true, true, false, false, false, false, false, false, false, false] rfl rfl (any_of HT_.out (by kernel_rfl)) (fun _ _ _ h => h) (Or.inl ⟨by rfl, ?_⟩) ?_ ?_
  rotate_left
  · intro w'
    go_simp
    with_reducible rfl
  rotate_left
  · simp only [Act.put, List.setIfInBounds_toArray, List.set_cons_zero, List.set_cons_succ, i64_w, i32_w]
    rfl
  refine pure_ (i := 6) (N := some 27) (v := ?_) (a' := ?_) #[true, true, false, false, true, true, true, false, false, false, false, false, false, false] rfl rfl (any_of HT_.out (by kernel_rfl)) (fun _ _ _ h => h) (Or.inl ⟨by rfl, ?_⟩) ?_ ?_
  rotate_left
  · intro w'
    go_simp
    with_reducible rfl
  rotate_left
  · simp only [Act.put, List.setIfInBounds_toArray, List.set_cons_zero, List.set_cons_succ, i64_w, i32_w]
    rfl
  refine pure_ (i := 9) (N := some 30) (v := ?_) (a' := ?_) #[true, true, false, false, true, true, true, false, false, true, false, false, false, false] rfl rfl (any_of HT_.out (by kernel_rfl)) (fun _ _ _ h => h) (Or.inl ⟨by rfl, ?_⟩) ?_ ?_
  rotate_left
  · intro w'
    go_simp
    with_reducible rfl
  rotate_left
  · simp only [Act.put, List.setIfInBounds_toArray, List.set_cons_zero, List.set_cons_succ, i64_w, i32_w]
    rfl
  refine take_ (i := 7) (N := some 28) (v := ?_) (a' := ?_) #[true, true, false, false, true, true, true, true, false, true, false, false, false, false] rfl rfl (take_ofW HT_.out HW_.out (by kernel_rfl)) (fun _ _ _ h => h) (Or.inl ⟨by rfl, ?_⟩) hHeld ?_ ?_
  rotate_left
  · rintro w' s0
    go_simp
    with_reducible rfl
  rotate_left
  · simp only [Act.put, List.setIfInBounds_toArray, List.set_cons_zero, List.set_cons_succ, i64_w, i32_w]
    rfl
  refine one_ (i := 2) (N := some 23) #[true, true, true, false, true, true, true, true, false, true, false, false, false, false] rfl rfl (one_of HT_.out (by kernel_rfl)) (by decide) (fun K hK => ?_)
  refine goes_ Tryz.func105 (by kernel_rfl) rfl #[.pointer (some ⟨pb, 0, none⟩)] (by rfl) rfl rfl (by (try simp only [List.map_toArray, List.map_cons, List.map_nil]); first | done | rfl) ?_
  refine (total_any n pb cb row _ HP2.out HN2.out).mono ?_
  rintro e w3 ⟨rfl, P3, U3⟩
  refine ⟨_, rfl, ?_⟩
  have HBK3 := Aside0.mk (U3.blk HBK2.out HP2.out.ne)
  have d1 : w3.cell? ⟨pb, 1, none⟩ = some (.pointer (some ⟨cb, 0, none⟩)) := (blk_cell HBK3.out 1).trans rfl
  have HP3 := Aside0.mk P3
  have HU3 := Aside0.mk (HU2.out.trans U3)
  have HN3 : Aside0 (n ≤ w3.heap.size) := ⟨Nat.le_trans HN0.out HU3.out.size⟩
  clear P3 U3
  refine hK.out _ _ d1 (fun hHeld => ?_)
  clear hK K
  refine norm_ (a' := ?_) ?_ ?_
  rotate_left
  · show Act.put _ (some 23) _ = _
    simp only [Act.put, List.setIfInBounds_toArray, List.set_cons_zero, List.set_cons_succ, i64_w, i32_w]
    rfl
  refine pure_ (i := 3) (N := some 24) (v := ?_) (a' := ?_) #[true, true, true, true, true, true, true, true, false, true, false, false, false, false] rfl rfl (any_of HT_.out (by kernel_rfl)) (fun _ _ _ h => h) (Or.inl ⟨by rfl, ?_⟩) ?_ ?_
  rotate_left
  · intro w'
    go_simp
    with_reducible rfl
  rotate_left
  · simp only [Act.put, List.setIfInBounds_toArray, List.set_cons_zero, List.set_cons_succ, i64_w, i32_w]
    rfl
  refine one_ (i := 8) (N := some 29) #[true, true, true, true, true, true, true, true, true, true, false, false, false, false] rfl rfl (one_of HT_.out (by kernel_rfl)) (by decide) (fun K hK => ?_)
  refine goes_ Tryz.func137 (by kernel_rfl) rfl #[.pointer (some ⟨cb, 0, none⟩)] (by rfl) rfl rfl (by (try simp only [List.map_toArray, List.map_cons, List.map_nil]); first | done | rfl) ?_
  refine (get_any cb pb n row _ HP3.out HN3.out).mono ?_
  rintro e w4 ⟨A2, k2, rfl, P4, hC4, hl4, U4⟩
  refine ⟨_, rfl, ?_⟩
  have HBK4 := Aside0.mk (U4.blk HBK3.out HP3.out.ne)
  have d0 : w4.cell? ⟨pb, 0, none⟩ = some (.slice A row.length c) := (blk_cell HBK4.out 0).trans rfl
  have d1 : w4.cell? ⟨pb, 1, none⟩ = some (.pointer (some ⟨cb, 0, none⟩)) := (blk_cell HBK4.out 1).trans rfl
  obtain ⟨ad2, e2, hx2⟩ := Kd.at_int hC4 i (by omega) (by rw [psums_length]; omega)
  cases e2
  rw [psums_rd row i hat, Int.toNat_natCast] at hx2
  have HP4 := Aside0.mk P4
  have HU4 := Aside0.mk (HU3.out.trans U4)
  have hlt : (i : Int) < ((psums row).length : Int) := by rw [psums_length]; omega
  have hlt' : i < (psums row).length := by omega
  clear hC4 P4 U4
  refine hK.out _ _ d1 (fun hHeld => ?_)
  clear hK K
  refine norm_ (a' := ?_) ?_ ?_
  rotate_left
  · show Act.put _ (some 29) _ = _
    simp only [Act.put, List.setIfInBounds_toArray, List.set_cons_zero, List.set_cons_succ, i64_w, i32_w]
    rfl
  refine switch_ (fun hHeld => ?_)
  refine pure_ (i := 10) (N := some 31) (v := ?_) (a' := ?_) #[true, true, true, true, true, true, true, true, true, true, true, false, false, false] rfl rfl (any_of HT_.out (by kernel_rfl)) (fun _ _ _ h => h) (Or.inl ⟨by rfl, ?_⟩) ?_ ?_
  rotate_left
  · intro w'
    go_simp
    with_reducible rfl
  rotate_left
  · simp only [Act.put, List.setIfInBounds_toArray, List.set_cons_zero, List.set_cons_succ, i64_w, i32_w]
    rfl
  refine take_ (i := 11) (N := some 32) (v := ?_) (a' := ?_) #[true, true, true, true, true, true, true, true, true, true, true, true, false, false] rfl rfl (take_ofW HT_.out HW_.out (by kernel_rfl)) (fun _ _ _ h => h) (Or.inl ⟨by rfl, ?_⟩) hHeld ?_ ?_
  rotate_left
  · rintro w' rfl
    go_simp
    with_reducible rfl
  rotate_left
  · simp only [Act.put, List.setIfInBounds_toArray, List.set_cons_zero, List.set_cons_succ, i64_w, i32_w]
    rfl
  refine pure_ (i := 12) (N := some 33) (v := ?_) (a' := ?_) #[true, true, true, true, true, true, true, true, true, true, true, true, true, false] rfl rfl (any_of HT_.out (by kernel_rfl)) (fun _ _ _ h => h) (Or.inl ⟨by rfl, ?_⟩) ?_ ?_
  rotate_left
  · intro w'
    go_simp
    with_reducible rfl
  rotate_left
  · simp only [Act.put, List.setIfInBounds_toArray, List.set_cons_zero, List.set_cons_succ, i64_w, i32_w]
    rfl
  refine pure_ (i := 13) (N := some 8) (v := ?_) (a' := ?_) #[true, true, true, true, true, true, true, true, true, true, true, true, true, true] rfl rfl (any_of HT_.out (by kernel_rfl)) (fun _ _ _ h => h) (Or.inl ⟨by rfl, ?_⟩) ?_ ?_
  rotate_left
  · intro w'
    go_simp
    with_reducible rfl
  rotate_left
  · simp only [Act.put, List.setIfInBounds_toArray, List.set_cons_zero, List.set_cons_succ, i64_w, i32_w]
    rfl
  refine done_ (done_of HT_.out (by kernel_rfl)) ?_
  have s0 := HOK.out.secs (by omega)
  have s1 := (HOK.out.take i).secs (by omega)
  have q0 : 0 ≤ x / 604800 ∧ x / 604800 ≤ 3723213977 := by omega
  have m0 : 0 ≤ x / 604800 * secs row := Int.mul_nonneg q0.1 s0.1
  have m1 : x / 604800 * secs row ≤ 3723213977 * 604800 := Int.mul_le_mul q0.2 s0.2 s0.1 (by omega)
  have hv : wrap64 (wrap64 (x / 604800 * secs row) + secs (row.take i)) = x / 604800 * secs row + secs (row.take i) := by
    rw [wrap_id (x := x / 604800 * secs row) (by omega) (by omega), wrap_id (by omega) (by omega)]
  rw [hv]
  have v0 : 0 ≤ x / 604800 * secs row + secs (row.take i) := by omega
  have v1 : x / 604800 * secs row + secs (row.take i) ≤ 2251799813685248 + 1209600 := by omega
  generalize x / 604800 * secs row + secs (row.take i) = V at v0 v1 HUE ⊢
  clear hv m0 m1 q0 s0 s1
  by_cases hi : i < row.length
  · have p0 : (0 : Int) ≤ i := by omega
    have p1 : (i : Int) < row.length := by omega
    have hd : decide (i < row.length) = true := decide_eq_true hi
    have hmem := HOK.out.mem (rd_T114 row i) (by rw [rd_at row i hi]; exact List.getElem_mem _)
    obtain ⟨m0, m1, m2⟩ := hmem
    have hrC := (Kd.R_reads' (Kd.R_grown HRR.out HU4.out (fun k hk e => hk (by injection e)))).2.2
    obtain ⟨ad, e, hx0, hx1⟩ := at_T114 hrC i p0 p1
    cases e
    rw [Int.toNat_natCast] at hx0 hx1
    have hmx : 0 ≤ mx (x % 604800 - (rd_T114 row i).f0) 0 ∧ mx (x % 604800 - (rd_T114 row i).f0) 0 ≤ 604800 := by unfold mx; split <;> omega
    obtain ⟨mm0, mm1⟩ := hmx
    have HE : Aside0 (U = V + mx (x % 604800 - (rd_T114 row i).f0) 0) := ⟨by rw [HUE.out, if_pos hi]⟩
    clear hrC hx1 HUE
    go_wp2
    go_ret
    exact ⟨by rw [HE.out]; rfl, HP4.out, HU4.out⟩
  · have hd : decide (i < row.length) = false := decide_eq_false hi
    have p1 : ¬ (i : Int) < row.length := by omega
    have HE : Aside0 (U = V) := ⟨by rw [HUE.out, if_neg hi]; omega⟩
    clear HUE
    go_wp2
    go_ret
    exact ⟨by rw [HE.out]; rfl, HP4.out, HU4.out⟩
end Go.Proofs.YtepldlnmeenlbaaGreat.Own
namespace Go.Proofs.YtepldlnmeenlbaaGreat.Own
open Go.RowKit Go.Proofs Go.Proofs.YtepldlnmeenlbaaGreatW.PrintWords Go.Proofs.YtepldlnmeenlbaaGreatW.PrintLast Go.Proofs.YtepldlnmeenlbaaGreatW.PrintMore Go.Proofs.YtepldlnmeenlbaaGreat.Base
attribute [local go_sem] max2_mx min2_mn max_two min_two
theorem until_bound {row : List S114} (h : RowOk 604800 row) (t : Int) : 0 ≤ untilP row t ∧ untilP row t ≤ 2251799815500000 := by
  unfold untilP
  obtain ⟨b0, b1⟩ := clamp_bound t
  generalize mn (mx t 0) 2251799813685248 = x at b0 b1 ⊢
  have hat := atP_le row (x % 604800)
  generalize atP row (x % 604800) = i at hat ⊢
  have s0 := h.secs (by omega)
  have s1 := (h.take i).secs (by omega)
  have q0 : 0 ≤ x / 604800 ∧ x / 604800 ≤ 3723213977 := by omega
  have m0 : 0 ≤ x / 604800 * secs row := Int.mul_nonneg q0.1 s0.1
  have m1 : x / 604800 * secs row ≤ 3723213977 * 604800 := Int.mul_le_mul q0.2 s0.2 s0.1 (by omega)
  split
  · rename_i hi
    have hmem := h.mem (rd_T114 row i) (by rw [rd_at row i hi]; exact List.getElem_mem _)
    have hmx : 0 ≤ mx (x % 604800 - (rd_T114 row i).f0) 0 ∧ mx (x % 604800 - (rd_T114 row i).f0) 0 ≤ 604800 := by unfold mx; split <;> omega
    omega
  · omega
def betweenP (row : List S114) (a b : Int) : Int := mx (untilP row b - untilP row a) 0
theorem between_bound {row : List S114} (h : RowOk 604800 row) (a b : Int) : 0 ≤ betweenP row a b ∧ betweenP row a b ≤ 2251799815500000 := by
  have h1 := until_bound h a
  have h2 := until_bound h b
  unfold betweenP mx
  split <;> omega
set_option maxHeartbeats 1600000 in
set_option maxRecDepth 100000 in
theorem between_any (n pb cb : Nat) (row : List S114) (a b : Int) (w : World) (h : PlanAt w n pb cb row) (hn : n ≤ w.heap.size) :
    Calls Tryz.prog 124 #[.pointer (some ⟨pb, 0, none⟩), .int .i64 a, .int .i64 b] w fun e w' => e = .returned (.int .i64 (betweenP row a b)) ∧ PlanAt w' n pb cb row ∧ Upd cb w w' := by
  have HP := Aside0.mk h
  have HN := Aside0.mk hn
  have HU := Aside0.mk (Upd.refl cb w)
  obtain ⟨a0, a1⟩ := until_bound h.ok a
  obtain ⟨b0, b1⟩ := until_bound h.ok b
  have hmf : ∀ (fn : Fn) (first cap : Array Value) (w : World), (Instr.makeFunc fn first cap).run Tryz.prog w = .ok (.func fn first cap) w := fun _ _ _ _ => rfl
  clear h hn
  go_enter Tryz.func124, Tryz.ntmps124
  go_wp2_with (go_at_call 108; refine (until_any n pb cb row _ _ HP.out HN.out).mono ?_; rintro e w1 ⟨rfl, P1, U1⟩; have n0 := Aside0.mk P1; have n1 := Aside0.mk (HU.out.trans U1); have n2 := Aside0.mk (Nat.le_trans HN.out U1.size); clear HP HU HN P1 U1; have HP := n0; have HU := n1; have HN := n2; clear n0 n1 n2)
  go_ret
  exact ⟨rfl, HP.out, HU.out⟩
end Go.Proofs.YtepldlnmeenlbaaGreat.Own
namespace Go.Proofs.YtepldlnmeenlbaaGreat.Own
open Go.RowKit Go.Proofs Go.Proofs.YtepldlnmeenlbaaGreatW.PrintWords Go.Proofs.YtepldlnmeenlbaaGreatW.PrintLast Go.Proofs.YtepldlnmeenlbaaGreatW.PrintMore Go.Proofs.YtepldlnmeenlbaaGreat.Base
def geP (l : List Int) (t : Int) : Nat := l.findIdx fun x => decide (t ≤ x)
theorem geP_le (l : List Int) (t : Int) : geP l t ≤ l.length := List.findIdx_le_length
theorem geP_lt {l : List Int} {t : Int} {j : Nat} (h : j < geP l t) (hj : j < l.length) : l[j] < t := by
  have := List.not_of_lt_findIdx h
  simpa using this
theorem geP_at {l : List Int} {t : Int} (h : geP l t < l.length) : t ≤ l[geP l t] := of_decide_eq_true (List.findIdx_getElem (p := fun x : Int => decide (t ≤ x)) (w := h))
def Rising (l : List Int) : Prop := ∀ (i j : Nat) (_ : i ≤ j) (hj : j < l.length), l[i] ≤ l[j]
theorem geP_gt {l : List Int} {t : Int} (h : Rising l) {j : Nat} (hj : j < l.length) (ht : l[j] < t) : j < geP l t := by
  apply Nat.lt_of_not_le
  intro hle
  have h1 := geP_at (l := l) (t := t) (by omega)
  have h2 := h (geP l t) j hle hj
  omega
theorem geP_ge {l : List Int} {t : Int} {j : Nat} (hj : j < l.length) (ht : t ≤ l[j]) : geP l t ≤ j := by
  apply Nat.le_of_not_lt
  intro hlt
  have := geP_lt hlt hj
  omega
theorem less_eq (a b : Int) : cmp_Less_int64.f a b = some (decide (a < b)) := by
  simp [cmp_Less_int64.f, cmp_isNaN_int64.f]
theorem rdi_at (l : List Int) (i : Int) (h0 : 0 ≤ i) (h : i < l.length) : rd l i = l[i.toNat]'(by omega) := by
  unfold rd
  rw [List.getD_eq_getElem?_getD, List.getElem?_eq_getElem (by omega)]
  rfl
theorem bs_l0 (l : List Int) (t : Int) (hs : Rising l) (hl : l.length ≤ 100) : ∀ (d k : Nat) (i j : Int), 0 ≤ i → i ≤ geP l t → (geP l t : Int) ≤ j → j ≤ l.length → j - i ≤ d → d < k →
    ∃ b, slices_BinarySearch_int64_int64.l0 k l t (l.length : Int) i j = some ((geP l t : Int), b) := by
  intro d
  induction d with
  | zero =>
    intro k i j h0 h1 h2 h3 hd hk
    obtain ⟨k, rfl⟩ : ∃ m, k = m + 1 := ⟨k - 1, by omega⟩
    have hi : i = geP l t := by omega
    subst hi
    simp only [slices_BinarySearch_int64_int64.l0]
    rw [if_neg (by omega)]
    by_cases hlt : (geP l t : Int) < l.length
    · rw [if_pos hlt, if_pos (by omega), if_pos hlt]
      by_cases he : rd l (geP l t) = t
      · rw [if_pos he]; exact ⟨_, rfl⟩
      · rw [if_neg he]
        simp [slices_isNaN_int64.f]
    · rw [if_neg hlt]; exact ⟨_, rfl⟩
  | succ d ih =>
    intro k i j h0 h1 h2 h3 hd hk
    obtain ⟨k, rfl⟩ : ∃ m, k = m + 1 := ⟨k - 1, by omega⟩
    by_cases hij : i < j
    · have hw : wrap64 ((IntKind.u64.wrap (wrap64 (i + j))) / 2) = (i + j) / 2 := by
        rw [wrap_id (x := i + j) (by omega) (by omega), IntWalk.u64_in _ (by omega), wrap_id (by omega) (by omega)]
      simp only [slices_BinarySearch_int64_int64.l0]
      rw [if_pos hij, hw, if_pos (by omega), if_pos (by omega), less_eq, rdi_at l _ (by omega) (by omega), wrap_id (by omega) (by omega)]
      simp only [Option.bind_some, decide_eq_true_eq]
      by_cases hlt : l[((i + j) / 2).toNat]'(by omega) < t
      · rw [if_pos hlt]
        have := geP_gt hs (by omega) hlt
        exact ih k _ j (by omega) (by omega) h2 h3 (by omega) (by omega)
      · rw [if_neg hlt]
        have := geP_ge (l := l) (t := t) (j := ((i + j) / 2).toNat) (by omega) (by omega)
        exact ih k i _ h0 h1 (by omega) (by omega) (by omega) (by omega)
    · exact ih (k + 1) i j h0 h1 h2 h3 (by omega) (by omega)
theorem bs_eq (l : List Int) (t : Int) (hs : Rising l) (hl : l.length ≤ 100) : ∃ b, slices_BinarySearch_int64_int64.f 200 l t = some ((geP l t : Int), b) := by
  unfold slices_BinarySearch_int64_int64.f
  exact bs_l0 l t hs hl 150 200 0 l.length (by omega) (by omega) (by have := geP_le l t; omega) (by omega) (by omega) (by omega)
theorem secs_take_le {lo hi : Int} {l : List S114} (h : RowFrom lo l) (ht : ∀ s, s ∈ l → s.f1 ≤ hi) (i j : Nat) (hij : i ≤ j) : secs (l.take i) ≤ secs (l.take j) := by
  induction l generalizing lo i j with
  | nil => simp
  | cons s r ih =>
    rcases j with _ | j
    · rw [show i = 0 by omega]; exact Int.le_refl _
    · rcases i with _ | i
      · have h1 := (secs_bound (h.take (j + 1)) (fun s hs => ht s (List.mem_of_mem_take hs))).1
        simpa [secs] using h1
      · simp only [List.take_succ_cons, secs]
        have := ih h.2.2 (fun s hs => ht s (List.mem_cons_of_mem _ hs)) i j (by omega)
        omega
theorem psums_rising {hi : Int} {l : List S114} (h : RowOk hi l) : Rising (psums l) := by
  intro i j hij hj
  have hj' : j ≤ l.length := by rw [psums_length] at hj; omega
  have e1 := psums_get l i (by omega)
  have e2 := psums_get l j hj'
  rw [List.getElem?_eq_getElem (by omega)] at e1 e2
  injection e1 with e1
  injection e2 with e2
  rw [e1, e2]
  exact secs_take_le h.row h.top i j hij
end Go.Proofs.YtepldlnmeenlbaaGreat.Own
namespace Go.Proofs.YtepldlnmeenlbaaGreat.Own
open Go.RowKit Go.Proofs Go.Proofs.YtepldlnmeenlbaaGreatW.PrintWords Go.Proofs.YtepldlnmeenlbaaGreatW.PrintLast Go.Proofs.YtepldlnmeenlbaaGreatW.PrintMore Go.Proofs.YtepldlnmeenlbaaGreat.Base
def nthI (row : List S114) (n : Int) : Nat := geP (psums row) (n % secs row + 1) - 1
def nthP (row : List S114) (n : Int) : Int := n / secs row * 604800 + (rd_T114 row (nthI row n)).f0 + n % secs row - secs (row.take (nthI row n))
theorem nthI_spec {row : List S114} (h : RowOk 604800 row) (n : Int) (hs : 0 < secs row) (h0 : 0 ≤ n) :
    nthI row n < row.length ∧ geP (psums row) (n % secs row + 1) = nthI row n + 1 ∧ secs (row.take (nthI row n)) ≤ n % secs row ∧ n % secs row < secs (row.take (nthI row n + 1)) := by
  have hr0 := Int.emod_nonneg n (show secs row ≠ 0 by omega)
  have hr1 := Int.emod_lt_of_pos n hs
  generalize hrest : n % secs row = rest at hr0 hr1
  have hpl := psums_length row
  have hg : ∀ (j : Nat) (hj : j < (psums row).length), (psums row)[j] = secs (row.take j) := by
    intro j hj
    have e := psums_get row j (by omega)
    rw [List.getElem?_eq_getElem hj] at e
    injection e
  have h1 : 0 < geP (psums row) (rest + 1) := by
    refine geP_gt (psums_rising h) (j := 0) (by omega) ?_
    rw [hg]; simp [secs]; omega
  have h2 : geP (psums row) (rest + 1) ≤ row.length := by
    refine geP_ge (j := row.length) (by omega) ?_
    rw [hg, List.take_length]; omega
  have hI : nthI row n = geP (psums row) (rest + 1) - 1 := by unfold nthI; rw [hrest]
  refine ⟨by omega, by omega, ?_, ?_⟩
  · have := geP_lt (l := psums row) (t := rest + 1) (j := nthI row n) (by omega) (by omega)
    rw [hg] at this
    omega
  · have := geP_at (l := psums row) (t := rest + 1) (by omega)
    rw [hg] at this
    rw [show nthI row n + 1 = geP (psums row) (rest + 1) by omega]
    omega
def nth_T12 : Bool × List (List Nat × List Nat) := (true, [([], []), ([], []), ([0, 1], [0, 1]), ([2], [2]), ([], []), ([4], [4]), ([5], [5]), ([6], [6]), ([], []), ([8], [8]), ([7, 9], [7, 9]), ([10], [10]), ([11], [11]), ([3, 12], [3, 12]), ([], []), ([13, 14], [13, 14]), ([], []), ([16], [16]), ([17], [17]), ([18], [18]), ([19], [19]), ([], []), ([21], [21]), ([20, 22], [20, 22]), ([23], [23]), ([15, 24], [15, 24]), ([25, 20, 0, 1, 2, 3, 4, 5, 6, 7, 8, 9, 10, 11, 12, 13, 14, 15, 16, 17, 18, 19, 20, 21, 22, 23, 24, 25], [25])])
def nth_B12 : List Nat := [0, 0, 3, 7, 0, 16, 48, 112, 0, 256, 1008, 2032, 4080, 8191, 0, 32767, 0, 65536, 196608, 458752, 983040, 0, 2097152, 8323072, 16711680, 33554431, 67108863]
theorem nth_tab12 : rtab .any (opsOf Tryz.f107 12) = nth_T12 := by kernel_rfl
theorem nth_bits12 : waitsOk nth_T12.2 nth_B12 = true := by kernel_rfl
set_option maxHeartbeats 4000000 in
set_option maxRecDepth 100000 in
theorem nth_any (n pb cb : Nat) (row : List S114) (k : Int) (w : World) (h : PlanAt w n pb cb row) (hn : n ≤ w.heap.size)
    (hs : 0 < secs row) (h0 : 0 ≤ k) (hk : k / secs row ≤ 3723213977) (hk2 : nthP row k ≤ 2251799813685248) (hk3 : 0 ≤ nthP row k) :
    Calls Tryz.prog 107 #[.pointer (some ⟨pb, 0, none⟩), .int .i64 k] w fun e w' => e = .returned (.tuple #[.int .i64 (nthP row k), .int .i64 0]) ∧ PlanAt w' n pb cb row ∧ Upd cb w w' := by
  obtain ⟨i0, i1, i2, i3⟩ := nthI_spec h.ok k hs h0
  obtain ⟨A, c, hb, hc, hr⟩ := h.blk
  have HBK0 := Aside0.mk hb
  have HP0 := Aside0.mk h
  have HN0 := Aside0.mk hn
  have HU0 := Aside0.mk (Upd.refl cb w)
  have HRR := Aside0.mk hr
  have HOK := Aside0.mk h.ok
  have s0 := h.ok.secs (by omega)
  have HI1 := Aside0.mk i1
  have HI2 := Aside0.mk (And.intro i2 i3)
  have HE : Aside0 (nthP row k = k / secs row * 604800 + (rd_T114 row (nthI row k)).f0 + k % secs row - secs (row.take (nthI row k))) := ⟨rfl⟩
  obtain ⟨b, hbs⟩ := bs_eq (psums row) (k % secs row + 1) (psums_rising h.ok) (by rw [psums_length]; have := h.ok.len; omega)
  rw [i1] at hbs
  have HBS := Aside0.mk hbs
  have r0 := Int.emod_nonneg k (show secs row ≠ 0 by omega)
  have r1 := Int.emod_lt_of_pos k hs
  have q0 : 0 ≤ k / secs row := Int.ediv_nonneg h0 s0.1
  generalize nthP row k = U at HE hk2 hk3 ⊢
  have hwq : wrap64 (k.tdiv (secs row)) = k / secs row := by rw [Int.tdiv_eq_ediv_of_nonneg h0]; exact wrap_id (by omega) (by omega)
  have z1 : (secs row == 0) = false := beq_eq_false_iff_ne.mpr (by omega)
  have z2 : ¬ secs row = 0 := by omega
  clear hb hr h hn i1 i2 i3 hbs
  go_enter Tryz.func107, Tryz.ntmps107
  go_wp2_with (first | (go_at_call 105; refine (total_any n pb cb row _ HP0.out HN0.out).mono ?_; rintro e w1 ⟨rfl, P1, U1⟩; have n0 := Aside0.mk P1; have n1 := Aside0.mk (HU0.out.trans U1); have n2 := Aside0.mk (Nat.le_trans HN0.out U1.size); have n3 := Aside0.mk (U1.blk HBK0.out HP0.out.ne); clear HP0 HU0 HN0 HBK0 P1 U1; have HP0 := n0; have HU0 := n1; have HN0 := n2; have HBK0 := n3; clear n0 n1 n2 n3; have c1 : w1.cell? ⟨pb, 1, none⟩ = some (.pointer (some ⟨cb, 0, none⟩)) := (blk_cell HBK0.out 1).trans rfl) | (go_at_call 136; refine (plannone_any n pb cb row _ HP0.out).mono ?_; rintro e w1 ⟨rfl, rfl⟩) | (go_at_call 137; refine (get_any cb pb n row _ HP0.out HN0.out).mono ?_; rintro e w2 ⟨A2, k2, rfl, P2, hC2, hl2, U2⟩; have n0 := Aside0.mk P2; have n1 := Aside0.mk (HU0.out.trans U2); have n2 := Aside0.mk (Nat.le_trans HN0.out U2.size); have n3 := Aside0.mk (U2.blk HBK0.out HP0.out.ne); have HC2 := Aside0.mk hC2; clear HP0 HU0 HN0 HBK0 P2 U2 hC2; have HP0 := n0; have HU0 := n1; have HN0 := n2; have HBK0 := n3; clear n0 n1 n2 n3) | (go_at_call 140; refine (slices_BinarySearch_int64_int64.calls 200 A2 k2 (psums row) (k % secs row + 1) _ b _ HC2.out hl2 HBS.out).mono ?_; rintro e w3 ⟨rfl, hd⟩; have hb := hd.below; have n0 := Aside0.mk (HP0.out.below hb); have n1 := Aside0.mk (HU0.out.then hb); have n2 := Aside0.mk (Nat.le_trans HN0.out hb.size); have n3 := Aside0.mk (blk_below HBK0.out hb); clear HP0 HU0 HN0 HBK0 hb hd; have HP0 := n0; have HU0 := n1; have HN0 := n2; have HBK0 := n3; clear n0 n1 n2 n3))
  have HN4 : Aside0 (n ≤ w3.drew.heap.size) := ⟨HN0.out⟩
  have HP4 : Aside0 (PlanAt w3.drew n pb cb row) := ⟨HP0.out.keep (fun _ _ _ => rfl)⟩
  have HU4 : Aside0 (Upd cb w w3.drew) := ⟨HU0.out.drew⟩
  have HBK4 := Aside0.mk (blk_drew HBK0.out)
  have d0 : w3.drew.cell? ⟨pb, 0, none⟩ = some (.slice A row.length c) := (blk_cell HBK4.out 0).trans rfl
  have d1 : w3.drew.cell? ⟨pb, 1, none⟩ = some (.pointer (some ⟨cb, 0, none⟩)) := (blk_cell HBK4.out 1).trans rfl
  have hRR4 := (Kd.R_grown HRR.out HU4.out (fun k hk e => hk (by injection e)))
  have HRR4 := Aside0.mk hRR4
  obtain ⟨q, hq⟩ : ∃ q : Int, q = (nthI row k : Int) + 1 := ⟨_, rfl⟩
  rw [← hq]
  have hl32 := HOK.out.len
  have hmw : wrap64 (q - 1) = (nthI row k : Int) := by rw [wrap_id (by omega) (by omega)]; omega
  have p0 : 0 ≤ wrap64 (q - 1) := by rw [hmw]; omega
  have p1 : wrap64 (q - 1) < row.length := by rw [hmw]; omega
  have p2 : wrap64 (q - 1) < ((psums row).length : Int) := by rw [hmw, psums_length]; omega
  obtain ⟨ad, e, hx0, hx1⟩ := at_T114 (Kd.R_reads' hRR4).2.2 _ p0 p1
  cases e
  have HMW := Aside0.mk hmw
  have HRD := Aside0.mk (show (rd_T114 row (wrap64 (q - 1))).f0 = (rd_T114 row (nthI row k)).f0 by rw [hmw])
  have HI0 := Aside0.mk i0
  have p0' := eq_true p0
  have p1' := eq_true p1
  have p2' := eq_true p2
  clear hx1 hq hmw hRR4 hl32 i0 p0 p1 p2 s0 HBS
  refine start_ (n := 27) (S := fun w' => w'.cell? ⟨pb, 0, none⟩ = some (.slice (some ad) row.length c) ∧ w'.cell? ⟨pb, 1, none⟩ = some (.pointer (some ⟨cb, 0, none⟩)) ∧ w'.cell? (ad.add ((wrap64 (q - 1)).toNat * 2)) = some (.int .i64 (rd_T114 row (wrap64 (q - 1))).f0)) (ds := []) #[false, false, false, false, false, false, false, false, false, false, false, false, false, false, false, false, false, false, false, false, false, false, false, false, false, false, false] (by kernel_rfl) rfl rfl ⟨d0, d1, hx0⟩ (fun hHeld => ?_); refine with_tabW nth_tab12 nth_bits12 (fun HT_ HW_ => ?_)
  refine pure_ (i := 0) (N := some 41) (v := ?_) (a' := ?_) #[true, false, false, false, false, false, false, false, false, false, false, false, false, false, false, false, false, false, false, false, false, false, false, false, false, false, false] rfl rfl (any_of HT_.out (by kernel_rfl)) (fun _ _ _ h => h) (Or.inl ⟨by rfl, ?_⟩) ?_ ?_
  rotate_left
  · intro w'
    go_simp
    with_reducible rfl
  rotate_left
  · simp only [Act.put, List.setIfInBounds_toArray, List.set_cons_zero, List.set_cons_succ, i64_w, i32_w]
    rfl
  refine pure_ (i := 1) (N := some 42) (v := ?_) (a' := ?_) #[true, true, false, false, false, false, false, false, false, false, false, false, false, false, false, false, false, false, false, false, false, false, false, false, false, false, false] rfl rfl (any_of HT_.out (by kernel_rfl)) (fun _ _ _ h => h) (Or.inl ⟨by rfl, ?_⟩) ?_ ?_
  rotate_left
  · intro w'
    go_simp
    with_reducible rfl
  rotate_left
  · simp only [Act.put, List.setIfInBounds_toArray, List.set_cons_zero, List.set_cons_succ, i64_w, i32_w]
    rfl
  refine pure_ (i := 2) (N := some 43) (v := ?_) (a' := ?_) #[true, true, true, false, false, false, false, false, false, false, false, false, false, false, false, false, false, false, false, false, false, false, false, false, false, false, false] rfl rfl (any_of HT_.out (by kernel_rfl)) (fun _ _ _ h => h) (Or.inl ⟨by rfl, ?_⟩) ?_ ?_
  rotate_left
  · intro w'
    go_simp
    with_reducible rfl
  rotate_left
  · simp only [Act.put, List.setIfInBounds_toArray, List.set_cons_zero, List.set_cons_succ, i64_w, i32_w]
    rfl
  refine pure_ (i := 3) (N := some 44) (v := ?_) (a' := ?_) #[true, true, true, true, false, false, false, false, false, false, false, false, false, false, false, false, false, false, false, false, false, false, false, false, false, false, false] rfl rfl (any_of HT_.out (by kernel_rfl)) (fun _ _ _ h => h) (Or.inl ⟨by rfl, ?_⟩) ?_ ?_
  rotate_left
  · intro w'
    go_simp
    with_reducible rfl
  rotate_left
  · simp only [Act.put, List.setIfInBounds_toArray, List.set_cons_zero, List.set_cons_succ, i64_w, i32_w]
    rfl
  refine pure_ (i := 4) (N := some 45) (v := ?_) (a' := ?_) #[true, true, true, true, true, false, false, false, false, false, false, false, false, false, false, false, false, false, false, false, false, false, false, false, false, false, false] rfl rfl (any_of HT_.out (by kernel_rfl)) (fun _ _ _ h => h) (Or.inl ⟨by rfl, ?_⟩) ?_ ?_
  rotate_left
  · intro w'
    go_simp
    with_reducible rfl
  rotate_left
  · simp only [Act.put, List.setIfInBounds_toArray, List.set_cons_zero, List.set_cons_succ, i64_w, i32_w]
    rfl
  refine pure_ (i := 5) (N := some 46) (v := ?_) (a' := ?_) #[true, true, true, true, true, true, false, false, false, false, false, false, false, false, false, false, false, false, false, false, false, false, false, false, false, false, false] rfl rfl (any_of HT_.out (by kernel_rfl)) (fun _ _ _ h => h) (Or.inl ⟨by rfl, ?_⟩) ?_ ?_
  rotate_left
  · intro w'
    go_simp
    with_reducible rfl
  rotate_left
  · simp only [Act.put, List.setIfInBounds_toArray, List.set_cons_zero, List.set_cons_succ, i64_w, i32_w]
    rfl
  refine pure_ (i := 6) (N := some 47) (v := ?_) (a' := ?_) #[true, true, true, true, true, true, true, false, false, false, false, false, false, false, false, false, false, false, false, false, false, false, false, false, false, false, false] rfl rfl (any_of HT_.out (by kernel_rfl)) (fun _ _ _ h => h) (Or.inl ⟨by rfl, ?_⟩) ?_ ?_
  rotate_left
  · intro w'
    go_simp
    with_reducible rfl
  rotate_left
  · simp only [Act.put, List.setIfInBounds_toArray, List.set_cons_zero, List.set_cons_succ, i64_w, i32_w]
    rfl
  refine pure_ (i := 8) (N := some 49) (v := ?_) (a' := ?_) #[true, true, true, true, true, true, true, false, true, false, false, false, false, false, false, false, false, false, false, false, false, false, false, false, false, false, false] rfl rfl (any_of HT_.out (by kernel_rfl)) (fun _ _ _ h => h) (Or.inl ⟨by rfl, ?_⟩) ?_ ?_
  rotate_left
  · intro w'
    go_simp
    with_reducible rfl
  rotate_left
  · simp only [Act.put, List.setIfInBounds_toArray, List.set_cons_zero, List.set_cons_succ, i64_w, i32_w]
    rfl
  refine pure_ (i := 9) (N := some 50) (v := ?_) (a' := ?_) #[true, true, true, true, true, true, true, false, true, true, false, false, false, false, false, false, false, false, false, false, false, false, false, false, false, false, false] rfl rfl (any_of HT_.out (by kernel_rfl)) (fun _ _ _ h => h) (Or.inl ⟨by rfl, ?_⟩) ?_ ?_
  rotate_left
  · intro w'
    go_simp
    with_reducible rfl
  rotate_left
  · simp only [Act.put, List.setIfInBounds_toArray, List.set_cons_zero, List.set_cons_succ, i64_w, i32_w]
    rfl
  refine pure_ (i := 14) (N := some 55) (v := ?_) (a' := ?_) #[true, true, true, true, true, true, true, false, true, true, false, false, false, false, true, false, false, false, false, false, false, false, false, false, false, false, false] rfl rfl (any_of HT_.out (by kernel_rfl)) (fun _ _ _ h => h) (Or.inl ⟨by rfl, ?_⟩) ?_ ?_
  rotate_left
  · intro w'
    go_simp
    with_reducible rfl
  rotate_left
  · simp only [Act.put, List.setIfInBounds_toArray, List.set_cons_zero, List.set_cons_succ, i64_w, i32_w]
    rfl
  refine pure_ (i := 16) (N := some 57) (v := ?_) (a' := ?_) #[true, true, true, true, true, true, true, false, true, true, false, false, false, false, true, false, true, false, false, false, false, false, false, false, false, false, false] rfl rfl (any_of HT_.out (by kernel_rfl)) (fun _ _ _ h => h) (Or.inl ⟨by rfl, ?_⟩) ?_ ?_
  rotate_left
  · intro w'
    go_simp
    with_reducible rfl
  rotate_left
  · simp only [Act.put, List.setIfInBounds_toArray, List.set_cons_zero, List.set_cons_succ, i64_w, i32_w]
    rfl
  refine pure_ (i := 17) (N := some 58) (v := ?_) (a' := ?_) #[true, true, true, true, true, true, true, false, true, true, false, false, false, false, true, false, true, true, false, false, false, false, false, false, false, false, false] rfl rfl (any_of HT_.out (by kernel_rfl)) (fun _ _ _ h => h) (Or.inl ⟨by rfl, ?_⟩) ?_ ?_
  rotate_left
  · intro w'
    go_simp
    with_reducible rfl
  rotate_left
  · simp only [Act.put, List.setIfInBounds_toArray, List.set_cons_zero, List.set_cons_succ, i64_w, i32_w]
    rfl
  refine pure_ (i := 18) (N := some 59) (v := ?_) (a' := ?_) #[true, true, true, true, true, true, true, false, true, true, false, false, false, false, true, false, true, true, true, false, false, false, false, false, false, false, false] rfl rfl (any_of HT_.out (by kernel_rfl)) (fun _ _ _ h => h) (Or.inl ⟨by rfl, ?_⟩) ?_ ?_
  rotate_left
  · intro w'
    go_simp
    with_reducible rfl
  rotate_left
  · simp only [Act.put, List.setIfInBounds_toArray, List.set_cons_zero, List.set_cons_succ, i64_w, i32_w]
    rfl
  refine pure_ (i := 21) (N := some 62) (v := ?_) (a' := ?_) #[true, true, true, true, true, true, true, false, true, true, false, false, false, false, true, false, true, true, true, false, false, true, false, false, false, false, false] rfl rfl (any_of HT_.out (by kernel_rfl)) (fun _ _ _ h => h) (Or.inl ⟨by rfl, ?_⟩) ?_ ?_
  rotate_left
  · intro w'
    go_simp
    with_reducible rfl
  rotate_left
  · simp only [Act.put, List.setIfInBounds_toArray, List.set_cons_zero, List.set_cons_succ, i64_w, i32_w]
    rfl
  refine pure_ (i := 22) (N := some 63) (v := ?_) (a' := ?_) #[true, true, true, true, true, true, true, false, true, true, false, false, false, false, true, false, true, true, true, false, false, true, true, false, false, false, false] rfl rfl (any_of HT_.out (by kernel_rfl)) (fun _ _ _ h => h) (Or.inl ⟨by rfl, ?_⟩) ?_ ?_
  rotate_left
  · intro w'
    go_simp
    with_reducible rfl
  rotate_left
  · simp only [Act.put, List.setIfInBounds_toArray, List.set_cons_zero, List.set_cons_succ, i64_w, i32_w]
    rfl
  refine take_ (i := 7) (N := some 48) (v := ?_) (a' := ?_) #[true, true, true, true, true, true, true, true, true, true, false, false, false, false, true, false, true, true, true, false, false, true, true, false, false, false, false] rfl rfl (take_ofW HT_.out HW_.out (by kernel_rfl)) (fun _ _ _ h => h) (Or.inl ⟨by rfl, ?_⟩) hHeld ?_ ?_
  rotate_left
  · rintro w' ⟨s0, s1, s2⟩
    go_simp
    with_reducible rfl
  rotate_left
  · simp only [Act.put, List.setIfInBounds_toArray, List.set_cons_zero, List.set_cons_succ, i64_w, i32_w]
    rfl
  refine pure_ (i := 10) (N := some 51) (v := ?_) (a' := ?_) #[true, true, true, true, true, true, true, true, true, true, true, false, false, false, true, false, true, true, true, false, false, true, true, false, false, false, false] rfl rfl (any_of HT_.out (by kernel_rfl)) (fun _ _ _ h => h) (Or.inl ⟨by rfl, ?_⟩) ?_ ?_
  rotate_left
  · intro w'
    go_simp
    with_reducible rfl
  rotate_left
  · simp only [Act.put, List.setIfInBounds_toArray, List.set_cons_zero, List.set_cons_succ, i64_w, i32_w]
    rfl
  refine pure_ (i := 11) (N := some 52) (v := ?_) (a' := ?_) #[true, true, true, true, true, true, true, true, true, true, true, true, false, false, true, false, true, true, true, false, false, true, true, false, false, false, false] rfl rfl (any_of HT_.out (by kernel_rfl)) (fun _ _ _ h => h) (Or.inl ⟨by rfl, ?_⟩) ?_ ?_
  rotate_left
  · intro w'
    go_simp
    with_reducible rfl
  rotate_left
  · simp only [Act.put, List.setIfInBounds_toArray, List.set_cons_zero, List.set_cons_succ, i64_w, i32_w]
    rfl
  refine take_ (i := 12) (N := some 53) (v := ?_) (a' := ?_) #[true, true, true, true, true, true, true, true, true, true, true, true, true, false, true, false, true, true, true, false, false, true, true, false, false, false, false] rfl rfl (take_ofW HT_.out HW_.out (by kernel_rfl)) (fun _ _ _ h => h) (Or.inl ⟨by rfl, ?_⟩) hHeld ?_ ?_
  rotate_left
  · rintro w' ⟨s0, s1, s2⟩
    go_simp
    with_reducible rfl
  rotate_left
  · simp only [Act.put, List.setIfInBounds_toArray, List.set_cons_zero, List.set_cons_succ, i64_w, i32_w]
    rfl
  refine pure_ (i := 13) (N := some 54) (v := ?_) (a' := ?_) #[true, true, true, true, true, true, true, true, true, true, true, true, true, true, true, false, true, true, true, false, false, true, true, false, false, false, false] rfl rfl (any_of HT_.out (by kernel_rfl)) (fun _ _ _ h => h) (Or.inl ⟨by rfl, ?_⟩) ?_ ?_
  rotate_left
  · intro w'
    go_simp
    with_reducible rfl
  rotate_left
  · simp only [Act.put, List.setIfInBounds_toArray, List.set_cons_zero, List.set_cons_succ, i64_w, i32_w]
    rfl
  refine pure_ (i := 15) (N := some 56) (v := ?_) (a' := ?_) #[true, true, true, true, true, true, true, true, true, true, true, true, true, true, true, true, true, true, true, false, false, true, true, false, false, false, false] rfl rfl (any_of HT_.out (by kernel_rfl)) (fun _ _ _ h => h) (Or.inl ⟨by rfl, ?_⟩) ?_ ?_
  rotate_left
  · intro w'
    go_simp
    with_reducible rfl
  rotate_left
  · simp only [Act.put, List.setIfInBounds_toArray, List.set_cons_zero, List.set_cons_succ, i64_w, i32_w]
    rfl
  refine take_ (i := 19) (N := some 60) (v := ?_) (a' := ?_) #[true, true, true, true, true, true, true, true, true, true, true, true, true, true, true, true, true, true, true, true, false, true, true, false, false, false, false] rfl rfl (take_ofW HT_.out HW_.out (by kernel_rfl)) (fun _ _ _ h => h) (Or.inl ⟨by rfl, ?_⟩) hHeld ?_ ?_
  rotate_left
  · rintro w' ⟨s0, s1, s2⟩
    go_simp
    with_reducible rfl
  rotate_left
  · simp only [Act.put, List.setIfInBounds_toArray, List.set_cons_zero, List.set_cons_succ, i64_w, i32_w]
    rfl
  refine one_ (i := 20) (N := some 61) #[true, true, true, true, true, true, true, true, true, true, true, true, true, true, true, true, true, true, true, true, true, true, true, false, false, false, false] rfl rfl (one_of HT_.out (by kernel_rfl)) (by decide) (fun K hK => ?_)
  refine goes_ Tryz.func137 (by kernel_rfl) rfl #[.pointer (some ⟨cb, 0, none⟩)] (by rfl) rfl rfl (by (try simp only [List.map_toArray, List.map_cons, List.map_nil]); first | done | rfl) ?_
  refine (get_any cb pb n row _ HP4.out HN4.out).mono ?_
  rintro e w5 ⟨A5, k5, rfl, P5, hC5, hl5, U5⟩
  refine ⟨_, rfl, ?_⟩
  have HBK5 := Aside0.mk (U5.blk HBK4.out HP4.out.ne)
  have e0 : w5.cell? ⟨pb, 0, none⟩ = some (.slice (some ad) row.length c) := (blk_cell HBK5.out 0).trans rfl
  have e1 : w5.cell? ⟨pb, 1, none⟩ = some (.pointer (some ⟨cb, 0, none⟩)) := (blk_cell HBK5.out 1).trans rfl
  obtain ⟨ad4, ee, ex0, _⟩ := at_T114 (Kd.R_reads' (Kd.R_grown HRR4.out U5 (fun k hk e => hk (by injection e)))).2.2 (wrap64 (q - 1)) (of_eq_true p0') (of_eq_true p1')
  cases ee
  obtain ⟨ad2, e2, hx2⟩ := Kd.at_int hC5 (wrap64 (q - 1)) (of_eq_true p0') (of_eq_true p2')
  cases e2
  have HRS : Aside0 (rd (psums row) (wrap64 (q - 1)) = secs (row.take (nthI row k))) := ⟨by rw [HMW.out]; exact psums_rd row _ (by have := HI0.out; omega)⟩
  have HP5 := Aside0.mk P5
  have HU5 := Aside0.mk (HU4.out.trans U5)
  clear hC5 P5 U5
  refine hK.out _ _ ⟨e0, e1, ex0⟩ (fun hHeld => ?_)
  clear hK K
  refine norm_ (a' := ?_) ?_ ?_
  rotate_left
  · show Act.put _ (some 61) _ = _
    simp only [Act.put, List.setIfInBounds_toArray, List.set_cons_zero, List.set_cons_succ, i64_w, i32_w]
    rfl
  refine switch_ (fun hHeld => ?_)
  refine pure_ (i := 23) (N := some 64) (v := ?_) (a' := ?_) #[true, true, true, true, true, true, true, true, true, true, true, true, true, true, true, true, true, true, true, true, true, true, true, true, false, false, false] rfl rfl (any_of HT_.out (by kernel_rfl)) (fun _ _ _ h => h) (Or.inl ⟨by rfl, ?_⟩) ?_ ?_
  rotate_left
  · intro w'
    go_simp
    with_reducible rfl
  rotate_left
  · simp only [Act.put, List.setIfInBounds_toArray, List.set_cons_zero, List.set_cons_succ, i64_w, i32_w]
    rfl
  refine take_ (i := 24) (N := some 65) (v := ?_) (a' := ?_) #[true, true, true, true, true, true, true, true, true, true, true, true, true, true, true, true, true, true, true, true, true, true, true, true, true, false, false] rfl rfl (take_ofW HT_.out HW_.out (by kernel_rfl)) (fun _ _ _ h => h) (Or.inl ⟨by rfl, ?_⟩) hHeld ?_ ?_
  rotate_left
  · rintro w' rfl
    go_simp
    with_reducible rfl
  rotate_left
  · simp only [Act.put, List.setIfInBounds_toArray, List.set_cons_zero, List.set_cons_succ, i64_w, i32_w]
    rfl
  refine pure_ (i := 25) (N := some 66) (v := ?_) (a' := ?_) #[true, true, true, true, true, true, true, true, true, true, true, true, true, true, true, true, true, true, true, true, true, true, true, true, true, true, false] rfl rfl (any_of HT_.out (by kernel_rfl)) (fun _ _ _ h => h) (Or.inl ⟨by rfl, ?_⟩) ?_ ?_
  rotate_left
  · intro w'
    go_simp
    with_reducible rfl
  rotate_left
  · simp only [Act.put, List.setIfInBounds_toArray, List.set_cons_zero, List.set_cons_succ, i64_w, i32_w]
    rfl
  refine pure_ (i := 26) (N := some 10) (v := ?_) (a' := ?_) #[true, true, true, true, true, true, true, true, true, true, true, true, true, true, true, true, true, true, true, true, true, true, true, true, true, true, true] rfl rfl (any_of HT_.out (by kernel_rfl)) (fun _ _ _ h => h) (Or.inl ⟨by rfl, ?_⟩) ?_ ?_
  rotate_left
  · intro w'
    go_simp
    with_reducible rfl
  rotate_left
  · simp only [Act.put, List.setIfInBounds_toArray, List.set_cons_zero, List.set_cons_succ, i64_w, i32_w]
    rfl
  refine done_ (done_of HT_.out (by kernel_rfl)) ?_
  have hv : wrap64 (wrap64 (wrap64 (wrap64 (k / secs row * 604800) + (rd_T114 row (wrap64 (q - 1))).f0) + k % secs row) - rd (psums row) (wrap64 (q - 1))) = U := by
    have hmem := HOK.out.mem (rd_T114 row (nthI row k)) (by rw [rd_at row _ HI0.out]; exact List.getElem_mem _)
    have h2 := (HOK.out.take (nthI row k)).secs (by omega)
    rw [HRS.out, HRD.out, HE.out]
    have h3 := HOK.out.secs (by omega)
    rw [wrap_id (x := k / secs row * 604800) (by omega) (by omega), wrap_id (x := k / secs row * 604800 + (rd_T114 row (nthI row k)).f0) (by omega) (by omega), wrap_id (x := k / secs row * 604800 + (rd_T114 row (nthI row k)).f0 + k % secs row) (by omega) (by omega), wrap_id (by omega) (by omega)]
  rw [hv]
  have hgt : ¬ 2251799813685248 < U := by omega
  have hgd : decide (2251799813685248 < U) = false := decide_eq_false hgt
  clear hv hHeld
  go_wp2
  go_ret2
  exact ⟨rfl, HP5.out, HU5.out⟩
end Go.Proofs.YtepldlnmeenlbaaGreat.Own
namespace Go.Proofs.YtepldlnmeenlbaaGreat.Own
open Go.RowKit Go.Proofs Go.Proofs.YtepldlnmeenlbaaGreatW.PrintWords Go.Proofs.YtepldlnmeenlbaaGreatW.PrintLast Go.Proofs.YtepldlnmeenlbaaGreatW.PrintMore Go.Proofs.YtepldlnmeenlbaaGreat.Base
structure AlmAt (w : World) (n ab cb : Nat) (row : List S114) : Prop where
  ok : RowOk 1125899906842624 row
  nab : n ≤ ab
  ne : ab ≠ cb
  blk : ∃ A c, w.heap[ab]? = some (.cells #[.slice A row.length c] 203 (0, 0)) ∧ row.length ≤ c ∧ Kd.R k114 114 w n (fun k => k ≠ cb) (.slice A row.length c) row
theorem AlmAt.keep {w w' : World} {n ab cb : Nat} {row : List S114} (h : AlmAt w n ab cb row) (hm : ∀ k, k < w.heap.size → n ≤ k → k ≠ cb → w'.heap[k]? = w.heap[k]?) : AlmAt w' n ab cb row := by
  obtain ⟨A, c, hb, hc, hr⟩ := h.blk
  exact ⟨h.ok, h.nab, h.ne, ⟨A, c, (hm ab (blk_lt hb) h.nab h.ne).trans hb, hc, Kd.R_mono (Kd.R_step (Kd.R_bound hr) (fun k hk hlt => hm k hlt hk.2.1 hk.1)) (fun _ hk => hk.1)⟩⟩
theorem AlmAt.below {w w' : World} {n ab cb : Nat} {row : List S114} (h : AlmAt w n ab cb row) (hb : Below w.heap.size w w') : AlmAt w' n ab cb row := h.keep (fun k hk _ _ => hb.block k hk)
theorem AlmAt.upd {w w' : World} {n ab cb : Nat} {row : List S114} (h : AlmAt w n ab cb row) (hu : Upd cb w w') : AlmAt w' n ab cb row := h.keep (fun k hk _ hne => hu.block k hk (fun e => hne (by injection e)))
set_option maxRecDepth 100000 in
theorem almnew_yes (A : Option Addr) (c : Nat) (l : List S114) (w : World) (hr : Kd.C k114 w A l.length l) (hc : l.length ≤ c) (he : rowErr l = 0) :
    Calls Tryz.prog 82 #[.slice A l.length c] w fun e w' => ∃ ab A' c', e = .returned (.tuple #[.pointer (some ⟨ab, 0, none⟩), .int .i64 0]) ∧ w'.heap[ab]? = some (.cells #[.slice A' l.length c'] 203 (0, 0)) ∧ l.length ≤ c' ∧ Kd.R k114 114 w' w.heap.size (fun _ => True) (.slice A' l.length c') l ∧ w.heap.size ≤ ab ∧ Below w.heap.size w w' := by
  have HR := Aside0.mk hr
  have HOK := Aside0.mk (rowErr_ok he)
  have H0 := Aside0.mk he
  have hl32 := HOK.out.len
  clear hr he
  go_enter Tryz.func82, Tryz.ntmps82
  go_wp2_with (first | (go_at_call 119; refine (row_any _ c l _ HR.out hc).mono ?_; rintro e w1 ⟨rfl, hb⟩; rw [H0.out]; have HB := Aside0.mk hb; clear hb) | (go_at_call 120; refine (clone_any _ c l _ (Kd.C_below HR.out HB.out) hc hl32).mono ?_; rintro e w2 ⟨A2, c2, rfl, hc2, hR2, hb⟩; have HR2 := Aside0.mk (Kd.R_lower hR2 HB.out.size); have n0 := Aside0.mk (below_step HB.out hb); clear HB; have HB := n0; clear n0 hR2 hb))
  go_ret2
  exact ⟨w2.heap.size, A2, c2, rfl, blk_new w2 _, hc2, Kd.R_alloc HR2.out _, HB.out.size, below_alloc HB.out _⟩
theorem all_any (n ab cb : Nat) (row : List S114) (A : Option Addr) (c : Nat) (w : World) (hb : w.heap[ab]? = some (.cells #[.slice A row.length c] 203 (0, 0))) :
    Calls Tryz.prog 126 #[.pointer (some ⟨ab, 0, none⟩)] w fun e w' => e = .returned (.slice A row.length c) ∧ w = w' := by
  have c0 : w.cell? ⟨ab, 0, none⟩ = some (.slice A row.length c) := (blk_cell hb 0).trans rfl
  clear hb
  go_enter Tryz.func126, Tryz.ntmps126
  go_wp2
  go_ret
  exact ⟨rfl, rfl⟩
set_option maxHeartbeats 1600000 in
set_option maxRecDepth 100000 in
theorem index_any (A : Option Addr) (c tb : Nat) (l : List S114) (t : Int) (w : World) (hr : Kd.C k114 w A l.length l) (hc : l.length ≤ c) (hl : l.length ≤ 32) (ht : w.cell? ⟨tb, 0, none⟩ = some (.int .i64 t)) :
    Calls Tryz.prog 154 #[.slice A l.length c, .func (.func 155) #[] #[.pointer (some ⟨tb, 0, none⟩)]] w fun e w' => e = .returned (.int .i64 (if atP l t < l.length then (atP l t : Int) else -1)) ∧ Below w.heap.size w w' := by
  have HR := Aside0.mk hr
  have HT := Aside0.mk ht
  have HB := Aside0.mk (Below.refl w.heap.size w)
  have HE : Aside0 ((if atP l t < l.length then (atP l t : Int) else -1) = (if atP l t < l.length then (atP l t : Int) else -1)) := ⟨rfl⟩
  generalize hU : (if atP l t < l.length then (atP l t : Int) else -1) = U
  have HU := Aside0.mk hU
  clear hr ht hU HE
  go_enter Tryz.func154, Tryz.ntmps154
  go_wp2
  go_loopg [8, 5] l.length (fun g v8 v5 w' => ∃ i : Int, v8 = .int .i64 i ∧ Aside0 (0 ≤ i ∧ i ≤ atP l t ∧ i ≤ l.length ∧ (g : Int) = l.length - i) ∧ Aside0 (Below w.heap.size w w'))
  case atStart => exact ⟨0, rfl, ⟨by omega, by omega, by omega, by omega⟩, HB⟩
  case round =>
    clear HB
    obtain ⟨i, rfl, HI, HB⟩ := hrel
    have hI := HI.out
    by_cases hlt : i < l.length
    · have p0 : 0 ≤ i := hI.1
      obtain ⟨ad, e, hx0, hx1⟩ := at_T114 HR.out i p0 hlt
      cases e
      replace hx0 := (HB.out.cell (World.block_lt_of_cell? w _ hx0)).trans hx0
      replace hx1 := (HB.out.cell (World.block_lt_of_cell? w _ hx1)).trans hx1
      have ct : wr.cell? ⟨tb, 0, none⟩ = some (.int .i64 t) := (HB.out.cell (World.block_lt_of_cell? w _ HT.out)).trans HT.out
      have htb : tb < wr.heap.size := World.block_lt_of_cell? _ _ ct
      have p1 : i ≤ 32 := by omega
      have hin : i.toNat < l.length := by omega
      have hrd : rd_T114 l i = l[i.toNat]'hin := by
        rw [← rd_at l i.toNat hin]
        congr 1
        omega
      have HRD := Aside0.mk hrd
      clear hI hrd
      go_wp2
      · have hle : t < (rd_T114 l i).f1 := by assumption
        rw [HRD.out] at hle
        have h1 := atP_ge hin hle
        have hU : U = i := by rw [← HU.out, if_pos (by have := HI.out; omega)]; have := HI.out; omega
        go_ret
        exact ⟨by rw [hU]; rfl, below_alloc HB.out _⟩
      · have hle : (rd_T114 l i).f1 ≤ t := by assumption
        rw [HRD.out] at hle
        have h1 : i.toNat < atP l t := by
          rcases Nat.lt_or_ge i.toNat (atP l t) with h | h
          · exact h
          · have h2 : i.toNat = atP l t := by have := HI.out; omega
            have h3 := atP_at (l := l) (t := t) (by omega)
            simp only [← h2] at h3
            omega
        go_roundg (gk - 1)
        case measure => have := HI.out; omega
        case rel => exact ⟨i + 1, by (first | rfl | go_num), ⟨by have := HI.out; omega, by omega, by omega, by have := HI.out; omega⟩, ⟨below_alloc HB.out _⟩⟩
    · have hU : U = -1 := by rw [← HU.out, if_neg (by omega)]
      have HU1 := Aside0.mk hU
      clear hI hU HU
      go_wp2
      go_ret
      exact ⟨by rw [HU1.out]; rfl, HB.out⟩
def nxtP (row : List S114) (t : Int) : S114 := if atP row t < row.length then rd_T114 row (atP row t) else ⟨0, 0⟩
set_option maxHeartbeats 1600000 in
set_option maxRecDepth 100000 in
theorem next_any (n ab cb : Nat) (row : List S114) (t : Int) (w : World) (h : AlmAt w n ab cb row) :
    Calls Tryz.prog 139 #[.pointer (some ⟨ab, 0, none⟩), .int .i64 t] w fun e w' => e = .returned (.tuple #[.agg #[.int .i64 (nxtP row t).f0, .int .i64 (nxtP row t).f1], .bool (decide (atP row t < row.length))]) ∧ Below w.heap.size w w' := by
  obtain ⟨A, c, hb, hc, hr⟩ := h.blk
  have hmf : ∀ (fn : Fn) (first cap : Array Value) (w : World), (Instr.makeFunc fn first cap).run Tryz.prog w = .ok (.func fn first cap) w := fun _ _ _ _ => rfl
  have hl := h.ok.len
  have HR := Aside0.mk (Kd.R_reads' hr).2.2
  have W2 : Aside0 (Below w.heap.size w ((w.alloc (.cells #[.int .i64 t] 2)).alloc (.cells #[.int .i64 0, .int .i64 0] 114))) := ⟨below_alloc (below_alloc (Below.refl _ _) _) _⟩
  have HBK := Aside0.mk (blk_below hb W2.out)
  have BT := Aside0.mk (blk_alloc (blk_new w (.cells #[.int .i64 t] 2)) (.cells #[.int .i64 0, .int .i64 0] 114))
  have BS := Aside0.mk (blk_new (w.alloc (.cells #[.int .i64 t] 2)) (.cells #[.int .i64 0, .int .i64 0] 114))
  have HSZ : Aside0 ((w.alloc (.cells #[.int .i64 t] 2)).heap.size = w.heap.size + 1) := ⟨by simp⟩
  have HRW := Aside0.mk (Kd.C_below HR.out W2.out)
  clear hb hr h
  rw [show (w.alloc (.cells #[.int .i64 t] 2)).heap.size = w.heap.size + 1 by simp] at BS
  have hat := atP_le row t
  have HIX := fun (w2 : World) (h1 : Kd.C k114 w2 A row.length row) (h2 : w2.cell? ⟨w.heap.size, 0, none⟩ = some (.int .i64 t)) => index_any A c w.heap.size row t w2 h1 hc hl h2
  have HX := Aside0.mk HIX
  clear HIX
  unfold nxtP
  generalize atP row t = i at hat HX ⊢
  by_cases hi : i < row.length
  · simp only [if_pos hi] at HX ⊢
    rw [decide_eq_true hi]
    have p0 : (0 : Int) ≤ i := by omega
    have p1 : (i : Int) < row.length := by omega
    obtain ⟨ad, e, hx0, hx1⟩ := at_T114 HRW.out i p0 p1
    cases e
    rw [Int.toNat_natCast] at hx0 hx1
    go_enter Tryz.func139, Tryz.ntmps139
    go_wp2_with fail
    generalize ((w.alloc (.cells #[.int .i64 t] 2)).alloc (.cells #[.int .i64 0, .int .i64 0] 114)) = w2 at W2 HBK BT BS HRW hx0 hx1 ⊢
    go_wp2_with (first | (go_at_call 126; refine (all_any n ab cb row _ c _ HBK.out).mono ?_; rintro e w1 ⟨rfl, rfl⟩) | (go_at_call 154; refine (HX.out _ HRW.out ((blk_cell BT.out 0).trans rfl)).mono ?_; rintro e w3 ⟨rfl, hb⟩; have B3 := Aside0.mk (below_step W2.out hb); have BS3 := Aside0.mk (blk_below BS.out hb); replace hx0 := (hb.cell (World.block_lt_of_cell? _ _ hx0)).trans hx0; replace hx1 := (hb.cell (World.block_lt_of_cell? _ _ hx1)).trans hx1; clear hb; have d0 : w3.cell? ⟨w.heap.size + 1, 0, none⟩ = some (.int .i64 0) := (blk_cell BS3.out 0).trans rfl; have d1 : w3.cell? ⟨w.heap.size + 1, 1, none⟩ = some (.int .i64 0) := (blk_cell BS3.out 1).trans rfl; have f0 : w3.frozen? ⟨w.heap.size + 1, 0, none⟩ = false := blk_frozen BS3.out 0; have f1 : w3.frozen? ⟨w.heap.size + 1, 1, none⟩ = false := blk_frozen BS3.out 1))
    refine bodyPost_ret (v := .tuple #[.agg #[.int .i64 (rd_T114 row i).f0, .int .i64 (rd_T114 row i).f1], .bool true]) (by simp [results, Tryz.results139, go_sem, d0, d1]) rfl ⟨rfl, ?_⟩
    repeat (first | exact B3.out | refine below_set ?_ (Nat.le_succ _))
  · simp only [if_neg hi] at HX ⊢
    rw [decide_eq_false hi]
    go_enter Tryz.func139, Tryz.ntmps139
    go_wp2_with fail
    generalize ((w.alloc (.cells #[.int .i64 t] 2)).alloc (.cells #[.int .i64 0, .int .i64 0] 114)) = w2 at W2 HBK BT BS HRW ⊢
    go_wp2_with (first | (go_at_call 126; refine (all_any n ab cb row _ c _ HBK.out).mono ?_; rintro e w1 ⟨rfl, rfl⟩) | (go_at_call 154; refine (HX.out _ HRW.out ((blk_cell BT.out 0).trans rfl)).mono ?_; rintro e w3 ⟨rfl, hb⟩; have B3 := Aside0.mk (below_step W2.out hb); have BS3 := Aside0.mk (blk_below BS.out hb); clear hb; have d0 : w3.cell? ⟨w.heap.size + 1, 0, none⟩ = some (.int .i64 0) := (blk_cell BS3.out 0).trans rfl; have d1 : w3.cell? ⟨w.heap.size + 1, 1, none⟩ = some (.int .i64 0) := (blk_cell BS3.out 1).trans rfl; have f0 : w3.frozen? ⟨w.heap.size + 1, 0, none⟩ = false := blk_frozen BS3.out 0; have f1 : w3.frozen? ⟨w.heap.size + 1, 1, none⟩ = false := blk_frozen BS3.out 1))
    refine bodyPost_ret (v := .tuple #[.agg #[.int .i64 0, .int .i64 0], .bool false]) (by simp [results, Tryz.results139, go_sem, d0, d1]) rfl ⟨rfl, ?_⟩
    repeat (first | exact B3.out | refine below_set ?_ (Nat.le_succ _))
end Go.Proofs.YtepldlnmeenlbaaGreat.Own
namespace Go.Proofs.YtepldlnmeenlbaaGreat.Own
open Go.RowKit Go.Proofs Go.Proofs.YtepldlnmeenlbaaGreatW.PrintWords Go.Proofs.YtepldlnmeenlbaaGreatW.PrintLast Go.Proofs.YtepldlnmeenlbaaGreatW.PrintMore Go.Proofs.YtepldlnmeenlbaaGreat.Base
attribute [local go_sem] max2_mx min2_mn max_two min_two
structure ClkAt (w : World) (n kb ab pb cb : Nat) (off : Int) (week closed : List S114) : Prop where
  lo : 0 ≤ off
  hi : off < 604800
  nkb : n ≤ kb
  ne : kb ≠ cb
  blk : w.heap[kb]? = some (.cells #[.pointer (some ⟨ab, 0, none⟩), .pointer (some ⟨pb, 0, none⟩), .int .i64 (604800 - off)] 149 (0, 0))
  alm : AlmAt w n ab cb closed
  plan : PlanAt w n pb cb week
variable {w w' : World} {n kb ab pb cb : Nat} {off : Int} {week closed : List S114}
theorem ClkAt.below (h : ClkAt w n kb ab pb cb off week closed) (hb : Below w.heap.size w w') : ClkAt w' n kb ab pb cb off week closed :=
  ⟨h.lo, h.hi, h.nkb, h.ne, blk_below h.blk hb, h.alm.below hb, h.plan.below hb⟩
theorem ClkAt.upd (h : ClkAt w n kb ab pb cb off week closed) (hu : Upd cb w w') (hp : PlanAt w' n pb cb week) : ClkAt w' n kb ab pb cb off week closed :=
  ⟨h.lo, h.hi, h.nkb, h.ne, hu.blk h.blk h.ne, h.alm.upd hu, hp⟩
theorem ClkAt.drew (h : ClkAt w n kb ab pb cb off week closed) : ClkAt w.drew n kb ab pb cb off week closed := h.below (below_drew (Below.refl _ _))
theorem clknone_any (w : World) (h : ClkAt w n kb ab pb cb off week closed) :
    Calls Tryz.prog 86 #[.pointer (some ⟨kb, 0, none⟩)] w fun e w' => e = .returned (.bool false) ∧ w = w' := by
  have c1 : w.cell? ⟨kb, 1, none⟩ = some (.pointer (some ⟨pb, 0, none⟩)) := (blk_cell h.blk 1).trans rfl
  clear h
  go_enter Tryz.func86, Tryz.ntmps86
  go_wp2
  go_ret
  exact ⟨rfl, rfl⟩
def instB (t : Int) : Bool := decide (0 ≤ t ∧ t ≤ 1125899906842624)
theorem instant_any (t : Int) (w : World) : Calls Tryz.prog 87 #[.int .i64 t] w fun e w' => e = .returned (.bool (instB t)) ∧ Below w.heap.size w w' :=
  (calendar_instant.calls t (instB t) w (by unfold calendar_instant.f instB; by_cases h : 0 ≤ t <;> simp [h])).mono fun _ _ h => ⟨h.1, h.2.below⟩
def weekly_T1 : Bool × List (List Nat × List Nat) := (true, [([], []), ([0], [0]), ([1], [1]), ([2], [2]), ([], []), ([], []), ([5], [5]), ([6], [6]), ([7], [7]), ([4, 8], [4, 8]), ([], []), ([], []), ([11], [11]), ([12], [12]), ([13], [13]), ([10, 14], [10, 14]), ([3, 9, 15], [3, 9, 15]), ([16, 16, 0, 1, 2, 3, 4, 5, 6, 7, 8, 9, 10, 11, 12, 13, 14, 15, 16], [16])])
def weekly_B1 : List Nat := [0, 1, 3, 7, 0, 0, 32, 96, 224, 496, 0, 0, 2048, 6144, 14336, 31744, 65535, 131071]
theorem weekly_tab1 : rtab .any (opsOf Tryz.f88 1) = weekly_T1 := by kernel_rfl
theorem weekly_bits1 : waitsOk weekly_T1.2 weekly_B1 = true := by kernel_rfl
def weeklyP (off : Int) (week : List S114) (a b : Int) : Int := betweenP week (a + (604800 - off)) (b + (604800 - off))
set_option maxHeartbeats 1600000 in
set_option maxRecDepth 100000 in
theorem weekly_any (a b : Int) (w : World) (h : ClkAt w n kb ab pb cb off week closed) (hn : n ≤ w.heap.size) (a0 : 0 ≤ a) (a1 : a ≤ 1125899906842624) (b0 : 0 ≤ b) (b1 : b ≤ 1125899906842624) :
    Calls Tryz.prog 88 #[.pointer (some ⟨kb, 0, none⟩), .int .i64 a, .int .i64 b] w fun e w' => e = .returned (.int .i64 (weeklyP off week a b)) ∧ ClkAt w' n kb ab pb cb off week closed ∧ Upd cb w w' := by
  have HC := Aside0.mk h.drew
  have HN : Aside0 (n ≤ w.drew.heap.size) := ⟨hn⟩
  have HU : Aside0 (Upd cb w w.drew) := ⟨(Upd.refl cb w).drew⟩
  have c1 : w.drew.cell? ⟨kb, 1, none⟩ = some (.pointer (some ⟨pb, 0, none⟩)) := (blk_cell HC.out.blk 1).trans rfl
  have c2 : w.drew.cell? ⟨kb, 2, none⟩ = some (.int .i64 (604800 - off)) := (blk_cell HC.out.blk 2).trans rfl
  have hlo := h.lo
  have hhi := h.hi
  have HE : Aside0 (weeklyP off week a b = betweenP week (wrap64 (a + (604800 - off))) (wrap64 (b + (604800 - off)))) := ⟨by rw [wrap_id (by omega) (by omega), wrap_id (by omega) (by omega)]; rfl⟩
  rw [HE.out]
  clear h hn HE
  go_enter Tryz.func88, Tryz.ntmps88
  go_wp2
  refine start_ (n := 18) (S := fun w' => w'.cell? ⟨kb, 1, none⟩ = some (.pointer (some ⟨pb, 0, none⟩)) ∧ w'.cell? ⟨kb, 2, none⟩ = some (.int .i64 (604800 - off))) (ds := []) #[false, false, false, false, false, false, false, false, false, false, false, false, false, false, false, false, false, false] (by kernel_rfl) rfl rfl ⟨c1, c2⟩ (fun hHeld => ?_); refine with_tabW weekly_tab1 weekly_bits1 (fun HT_ HW_ => ?_)
  refine pure_ (i := 0) (N := some 7) (v := ?_) (a' := ?_) #[true, false, false, false, false, false, false, false, false, false, false, false, false, false, false, false, false, false] rfl rfl (any_of HT_.out (by kernel_rfl)) (fun _ _ _ h => h) (Or.inl ⟨by rfl, ?_⟩) ?_ ?_
  rotate_left
  · intro w'
    go_simp
    with_reducible rfl
  rotate_left
  · simp only [Act.put, List.setIfInBounds_toArray, List.set_cons_zero, List.set_cons_succ, i64_w, i32_w]
    rfl
  refine pure_ (i := 1) (N := some 8) (v := ?_) (a' := ?_) #[true, true, false, false, false, false, false, false, false, false, false, false, false, false, false, false, false, false] rfl rfl (any_of HT_.out (by kernel_rfl)) (fun _ _ _ h => h) (Or.inl ⟨by rfl, ?_⟩) ?_ ?_
  rotate_left
  · intro w'
    go_simp
    with_reducible rfl
  rotate_left
  · simp only [Act.put, List.setIfInBounds_toArray, List.set_cons_zero, List.set_cons_succ, i64_w, i32_w]
    rfl
  refine pure_ (i := 2) (N := some 9) (v := ?_) (a' := ?_) #[true, true, true, false, false, false, false, false, false, false, false, false, false, false, false, false, false, false] rfl rfl (any_of HT_.out (by kernel_rfl)) (fun _ _ _ h => h) (Or.inl ⟨by rfl, ?_⟩) ?_ ?_
  rotate_left
  · intro w'
    go_simp
    with_reducible rfl
  rotate_left
  · simp only [Act.put, List.setIfInBounds_toArray, List.set_cons_zero, List.set_cons_succ, i64_w, i32_w]
    rfl
  refine pure_ (i := 4) (N := some 11) (v := ?_) (a' := ?_) #[true, true, true, false, true, false, false, false, false, false, false, false, false, false, false, false, false, false] rfl rfl (any_of HT_.out (by kernel_rfl)) (fun _ _ _ h => h) (Or.inl ⟨by rfl, ?_⟩) ?_ ?_
  rotate_left
  · intro w'
    go_simp
    with_reducible rfl
  rotate_left
  · simp only [Act.put, List.setIfInBounds_toArray, List.set_cons_zero, List.set_cons_succ, i64_w, i32_w]
    rfl
  refine pure_ (i := 5) (N := some 12) (v := ?_) (a' := ?_) #[true, true, true, false, true, true, false, false, false, false, false, false, false, false, false, false, false, false] rfl rfl (any_of HT_.out (by kernel_rfl)) (fun _ _ _ h => h) (Or.inl ⟨by rfl, ?_⟩) ?_ ?_
  rotate_left
  · intro w'
    go_simp
    with_reducible rfl
  rotate_left
  · simp only [Act.put, List.setIfInBounds_toArray, List.set_cons_zero, List.set_cons_succ, i64_w, i32_w]
    rfl
  refine pure_ (i := 6) (N := some 13) (v := ?_) (a' := ?_) #[true, true, true, false, true, true, true, false, false, false, false, false, false, false, false, false, false, false] rfl rfl (any_of HT_.out (by kernel_rfl)) (fun _ _ _ h => h) (Or.inl ⟨by rfl, ?_⟩) ?_ ?_
  rotate_left
  · intro w'
    go_simp
    with_reducible rfl
  rotate_left
  · simp only [Act.put, List.setIfInBounds_toArray, List.set_cons_zero, List.set_cons_succ, i64_w, i32_w]
    rfl
  refine pure_ (i := 7) (N := some 14) (v := ?_) (a' := ?_) #[true, true, true, false, true, true, true, true, false, false, false, false, false, false, false, false, false, false] rfl rfl (any_of HT_.out (by kernel_rfl)) (fun _ _ _ h => h) (Or.inl ⟨by rfl, ?_⟩) ?_ ?_
  rotate_left
  · intro w'
    go_simp
    with_reducible rfl
  rotate_left
  · simp only [Act.put, List.setIfInBounds_toArray, List.set_cons_zero, List.set_cons_succ, i64_w, i32_w]
    rfl
  refine pure_ (i := 10) (N := some 17) (v := ?_) (a' := ?_) #[true, true, true, false, true, true, true, true, false, false, true, false, false, false, false, false, false, false] rfl rfl (any_of HT_.out (by kernel_rfl)) (fun _ _ _ h => h) (Or.inl ⟨by rfl, ?_⟩) ?_ ?_
  rotate_left
  · intro w'
    go_simp
    with_reducible rfl
  rotate_left
  · simp only [Act.put, List.setIfInBounds_toArray, List.set_cons_zero, List.set_cons_succ, i64_w, i32_w]
    rfl
  refine pure_ (i := 11) (N := some 18) (v := ?_) (a' := ?_) #[true, true, true, false, true, true, true, true, false, false, true, true, false, false, false, false, false, false] rfl rfl (any_of HT_.out (by kernel_rfl)) (fun _ _ _ h => h) (Or.inl ⟨by rfl, ?_⟩) ?_ ?_
  rotate_left
  · intro w'
    go_simp
    with_reducible rfl
  rotate_left
  · simp only [Act.put, List.setIfInBounds_toArray, List.set_cons_zero, List.set_cons_succ, i64_w, i32_w]
    rfl
  refine pure_ (i := 12) (N := some 19) (v := ?_) (a' := ?_) #[true, true, true, false, true, true, true, true, false, false, true, true, true, false, false, false, false, false] rfl rfl (any_of HT_.out (by kernel_rfl)) (fun _ _ _ h => h) (Or.inl ⟨by rfl, ?_⟩) ?_ ?_
  rotate_left
  · intro w'
    go_simp
    with_reducible rfl
  rotate_left
  · simp only [Act.put, List.setIfInBounds_toArray, List.set_cons_zero, List.set_cons_succ, i64_w, i32_w]
    rfl
  refine pure_ (i := 13) (N := some 20) (v := ?_) (a' := ?_) #[true, true, true, false, true, true, true, true, false, false, true, true, true, true, false, false, false, false] rfl rfl (any_of HT_.out (by kernel_rfl)) (fun _ _ _ h => h) (Or.inl ⟨by rfl, ?_⟩) ?_ ?_
  rotate_left
  · intro w'
    go_simp
    with_reducible rfl
  rotate_left
  · simp only [Act.put, List.setIfInBounds_toArray, List.set_cons_zero, List.set_cons_succ, i64_w, i32_w]
    rfl
  refine take_ (i := 3) (N := some 10) (v := ?_) (a' := ?_) #[true, true, true, true, true, true, true, true, false, false, true, true, true, true, false, false, false, false] rfl rfl (take_ofW HT_.out HW_.out (by kernel_rfl)) (fun _ _ _ h => h) (Or.inl ⟨by rfl, ?_⟩) hHeld ?_ ?_
  rotate_left
  · rintro w' ⟨s0, s1⟩
    go_simp
    with_reducible rfl
  rotate_left
  · simp only [Act.put, List.setIfInBounds_toArray, List.set_cons_zero, List.set_cons_succ, i64_w, i32_w]
    rfl
  refine take_ (i := 8) (N := some 15) (v := ?_) (a' := ?_) #[true, true, true, true, true, true, true, true, true, false, true, true, true, true, false, false, false, false] rfl rfl (take_ofW HT_.out HW_.out (by kernel_rfl)) (fun _ _ _ h => h) (Or.inl ⟨by rfl, ?_⟩) hHeld ?_ ?_
  rotate_left
  · rintro w' ⟨s0, s1⟩
    go_simp
    with_reducible rfl
  rotate_left
  · simp only [Act.put, List.setIfInBounds_toArray, List.set_cons_zero, List.set_cons_succ, i64_w, i32_w]
    rfl
  refine pure_ (i := 9) (N := some 16) (v := ?_) (a' := ?_) #[true, true, true, true, true, true, true, true, true, true, true, true, true, true, false, false, false, false] rfl rfl (any_of HT_.out (by kernel_rfl)) (fun _ _ _ h => h) (Or.inl ⟨by rfl, ?_⟩) ?_ ?_
  rotate_left
  · intro w'
    go_simp
    with_reducible rfl
  rotate_left
  · simp only [Act.put, List.setIfInBounds_toArray, List.set_cons_zero, List.set_cons_succ, i64_w, i32_w]
    rfl
  refine take_ (i := 14) (N := some 21) (v := ?_) (a' := ?_) #[true, true, true, true, true, true, true, true, true, true, true, true, true, true, true, false, false, false] rfl rfl (take_ofW HT_.out HW_.out (by kernel_rfl)) (fun _ _ _ h => h) (Or.inl ⟨by rfl, ?_⟩) hHeld ?_ ?_
  rotate_left
  · rintro w' ⟨s0, s1⟩
    go_simp
    with_reducible rfl
  rotate_left
  · simp only [Act.put, List.setIfInBounds_toArray, List.set_cons_zero, List.set_cons_succ, i64_w, i32_w]
    rfl
  refine pure_ (i := 15) (N := some 22) (v := ?_) (a' := ?_) #[true, true, true, true, true, true, true, true, true, true, true, true, true, true, true, true, false, false] rfl rfl (any_of HT_.out (by kernel_rfl)) (fun _ _ _ h => h) (Or.inl ⟨by rfl, ?_⟩) ?_ ?_
  rotate_left
  · intro w'
    go_simp
    with_reducible rfl
  rotate_left
  · simp only [Act.put, List.setIfInBounds_toArray, List.set_cons_zero, List.set_cons_succ, i64_w, i32_w]
    rfl
  refine one_ (i := 16) (N := some 23) #[true, true, true, true, true, true, true, true, true, true, true, true, true, true, true, true, true, false] rfl rfl (one_of HT_.out (by kernel_rfl)) (by decide) (fun K hK => ?_)
  refine goes_ Tryz.func124 (by kernel_rfl) rfl #[.pointer (some ⟨pb, 0, none⟩), .int .i64 (wrap64 (a + (604800 - off))), .int .i64 (wrap64 (b + (604800 - off)))] (by rfl) rfl rfl (by (try simp only [List.map_toArray, List.map_cons, List.map_nil]); first | done | rfl) ?_
  refine (between_any n pb cb week _ _ _ HC.out.plan HN.out).mono ?_
  rintro e w2 ⟨rfl, P2, U2⟩
  refine ⟨_, rfl, ?_⟩
  have HC2 := Aside0.mk (HC.out.upd U2 P2)
  have HU2 := Aside0.mk (HU.out.trans U2)
  have e1 : w2.cell? ⟨kb, 1, none⟩ = some (.pointer (some ⟨pb, 0, none⟩)) := (blk_cell HC2.out.blk 1).trans rfl
  have e2 : w2.cell? ⟨kb, 2, none⟩ = some (.int .i64 (604800 - off)) := (blk_cell HC2.out.blk 2).trans rfl
  clear P2 U2
  refine hK.out _ _ ⟨e1, e2⟩ (fun hHeld => ?_)
  clear hK K
  refine norm_ (a' := ?_) ?_ ?_
  rotate_left
  · show Act.put _ (some 23) _ = _
    simp only [Act.put, List.setIfInBounds_toArray, List.set_cons_zero, List.set_cons_succ, i64_w, i32_w]
    rfl
  refine switch_ (fun hHeld => ?_)
  refine pure_ (i := 17) (N := some 6) (v := ?_) (a' := ?_) #[true, true, true, true, true, true, true, true, true, true, true, true, true, true, true, true, true, true] rfl rfl (any_of HT_.out (by kernel_rfl)) (fun _ _ _ h => h) (Or.inl ⟨by rfl, ?_⟩) ?_ ?_
  rotate_left
  · intro w'
    go_simp
    with_reducible rfl
  rotate_left
  · simp only [Act.put, List.setIfInBounds_toArray, List.set_cons_zero, List.set_cons_succ, i64_w, i32_w]
    rfl
  refine done_ (done_of HT_.out (by kernel_rfl)) ?_
  go_wp2
  go_ret
  exact ⟨rfl, HC2.out, HU2.out⟩
end Go.Proofs.YtepldlnmeenlbaaGreat.Own
namespace Go.Proofs.YtepldlnmeenlbaaGreat.Own
open Go.RowKit Go.Proofs Go.Proofs.YtepldlnmeenlbaaGreatW.PrintWords Go.Proofs.YtepldlnmeenlbaaGreatW.PrintLast Go.Proofs.YtepldlnmeenlbaaGreatW.PrintMore Go.Proofs.YtepldlnmeenlbaaGreat.Base
def cutP (l : List S114) (a b : Int) : List S114 := (l.map fun s => (⟨mx s.f0 a, mn s.f1 b⟩ : S114)).filter fun s => decide (s.f0 < s.f1)
theorem cutP_cons (s : S114) (r : List S114) (a b : Int) : cutP (s :: r) a b = if mx s.f0 a < mn s.f1 b then ⟨mx s.f0 a, mn s.f1 b⟩ :: cutP r a b else cutP r a b := by
  unfold cutP
  rw [List.map_cons, List.filter_cons]
  simp
theorem cutP_snoc (l : List S114) (s : S114) (a b : Int) : cutP (l ++ [s]) a b = cutP l a b ++ (if mx s.f0 a < mn s.f1 b then [⟨mx s.f0 a, mn s.f1 b⟩] else []) := by
  unfold cutP
  rw [List.map_append, List.filter_append]
  congr 1
  by_cases h : mx s.f0 a < mn s.f1 b <;> simp [h]
theorem cutP_length (l : List S114) (a b : Int) : (cutP l a b).length ≤ l.length := by
  unfold cutP
  exact Nat.le_trans (List.length_filter_le _ _) (by simp)
theorem take_at {l : List S114} {i : Nat} (h : i < l.length) : l.take (i + 1) = l.take i ++ [rd_T114 l i] := by
  rw [rd_at l i h, List.take_succ_eq_append_getElem h]
theorem cut_l0 (l : List S114) (a b : Int) (hl : l.length ≤ 1000000) : ∀ (d k i : Nat), i + d = l.length → d < k → span_Cut.l0 k a b (cutP (l.take i) a b) l (l.length : Int) (i : Int) = some (cutP l a b) := by
  intro d
  induction d with
  | zero =>
    intro k i hi hk
    obtain ⟨k, rfl⟩ : ∃ m, k = m + 1 := ⟨k - 1, by omega⟩
    simp only [span_Cut.l0]
    rw [if_neg (by omega), List.take_of_length_le (by omega)]
  | succ d ih =>
    intro k i hi hk
    obtain ⟨k, rfl⟩ : ∃ m, k = m + 1 := ⟨k - 1, by omega⟩
    have hlt : i < l.length := by omega
    have ih' := ih k (i + 1) (by omega) (by omega)
    rw [take_at hlt, cutP_snoc] at ih'
    have hlen := cutP_length (l.take i) a b
    have hlen2 : (l.take i).length = i := by simp; omega
    simp only [span_Cut.l0]
    rw [if_pos (by omega), if_pos (by omega), if_pos (by omega), wrap_id (by omega) (by omega)]
    simp only [span_common.f, Option.bind_some]
    rw [show ((i : Int) + 1) = ((i + 1 : Nat) : Int) by omega]
    by_cases h : mx (rd_T114 l i).f0 a < mn (rd_T114 l i).f1 b
    · rw [if_pos h] at ih' ⊢
      rw [if_pos (by omega)]
      exact ih'
    · rw [if_neg h] at ih' ⊢
      rw [List.append_nil] at ih'
      exact ih'
theorem cut_eq (l : List S114) (a b : Int) (h : rowErr l = 0) : span_Cut.f 200 l a b = some (cutP l a b) := by
  have hl := (rowErr_ok h).len
  unfold span_Cut.f
  rw [row_eq l 200 (by omega), h]
  simp only [Option.bind_some, if_true]
  exact cut_l0 l a b (by omega) l.length 200 0 (by omega) (by omega)
theorem cutP_mem {hi : Int} {l : List S114} (h : RowOk hi l) (a b : Int) : ∀ s, s ∈ cutP l a b → 0 ≤ s.f0 ∧ a ≤ s.f0 ∧ s.f0 < s.f1 ∧ s.f1 ≤ hi ∧ s.f1 ≤ b := by
  intro s hs
  unfold cutP at hs
  rw [List.mem_filter, List.mem_map] at hs
  obtain ⟨⟨t, ht, rfl⟩, h2⟩ := hs
  have h3 := h.mem t ht
  have h4 := of_decide_eq_true h2
  simp only [mx, mn] at h4 ⊢
  split at h4 <;> split at h4 <;> rename_i c1 c2 <;> simp only [c1, c2, if_true, if_false] <;> omega
theorem RowOk.err {l : List S114} (h : RowOk 1125899906842624 l) : rowErr l = 0 := by
  have key : ∀ (l : List S114) (lo : Int), 0 ≤ lo → RowFrom lo l → (∀ s, s ∈ l → s.f1 ≤ 1125899906842624) → okRow lo l = true := by
    intro l
    induction l with
    | nil => intros; rfl
    | cons s r ih =>
      intro lo hlo hr ht
      have := ht s List.mem_cons_self
      obtain ⟨h1, h2, h3⟩ := hr
      unfold okRow
      rw [ih s.f1 (by omega) h3 (fun t ht' => ht t (List.mem_cons_of_mem _ ht')), decide_eq_true (by omega)]
      rfl
  unfold rowErr
  rw [if_neg (by have := h.len; omega), key l 0 (by omega) h.row h.top]
  rfl
end Go.Proofs.YtepldlnmeenlbaaGreat.Own
namespace Go.Proofs.YtepldlnmeenlbaaGreat.Own
open Go.RowKit Go.Proofs Go.Proofs.YtepldlnmeenlbaaGreatW.PrintWords Go.Proofs.YtepldlnmeenlbaaGreatW.PrintLast Go.Proofs.YtepldlnmeenlbaaGreatW.PrintMore Go.Proofs.YtepldlnmeenlbaaGreat.Base
attribute [local go_sem] max2_mx min2_mn max_two min_two
variable {w w' : World} {n kb ab pb cb : Nat} {off : Int} {week closed : List S114}
def sumW (off : Int) (week : List S114) : List S114 → Int
  | [] => 0
  | s :: r => weeklyP off week s.f0 s.f1 + sumW off week r
theorem sumW_append (off : Int) (week a b : List S114) : sumW off week (a ++ b) = sumW off week a + sumW off week b := by
  induction a with
  | nil => simp [sumW]
  | cons s r ih => simp [sumW, ih]; omega
theorem sumW_bound (off : Int) {week : List S114} (h : RowOk 604800 week) (l : List S114) : 0 ≤ sumW off week l ∧ sumW off week l ≤ 2251799815500000 * l.length := by
  induction l with
  | nil => exact ⟨Int.le_refl _, by simp [sumW]⟩
  | cons s r ih =>
    have := between_bound h (s.f0 + (604800 - off)) (s.f1 + (604800 - off))
    simp only [sumW, List.length_cons, weeklyP]
    omega
set_option maxHeartbeats 4000000 in
set_option maxRecDepth 100000 in
theorem lost_any (a b : Int) (w : World) (h : ClkAt w n kb ab pb cb off week closed) (hn : n ≤ w.heap.size) (a0 : 0 ≤ a) (b1 : b ≤ 1125899906842624) :
    Calls Tryz.prog 89 #[.pointer (some ⟨ab, 0, none⟩), .int .i64 a, .int .i64 b, .func (.func 88) #[.pointer (some ⟨kb, 0, none⟩)] #[]] w fun e w' => e = .returned (.int .i64 (sumW off week (cutP closed a b))) ∧ ClkAt w' n kb ab pb cb off week closed ∧ Upd cb w w' := by
  obtain ⟨A, c, hb, hc, hr⟩ := h.alm.blk
  have HC := Aside0.mk h
  have HN := Aside0.mk hn
  have HB0 := Aside0.mk hb
  have HR := Aside0.mk (Kd.R_reads' hr).2.2
  have HCUT := Aside0.mk (cut_eq closed a b h.alm.ok.err)
  have HMEM := Aside0.mk (cutP_mem h.alm.ok a b)
  have hlen : (cutP closed a b).length ≤ 32 := Nat.le_trans (cutP_length _ _ _) h.alm.ok.len
  have hcb : Aside0 (cb < w.heap.size) := by
    obtain ⟨m, k, ⟨lv, hx⟩ | ⟨v, hx, _⟩⟩ := h.plan.cell
    · exact ⟨blk_lt hx⟩
    · exact ⟨blk_lt hx⟩
  have HWO := Aside0.mk h.plan.ok
  have hneq : ∀ (fn : Fn) (first captured : Array Value) (w : World), Sem.run Tryz.prog (binOp BinOp.eql 157 (Value.func fn first captured) Value.nilFunc) w = .ok (.bool false) w := fun _ _ _ _ => by kernel_rfl
  generalize cutP closed a b = cut at HCUT HMEM hlen ⊢
  clear h hn hb hr
  go_enter Tryz.func89, Tryz.ntmps89
  go_wp2_with (first | (go_at_call 126; refine (all_any n ab cb closed A c _ HB0.out).mono ?_; rintro e w1 ⟨rfl, rfl⟩) | (go_at_call 125; refine (span_Cut.calls 200 A c closed a b cut _ HR.out hc HCUT.out).mono ?_; rintro e w1 ⟨v, rfl, hR, hb⟩; obtain ⟨A2, c2, rfl, hl2, _⟩ := Kd.R_reads hR; have HK := Aside0.mk (show Kd.R k114 114 w1 n (fun k => k ≠ cb) (.slice A2 cut.length c2) cut from Kd.R_lower (Kd.R_mono (Kd.R_bound hR) (fun k hk => by have := hk.2.1; have := hcb.out; omega)) HN.out); have HC1 := Aside0.mk (HC.out.below hb); have HU1 := Aside0.mk (Upd.of_below (b := cb) hb); clear hR hb))
  go_loopg [8, 19] cut.length (fun g v8 v19 w' => ∃ i : Int, v19 = .int .i64 i ∧ v8 = .int .i64 (sumW off week (cut.take i.toNat)) ∧ Aside0 (0 ≤ i ∧ (g : Int) + i = cut.length) ∧ Aside0 (Kd.R k114 114 w' n (fun k => k ≠ cb) (.slice A2 cut.length c2) cut) ∧ Aside0 (ClkAt w' n kb ab pb cb off week closed) ∧ Aside0 (Upd cb w w'))
  case atStart => exact ⟨0, rfl, rfl, ⟨by omega, by omega⟩, HK, HC1, HU1⟩
  case round =>
    clear HK HC1 HU1
    obtain ⟨i, rfl, rfl, HI, HK, HC1, HU1⟩ := hrel
    by_cases hi : i < cut.length
    · have p0 : 0 ≤ i := HI.out.1
      obtain ⟨ad, e, hx0, hx1⟩ := at_T114 (Kd.R_reads' HK.out).2.2 i p0 hi
      cases e
      have hin : i.toNat < cut.length := by omega
      have hrd : rd_T114 cut i = cut[i.toNat]'hin := by rw [← rd_at cut i.toNat hin]; congr 1; omega
      have hm := HMEM.out (rd_T114 cut i) (by rw [hrd]; exact List.getElem_mem _)
      have hs := sumW_bound off HWO.out (cut.take i.toNat)
      have hw := between_bound HWO.out ((rd_T114 cut i).f0 + (604800 - off)) ((rd_T114 cut i).f1 + (604800 - off))
      have htl : (cut.take i.toNat).length ≤ 32 := by simp; omega
      have HSN : Aside0 (sumW off week (cut.take (i + 1).toNat) = sumW off week (cut.take i.toNat) + weeklyP off week (rd_T114 cut i).f0 (rd_T114 cut i).f1) := ⟨by
        rw [show (i + 1).toNat = i.toNat + 1 by omega, List.take_succ_eq_append_getElem hin, sumW_append, hrd]
        simp [sumW]⟩
      have z0 : 0 ≤ sumW off week (cut.take i.toNat) := hs.1
      have z1 : sumW off week (cut.take i.toNat) ≤ 72057594096000000 := by omega
      have z2 : 0 ≤ weeklyP off week (rd_T114 cut i).f0 (rd_T114 cut i).f1 := hw.1
      have z3 : weeklyP off week (rd_T114 cut i).f0 (rd_T114 cut i).f1 ≤ 2251799815500000 := hw.2
      have HM : Aside0 (0 ≤ (rd_T114 cut i).f0 ∧ (rd_T114 cut i).f0 ≤ 1125899906842624 ∧ 0 ≤ (rd_T114 cut i).f1 ∧ (rd_T114 cut i).f1 ≤ 1125899906842624) := ⟨by omega⟩
      have HKA := Aside0.mk (Kd.R_alloc HK.out (.cells #[.int .i64 (rd_T114 cut i).f0, .int .i64 (rd_T114 cut i).f1] 114))
      have HCA := Aside0.mk (HC1.out.below (below_alloc (Below.refl _ _) (.cells #[.int .i64 (rd_T114 cut i).f0, .int .i64 (rd_T114 cut i).f1] 114)))
      have HUA := Aside0.mk (HU1.out.alloc (.cells #[.int .i64 (rd_T114 cut i).f0, .int .i64 (rd_T114 cut i).f1] 114))
      have HNA : Aside0 (n ≤ (wr.alloc (.cells #[.int .i64 (rd_T114 cut i).f0, .int .i64 (rd_T114 cut i).f1] 114)).heap.size) := ⟨Nat.le_trans HN.out HUA.out.size⟩
      clear hrd hm hs hw htl
      go_wp2_with (go_at_call 88; refine (weekly_any _ _ _ HCA.out HNA.out HM.out.1 HM.out.2.1 HM.out.2.2.1 HM.out.2.2.2).mono ?_; rintro e w3 ⟨rfl, C3, U3⟩; have HC3 := Aside0.mk C3; have HU3 := Aside0.mk (HUA.out.trans U3); have HK3 := Aside0.mk (Kd.R_grown HKA.out U3 (fun k hk e => hk (by injection e))); clear C3 U3)
      go_roundg (gk - 1)
      case measure => have := HI.out; omega
      case rel => exact ⟨i + 1, (by first | rfl | go_num), by rw [HSN.out], ⟨by have := HI.out; omega, by have := HI.out; omega⟩, HK3, HC3, HU3⟩
    · have hi' : i = cut.length := by have := HI.out; omega
      have HE : Aside0 (sumW off week (cut.take i.toNat) = sumW off week cut) := ⟨by rw [hi', Int.toNat_natCast, List.take_length]⟩
      clear hi'
      go_wp2
      go_ret
      exact ⟨by rw [← HE.out]; rfl, HC1.out, HU1.out⟩
def elapP (off : Int) (week closed : List S114) (a b : Int) : Int := weeklyP off week a b - sumW off week (cutP closed a b)
def elap_T5 : Bool × List (List Nat × List Nat) := (true, [([], []), ([], []), ([], []), ([0, 1, 2], [0, 1, 2]), ([], []), ([4], [4]), ([5], [5]), ([6], [6]), ([], []), ([], []), ([], []), ([10], [10]), ([7, 8, 9, 11, 3], [7, 8, 9, 11]), ([3, 12], [3, 12]), ([13, 12, 0, 1, 2, 3, 4, 5, 6, 7, 8, 9, 10, 11, 12, 13], [13]), ([14, 0, 1, 2, 3, 4, 5, 6, 7, 8, 9, 10, 11, 12, 13, 14], [])])
def elap_B5 : List Nat := [0, 0, 0, 7, 0, 16, 48, 112, 0, 0, 0, 1024, 4095, 8191, 16383, 32767]
theorem elap_tab5 : rtab .any (opsOf Tryz.f38 5) = elap_T5 := by kernel_rfl
theorem elap_bits5 : waitsOk elap_T5.2 elap_B5 = true := by kernel_rfl
set_option maxHeartbeats 4000000 in
set_option maxRecDepth 100000 in
theorem elapsed_any (a b : Int) (w : World) (h : ClkAt w n kb ab pb cb off week closed) (hn : n ≤ w.heap.size) (a0 : 0 ≤ a) (hab : a ≤ b) (b1 : b ≤ 1125899906842624) :
    Calls Tryz.prog 38 #[.pointer (some ⟨kb, 0, none⟩), .int .i64 a, .int .i64 b] w fun e w' => e = .returned (.tuple #[.int .i64 (elapP off week closed a b), .int .i64 0]) ∧ ClkAt w' n kb ab pb cb off week closed ∧ Upd cb w w' := by
  have HC := Aside0.mk h
  have HN := Aside0.mk hn
  have HU := Aside0.mk (Upd.refl cb w)
  have ia : instB a = true := by unfold instB; exact decide_eq_true (by omega)
  have ib : instB b = true := by unfold instB; exact decide_eq_true (by omega)
  have HIA := Aside0.mk ia
  have HIB := Aside0.mk ib
  have hnot : ∀ (x : Bool) (w : World), (Op.unary .not (.bool x)).run Tryz.prog w = .ok (.bool (!x)) w := fun _ _ => rfl
  have hmf : ∀ (fn : Fn) (first cap : Array Value) (w : World), (Instr.makeFunc fn first cap).run Tryz.prog w = .ok (.func fn first cap) w := fun _ _ _ _ => rfl
  have hle : ¬ b < a := by omega
  have hled : decide (b < a) = false := decide_eq_false hle
  have hw := between_bound h.plan.ok (a + (604800 - off)) (b + (604800 - off))
  have hsm := sumW_bound off h.plan.ok (cutP closed a b)
  have hlen : (cutP closed a b).length ≤ 32 := Nat.le_trans (cutP_length _ _ _) h.alm.ok.len
  have HE : Aside0 (wrap64 (weeklyP off week a b - sumW off week (cutP closed a b)) = elapP off week closed a b) := ⟨by unfold elapP; rw [show weeklyP off week a b = betweenP week (a + (604800 - off)) (b + (604800 - off)) from rfl]; exact wrap_id (by omega) (by omega)⟩
  clear h hn ia ib hw hsm hlen
  go_enter Tryz.func38, Tryz.ntmps38
  go_wp2_with (first | (go_at_call 86; refine (clknone_any _ HC.out).mono ?_; rintro e w1 ⟨rfl, rfl⟩) | (go_at_call 87; refine (instant_any _ _).mono ?_; rintro e w1 ⟨rfl, hb⟩; (first | rw [HIA.out] | rw [HIB.out]); have n0 := Aside0.mk (HC.out.below hb); have n1 := Aside0.mk (HU.out.then hb); have n2 := Aside0.mk (Nat.le_trans HN.out hb.size); clear HC HU HN hb; have HC := n0; have HU := n1; have HN := n2; clear n0 n1 n2))
  have HC1 := Aside0.mk HC.out.drew
  have HN1 : Aside0 (n ≤ w1.drew.heap.size) := ⟨HN.out⟩
  have HU1 : Aside0 (Upd cb w w1.drew) := ⟨HU.out.drew⟩
  have c0 : w1.drew.cell? ⟨kb, 0, none⟩ = some (.pointer (some ⟨ab, 0, none⟩)) := (blk_cell HC1.out.blk 0).trans rfl
  have HAB : Aside0 (0 ≤ a ∧ a ≤ 1125899906842624 ∧ 0 ≤ b ∧ b ≤ 1125899906842624) := ⟨by omega⟩
  refine start_ (n := 16) (S := fun w' => w'.cell? ⟨kb, 0, none⟩ = some (.pointer (some ⟨ab, 0, none⟩))) (ds := []) #[false, false, false, false, false, false, false, false, false, false, false, false, false, false, false, false] (by kernel_rfl) rfl rfl c0 (fun hHeld => ?_); refine with_tabW elap_tab5 elap_bits5 (fun HT_ HW_ => ?_)
  refine pure_ (i := 0) (N := some 25) (v := ?_) (a' := ?_) #[true, false, false, false, false, false, false, false, false, false, false, false, false, false, false, false] rfl rfl (any_of HT_.out (by kernel_rfl)) (fun _ _ _ h => h) (Or.inl ⟨by rfl, ?_⟩) ?_ ?_
  rotate_left
  · intro w'
    go_simp
    with_reducible rfl
  rotate_left
  · simp only [Act.put, List.setIfInBounds_toArray, List.set_cons_zero, List.set_cons_succ, i64_w, i32_w]
    rfl
  refine pure_ (i := 1) (N := some 26) (v := ?_) (a' := ?_) #[true, true, false, false, false, false, false, false, false, false, false, false, false, false, false, false] rfl rfl (any_of HT_.out (by kernel_rfl)) (fun _ _ _ h => h) (Or.inl ⟨by rfl, ?_⟩) ?_ ?_
  rotate_left
  · intro w'
    go_simp
    with_reducible rfl
  rotate_left
  · simp only [Act.put, List.setIfInBounds_toArray, List.set_cons_zero, List.set_cons_succ, i64_w, i32_w]
    rfl
  refine pure_ (i := 2) (N := some 27) (v := ?_) (a' := ?_) #[true, true, true, false, false, false, false, false, false, false, false, false, false, false, false, false] rfl rfl (any_of HT_.out (by kernel_rfl)) (fun _ _ _ h => h) (Or.inl ⟨by rfl, ?_⟩) ?_ ?_
  rotate_left
  · intro w'
    go_simp
    with_reducible rfl
  rotate_left
  · simp only [Act.put, List.setIfInBounds_toArray, List.set_cons_zero, List.set_cons_succ, i64_w, i32_w]
    rfl
  refine pure_ (i := 4) (N := some 29) (v := ?_) (a' := ?_) #[true, true, true, false, true, false, false, false, false, false, false, false, false, false, false, false] rfl rfl (any_of HT_.out (by kernel_rfl)) (fun _ _ _ h => h) (Or.inl ⟨by rfl, ?_⟩) ?_ ?_
  rotate_left
  · intro w'
    go_simp
    with_reducible rfl
  rotate_left
  · simp only [Act.put, List.setIfInBounds_toArray, List.set_cons_zero, List.set_cons_succ, i64_w, i32_w]
    rfl
  refine pure_ (i := 5) (N := some 30) (v := ?_) (a' := ?_) #[true, true, true, false, true, true, false, false, false, false, false, false, false, false, false, false] rfl rfl (any_of HT_.out (by kernel_rfl)) (fun _ _ _ h => h) (Or.inl ⟨by rfl, ?_⟩) ?_ ?_
  rotate_left
  · intro w'
    go_simp
    with_reducible rfl
  rotate_left
  · simp only [Act.put, List.setIfInBounds_toArray, List.set_cons_zero, List.set_cons_succ, i64_w, i32_w]
    rfl
  refine pure_ (i := 6) (N := some 31) (v := ?_) (a' := ?_) #[true, true, true, false, true, true, true, false, false, false, false, false, false, false, false, false] rfl rfl (any_of HT_.out (by kernel_rfl)) (fun _ _ _ h => h) (Or.inl ⟨by rfl, ?_⟩) ?_ ?_
  rotate_left
  · intro w'
    go_simp
    with_reducible rfl
  rotate_left
  · simp only [Act.put, List.setIfInBounds_toArray, List.set_cons_zero, List.set_cons_succ, i64_w, i32_w]
    rfl
  refine pure_ (i := 8) (N := some 33) (v := ?_) (a' := ?_) #[true, true, true, false, true, true, true, false, true, false, false, false, false, false, false, false] rfl rfl (any_of HT_.out (by kernel_rfl)) (fun _ _ _ h => h) (Or.inl ⟨by rfl, ?_⟩) ?_ ?_
  rotate_left
  · intro w'
    go_simp
    with_reducible rfl
  rotate_left
  · simp only [Act.put, List.setIfInBounds_toArray, List.set_cons_zero, List.set_cons_succ, i64_w, i32_w]
    rfl
  refine pure_ (i := 9) (N := some 34) (v := ?_) (a' := ?_) #[true, true, true, false, true, true, true, false, true, true, false, false, false, false, false, false] rfl rfl (any_of HT_.out (by kernel_rfl)) (fun _ _ _ h => h) (Or.inl ⟨by rfl, ?_⟩) ?_ ?_
  rotate_left
  · intro w'
    go_simp
    with_reducible rfl
  rotate_left
  · simp only [Act.put, List.setIfInBounds_toArray, List.set_cons_zero, List.set_cons_succ, i64_w, i32_w]
    rfl
  refine pure_ (i := 10) (N := some 35) (v := ?_) (a' := ?_) #[true, true, true, false, true, true, true, false, true, true, true, false, false, false, false, false] rfl rfl (any_of HT_.out (by kernel_rfl)) (fun _ _ _ h => h) (Or.inl ⟨by rfl, ?_⟩) ?_ ?_
  rotate_left
  · intro w'
    go_simp
    with_reducible rfl
  rotate_left
  · simp only [Act.put, List.setIfInBounds_toArray, List.set_cons_zero, List.set_cons_succ, i64_w, i32_w]
    rfl
  refine pure_ (i := 11) (N := some 36) (v := ?_) (a' := ?_) #[true, true, true, false, true, true, true, false, true, true, true, true, false, false, false, false] rfl rfl (any_of HT_.out (by kernel_rfl)) (fun _ _ _ h => h) (Or.inl ⟨by rfl, ?_⟩) ?_ ?_
  rotate_left
  · intro w'
    go_simp
    with_reducible rfl
  rotate_left
  · simp only [Act.put, List.setIfInBounds_toArray, List.set_cons_zero, List.set_cons_succ, i64_w, i32_w]
    rfl
  refine take_ (i := 7) (N := some 32) (v := ?_) (a' := ?_) #[true, true, true, false, true, true, true, true, true, true, true, true, false, false, false, false] rfl rfl (take_ofW HT_.out HW_.out (by kernel_rfl)) (fun _ _ _ h => h) (Or.inl ⟨by rfl, ?_⟩) hHeld ?_ ?_
  rotate_left
  · rintro w' s0
    go_simp
    with_reducible rfl
  rotate_left
  · simp only [Act.put, List.setIfInBounds_toArray, List.set_cons_zero, List.set_cons_succ, i64_w, i32_w]
    rfl
  refine one_ (i := 3) (N := some 28) #[true, true, true, true, true, true, true, true, true, true, true, true, false, false, false, false] rfl rfl (one_of HT_.out (by kernel_rfl)) (by decide) (fun K hK => ?_)
  refine goes_ Tryz.func88 (by kernel_rfl) rfl #[.pointer (some ⟨kb, 0, none⟩), .int .i64 a, .int .i64 b] (by rfl) rfl rfl (by (try simp only [List.map_toArray, List.map_cons, List.map_nil]); first | done | rfl) ?_
  refine (weekly_any a b _ HC1.out HN1.out HAB.out.1 HAB.out.2.1 HAB.out.2.2.1 HAB.out.2.2.2).mono ?_
  rintro e w2 ⟨rfl, C2, U2⟩
  refine ⟨_, rfl, ?_⟩
  have HC2 := Aside0.mk C2
  have HU2 := Aside0.mk (HU1.out.trans U2)
  have HN2 : Aside0 (n ≤ w2.heap.size) := ⟨Nat.le_trans HN1.out U2.size⟩
  have e0 : w2.cell? ⟨kb, 0, none⟩ = some (.pointer (some ⟨ab, 0, none⟩)) := (blk_cell HC2.out.blk 0).trans rfl
  clear C2 U2
  refine hK.out _ _ e0 (fun hHeld => ?_)
  clear hK K
  refine norm_ (a' := ?_) ?_ ?_
  rotate_left
  · show Act.put _ (some 28) _ = _
    simp only [Act.put, List.setIfInBounds_toArray, List.set_cons_zero, List.set_cons_succ, i64_w, i32_w]
    rfl
  refine one_ (i := 12) (N := some 37) #[true, true, true, true, true, true, true, true, true, true, true, true, true, false, false, false] rfl rfl (one_of HT_.out (by kernel_rfl)) (by decide) (fun K hK => ?_)
  refine goes_ Tryz.func89 (by kernel_rfl) rfl #[.pointer (some ⟨ab, 0, none⟩), .int .i64 a, .int .i64 b, .func (.func 88) #[.pointer (some ⟨kb, 0, none⟩)] #[]] (by rfl) rfl rfl (by (try simp only [List.map_toArray, List.map_cons, List.map_nil]); first | done | rfl) ?_
  refine (lost_any a b _ HC2.out HN2.out HAB.out.1 HAB.out.2.2.2).mono ?_
  rintro e w3 ⟨rfl, C3, U3⟩
  refine ⟨_, rfl, ?_⟩
  have HC3 := Aside0.mk C3
  have HU3 := Aside0.mk (HU2.out.trans U3)
  have e0 : w3.cell? ⟨kb, 0, none⟩ = some (.pointer (some ⟨ab, 0, none⟩)) := (blk_cell HC3.out.blk 0).trans rfl
  clear C3 U3
  refine hK.out _ _ e0 (fun hHeld => ?_)
  clear hK K
  refine norm_ (a' := ?_) ?_ ?_
  rotate_left
  · show Act.put _ (some 37) _ = _
    simp only [Act.put, List.setIfInBounds_toArray, List.set_cons_zero, List.set_cons_succ, i64_w, i32_w]
    rfl
  refine pure_ (i := 13) (N := some 38) (v := ?_) (a' := ?_) #[true, true, true, true, true, true, true, true, true, true, true, true, true, true, false, false] rfl rfl (any_of HT_.out (by kernel_rfl)) (fun _ _ _ h => h) (Or.inl ⟨by rfl, ?_⟩) ?_ ?_
  rotate_left
  · intro w'
    go_simp
    with_reducible rfl
  rotate_left
  · simp only [Act.put, List.setIfInBounds_toArray, List.set_cons_zero, List.set_cons_succ, i64_w, i32_w]
    rfl
  refine pure_ (i := 14) (N := some 6) (v := ?_) (a' := ?_) #[true, true, true, true, true, true, true, true, true, true, true, true, true, true, true, false] rfl rfl (any_of HT_.out (by kernel_rfl)) (fun _ _ _ h => h) (Or.inl ⟨by rfl, ?_⟩) ?_ ?_
  rotate_left
  · intro w'
    go_simp
    with_reducible rfl
  rotate_left
  · simp only [Act.put, List.setIfInBounds_toArray, List.set_cons_zero, List.set_cons_succ, i64_w, i32_w]
    rfl
  refine pure_ (i := 15) (N := some 7) (v := ?_) (a' := ?_) #[true, true, true, true, true, true, true, true, true, true, true, true, true, true, true, true] rfl rfl (any_of HT_.out (by kernel_rfl)) (fun _ _ _ h => h) (Or.inl ⟨by rfl, ?_⟩) ?_ ?_
  rotate_left
  · intro w'
    go_simp
    with_reducible rfl
  rotate_left
  · simp only [Act.put, List.setIfInBounds_toArray, List.set_cons_zero, List.set_cons_succ, i64_w, i32_w]
    rfl
  refine done_ (done_of HT_.out (by kernel_rfl)) ?_
  rw [HE.out]
  go_wp2
  go_ret2
  exact ⟨rfl, HC3.out, HU3.out⟩
set_option maxHeartbeats 1600000 in
set_option maxRecDepth 100000 in
theorem elapsed_arg (a b : Int) (w : World) (h : ClkAt w n kb ab pb cb off week closed) (hx : ¬ (0 ≤ a ∧ a ≤ b ∧ b ≤ 1125899906842624)) :
    Calls Tryz.prog 38 #[.pointer (some ⟨kb, 0, none⟩), .int .i64 a, .int .i64 b] w fun e w' => e = .returned (.tuple #[.int .i64 0, .int .i64 2]) ∧ Below w.heap.size w w' := by
  have HC := Aside0.mk h
  have HB := Aside0.mk (Below.refl w.heap.size w)
  have hnot : ∀ (x : Bool) (w : World), (Op.unary .not (.bool x)).run Tryz.prog w = .ok (.bool (!x)) w := fun _ _ => rfl
  by_cases ia : instB a = true
  · by_cases ib : instB b = true
    · have hlt : b < a := by
        unfold instB at ia ib
        have := of_decide_eq_true ia
        have := of_decide_eq_true ib
        omega
      have hltd : decide (b < a) = true := decide_eq_true hlt
      have HIA := Aside0.mk ia
      have HIB := Aside0.mk ib
      clear h ia ib hx
      go_enter Tryz.func38, Tryz.ntmps38
      go_wp2_with (first | (go_at_call 86; refine (clknone_any _ HC.out).mono ?_; rintro e w1 ⟨rfl, rfl⟩) | (go_at_call 87; refine (instant_any _ _).mono ?_; rintro e w1 ⟨rfl, hb⟩; (first | rw [HIA.out] | rw [HIB.out]); have n0 := Aside0.mk (HC.out.below hb); have n1 := Aside0.mk (below_step HB.out hb); clear HC HB hb; have HC := n0; have HB := n1; clear n0 n1))
      go_ret2
      exact ⟨rfl, HB.out⟩
    · have ib' : instB b = false := by simpa using ib
      have HIA := Aside0.mk ia
      have HIB := Aside0.mk ib'
      clear h ia ib ib' hx
      go_enter Tryz.func38, Tryz.ntmps38
      go_wp2_with (first | (go_at_call 86; refine (clknone_any _ HC.out).mono ?_; rintro e w1 ⟨rfl, rfl⟩) | (go_at_call 87; refine (instant_any _ _).mono ?_; rintro e w1 ⟨rfl, hb⟩; (first | rw [HIA.out] | rw [HIB.out]); have n0 := Aside0.mk (HC.out.below hb); have n1 := Aside0.mk (below_step HB.out hb); clear HC HB hb; have HC := n0; have HB := n1; clear n0 n1))
      go_ret2
      exact ⟨rfl, HB.out⟩
  · have ia' : instB a = false := by simpa using ia
    have HIA := Aside0.mk ia'
    clear h ia ia' hx
    go_enter Tryz.func38, Tryz.ntmps38
    go_wp2_with (first | (go_at_call 86; refine (clknone_any _ HC.out).mono ?_; rintro e w1 ⟨rfl, rfl⟩) | (go_at_call 87; refine (instant_any _ _).mono ?_; rintro e w1 ⟨rfl, hb⟩; (first | rw [HIA.out]); have n0 := Aside0.mk (HC.out.below hb); have n1 := Aside0.mk (below_step HB.out hb); clear HC HB hb; have HC := n0; have HB := n1; clear n0 n1))
    go_ret2
    exact ⟨rfl, HB.out⟩
end Go.Proofs.YtepldlnmeenlbaaGreat.Own
namespace Go.Proofs.YtepldlnmeenlbaaGreat.Own
open Go.RowKit Go.Proofs Go.Proofs.YtepldlnmeenlbaaGreatW.PrintWords Go.Proofs.YtepldlnmeenlbaaGreatW.PrintLast Go.Proofs.YtepldlnmeenlbaaGreatW.PrintMore Go.Proofs.YtepldlnmeenlbaaGreat.Base
attribute [local go_sem] max2_mx min2_mn max_two min_two
variable {w w' : World} {n kb ab pb cb : Nat} {off : Int} {week closed : List S114}
def calErr (off : Int) (week closed : List S114) : Int := if off < 0 ∨ 604800 ≤ off then 2 else if weekErr week = 0 then rowErr closed else weekErr week
set_option maxHeartbeats 1600000 in
set_option maxRecDepth 100000 in
theorem calnew_yes (off : Int) (A1 A2 : Option Addr) (c1 c2 : Nat) (week closed : List S114) (w : World) (h1 : Kd.C k114 w A1 week.length week) (hc1 : week.length ≤ c1) (h2 : Kd.C k114 w A2 closed.length closed) (hc2 : closed.length ≤ c2) (he : calErr off week closed = 0) :
    Calls Tryz.prog 35 #[.agg #[.int .i64 off, .slice A1 week.length c1, .slice A2 closed.length c2]] w fun e w' => ∃ kb ab pb cb, e = .returned (.tuple #[.pointer (some ⟨kb, 0, none⟩), .int .i64 0]) ∧ ClkAt w' w.heap.size kb ab pb cb off week closed ∧ Below w.heap.size w w' := by
  have B0 : Aside0 (Below w.heap.size w (w.alloc (.cells #[.int .i64 off, .slice A1 week.length c1, .slice A2 closed.length c2] 24))) := ⟨below_alloc (Below.refl _ _) _⟩
  have K0 := Aside0.mk (blk_new w (.cells #[.int .i64 off, .slice A1 week.length c1, .slice A2 closed.length c2] 24))
  have H1 := Aside0.mk (Kd.C_below h1 B0.out)
  have H2 := Aside0.mk (Kd.C_below h2 B0.out)
  clear h1 h2
  have hpar : ¬ (off < 0 ∨ 604800 ≤ off) ∧ weekErr week = 0 ∧ rowErr closed = 0 := by
    unfold calErr at he
    split at he
    · omega
    · split at he
      · exact ⟨‹_›, ‹_›, he⟩
      · exact absurd he ‹_›
  obtain ⟨ho, hw, hr⟩ := hpar
  have hlo : ¬ off < 0 := by omega
  have hhi : ¬ 604800 ≤ off := by omega
  have hlo2 : 0 ≤ off := by omega
  have hhi2 : off < 604800 := by omega
  have hd : decide (off < 0) = false := decide_eq_false hlo
  have hd2 : decide (604800 ≤ off) = false := decide_eq_false hhi
  have HWE := Aside0.mk hw
  have HE := Aside0.mk hr
  have HSZ := Aside0.mk (show (w.alloc (.cells #[.int .i64 off, .slice A1 week.length c1, .slice A2 closed.length c2] 24)).heap.size = w.heap.size + 1 by simp)
  clear hw ho he hr hlo hhi
  go_enter Tryz.func35, Tryz.ntmps35
  go_wp2_with fail
  generalize (w.alloc (.cells #[.int .i64 off, .slice A1 week.length c1, .slice A2 closed.length c2] 24)) = w1 at B0 K0 H1 H2 HSZ ⊢
  have g0 : w1.cell? ⟨w.heap.size, 0, none⟩ = some (.int .i64 off) := (blk_cell K0.out 0).trans rfl
  have g1 : w1.cell? ⟨w.heap.size, 1, none⟩ = some (.slice A1 week.length c1) := (blk_cell K0.out 1).trans rfl
  go_wp2_with (first | (go_at_call 81; refine (weeknew_yes A1 c1 week _ H1.out hc1 HWE.out).mono ?_; rintro e w2 ⟨pb, cb, rfl, P2', hb⟩; have P2 := Aside0.mk P2'; have B2 := Aside0.mk (below_step B0.out hb); have K2 := Aside0.mk (blk_below K0.out hb); have H22 := Aside0.mk (Kd.C_below H2.out hb); clear P2' hb; have e0 : w2.cell? ⟨w.heap.size, 0, none⟩ = some (.int .i64 off) := (blk_cell K2.out 0).trans rfl; have e2 : w2.cell? ⟨w.heap.size, 2, none⟩ = some (.slice A2 closed.length c2) := (blk_cell K2.out 2).trans rfl) | (go_at_call 82; refine (almnew_yes A2 c2 closed _ H22.out hc2 HE.out).mono ?_; rintro e w3 ⟨ab, A3, c3, rfl, K3', hc3, R3', hge, hb⟩; have K3 := Aside0.mk K3'; have R3 := Aside0.mk R3'; have B3 := Aside0.mk (below_step B2.out hb); have P3 := Aside0.mk (P2.out.below hb); have K4 := Aside0.mk (blk_below K2.out hb); have HGE := Aside0.mk hge; clear hb K3' R3' hge; have i0 : w3.cell? ⟨w.heap.size, 0, none⟩ = some (.int .i64 off) := (blk_cell K4.out 0).trans rfl))
  go_ret2
  have hcb : cb < w2.heap.size := by
    obtain ⟨m, k, ⟨lv, hx⟩ | ⟨v, hx, _⟩⟩ := P2.out.cell
    · exact blk_lt hx
    · exact blk_lt hx
  have hsz2 := B2.out.size
  have hsz3 := B3.out.size
  have hk3 := blk_lt K3.out
  have hge := HGE.out
  have hcb3 : cb < w3.heap.size := by
    obtain ⟨m, k, ⟨lv, hx⟩ | ⟨v, hx, _⟩⟩ := P3.out.cell
    · exact blk_lt hx
    · exact blk_lt hx
  have hP : PlanAt w3 w.heap.size pb cb week := ⟨P3.out.ok, by have := P3.out.npb; have := HSZ.out; omega, by have := P3.out.ncb; have := HSZ.out; omega, P3.out.ne, (by obtain ⟨A, c, x1, x2, x3⟩ := P3.out.blk; exact ⟨A, c, x1, x2, Kd.R_lower x3 (by have := HSZ.out; omega)⟩), (by obtain ⟨m, k, hx | ⟨v, hx, hy⟩⟩ := P3.out.cell; exact ⟨m, k, .inl hx⟩; exact ⟨m, k, .inr ⟨v, hx, Kd.R_lower hy (by have := HSZ.out; omega)⟩⟩)⟩
  have hA : AlmAt w3 w.heap.size ab cb closed := ⟨rowErr_ok HE.out, by omega, by omega, ⟨A3, c3, K3.out, hc3, Kd.R_lower (Kd.R_mono (Kd.R_bound R3.out) (fun k hk => by have := hk.2.1; omega)) hsz2⟩⟩
  exact ⟨w3.heap.size, ab, pb, cb, rfl, ⟨hlo2, hhi2, hsz3, by omega, blk_new w3 _, hA.below (below_alloc (Below.refl _ _) _), hP.below (below_alloc (Below.refl _ _) _)⟩, below_alloc B3.out _⟩
end Go.Proofs.YtepldlnmeenlbaaGreat.Own
namespace Go.Proofs.YtepldlnmeenlbaaGreat.Own
open Go.RowKit Go.Proofs Go.Proofs.YtepldlnmeenlbaaGreatW.PrintWords Go.Proofs.YtepldlnmeenlbaaGreatW.PrintLast Go.Proofs.YtepldlnmeenlbaaGreatW.PrintMore Go.Proofs.YtepldlnmeenlbaaGreat.Base
attribute [local go_sem] max2_mx min2_mn max_two min_two
variable {w w' : World} {n kb ab pb cb : Nat} {off : Int} {week closed : List S114}
set_option maxHeartbeats 1600000 in
set_option maxRecDepth 100000 in
theorem rest_any (a u b : Int) (w : World) (h : ClkAt w n kb ab pb cb off week closed) (hn : n ≤ w.heap.size) (a0 : 0 ≤ a) (hab : a ≤ b) (b1 : b ≤ 1125899906842624) (u0 : 0 ≤ u) (u1 : u ≤ 9223372036854775807) (e0 : 0 ≤ elapP off week closed a b) :
    Calls Tryz.prog 118 #[.pointer (some ⟨kb, 0, none⟩), .int .i64 a, .int .i64 u, .int .i64 b] w fun e w' => e = .returned (.tuple #[.int .i64 (mx (u - elapP off week closed a b) 0), .int .i64 0]) ∧ ClkAt w' n kb ab pb cb off week closed ∧ Upd cb w w' := by
  have HC := Aside0.mk h
  have HN := Aside0.mk hn
  have HA : Aside0 (0 ≤ a ∧ a ≤ b ∧ b ≤ 1125899906842624) := ⟨by omega⟩
  have hnot : ∀ (x : Bool) (w : World), (Op.unary .not (.bool x)).run Tryz.prog w = .ok (.bool (!x)) w := fun _ _ => rfl
  have hu : ¬ u < 0 := by omega
  have hud : decide (u < 0) = false := decide_eq_false hu
  have hw := between_bound h.plan.ok (a + (604800 - off)) (b + (604800 - off))
  have hsm := sumW_bound off h.plan.ok (cutP closed a b)
  have hlen : (cutP closed a b).length ≤ 32 := Nat.le_trans (cutP_length _ _ _) h.alm.ok.len
  have hE0 : elapP off week closed a b = betweenP week (a + (604800 - off)) (b + (604800 - off)) - sumW off week (cutP closed a b) := rfl
  have e1 : elapP off week closed a b ≤ 2251799815500000 := by omega
  clear h hn a0 hab b1 hw hsm hlen hE0
  go_enter Tryz.func118, Tryz.ntmps118
  go_wp2_with (first | (go_at_call 86; refine (clknone_any _ HC.out).mono ?_; rintro e w1 ⟨rfl, rfl⟩) | (go_at_call 38; refine (elapsed_any a b _ HC.out HN.out HA.out.1 HA.out.2.1 HA.out.2.2).mono ?_; rintro e w1 ⟨rfl, C1, U1⟩; have HC1 := Aside0.mk C1; have HU1 := Aside0.mk U1; clear C1 U1))
  go_ret2
  exact ⟨rfl, HC1.out, HU1.out⟩
set_option maxHeartbeats 1600000 in
set_option maxRecDepth 100000 in
theorem rest_neg (a u b : Int) (w : World) (h : ClkAt w n kb ab pb cb off week closed) (u0 : u < 0) :
    Calls Tryz.prog 118 #[.pointer (some ⟨kb, 0, none⟩), .int .i64 a, .int .i64 u, .int .i64 b] w fun e w' => e = .returned (.tuple #[.int .i64 0, .int .i64 2]) ∧ w = w' := by
  have HC := Aside0.mk h
  have hnot : ∀ (x : Bool) (w : World), (Op.unary .not (.bool x)).run Tryz.prog w = .ok (.bool (!x)) w := fun _ _ => rfl
  have hud : decide (u < 0) = true := decide_eq_true u0
  clear h
  go_enter Tryz.func118, Tryz.ntmps118
  go_wp2_with (go_at_call 86; refine (clknone_any _ HC.out).mono ?_; rintro e w1 ⟨rfl, rfl⟩)
  go_ret2
  exact ⟨rfl, rfl⟩
set_option maxHeartbeats 1600000 in
set_option maxRecDepth 100000 in
theorem rest_arg (a u b : Int) (w : World) (h : ClkAt w n kb ab pb cb off week closed) (u0 : 0 ≤ u) (hx : ¬ (0 ≤ a ∧ a ≤ b ∧ b ≤ 1125899906842624)) :
    Calls Tryz.prog 118 #[.pointer (some ⟨kb, 0, none⟩), .int .i64 a, .int .i64 u, .int .i64 b] w fun e w' => e = .returned (.tuple #[.int .i64 0, .int .i64 2]) ∧ Below w.heap.size w w' := by
  have HC := Aside0.mk h
  have HX := Aside0.mk hx
  have hnot : ∀ (x : Bool) (w : World), (Op.unary .not (.bool x)).run Tryz.prog w = .ok (.bool (!x)) w := fun _ _ => rfl
  have hu : ¬ u < 0 := by omega
  have hud : decide (u < 0) = false := decide_eq_false hu
  clear h hx
  go_enter Tryz.func118, Tryz.ntmps118
  go_wp2_with (first | (go_at_call 86; refine (clknone_any _ HC.out).mono ?_; rintro e w1 ⟨rfl, rfl⟩) | (go_at_call 38; refine (elapsed_arg a b _ HC.out HX.out).mono ?_; rintro e w1 ⟨rfl, hb⟩; have HB := Aside0.mk hb; clear hb))
  go_ret2
  exact ⟨rfl, HB.out⟩
end Go.Proofs.YtepldlnmeenlbaaGreat.Own
namespace Go.Proofs.YtepldlnmeenlbaaGreat.Own
open Go.RowKit Go.Proofs Go.Proofs.YtepldlnmeenlbaaGreatW.PrintWords Go.Proofs.YtepldlnmeenlbaaGreatW.PrintLast Go.Proofs.YtepldlnmeenlbaaGreatW.PrintMore Go.Proofs.YtepldlnmeenlbaaGreat.Base
variable {w w' : World} {n kb ab pb cb : Nat} {off : Int} {week closed : List S114}
theorem R_one {base b : Nat} {ok : Nat → Prop} {v u : Value} {xs : List Int} {t : TypeId} (h : Kd.R (Kd.int .i64) 2 w base ok v xs) (hx : 2 ≤ xs.length) (hb : w.heap[b]? = some (.cells #[u] t (0, 0))) :
    Kd.R (Kd.int .i64) 2 w base (fun k => ok k ∧ k ≠ b) v xs := by
  have ho := Kd.R_own h
  refine ⟨fun k hk => ⟨h.1 k hk, ?_⟩, h.2⟩
  rintro rfl
  obtain ⟨inner, _, hr⟩ := ho
  rcases hr with ⟨rfl, _⟩ | ⟨g, cap, cur, rfl, hg, hh, r⟩
  · simp [Value.ownBlock] at hk
  · have : g = k := by simpa [Value.ownBlock] using hk
    subst this
    rw [hh] at hb
    injection hb with hb
    injection hb with hb
    subst hb
    have h1 : (Kd.int IntKind.i64).sz = 1 := rfl
    have h2 := r.2.2.1
    rw [h1] at h2
    have h3 := r.1
    simp at h2
    omega
theorem types1 {e t : Nat} {E : List Nat} (hE : E = []) (ht : t ≠ e) : ∀ q, q ∈ e :: E → q ≠ t := by
  subst hE
  intro q hq h
  have := List.mem_singleton.1 hq
  exact ht (by rw [← h, this])
def But (b : Nat) (w w' : World) : Prop := ∀ k, k < w.heap.size → k ≠ b → w'.heap[k]? = w.heap[k]?
theorem PlanAt.far (h : PlanAt w n pb cb week) {b : Nat} {t : TypeId} {u : Value} (hb : w.heap[b]? = some (.cells #[u] t (0, 0))) (ht : t ≠ 114) (hw : t = 2 → week ≠ []) (hm : But b w w') : PlanAt w' n pb cb week := by
  obtain ⟨A, c, hpb, hc, hr⟩ := h.blk
  have hne : pb ≠ b := by rintro rfl; rw [hpb] at hb; injection hb with hb; injection hb with hb; simp at hb
  refine ⟨h.ok, h.npb, h.ncb, h.ne, ⟨A, c, (hm pb (blk_lt hpb) hne).trans hpb, hc, ?_⟩, ?_⟩
  · have := Kd.R_types hr hb (types1 rfl ht)
    exact Kd.R_mono (Kd.R_step this (fun k hk hlt => hm k hlt hk.2)) (fun _ hk => hk.1)
  · obtain ⟨m, k, ⟨lv, hc⟩ | ⟨v, hc, hr⟩⟩ := h.cell
    · have hne : cb ≠ b := by rintro rfl; rw [hc] at hb; injection hb with hb; injection hb with hb; simp at hb
      exact ⟨m, k, .inl ⟨lv, (hm cb (blk_lt hc) hne).trans hc⟩⟩
    · have hne : cb ≠ b := by rintro rfl; rw [hc] at hb; injection hb with hb; injection hb with hb; simp at hb
      refine ⟨m, k, .inr ⟨v, (hm cb (blk_lt hc) hne).trans hc, ?_⟩⟩
      by_cases h2 : t = 2
      · have hl : 2 ≤ (psums week).length := by
          rw [psums_length]
          have := hw h2
          cases week with
          | nil => exact absurd rfl this
          | cons s r => simp
        exact Kd.R_mono (Kd.R_step (R_one hr hl hb) (fun k hk hlt => hm k hlt hk.2)) (fun _ hk => hk.1)
      · have := Kd.R_types hr hb (types1 rfl h2)
        exact Kd.R_mono (Kd.R_step this (fun k hk hlt => hm k hlt hk.2)) (fun _ hk => hk.1)
theorem AlmAt.far (h : AlmAt w n ab cb closed) {b : Nat} {t : TypeId} {u : Value} (hb : w.heap[b]? = some (.cells #[u] t (0, 0))) (ht : t ≠ 114) (ht2 : t ≠ 203) (hm : But b w w') : AlmAt w' n ab cb closed := by
  obtain ⟨A, c, hab, hc, hr⟩ := h.blk
  have hne : ab ≠ b := by
    rintro rfl
    rw [hab] at hb
    injection hb with hb
    injection hb with _ hb
    exact ht2 hb.symm
  refine ⟨h.ok, h.nab, h.ne, ⟨A, c, (hm ab (blk_lt hab) hne).trans hab, hc, ?_⟩⟩
  have := Kd.R_types hr hb (types1 rfl ht)
  exact Kd.R_mono (Kd.R_step this (fun k hk hlt => hm k hlt hk.2)) (fun _ hk => hk.1)
theorem ClkAt.far (h : ClkAt w n kb ab pb cb off week closed) {b : Nat} {t : TypeId} {u : Value} (hb : w.heap[b]? = some (.cells #[u] t (0, 0))) (ht : t ≠ 114) (ht2 : t ≠ 203) (hw : t = 2 → week ≠ []) (hm : But b w w') : ClkAt w' n kb ab pb cb off week closed := by
  have hne : kb ≠ b := by
    rintro rfl
    have hk := h.blk
    rw [hk] at hb
    injection hb with hb
    injection hb with hb
    simp at hb
  exact ⟨h.lo, h.hi, h.nkb, h.ne, (hm kb (blk_lt h.blk) hne).trans h.blk, h.alm.far hb ht ht2 hm, h.plan.far hb ht hw hm⟩
theorem But.set (w : World) (b : Nat) (v : Value) : But b w (w.setCell ⟨b, 0, none⟩ v) := fun k _ hk => Below.heap_setCell _ _ _ _ hk
theorem set_same {b : Nat} {t : TypeId} {u : Value} (hb : w.heap[b]? = some (.cells #[u] t (0, 0))) (k : Nat) : (w.setCell ⟨b, 0, none⟩ u).heap[k]? = w.heap[k]? := by
  by_cases hk : k = b
  · subst hk
    rw [hb]
    exact blk_put (cs := #[u]) hb 0 u rfl
  · exact Below.heap_setCell _ _ _ _ hk
end Go.Proofs.YtepldlnmeenlbaaGreat.Own
namespace Go.Proofs.YtepldlnmeenlbaaGreat.Own
open Go.RowKit Go.Proofs Go.Proofs.YtepldlnmeenlbaaGreatW.PrintWords Go.Proofs.YtepldlnmeenlbaaGreatW.PrintLast Go.Proofs.YtepldlnmeenlbaaGreatW.PrintMore Go.Proofs.YtepldlnmeenlbaaGreat.Base
def freeL : List S114 → Int → Int → List S114
  | [], a, e => if a < e then [⟨a, e⟩] else []
  | s :: r, a, e => if a < e then (if s.f1 ≤ a then freeL r a e else if a < mn s.f0 e then ⟨a, mn s.f0 e⟩ :: freeL r s.f1 e else freeL r s.f1 e) else []
theorem freeL_ge (l : List S114) {a e : Int} (h : ¬ a < e) : freeL l a e = [] := by
  cases l <;> simp only [freeL] <;> rw [if_neg h]
theorem freeL_drop (l : List S114) (a e : Int) : ∀ (j : Nat), (∀ s, s ∈ l.take j → s.f1 ≤ a) → freeL l a e = freeL (l.drop j) a e := by
  induction l with
  | nil => intro j _; simp
  | cons s r ih =>
    intro j hj
    cases j with
    | zero => rfl
    | succ j =>
      by_cases h : a < e
      · have h1 := hj s (by simp)
        rw [List.drop_succ_cons, ← ih j (fun t ht => hj t (by simp [ht]))]
        simp only [freeL]
        rw [if_pos h, if_pos h1]
      · rw [freeL_ge _ h, freeL_ge _ h]
theorem take_ends {l : List S114} {t : Int} : ∀ s, s ∈ l.take (atP l t) → s.f1 ≤ t := by
  intro s hs
  obtain ⟨j, hj, rfl⟩ := List.getElem_of_mem hs
  rw [List.getElem_take]
  have : j < atP l t := by simp at hj; omega
  exact atP_lt this _
theorem freeL_none {l : List S114} {a e : Int} (h : a < e) (hx : ¬ atP l a < l.length) : freeL l a e = [⟨a, e⟩] := by
  rw [freeL_drop l a e (atP l a) take_ends, List.drop_eq_nil_of_le (by omega)]
  simp only [freeL]
  rw [if_pos h]
theorem freeL_some {lo : Int} {l : List S114} (hr : RowFrom lo l) {a e : Int} (h : a < e) (hx : atP l a < l.length) :
    freeL l a e = if a < mn (rd_T114 l (atP l a)).f0 e then ⟨a, mn (rd_T114 l (atP l a)).f0 e⟩ :: freeL l (rd_T114 l (atP l a)).f1 e else freeL l (rd_T114 l (atP l a)).f1 e := by
  have h1 : a < (rd_T114 l (atP l a)).f1 := by rw [rd_at l _ hx]; exact atP_at hx
  have h2 : freeL l (rd_T114 l (atP l a)).f1 e = freeL (l.drop (atP l a + 1)) (rd_T114 l (atP l a)).f1 e := by
    refine freeL_drop l _ e _ (fun s hs => ?_)
    obtain ⟨j, hj, rfl⟩ := List.getElem_of_mem hs
    rw [List.getElem_take, rd_at l _ hx]
    exact hr.ends j (atP l a) (by simp at hj; omega) hx
  rw [h2, freeL_drop l a e (atP l a) take_ends, drop_at hx]
  conv => lhs; unfold freeL
  rw [if_pos h, if_neg (by omega)]
theorem atP_next {lo : Int} {l : List S114} (hr : RowFrom lo l) {a : Int} (hx : atP l a < l.length) : atP l a < atP l (rd_T114 l (atP l a)).f1 :=
  atP_gt hr hx (by rw [rd_at l _ hx]; exact Int.le_refl _)
abbrev GS : Type := { s : S114 // 0 ≤ s.f0 ∧ s.f0 < s.f1 ∧ s.f1 ≤ 1125899906842624 }
end Go.Proofs.YtepldlnmeenlbaaGreat.Own
namespace Go.Proofs.YtepldlnmeenlbaaGreat.Own
open Go.RowKit Go.Proofs Go.Proofs.YtepldlnmeenlbaaGreatW.PrintWords Go.Proofs.YtepldlnmeenlbaaGreatW.PrintLast Go.Proofs.YtepldlnmeenlbaaGreatW.PrintMore Go.Proofs.YtepldlnmeenlbaaGreat.Base
def one (b : Bool) : Int := if b then 1 else 0
theorem one_bound (b : Bool) : 0 ≤ one b ∧ one b ≤ 1 := by cases b <;> simp [one]
def Steps (f : Int → Int) (op : Int → Bool) (lo hi : Int) : Prop := ∀ t, lo ≤ t → t < hi → f (t + 1) = f t + one (op t)
theorem Steps.sub {f : Int → Int} {op : Int → Bool} {lo hi lo' hi' : Int} (h : Steps f op lo hi) (h1 : lo ≤ lo') (h2 : hi' ≤ hi) : Steps f op lo' hi' := fun t a b => h t (by omega) (by omega)
theorem Steps.mono {f : Int → Int} {op : Int → Bool} {lo hi : Int} (h : Steps f op lo hi) : ∀ (n : Nat) (a : Int), lo ≤ a → a + n ≤ hi → f a ≤ f (a + n) ∧ f (a + n) ≤ f a + n
  | 0, a, _, _ => by simp
  | n + 1, a, h1, h2 => by
    have ih := h.mono n a h1 (by omega)
    have hs := h (a + n) (by omega) (by omega)
    have hb := one_bound (op (a + n))
    rw [show a + ((n + 1 : Nat) : Int) = a + n + 1 by omega, hs]
    omega
theorem Steps.le {f : Int → Int} {op : Int → Bool} {lo hi a b : Int} (h : Steps f op lo hi) (h1 : lo ≤ a) (hab : a ≤ b) (h2 : b ≤ hi) : f a ≤ f b ∧ f b ≤ f a + (b - a) := by
  have := h.mono (b - a).toNat a h1 (by omega)
  rw [show a + ((b - a).toNat : Int) = b by omega] at this
  omega
theorem Steps.eq {f g : Int → Int} {op og : Int → Bool} {lo hi : Int} (h : Steps f op lo hi) (k : Steps g og lo hi) (e : ∀ t, lo ≤ t → t < hi → op t = og t) : ∀ (n : Nat), lo + n ≤ hi → f (lo + n) - f lo = g (lo + n) - g lo
  | 0, _ => by simp
  | n + 1, h2 => by
    have ih := h.eq k e n (by omega)
    have h3 := h (lo + n) (by omega) (by omega)
    have h4 := k (lo + n) (by omega) (by omega)
    rw [show lo + ((n + 1 : Nat) : Int) = lo + n + 1 by omega, h3, h4, e _ (by omega) (by omega)]
    omega
theorem Steps.same {f g : Int → Int} {op og : Int → Bool} {lo hi a b : Int} (h : Steps f op lo hi) (k : Steps g og lo hi) (h1 : lo ≤ a) (hab : a ≤ b) (h2 : b ≤ hi) (e : ∀ t, a ≤ t → t < b → op t = og t) : f b - f a = g b - g a := by
  have := (h.sub h1 h2).eq (k.sub h1 h2) e (b - a).toNat (by omega)
  rw [show a + ((b - a).toNat : Int) = b by omega] at this
  exact this
theorem Steps.still {f : Int → Int} {op : Int → Bool} {lo hi a b : Int} (h : Steps f op lo hi) (h1 : lo ≤ a) (hab : a ≤ b) (h2 : b ≤ hi) (e : ∀ t, a ≤ t → t < b → op t = false) : f b = f a := by
  have := h.same (g := fun _ => 0) (og := fun _ => false) (fun _ _ _ => rfl) h1 hab h2 (fun t x y => by rw [e t x y])
  omega
def inRow (l : List S114) (t : Int) : Bool := l.any fun s => decide (s.f0 ≤ t ∧ t < s.f1)
theorem inRow_cons (s : S114) (r : List S114) (t : Int) : inRow (s :: r) t = (decide (s.f0 ≤ t ∧ t < s.f1) || inRow r t) := by simp [inRow]
theorem inRow_lo {lo : Int} {l : List S114} (h : RowFrom lo l) {t : Int} (ht : t < lo) : inRow l t = false := by
  induction l generalizing lo with
  | nil => rfl
  | cons s r ih =>
    obtain ⟨h1, h2, h3⟩ := h
    rw [inRow_cons, ih h3 (by omega), decide_eq_false (by omega)]
    rfl
def ahead : List S114 → Int → Int
  | [], _ => 0
  | s :: r, x => mx (mn x s.f1 - s.f0) 0 + ahead r x
theorem ahead_lo {lo : Int} {l : List S114} (h : RowFrom lo l) {x : Int} (hx : x ≤ lo) : ahead l x = 0 := by
  induction l generalizing lo with
  | nil => rfl
  | cons s r ih =>
    obtain ⟨h1, h2, h3⟩ := h
    simp only [ahead]
    rw [ih h3 (by omega)]
    unfold mx mn
    (repeat' split) <;> omega
theorem ahead_hi {lo : Int} {l : List S114} (h : RowFrom lo l) {x : Int} (hx : ∀ s, s ∈ l → s.f1 ≤ x) : ahead l x = secs l := by
  induction l generalizing lo with
  | nil => rfl
  | cons s r ih =>
    obtain ⟨h1, h2, h3⟩ := h
    simp only [ahead, secs]
    rw [ih h3 (fun t ht => hx t (by simp [ht]))]
    have := hx s (by simp)
    unfold mx mn
    (repeat' split) <;> omega
theorem ahead_step {lo : Int} {l : List S114} (h : RowFrom lo l) (x : Int) : ahead l (x + 1) = ahead l x + one (inRow l x) := by
  induction l generalizing lo with
  | nil => rfl
  | cons s r ih =>
    obtain ⟨h1, h2, h3⟩ := h
    simp only [ahead]
    rw [inRow_cons]
    by_cases hx : s.f0 ≤ x ∧ x < s.f1
    · rw [ahead_lo h3 (x := x + 1) (by omega), ahead_lo h3 (x := x) (by omega), decide_eq_true hx]
      simp only [Bool.true_or, one, if_true]
      unfold mx mn
      (repeat' split) <;> omega
    · rw [ih h3, decide_eq_false hx, Bool.false_or]
      unfold mx mn
      (repeat' split) <;> omega
theorem atP_cons (s : S114) (r : List S114) (x : Int) : atP (s :: r) x = if x < s.f1 then 0 else atP r x + 1 := by
  unfold atP
  rw [List.findIdx_cons]
  by_cases h : x < s.f1 <;> simp [h]
theorem rd_cons0 (s : S114) (r : List S114) : rd_T114 (s :: r) (0 : Nat) = s := rd_at _ 0 (by simp)
theorem rd_consS (s : S114) (r : List S114) (i : Nat) (h : i < r.length) : rd_T114 (s :: r) (i + 1 : Nat) = rd_T114 r i := by
  rw [rd_at _ _ (by simpa using h), rd_at _ _ h]; rfl
theorem ahead_at {lo : Int} {l : List S114} (h : RowFrom lo l) (x : Int) :
    secs (l.take (atP l x)) + (if atP l x < l.length then mx (x - (rd_T114 l (atP l x)).f0) 0 else 0) = ahead l x := by
  induction l generalizing lo with
  | nil => rfl
  | cons s r ih =>
    obtain ⟨h1, h2, h3⟩ := h
    rw [atP_cons]
    simp only [ahead]
    by_cases hx : x < s.f1
    · rw [if_pos hx, ahead_lo h3 (x := x) (by omega), rd_cons0]
      simp only [List.take_zero, secs, List.length_cons, Nat.zero_lt_succ, if_true]
      unfold mx mn
      (repeat' split) <;> omega
    · rw [if_neg hx, ← ih h3]
      simp only [List.take_succ_cons, secs, List.length_cons]
      by_cases hi : atP r x < r.length
      · rw [if_pos (by omega), if_pos hi, rd_consS _ _ _ hi]
        unfold mx mn
        (repeat' split) <;> omega
      · rw [if_neg (by omega), if_neg hi]
        unfold mx mn
        (repeat' split) <;> omega
theorem open_at {lo : Int} {l : List S114} (h : RowFrom lo l) (x : Int) : decide (atP l x < l.length ∧ (rd_T114 l (atP l x)).f0 ≤ x) = inRow l x := by
  induction l generalizing lo with
  | nil => rfl
  | cons s r ih =>
    obtain ⟨h1, h2, h3⟩ := h
    rw [atP_cons, inRow_cons]
    by_cases hx : x < s.f1
    · rw [if_pos hx, rd_cons0, inRow_lo h3 hx, Bool.or_false]
      simp [hx]
    · rw [if_neg hx, ← ih h3, decide_eq_false (show ¬ (s.f0 ≤ x ∧ x < s.f1) by omega), Bool.false_or]
      by_cases hi : atP r x < r.length
      · rw [rd_consS _ _ _ hi]; simp [hi]
      · simp [hi]
theorem RowFrom.starts {lo : Int} {l : List S114} (h : RowFrom lo l) : ∀ (i j : Nat) (hi : i < j) (hj : j < l.length), (l[i]).f1 ≤ (l[j]).f0 := by
  induction l generalizing lo with
  | nil => intro i j _ hj; simp at hj
  | cons s r ih =>
    obtain ⟨h1, h2, h3⟩ := h
    intro i j hi hj
    cases j with
    | zero => omega
    | succ j =>
      cases i with
      | zero =>
        have key : ∀ (l : List S114) (lo : Int), RowFrom lo l → ∀ (j : Nat) (hj : j < l.length), lo ≤ (l[j]).f0 := by
          intro l
          induction l with
          | nil => intro lo _ j hj; simp at hj
          | cons t u iu =>
            intro lo hl j hj
            obtain ⟨a, b, c⟩ := hl
            cases j with
            | zero => exact a
            | succ j => have := iu t.f1 c j (by simpa using hj); simp only [List.getElem_cons_succ]; omega
        exact key r s.f1 h3 j (by simpa using hj)
      | succ i => exact ih h3 i j (by omega) (by simpa using hj)
def Uo (l : List S114) (t : Int) : Int := t / 604800 * secs l + ahead l (t % 604800)
theorem Uo_step {l : List S114} (h : RowOk 604800 l) (lo hi : Int) : Steps (Uo l) (fun t => inRow l (t % 604800)) lo hi := by
  intro t _ _
  show Uo l (t + 1) = Uo l t + one (inRow l (t % 604800))
  unfold Uo
  by_cases hm : t % 604800 = 604799
  · have e1 : (t + 1) / 604800 = t / 604800 + 1 := by omega
    have e2 : (t + 1) % 604800 = 0 := by omega
    have h1 := ahead_step h.row (604799 : Int)
    rw [show (604799 : Int) + 1 = 604800 by decide, ahead_hi h.row (x := 604800) h.top] at h1
    rw [e1, e2, ahead_lo h.row (x := 0) (by omega), hm, Int.add_mul]
    omega
  · have e1 : (t + 1) / 604800 = t / 604800 := by omega
    have e2 : (t + 1) % 604800 = t % 604800 + 1 := by omega
    rw [e1, e2, ahead_step h.row]
    omega
theorem until_Uo {l : List S114} (h : RowOk 604800 l) {t : Int} (h0 : 0 ≤ t) (h1 : t ≤ 2251799813685248) : untilP l t = Uo l t := by
  have e : mn (mx t 0) 2251799813685248 = t := by unfold mn mx; (repeat' split) <;> omega
  unfold untilP Uo
  rw [e, ← ahead_at h.row]
  omega
theorem between_Uo {l : List S114} (h : RowOk 604800 l) {a b : Int} (h0 : 0 ≤ a) (hab : a ≤ b) (h1 : b ≤ 2251799813685248) : betweenP l a b = Uo l b - Uo l a := by
  unfold betweenP
  rw [until_Uo h h0 (by omega), until_Uo h (by omega) h1]
  have := ((Uo_step h a b).le (Int.le_refl _) hab (Int.le_refl _)).1
  unfold mx
  (repeat' split) <;> omega
theorem nth_at {row : List S114} (h : RowOk 604800 row) (k : Int) (hs : 0 < secs row) (h0 : 0 ≤ k) : Uo row (nthP row k) = k ∧ inRow row (nthP row k % 604800) = true := by
  obtain ⟨i0, i1, i2, i3⟩ := nthI_spec h k hs h0
  have hmem := h.mem (rd_T114 row (nthI row k)) (by rw [rd_at row _ i0]; exact List.getElem_mem _)
  have ht := take_at i0
  rw [ht, secs_append] at i3
  simp only [secs, Int.add_zero] at i3
  unfold nthP
  generalize hi : nthI row k = i at *
  generalize hsd : rd_T114 row (i : Int) = s at *
  generalize hP : secs (row.take i) = p at *
  have hq : (k / secs row * 604800 + s.f0 + k % secs row - p) / 604800 = k / secs row := by omega
  have hr : (k / secs row * 604800 + s.f0 + k % secs row - p) % 604800 = s.f0 + k % secs row - p := by omega
  have hx0 : s.f0 ≤ s.f0 + k % secs row - p := by omega
  have hx1 : s.f0 + k % secs row - p < s.f1 := by omega
  have hat : atP row (s.f0 + k % secs row - p) = i := by
    have a1 : atP row (s.f0 + k % secs row - p) ≤ i := atP_ge i0 (by rw [← rd_at row i i0, hsd]; exact hx1)
    rcases Nat.lt_or_ge (atP row (s.f0 + k % secs row - p)) i with hlt | hge
    · exfalso
      have h2 := atP_at (l := row) (t := s.f0 + k % secs row - p) (by omega)
      have h3 := h.row.starts (atP row (s.f0 + k % secs row - p)) i hlt i0
      rw [← rd_at row i i0, hsd] at h3
      omega
    · omega
  constructor
  · unfold Uo
    rw [hq, hr, ← ahead_at h.row, hat, if_pos i0, hsd, hP]
    have hm : mx (s.f0 + k % secs row - p - s.f0) 0 = k % secs row - p := by unfold mx; (repeat' split) <;> omega
    rw [hm]
    have := Int.mul_ediv_add_emod k (secs row)
    rw [Int.mul_comm] at this
    omega
  · rw [hr, ← open_at h.row, hat, hsd]
    exact decide_eq_true ⟨i0, hx0⟩
theorem nth_in {row : List S114} (h : RowOk 604800 row) {k u v : Int} (hs : 0 < secs row) (hu : 0 ≤ u) (huv : u ≤ v) (hv : v ≤ 2251799813685248) (h1 : Uo row u ≤ k) (h2 : k < Uo row v) :
    0 ≤ k ∧ k / secs row ≤ 3723213977 ∧ u ≤ nthP row k ∧ nthP row k < v := by
  have hS := Uo_step h 0 2251799813685249
  have hU0 : Uo row 0 = 0 := by unfold Uo; rw [show (0 : Int) % 604800 = 0 by decide, ahead_lo h.row (Int.le_refl _)]; omega
  have hk : 0 ≤ k := by have := (hS.le (Int.le_refl _) hu (by omega)).1; omega
  obtain ⟨e, ho⟩ := nth_at h k hs hk
  have hstep := Uo_step h (nthP row k) (nthP row k + 1) (nthP row k) (Int.le_refl _) (by omega)
  have hstep' : Uo row (nthP row k + 1) = k + 1 := by rw [hstep, e]; simp only [ho, one, if_true]
  refine ⟨hk, ?_, ?_, ?_⟩
  · have hah : ahead row (v % 604800) ≤ secs row := by
      have h3 := (Uo_step h (v % 604800) 604799).le (a := v % 604800) (b := 604799) (Int.le_refl _) (by omega) (Int.le_refl _)
      have h4 := Uo_step h 604799 604800 604799 (Int.le_refl _) (by omega)
      have hb := one_bound (inRow row ((604799 : Int) % 604800))
      have e1 : Uo row (v % 604800) = ahead row (v % 604800) := by
        unfold Uo
        rw [show v % 604800 / 604800 = 0 by omega, show v % 604800 % 604800 = v % 604800 by omega]; omega
      have e2 : Uo row (604799 + 1) = secs row := by
        unfold Uo
        rw [show (604799 + 1 : Int) / 604800 = 1 by decide, show (604799 + 1 : Int) % 604800 = 0 by decide, ahead_lo h.row (Int.le_refl _)]; omega
      simp only at h4
      omega
    have h5 : k < (v / 604800 + 1) * secs row := by
      unfold Uo at h2
      rw [Int.add_mul]
      omega
    have := Int.ediv_lt_of_lt_mul hs h5
    omega
  · rcases Int.lt_or_le (nthP row k) u with hlt | hge
    · have := ((Uo_step h (nthP row k + 1) u).le (Int.le_refl _) (by omega) (Int.le_refl _)).1
      omega
    · exact hge
  · rcases Int.lt_or_le (nthP row k) v with hlt | hge
    · exact hlt
    · have := ((Uo_step h v (nthP row k)).le (Int.le_refl _) hge (Int.le_refl _)).1
      omega
end Go.Proofs.YtepldlnmeenlbaaGreat.Own
namespace Go.Proofs.YtepldlnmeenlbaaGreat.Own
open Go.RowKit Go.Proofs Go.Proofs.YtepldlnmeenlbaaGreatW.PrintWords Go.Proofs.YtepldlnmeenlbaaGreatW.PrintLast Go.Proofs.YtepldlnmeenlbaaGreatW.PrintMore Go.Proofs.YtepldlnmeenlbaaGreat.Base
def Wk (off : Int) (week : List S114) (t : Int) : Int := Uo week (t + (604800 - off))
def wop (off : Int) (week : List S114) (t : Int) : Bool := inRow week ((t + (604800 - off)) % 604800)
def cop (off : Int) (week closed : List S114) (t : Int) : Bool := !inRow closed t && wop off week t
variable {off : Int} {week closed : List S114}
theorem Wk_step (h : RowOk 604800 week) (off lo hi : Int) : Steps (Wk off week) (wop off week) lo hi := by
  intro t _ _
  have := Uo_step h (t + (604800 - off)) (t + (604800 - off) + 1) _ (Int.le_refl _) (by omega)
  unfold Wk wop
  rw [show t + 1 + (604800 - off) = t + (604800 - off) + 1 by omega]
  exact this
theorem weekly_Wk (h : RowOk 604800 week) (h0 : 0 ≤ off) (h1 : off < 604800) {a b : Int} (ha : 0 ≤ a) (hab : a ≤ b) (hb : b ≤ 1125899906842624) : weeklyP off week a b = Wk off week b - Wk off week a :=
  between_Uo h (by omega) (by omega) (by omega)
theorem cutP_same (l : List S114) (a : Int) : cutP l a a = [] := by
  induction l with
  | nil => rfl
  | cons s r ih =>
    rw [cutP_cons, if_neg, ih]
    unfold mx mn
    (repeat' split) <;> omega
theorem lost_step (h : RowOk 604800 week) (h0 : 0 ≤ off) (h1 : off < 604800) {a : Int} (ha : 0 ≤ a) {t : Int} (hat : a ≤ t) (ht : t < 1125899906842624) :
    ∀ {l : List S114} {lo : Int}, 0 ≤ lo → RowFrom lo l → (∀ s, s ∈ l → s.f1 ≤ 1125899906842624) → sumW off week (cutP l a (t + 1)) = sumW off week (cutP l a t) + one (inRow l t && wop off week t) := by
  intro l
  induction l with
  | nil => intro lo _ _ _; rfl
  | cons s r ih =>
    intro lo hlo hr htop
    obtain ⟨r1, r2, r3⟩ := hr
    have ih' := ih (lo := s.f1) (by omega) r3 (fun x hx => htop x (by simp [hx]))
    have hs := htop s (by simp)
    have hc : ∀ b, a ≤ b → b ≤ 1125899906842624 → sumW off week (cutP (s :: r) a b) = (if mx s.f0 a < mn s.f1 b then Wk off week (mn s.f1 b) - Wk off week (mx s.f0 a) else 0) + sumW off week (cutP r a b) := by
      intro b hb1 hb2
      rw [cutP_cons]
      by_cases hlt : mx s.f0 a < mn s.f1 b
      · rw [if_pos hlt, if_pos hlt]
        simp only [sumW]
        have b0 : 0 ≤ mx s.f0 a := by unfold mx; split <;> omega
        have b1 : mn s.f1 b ≤ 1125899906842624 := by unfold mn; split <;> omega
        rw [weekly_Wk h h0 h1 b0 (by omega) b1]
      · rw [if_neg hlt, if_neg hlt]; omega
    rw [hc (t + 1) (by omega) (by omega), hc t hat (by omega), ih', inRow_cons]
    have hst := Wk_step h off t (t + 1) t (Int.le_refl _) (by omega)
    by_cases hx : s.f0 ≤ t ∧ t < s.f1
    · rw [inRow_lo r3 hx.2, decide_eq_true hx]
      simp only [Bool.true_or, Bool.true_and, Bool.false_and]
      have e1 : mn s.f1 (t + 1) = t + 1 := by unfold mn; split <;> omega
      have e2 : mn s.f1 t = t := by unfold mn; split <;> omega
      have e3 : mx s.f0 a ≤ t := by unfold mx; split <;> omega
      rw [e1, e2, if_pos (by omega), hst, show one false = 0 from rfl]
      by_cases h5 : mx s.f0 a < t
      · rw [if_pos h5]; omega
      · rw [if_neg h5, show mx s.f0 a = t by omega]; omega
    · rw [decide_eq_false hx, Bool.false_or]
      have e : (if mx s.f0 a < mn s.f1 (t + 1) then Wk off week (mn s.f1 (t + 1)) - Wk off week (mx s.f0 a) else 0) = (if mx s.f0 a < mn s.f1 t then Wk off week (mn s.f1 t) - Wk off week (mx s.f0 a) else 0) := by
        by_cases h6 : t < s.f0
        · have z1 : ¬ mx s.f0 a < mn s.f1 (t + 1) := by unfold mx mn; (repeat' split) <;> omega
          have z2 : ¬ mx s.f0 a < mn s.f1 t := by unfold mx mn; (repeat' split) <;> omega
          rw [if_neg z1, if_neg z2]
        · have z1 : mn s.f1 (t + 1) = s.f1 := by unfold mn; split <;> omega
          have z2 : mn s.f1 t = s.f1 := by unfold mn; split <;> omega
          rw [z1, z2]
      rw [e]; omega
theorem elap_same (h : RowOk 604800 week) (h0 : 0 ≤ off) (h1 : off < 604800) {a : Int} (ha : 0 ≤ a) (hb : a ≤ 1125899906842624) : elapP off week closed a a = 0 := by
  unfold elapP
  rw [cutP_same, weekly_Wk h h0 h1 ha (Int.le_refl _) hb]
  simp [sumW]
theorem elap_step (h : RowOk 604800 week) (hc : RowOk 1125899906842624 closed) (h0 : 0 ≤ off) (h1 : off < 604800) {a : Int} (ha : 0 ≤ a) : Steps (elapP off week closed a) (cop off week closed) a 1125899906842624 := by
  intro t hat ht
  unfold elapP cop
  have hst := Wk_step h off t (t + 1) t (Int.le_refl _) (by omega)
  rw [weekly_Wk h h0 h1 ha (by omega) (by omega), weekly_Wk h h0 h1 ha hat (by omega), lost_step h h0 h1 ha hat ht (Int.le_refl _) hc.row hc.top, hst]
  cases hi : inRow closed t <;> simp [one] <;> omega
def Nn (off : Int) (week closed : List S114) (t : Int) : Int := elapP off week closed 0 t
theorem Nn_step (h : RowOk 604800 week) (hc : RowOk 1125899906842624 closed) (h0 : 0 ≤ off) (h1 : off < 604800) : Steps (Nn off week closed) (cop off week closed) 0 1125899906842624 := elap_step h hc h0 h1 (Int.le_refl _)
theorem elap_Nn (h : RowOk 604800 week) (hc : RowOk 1125899906842624 closed) (h0 : 0 ≤ off) (h1 : off < 604800) {a b : Int} (ha : 0 ≤ a) (hab : a ≤ b) (hb : b ≤ 1125899906842624) : elapP off week closed a b = Nn off week closed b - Nn off week closed a := by
  have e := (elap_step h hc h0 h1 ha).same ((Nn_step h hc h0 h1).sub ha (Int.le_refl _)) (Int.le_refl _) hab hb (fun _ _ _ => rfl)
  rw [elap_same h h0 h1 ha (by omega)] at e
  omega
theorem elap_nonneg (h : RowOk 604800 week) (hc : RowOk 1125899906842624 closed) (h0 : 0 ≤ off) (h1 : off < 604800) {a b : Int} (ha : 0 ≤ a) (hab : a ≤ b) (hb : b ≤ 1125899906842624) : 0 ≤ elapP off week closed a b := by
  have := ((elap_step (closed := closed) h hc h0 h1 ha).le (Int.le_refl _) hab hb).1
  rw [elap_same h h0 h1 ha (by omega)] at this
  exact this
def dueL (off : Int) (week : List S114) : Int → List S114 → Option Int
  | _, [] => none
  | B, s :: r => if weeklyP off week s.f0 s.f1 < B then dueL off week (B - weeklyP off week s.f0 s.f1) r
    else some (nthP week (untilP week (s.f0 + (604800 - off)) + B - 1) - (604800 - off) + 1)
theorem due_hit (h : RowOk 604800 week) (h0 : 0 ≤ off) (h1 : off < 604800) (hs : 0 < secs week) {a z B : Int} (ha : 0 ≤ a) (haz : a ≤ z) (hz : z ≤ 1125899906842624) (hB : 1 ≤ B) (hw : B ≤ weeklyP off week a z) :
    (0 ≤ untilP week (a + (604800 - off)) + B - 1 ∧ untilP week (a + (604800 - off)) + B - 1 ≤ 2251799815500000) ∧ (untilP week (a + (604800 - off)) + B - 1) / secs week ≤ 3723213977 ∧
      a + (604800 - off) ≤ nthP week (untilP week (a + (604800 - off)) + B - 1) ∧ nthP week (untilP week (a + (604800 - off)) + B - 1) < z + (604800 - off) ∧
      Wk off week (nthP week (untilP week (a + (604800 - off)) + B - 1) - (604800 - off)) = Wk off week a + B - 1 ∧ wop off week (nthP week (untilP week (a + (604800 - off)) + B - 1) - (604800 - off)) = true := by
  rw [weekly_Wk h h0 h1 ha haz hz] at hw
  have hu := until_Uo h (t := a + (604800 - off)) (by omega) (by omega)
  have hv := (until_bound h (z + (604800 - off))).2
  rw [until_Uo h (by omega) (by omega)] at hv
  have hW : ∀ t, Wk off week t = Uo week (t + (604800 - off)) := fun _ => rfl
  rw [hW, hW] at hw
  rw [hu]
  generalize hk : Uo week (a + (604800 - off)) + B - 1 = k
  obtain ⟨n0, n1, n2, n3⟩ := nth_in h (k := k) (u := a + (604800 - off)) (v := z + (604800 - off)) hs (by omega) (by omega) (by omega) (by omega) (by omega)
  obtain ⟨m0, m1⟩ := nth_at h k hs n0
  refine ⟨⟨n0, by omega⟩, n1, n2, n3, ?_, ?_⟩
  · rw [hW, hW, show nthP week k - (604800 - off) + (604800 - off) = nthP week k by omega, m0]; omega
  · unfold wop; rw [show nthP week k - (604800 - off) + (604800 - off) = nthP week k by omega]; exact m1
theorem due_spec (h : RowOk 604800 week) (h0 : 0 ≤ off) (h1 : off < 604800) (hs : 0 < secs week) (N : Int → Int) : ∀ (l : List S114) (lo a B : Int), RowFrom lo l → 0 ≤ lo → (∀ s, s ∈ l → s.f1 ≤ 1125899906842624) → 0 ≤ a → a ≤ 1125899906842624 → 1 ≤ B →
    Steps N (fun t => !inRow l t && wop off week t) a 1125899906842624 →
    match dueL off week B (freeL l a 1125899906842624) with
    | none => N 1125899906842624 - N a < B
    | some d => a < d ∧ d ≤ 1125899906842624 ∧ N d = N a + B ∧ N (d - 1) = N a + B - 1 ∧ (!inRow l (d - 1) && wop off week (d - 1)) = true := by
  intro l
  induction l with
  | nil =>
    intro lo a B _ _ _ ha haH hB hN
    simp only [freeL]
    by_cases hlt : a < 1125899906842624
    · rw [if_pos hlt]
      simp only [dueL]
      have hw := weekly_Wk h h0 h1 ha haH (Int.le_refl _)
      by_cases hlb : weeklyP off week a 1125899906842624 < B
      · rw [if_pos hlb]
        simp only
        have := hN.same (Wk_step h off a 1125899906842624) (Int.le_refl _) haH (Int.le_refl _) (fun t _ _ => by simp [inRow])
        omega
      · rw [if_neg hlb]
        obtain ⟨_, _, n2, n3, n4, n5⟩ := due_hit h h0 h1 hs (a := a) (z := 1125899906842624) (B := B) ha haH (Int.le_refl _) hB (by omega)
        generalize nthP week (untilP week (a + (604800 - off)) + B - 1) = q at *
        have e1 := hN.same (Wk_step h off a 1125899906842624) (Int.le_refl _) (b := q - (604800 - off)) (by omega) (by omega) (fun t _ _ => by simp [inRow])
        have e2 := hN (q - (604800 - off)) (by omega) (by omega)
        simp only [inRow, List.any_nil, Bool.not_false, Bool.true_and, n5, one, if_true] at e2
        refine ⟨by omega, by omega, by omega, ?_, ?_⟩
        · rw [show q - (604800 - off) + 1 - 1 = q - (604800 - off) by omega]; omega
        · rw [show q - (604800 - off) + 1 - 1 = q - (604800 - off) by omega, n5]; rfl
    · rw [if_neg hlt]
      simp only [dueL]
      rw [show a = 1125899906842624 by omega]; omega
  | cons s r ih =>
    intro lo a B hr hlo htop ha haH hB hN
    obtain ⟨r1, r2, r3⟩ := hr
    have hst := htop s (by simp)
    have htop' : ∀ x, x ∈ r → x.f1 ≤ 1125899906842624 := fun x hx => htop x (by simp [hx])
    have hin : ∀ t, s.f1 ≤ t → inRow (s :: r) t = inRow r t := fun t ht => by rw [inRow_cons, decide_eq_false (by omega), Bool.false_or]
    have hN' : Steps N (fun t => !inRow r t && wop off week t) (mx a s.f1) 1125899906842624 := fun t x y => by
      have := hN t (by unfold mx at x; split at x <;> omega) y
      rw [this]
      simp only
      rw [hin t (by unfold mx at x; split at x <;> omega)]
    simp only [freeL]
    by_cases hlt : a < 1125899906842624
    · rw [if_pos hlt]
      by_cases hsa : s.f1 ≤ a
      · rw [if_pos hsa]
        have hm : mx a s.f1 = a := by unfold mx; split <;> omega
        rw [hm] at hN'
        have := ih s.f1 a B r3 (by omega) htop' ha haH hB hN'
        revert this
        cases dueL off week B (freeL r a 1125899906842624) with
        | none => exact id
        | some d =>
          simp only
          rintro ⟨d1, d2, d3, d4, d5⟩
          exact ⟨d1, d2, d3, d4, by rw [hin _ (by omega)]; exact d5⟩
      · rw [if_neg hsa]
        have hm : mx a s.f1 = s.f1 := by unfold mx; split <;> omega
        rw [hm] at hN'
        have hmin : mn s.f0 1125899906842624 = s.f0 := by unfold mn; split <;> omega
        rw [hmin]
        have hcl : ∀ t, s.f0 ≤ t → t < s.f1 → (!inRow (s :: r) t && wop off week t) = false := fun t x y => by rw [inRow_cons, decide_eq_true ⟨x, y⟩]; rfl
        have hop : ∀ t, t < s.f0 → (!inRow (s :: r) t && wop off week t) = wop off week t := fun t x => by
          rw [inRow_cons, decide_eq_false (by omega), inRow_lo r3 (by omega)]; rfl
        by_cases hfr : a < s.f0
        · rw [if_pos hfr]
          simp only [dueL]
          have hw := weekly_Wk h h0 h1 ha (b := s.f0) (by omega) (by omega)
          have e0 := hN.same (Wk_step h off a 1125899906842624) (Int.le_refl _) (b := s.f0) (by omega) (by omega) (fun t _ y => hop t y)
          have e1 := hN.still (a := s.f0) (b := s.f1) (by omega) (by omega) (by omega) hcl
          by_cases hlb : weeklyP off week a s.f0 < B
          · rw [if_pos hlb]
            have := ih s.f1 s.f1 (B - weeklyP off week a s.f0) r3 (by omega) htop' (by omega) hst (by omega) hN'
            revert this
            cases dueL off week (B - weeklyP off week a s.f0) (freeL r s.f1 1125899906842624) with
            | none => simp only; intro; omega
            | some d =>
              simp only
              rintro ⟨d1, d2, d3, d4, d5⟩
              exact ⟨by omega, d2, by omega, by omega, by rw [hin _ (by omega)]; exact d5⟩
          · rw [if_neg hlb]
            obtain ⟨_, _, n2, n3, n4, n5⟩ := due_hit h h0 h1 hs (a := a) (z := s.f0) (B := B) ha (by omega) (by omega) hB (by omega)
            generalize nthP week (untilP week (a + (604800 - off)) + B - 1) = q at *
            have e1 := hN.same (Wk_step h off a 1125899906842624) (Int.le_refl _) (b := q - (604800 - off)) (by omega) (by omega) (fun t _ y => hop t (by omega))
            have e2 := hN (q - (604800 - off)) (by omega) (by omega)
            have e3 := hop (q - (604800 - off)) (by omega)
            simp only at e2
            rw [e3, n5] at e2
            simp only [one, if_true] at e2
            refine ⟨by omega, by omega, by omega, ?_, ?_⟩
            · rw [show q - (604800 - off) + 1 - 1 = q - (604800 - off) by omega]; omega
            · rw [show q - (604800 - off) + 1 - 1 = q - (604800 - off) by omega, e3, n5]
        · rw [if_neg hfr]
          have e1 := hN.still (a := a) (b := s.f1) (Int.le_refl _) (by omega) (by omega) (fun t x y => hcl t (by omega) y)
          have := ih s.f1 s.f1 B r3 (by omega) htop' (by omega) hst hB hN'
          revert this
          cases dueL off week B (freeL r s.f1 1125899906842624) with
          | none => simp only; intro; omega
          | some d =>
            simp only
            rintro ⟨d1, d2, d3, d4, d5⟩
            exact ⟨by omega, d2, by omega, by omega, by rw [hin _ (by omega)]; exact d5⟩
    · rw [if_neg hlt]
      simp only [dueL]
      rw [show a = 1125899906842624 by omega]; omega
end Go.Proofs.YtepldlnmeenlbaaGreat.Own
namespace Go.Proofs.YtepldlnmeenlbaaGreat.Own
open Go.RowKit Go.Proofs Go.Proofs.YtepldlnmeenlbaaGreatW.PrintWords Go.Proofs.YtepldlnmeenlbaaGreatW.PrintLast Go.Proofs.YtepldlnmeenlbaaGreatW.PrintMore
theorem opIn_of_op {P : Program} {o : Oper} {a : Act} {w : World} {K : Act → World → Prop} {Q : Exit → Act → World → Prop} {l n : Nat} (hnd : ∀ c, o.op ≠ .defer c)
    (h : o.wp P a w K Q) : o.wpIn (Fence.wide.inRound l) n P a w K Q := by
  refine ⟨fun _ _ => trivial, ?_⟩
  rw [Oper.semAt_eq _ _ _ hnd]
  unfold Oper.wp at h
  generalize (execOp a.eval o).run P w = r at h ⊢
  unfold Oper.upon at h
  unfold Oper.uponIn
  split at h
  · exact h
  · exact h
  · exact h
  · exact ⟨fun h => by simp [Fence.wide] at h, CallsIn.inRound l (callsIn_wide.2 h)⟩
  · rename_i row args w'
    refine ⟨fun h => by simp [Fence.wide] at h, ?_⟩
    intro c cs _
    obtain ⟨v, w'', hr, hs⟩ := h c cs
    exact ⟨v, w'', hr, stepsIn_wide.2 hs⟩
  · exact h
  · exact h.elim
theorem anyIn_of_any {P : Program} {md : Region.Mode} {ops : Array Oper} {Q : Exit → Act → World → Prop} {l n : Nat} (hnd : ∀ (i : Nat) (o : Oper), ops[i]? = some o → ∀ c, o.op ≠ .defer c) (hQ : ¬ LetsOut Q) :
    ∀ (fuel : Nat) (listed : Array Bool) (a : Act) (w : World), wpAny P md ops Q fuel listed a w → wpAnyIn (Fence.wide.inRound l) n P md ops Q fuel listed a w
  | 0, _, _, _, h => h
  | fuel + 1, listed, a, w, h => by
    refine ⟨h.1, fun i hi => ?_⟩
    have h1 := h.2 i hi
    unfold wpOp at h1
    unfold wpOpIn
    cases ho : ops[i]? with
    | none => rw [ho] at h1; exact anyIn_of_any hnd hQ fuel _ _ _ h1
    | some o =>
      rw [ho] at h1
      simp only at h1 ⊢
      split at h1
      · rw [if_pos ‹_›]
        rcases h1 with h1 | h1
        · exact Oper.wpIn_mono (fun a w h => anyIn_of_any hnd hQ fuel _ a w h) (opIn_of_op (hnd i o ho) h1)
        · exact absurd h1.2 hQ
      · rw [if_neg ‹_›]
        exact ⟨fun _ _ => trivial, anyIn_of_any hnd hQ fuel _ _ _ h1⟩
theorem startIn_ {P : Program} {ops : Array Oper} {Q : Exit → Act → World → Prop} {S : World → Prop} {ds : List Nat} {id n m r : Nat} {a : Act} {w : World} (hnd : ∀ (i : Nat) (o : Oper), ops[i]? = some o → ∀ c, o.op ≠ .defer c) (hQ : ¬ LetsOut Q)
    (l : Array Bool) (hm : P.follows .mixedOrders = true) (hn : ops.size = n) (hl : Array.replicate n false = l) (hS : S w.drew)
    (h : S w.drew → wpAnyLast P .any ops Q S ds n l a w.drew) : (Code.region id ops true).wpIn (Fence.wide.inRound r) m P Q a w := by
  subst hn
  subst hl
  exact wpIn_region_any hm (anyIn_of_any hnd hQ _ _ _ _ (wpAny_of_last _ _ _ _ (h hS)))
end Go.Proofs.YtepldlnmeenlbaaGreat.Own
namespace Go.Proofs.YtepldlnmeenlbaaGreat.Own
open Go.RowKit Go.Shelf Go.Proofs Go.Proofs.YtepldlnmeenlbaaGreatW.PrintWords Go.Proofs.YtepldlnmeenlbaaGreatW.PrintLast Go.Proofs.YtepldlnmeenlbaaGreatW.PrintMore Go.Proofs.YtepldlnmeenlbaaGreat.Base
attribute [local go_sem] Oper.semAt_some max2_mx min2_mn max_two min_two
theorem free_any (ab : Nat) (a b : Int) (w : World) :
    Calls Tryz.prog 106 #[.pointer (some ⟨ab, 0, none⟩), .int .i64 a, .int .i64 b] w fun e w' => e = .returned (.func (.func 138) #[] #[.pointer (some ⟨w.heap.size + 1, 0, none⟩), .pointer (some ⟨w.heap.size + 1 + 1, 0, none⟩), .pointer (some ⟨w.heap.size, 0, none⟩)]) ∧
      w' = ((w.alloc (.cells #[.pointer (some ⟨ab, 0, none⟩)] 145)).alloc (.cells #[.int .i64 a] 2)).alloc (.cells #[.int .i64 b] 2) := by
  have hmf : ∀ (fn : Fn) (first cap : Array Value) (w : World), (Instr.makeFunc fn first cap).run Tryz.prog w = .ok (.func fn first cap) w := fun _ _ _ _ => rfl
  go_enter Tryz.func106, Tryz.ntmps106
  go_wp2
  go_ret
  exact ⟨rfl, rfl⟩
structure AlmM (w : World) (m ab cb : Nat) (row : List S114) : Prop where
  ok : RowOk 1125899906842624 row
  lt : ab < m
  ne : ab ≠ cb
  blk : ∃ A c, w.heap[ab]? = some (.cells #[.slice A row.length c] 203 (0, 0)) ∧ row.length ≤ c ∧ Kd.R k114 114 w 0 (fun k => k ≠ cb ∧ k < m) (.slice A row.length c) row
theorem AlmM.of {w : World} {n ab cb : Nat} {row : List S114} (h : AlmAt w n ab cb row) : AlmM w w.heap.size ab cb row := by
  obtain ⟨A, c, hb, hc, hr⟩ := h.blk
  exact ⟨h.ok, blk_lt hb, h.ne, ⟨A, c, hb, hc, Kd.R_lower (Kd.R_mono (Kd.R_bound hr) (fun k hk => ⟨hk.1, hk.2.2.1⟩)) (Nat.zero_le _)⟩⟩
theorem AlmM.at {w : World} {m ab cb : Nat} {row : List S114} (h : AlmM w m ab cb row) : AlmAt w 0 ab cb row := by
  obtain ⟨A, c, hb, hc, hr⟩ := h.blk
  exact ⟨h.ok, Nat.zero_le _, h.ne, ⟨A, c, hb, hc, Kd.R_mono hr (fun _ hk => hk.1)⟩⟩
theorem AlmM.keep {w w' : World} {m ab cb : Nat} {row : List S114} (h : AlmM w m ab cb row) (hm : ∀ k, k < m → k ≠ cb → w'.heap[k]? = w.heap[k]?) : AlmM w' m ab cb row := by
  obtain ⟨A, c, hb, hc, hr⟩ := h.blk
  exact ⟨h.ok, h.lt, h.ne, ⟨A, c, (hm ab h.lt h.ne).trans hb, hc, Kd.R_step hr (fun k hk _ => hm k hk.2 hk.1)⟩⟩
structure KeepM (m cb fb : Nat) (W W' : World) : Prop where
  size : W.heap.size ≤ W'.heap.size
  low : ∀ k, k < m → k ≠ cb → W'.heap[k]? = W.heap[k]?
  box : ∀ k o, fb ≤ k → W.heap[k]? = some o → o.isCells = true → W'.heap[k]? = some o
theorem KeepM.trans {m cb fb : Nat} {A B C : World} (h : KeepM m cb fb A B) (k : KeepM m cb fb B C) : KeepM m cb fb A C :=
  ⟨Nat.le_trans h.size k.size, fun i a b => (k.low i a b).trans (h.low i a b), fun i o a b c => k.box i o a (h.box i o a b c) c⟩
theorem KeepM.of_below {m cb fb : Nat} {A B : World} (h : Below A.heap.size A B) (hm : m ≤ A.heap.size) : KeepM m cb fb A B :=
  ⟨h.size, fun k a _ => h.block k (by omega), fun k o _ b _ => (h.block k (blk_lt b)).trans b⟩
def freef_T0 : Bool × List (List Nat × List Nat) := (true, [([], []), ([0], [0]), ([], []), ([2], [2]), ([1, 0, 1], [1]), ([3, 4, 0, 1, 2, 3, 4], [3])])
def freef_B0 : List Nat := [0, 1, 0, 4, 3, 31]
theorem freef_tab0 : rtab .any (opsOf Tryz.f138 0) = freef_T0 := by kernel_rfl
theorem freef_bits0 : waitsOk freef_T0.2 freef_B0 = true := by kernel_rfl
set_option maxHeartbeats 4000000 in
set_option maxRecDepth 100000 in
theorem free_stops (m ab cb fb : Nat) (row : List S114) (a b : Int) (w : World) (hA : AlmM w m ab cb row) (hm : m ≤ w.heap.size) (hf : fb + 1 + 1 < w.heap.size) (ha : 0 ≤ a) (ha2 : a ≤ 1125899906842624) (hb : b ≤ 1125899906842624)
    (h0 : w.heap[fb]? = some (.cells #[.pointer (some ⟨ab, 0, none⟩)] 145 (0, 0))) (h1 : w.heap[fb + 1]? = some (.cells #[.int .i64 a] 2 (0, 0))) (h2 : w.heap[fb + 1 + 1]? = some (.cells #[.int .i64 b] 2 (0, 0))) (n : Nat) (hn : 1 ≤ n) :
    SeqStopsK Fence.wide n Tryz.prog 138 #[.pointer (some ⟨fb + 1, 0, none⟩), .pointer (some ⟨fb + 1 + 1, 0, none⟩), .pointer (some ⟨fb, 0, none⟩)] (fun x : GS => #[.agg #[.int .i64 x.1.f0, .int .i64 x.1.f1]]) (KeepM m cb fb)
      (fun xs => xs.map (·.1) = freeL row a b) (fun pre => pre.map (·.1) <+: freeL row a b) (freeL row a b).length w := by
  intro l J Jx W hW hJ hJx hY hJ0
  have k0 : W.heap[fb]? = some (.cells #[.pointer (some ⟨ab, 0, none⟩)] 145 (0, 0)) := blk_below h0 hW
  have k1 : W.heap[fb + 1]? = some (.cells #[.int .i64 a] 2 (0, 0)) := blk_below h1 hW
  have k2 : W.heap[fb + 1 + 1]? = some (.cells #[.int .i64 b] 2 (0, 0)) := blk_below h2 hW
  have HA := Aside0.mk (hA.keep (w' := W) (fun k hk _ => hW.block k (by omega)))
  have HSZ : Aside0 (m ≤ W.heap.size ∧ fb + 1 + 1 < W.heap.size) := ⟨by have := hW.size; omega⟩
  have HK0 := Aside0.mk k0
  have HJ := Aside0.mk hJ
  have HJX := Aside0.mk hJx
  have HY := Aside0.mk hY
  have HJ0 := Aside0.mk hJ0
  have c1 : W.drew.cell? ⟨fb + 1, 0, none⟩ = some (.int .i64 a) := (blk_cell k1 0).trans rfl
  have c2 : W.drew.cell? ⟨fb + 1 + 1, 0, none⟩ = some (.int .i64 b) := (blk_cell k2 0).trans rfl
  have hd1 : Below W.heap.size W W.drew := below_drew1 (Below.refl _ _)
  have HA2 := Aside0.mk (HA.out.keep (w' := W.drew) (fun k hk _ => hd1.block k (by have := HSZ.out; omega)))
  have HK2 := Aside0.mk (blk_below HK0.out hd1)
  have HJ2 : Aside0 (J [] W.drew) := ⟨hJ _ _ _ none hJ0 (grown_of_below hd1 none) (fun _ e => by cases e)⟩
  have HSZ2 : Aside0 (m ≤ W.drew.heap.size ∧ fb + 1 + 1 < W.drew.heap.size ∧ W.heap.size ≤ W.drew.heap.size) := ⟨by have := hd1.size; have := HSZ.out; omega⟩
  have hfn : ∀ g, Fence.wide.fn g := fun _ => trivial
  have ea : mx a 0 = a := by unfold mx; split <;> omega
  have eb : mn b 1125899906842624 = b := by unfold mn; split <;> omega
  clear hA hW hJ hJx hY hJ0 k0 k1 k2 h0 h1 h2 hd1 HA HK0 HJ0
  refine callsIn_of_wp Tryz.func138 rfl trivial ?_ rfl
  simp only [Tryz.ntmps138, List.size_toArray, List.length_cons, List.length_nil, Nat.reduceAdd, Nat.reduceSub, Array.replicate_succ, Array.replicate_zero, List.push_toArray, List.append_toArray, List.nil_append, List.cons_append]
  gi_wp2
  refine wpIn_wide.2 ?_
  refine start_ (n := 6) (S := fun w' => w'.cell? ⟨fb + 1, 0, none⟩ = some (.int .i64 a) ∧ w'.cell? ⟨fb + 1 + 1, 0, none⟩ = some (.int .i64 b)) (ds := []) #[false, false, false, false, false, false] (by kernel_rfl) rfl rfl ⟨c1, c2⟩ (fun hHeld => ?_); refine with_tabW freef_tab0 freef_bits0 (fun HT_ HW_ => ?_)
  clear c1 c2
  generalize W.drew = w2 at HA2 HK2 HJ2 HSZ2 hHeld ⊢
  refine take_ (i := 0) (N := some 10) (v := ?_) (a' := ?_) #[true, false, false, false, false, false] rfl rfl (take_ofW HT_.out HW_.out (by kernel_rfl)) (fun _ _ _ h => h) (Or.inl ⟨by rfl, ?_⟩) hHeld ?_ ?_
  rotate_left
  · rintro w' ⟨s0, s1⟩
    go_simp
    with_reducible rfl
  rotate_left
  · simp only [Act.put, List.setIfInBounds_toArray, List.set_cons_zero, List.set_cons_succ, i64_w, i32_w]
    rfl
  refine pure_ (i := 1) (N := some 11) (v := ?_) (a' := ?_) #[true, true, false, false, false, false] rfl rfl (any_of HT_.out (by kernel_rfl)) (fun _ _ _ h => h) (Or.inl ⟨by rfl, ?_⟩) ?_ ?_
  rotate_left
  · intro w'
    go_simp
    with_reducible rfl
  rotate_left
  · simp only [Act.put, List.setIfInBounds_toArray, List.set_cons_zero, List.set_cons_succ, i64_w, i32_w]
    rfl
  refine pure_ (i := 4) (N := some 5) (v := ?_) (a' := ?_) #[true, true, false, false, true, false] rfl rfl (any_of HT_.out (by kernel_rfl)) (fun _ _ _ h => h) (Or.inl ⟨by rfl, ?_⟩) ?_ ?_
  rotate_left
  · intro w'
    go_simp
    with_reducible rfl
  rotate_left
  · simp only [Act.put, List.setIfInBounds_toArray, List.set_cons_zero, List.set_cons_succ, i64_w, i32_w]
    rfl
  refine take_ (i := 2) (N := some 12) (v := ?_) (a' := ?_) #[true, true, true, false, true, false] rfl rfl (take_ofW HT_.out HW_.out (by kernel_rfl)) (fun _ _ _ h => h) (Or.inl ⟨by rfl, ?_⟩) hHeld ?_ ?_
  rotate_left
  · rintro w' ⟨s0, s1⟩
    go_simp
    with_reducible rfl
  rotate_left
  · simp only [Act.put, List.setIfInBounds_toArray, List.set_cons_zero, List.set_cons_succ, i64_w, i32_w]
    rfl
  refine pure_ (i := 3) (N := some 13) (v := ?_) (a' := ?_) #[true, true, true, true, true, false] rfl rfl (any_of HT_.out (by kernel_rfl)) (fun _ _ _ h => h) (Or.inl ⟨by rfl, ?_⟩) ?_ ?_
  rotate_left
  · intro w'
    go_simp
    with_reducible rfl
  rotate_left
  · simp only [Act.put, List.setIfInBounds_toArray, List.set_cons_zero, List.set_cons_succ, i64_w, i32_w]
    rfl
  refine pure_ (i := 5) (N := some 6) (v := ?_) (a' := ?_) #[true, true, true, true, true, true] rfl rfl (any_of HT_.out (by kernel_rfl)) (fun _ _ _ h => h) (Or.inl ⟨by rfl, ?_⟩) ?_ ?_
  rotate_left
  · intro w'
    go_simp
    with_reducible rfl
  rotate_left
  · simp only [Act.put, List.setIfInBounds_toArray, List.set_cons_zero, List.set_cons_succ, i64_w, i32_w]
    rfl
  refine done_ (done_of HT_.out (by kernel_rfl)) ?_
  gi_wp2
  clear HT_ HW_ hHeld ea eb HSZ
  gi_loopw [5] (fun v5 wr => ∃ (pre : List GS) (at' : Int), v5 = .int .i64 at' ∧ Aside0 (freeL row a b = pre.map (·.1) ++ freeL row at' b ∧ 0 ≤ at' ∧ at' ≤ 1125899906842624) ∧ Aside0 (J pre wr) ∧ Aside0 (AlmM wr m ab cb row) ∧ Aside0 (wr.heap[fb]? = some (.cells #[.pointer (some ⟨ab, 0, none⟩)] 145 (0, 0))) ∧ Aside0 (m ≤ wr.heap.size ∧ fb + 1 + 1 < wr.heap.size ∧ W.heap.size ≤ wr.heap.size)) (fun p wr => match p with | .int _ x => (b - x).toNat | _ => 0)
  case atStart => exact ⟨[], a, rfl, ⟨rfl, ha, ha2⟩, HJ2, HA2, HK2, HSZ2⟩
  case round =>
    clear HA2 HJ2 HK2 HSZ2
    obtain ⟨pre, at', rfl, HF, HJs, HAs, HKs, HSs⟩ := hrel
    have c0 : wr.cell? ⟨fb, 0, none⟩ = some (.pointer (some ⟨ab, 0, none⟩)) := (blk_cell HKs.out 0).trans rfl
    by_cases hlt : at' < b
    · have hp : 0 ≤ at' ∧ at' < b ∧ b ≤ 1125899906842624 := ⟨HF.out.2.1, hlt, hb⟩
      by_cases hi : atP row at' < row.length
      · have hd : decide (atP row at' < row.length) = true := decide_eq_true hi
        have HN := Aside0.mk (next_any 0 ab cb row at' wr HAs.out.at)
        rw [hd] at HN
        have hnx : nxtP row at' = rd_T114 row (atP row at') := if_pos hi
        have HFR := Aside0.mk (freeL_some HAs.out.ok.row hlt hi)
        have HAT := Aside0.mk (atP_next HAs.out.ok.row hi)
        have hin : 0 ≤ (rd_T114 row (atP row at')).f0 ∧ (rd_T114 row (atP row at')).f0 < (rd_T114 row (atP row at')).f1 ∧ (rd_T114 row (atP row at')).f1 ≤ 1125899906842624 := by
          rw [rd_at row _ hi]; exact HAs.out.ok.mem _ (List.getElem_mem _)
        rw [← hnx] at HFR HAT hin
        have hgt : at' < (nxtP row at').f1 := by rw [hnx, rd_at row _ hi]; exact atP_at hi
        clear hnx
        generalize nxtP row at' = s at *
        obtain ⟨s0, s1⟩ := s
        simp only at hin HFR HAT hgt
        have hi0 := hin.1
        have hi1 := hin.2.1
        have hi2 := hin.2.2
        have HH := Aside0.mk (show (0 ≤ s0 ∧ s0 < s1 ∧ s1 ≤ 1125899906842624) ∧ at' < s1 from ⟨hin, hgt⟩)
        have hmin : ∃ z, mn s0 b = z := ⟨_, rfl⟩
        obtain ⟨z, hz⟩ := hmin
        have hz1 : z ≤ s0 ∧ z ≤ b := by subst hz; unfold mn; split <;> omega
        have HZ := Aside0.mk hz1
        rw [hz] at HFR
        by_cases hfr : at' < z
        · rw [if_pos hfr] at HFR
          have hq : 0 ≤ at' ∧ at' < z ∧ z ≤ 1125899906842624 := ⟨hp.1, hfr, by omega⟩
          gi_wp2_with (gi_at_call 139; refine (callsIn_wide.2 HN.out).mono ?_; rintro e w3 ⟨rfl, hb3⟩; have HB3 := Aside0.mk hb3; clear hb3; obtain ⟨fn, tmps, assign, body, hy, hR⟩ := HY.out pre ⟨⟨at', z⟩, hq⟩ ((w3.alloc (.cells #[.int .i64 s0, .int .i64 s1] 114)).alloc (.cells #[.int .i64 at', .int .i64 z] 114)) (HJ.out _ _ _ none HJs.out (grown_of_below (below_alloc (below_alloc HB3.out _) _) none) (fun _ e => by cases e)) (by rw [HF.out.1, HFR.out]; simp))
          refine hR.mono ?_
          rintro e W' (⟨rfl, hJ', hk⟩ | ⟨rfl, hJx'⟩)
          · have hB := Aside0.mk (below_alloc (below_alloc HB3.out (.cells #[.int .i64 s0, .int .i64 s1] 114)) (.cells #[.int .i64 at', .int .i64 z] 114))
            have hK := Aside0.mk ((KeepM.of_below (m := m) (cb := cb) (fb := fb) hB.out HSs.out.1).trans hk)
            have hblk := hk.box w3.heap.size _ (by have := HSs.out; have := HB3.out.size; omega) (blk_alloc (blk_new w3 (.cells #[.int .i64 s0, .int .i64 s1] 114)) (.cells #[.int .i64 at', .int .i64 z] 114)) rfl
            have hc1 : W'.cell? ⟨w3.heap.size, 1, none⟩ = some (.int .i64 s1) := (blk_cell hblk 1).trans rfl
            have HJ' := Aside0.mk hJ'
            clear hk hJ' hR hy hblk hB HB3
            gi_wp2
            go_roundw
            case measure => show (b - s1).toNat < (b - at').toNat; omega
            case rel => exact ⟨pre ++ [⟨⟨at', z⟩, hq⟩], s1, rfl, ⟨by rw [HF.out.1, HFR.out]; simp, by omega, by omega⟩, HJ', ⟨HAs.out.keep (fun k hk1 hk2 => hK.out.low k hk1 hk2)⟩, ⟨hK.out.box _ _ (Nat.le_refl _) HKs.out rfl⟩, ⟨by have := HSs.out; have := hK.out.size; omega⟩⟩
          · gi_wp2
            refine bodyPost_ret (results_none rfl _ _ _) rfl ?_
            exact ⟨⟨_, rfl⟩, .inr ⟨pre ++ [⟨⟨at', z⟩, hq⟩], by rw [HF.out.1, HFR.out]; simp, hJx'⟩⟩
        · rw [if_neg hfr] at HFR
          gi_wp2_with (gi_at_call 139; refine (callsIn_wide.2 HN.out).mono ?_; rintro e w3 ⟨rfl, hb3⟩; have HB3 := Aside0.mk hb3; clear hb3)
          go_roundw
          case measure => show (b - s1).toNat < (b - at').toNat; omega
          case rel =>
            have hB := below_alloc (below_alloc HB3.out (.cells #[.int .i64 s0, .int .i64 s1] 114)) (.cells #[.int .i64 at', .int .i64 z] 114)
            have hK := KeepM.of_below (m := m) (cb := cb) (fb := fb) hB HSs.out.1
            exact ⟨pre, s1, rfl, ⟨by rw [HF.out.1, HFR.out], by omega, by omega⟩, ⟨HJ.out _ _ _ none HJs.out (grown_of_below hB none) (fun _ e => by cases e)⟩, ⟨HAs.out.keep (fun k hk1 hk2 => hK.low k hk1 hk2)⟩, ⟨hK.box _ _ (Nat.le_refl _) HKs.out rfl⟩, ⟨by have := HSs.out; have := hK.size; omega⟩⟩
      · have hd : decide (atP row at' < row.length) = false := decide_eq_false hi
        gi_wp2_with (gi_at_call 139; refine (callsIn_wide.2 (next_any 0 ab cb row at' _ HAs.out.at)).mono ?_; rintro e w3 ⟨rfl, hb3⟩; rw [hd]; have HB3 := Aside0.mk hb3; clear hb3; obtain ⟨fn, tmps, assign, body, hy, hR⟩ := HY.out pre ⟨⟨at', b⟩, hp⟩ (w3.alloc (.cells #[.int .i64 (nxtP row at').f0, .int .i64 (nxtP row at').f1] 114)) (HJ.out _ _ _ none HJs.out (grown_of_below (below_alloc HB3.out _) none) (fun _ e => by cases e)) (by rw [HF.out.1, freeL_none hlt hi]; simp))
        refine hR.mono ?_
        rintro e W' (⟨rfl, hJ', hk⟩ | ⟨rfl, hJx'⟩)
        · gi_wp2
          refine bodyPost_ret (results_none rfl _ _ _) rfl ?_
          exact ⟨⟨_, rfl⟩, .inl ⟨pre ++ [⟨⟨at', b⟩, hp⟩], by rw [HF.out.1, freeL_none hlt hi]; simp, hJ'⟩⟩
        · gi_wp2
          refine bodyPost_ret (results_none rfl _ _ _) rfl ?_
          exact ⟨⟨_, rfl⟩, .inr ⟨pre ++ [⟨⟨at', b⟩, hp⟩], by rw [HF.out.1, freeL_none hlt hi]; simp, hJx'⟩⟩
    · gi_wp2
      go_end0
      exact ⟨⟨_, rfl⟩, .inl ⟨pre, by rw [HF.out.1, freeL_ge _ (Int.not_lt.2 hlt)]; simp, HJs.out⟩⟩
end Go.Proofs.YtepldlnmeenlbaaGreat.Own
namespace Go.Proofs.YtepldlnmeenlbaaGreat.Own
open Go.RowKit Go.Proofs Go.Proofs.YtepldlnmeenlbaaGreatW.PrintWords Go.Proofs.YtepldlnmeenlbaaGreatW.PrintLast Go.Proofs.YtepldlnmeenlbaaGreatW.PrintMore Go.Proofs.YtepldlnmeenlbaaGreat.Base
variable {w w' : World} {n kb ab pb cb : Nat} {off : Int} {week closed : List S114}
structure DueB (m : Nat) (w4 : World) (kv : Value) (B : Int) (r2 r3 : Int) : Prop where
  b0 : w4.heap[m]? = some (.cells #[kv] 61 (0, 0))
  b1 : w4.heap[m + 1]? = some (.cells #[.int .i64 B] 2 (0, 0))
  b2 : w4.heap[m + 1 + 1]? = some (.cells #[.int .i64 r2] 2 (0, 0))
  b3 : w4.heap[m + 1 + 1 + 1]? = some (.cells #[.int .i64 r3] 49 (0, 0))
theorem DueB.new (w : World) (kv : Value) (B : Int) : DueB w.heap.size ((((w.alloc (.cells #[kv] 61)).alloc (.cells #[.int .i64 B] 2)).alloc (.cells #[.int .i64 0] 2)).alloc (.cells #[.int .i64 0] 49)) kv B 0 0 :=
  ⟨blk_alloc (blk_alloc (blk_alloc (blk_new w _) _) _) _, blk_alloc (blk_alloc (by simpa using blk_new (w.alloc (.cells #[kv] 61)) (.cells #[.int .i64 B] 2)) _) _,
    blk_alloc (by simpa using blk_new ((w.alloc (.cells #[kv] 61)).alloc (.cells #[.int .i64 B] 2)) (.cells #[.int .i64 0] 2)) _, by simpa using blk_new (((w.alloc (.cells #[kv] 61)).alloc (.cells #[.int .i64 B] 2)).alloc (.cells #[.int .i64 0] 2)) (.cells #[.int .i64 0] 49)⟩
theorem DueB.upd {m : Nat} {w4 w5 : World} {kv : Value} {B r2 r3 : Int} (h : DueB m w4 kv B r2 r3) (hu : Upd cb w4 w5) (hc : cb < m) : DueB m w5 kv B r2 r3 :=
  ⟨hu.blk h.b0 (by omega), hu.blk h.b1 (by omega), hu.blk h.b2 (by omega), hu.blk h.b3 (by omega)⟩
theorem DueB.below {m : Nat} {w4 w5 : World} {kv : Value} {B r2 r3 : Int} (h : DueB m w4 kv B r2 r3) (hb : Below w4.heap.size w4 w5) : DueB m w5 kv B r2 r3 :=
  ⟨blk_below h.b0 hb, blk_below h.b1 hb, blk_below h.b2 hb, blk_below h.b3 hb⟩
theorem DueB.set1 {m : Nat} {w4 : World} {kv : Value} {B r2 r3 : Int} (h : DueB m w4 kv B r2 r3) (x : Int) : DueB m (w4.setCell ⟨m + 1, 0, none⟩ (.int .i64 x)) kv x r2 r3 :=
  ⟨(Below.heap_setCell _ _ _ _ (by simp <;> omega)).trans h.b0, blk_put (cs := #[.int .i64 B]) h.b1 0 _ rfl, (Below.heap_setCell _ _ _ _ (by simp <;> omega)).trans h.b2, (Below.heap_setCell _ _ _ _ (by simp <;> omega)).trans h.b3⟩
theorem DueB.set2 {m : Nat} {w4 : World} {kv : Value} {B r2 r3 : Int} (h : DueB m w4 kv B r2 r3) (x : Int) : DueB m (w4.setCell ⟨m + 1 + 1, 0, none⟩ (.int .i64 x)) kv B x r3 :=
  ⟨(Below.heap_setCell _ _ _ _ (by simp <;> omega)).trans h.b0, (Below.heap_setCell _ _ _ _ (by simp <;> omega)).trans h.b1, blk_put (cs := #[.int .i64 r2]) h.b2 0 _ rfl, (Below.heap_setCell _ _ _ _ (by simp <;> omega)).trans h.b3⟩
theorem DueB.set3 {m : Nat} {w4 : World} {kv : Value} {B r2 r3 : Int} (h : DueB m w4 kv B r2 r3) (x : Int) : DueB m (w4.setCell ⟨m + 1 + 1 + 1, 0, none⟩ (.int .i64 x)) kv B r2 x :=
  ⟨(Below.heap_setCell _ _ _ _ (by simp <;> omega)).trans h.b0, (Below.heap_setCell _ _ _ _ (by simp <;> omega)).trans h.b1, (Below.heap_setCell _ _ _ _ (by simp <;> omega)).trans h.b2, blk_put (cs := #[.int .i64 r3]) h.b3 0 _ rfl⟩
theorem ClkAt.lt (h : ClkAt w n kb ab pb cb off week closed) : cb < w.heap.size := by
  obtain ⟨m, k, ⟨lv, hc⟩ | ⟨v, hc, hr⟩⟩ := h.plan.cell
  · exact blk_lt hc
  · exact blk_lt hc
theorem due_left {w4 : World} {B x y r2 r3 : Int} {kv : Value} (D : DueB w.heap.size w4 kv B r2 r3) (hc : cb < w.heap.size) (HC : ClkAt w4 n kb ab pb cb off week closed) (HU : Upd cb w w4) (hx : week ≠ [] ∨ x = r2) :
    ClkAt ((w4.setCell ⟨w.heap.size + 1 + 1, 0, none⟩ (.int .i64 x)).setCell ⟨w.heap.size + 1 + 1 + 1, 0, none⟩ (.int .i64 y)) n kb ab pb cb off week closed ∧ Upd cb w ((w4.setCell ⟨w.heap.size + 1 + 1, 0, none⟩ (.int .i64 x)).setCell ⟨w.heap.size + 1 + 1 + 1, 0, none⟩ (.int .i64 y)) := by
  constructor
  · have h1 : ClkAt (w4.setCell ⟨w.heap.size + 1 + 1, 0, none⟩ (.int .i64 x)) n kb ab pb cb off week closed := by
      rcases hx with h | rfl
      · exact HC.far D.b2 (by decide) (by decide) (fun _ => h) (But.set _ _ _)
      · have hs := set_same D.b2
        exact ⟨HC.lo, HC.hi, HC.nkb, HC.ne, (hs _).trans HC.blk, HC.alm.keep (fun k _ _ _ => hs k), HC.plan.keep (fun k _ _ => hs k)⟩
    exact h1.far (D.set2 x).b3 (by decide) (by decide) (fun h => by cases h) (But.set _ _ _)
  · refine ⟨HU.os, HU.tape, HU.output, by simpa using HU.size, fun k hk hne => ?_⟩
    rw [Below.heap_setCell _ _ _ _ (by show k ≠ w.heap.size + 1 + 1 + 1; omega), Below.heap_setCell _ _ _ _ (by show k ≠ w.heap.size + 1 + 1; omega)]
    exact HU.block k hk hne
set_option maxHeartbeats 1600000 in
set_option maxRecDepth 100000 in
theorem due_arg1 (a B : Int) (w : World) (h : ClkAt w n kb ab pb cb off week closed) (hn : n ≤ w.heap.size) (hx : ¬ (0 ≤ a ∧ a ≤ 1125899906842624)) :
    Calls Tryz.prog 53 #[.pointer (some ⟨kb, 0, none⟩), .int .i64 a, .int .i64 B] w fun e w' => e = .returned (.tuple #[.int .i64 0, .int .i64 2]) ∧ ClkAt w' n kb ab pb cb off week closed ∧ Upd cb w w' := by
  have D4 := Aside0.mk (DueB.new w (.pointer (some ⟨kb, 0, none⟩)) B)
  have HB : Aside0 (Below w.heap.size w ((((w.alloc (.cells #[.pointer (some ⟨kb, 0, none⟩)] 61)).alloc (.cells #[.int .i64 B] 2)).alloc (.cells #[.int .i64 0] 2)).alloc (.cells #[.int .i64 0] 49))) := ⟨below_alloc (below_alloc (below_alloc (below_alloc (Below.refl w.heap.size w) _) _) _) _⟩
  have HC4 := Aside0.mk (h.below HB.out)
  have HU4 := Aside0.mk (Upd.of_below (b := cb) HB.out)
  have hcb := h.lt
  have HH := Aside0.mk h
  have hnot : ∀ (x : Bool) (w : World), (Op.unary .not (.bool x)).run Tryz.prog w = .ok (.bool (!x)) w := fun _ _ => rfl
  have HI : Aside0 (instB a = false) := ⟨decide_eq_false hx⟩
  clear hx
  clear h
  go_enter Tryz.func53, Tryz.ntmps53
  go_wp2_with fail
  generalize ((((w.alloc (.cells #[.pointer (some ⟨kb, 0, none⟩)] 61)).alloc (.cells #[.int .i64 B] 2)).alloc (.cells #[.int .i64 0] 2)).alloc (.cells #[.int .i64 0] 49)) = w4 at D4 HC4 HU4 HB ⊢
  have c0 : w4.cell? ⟨w.heap.size, 0, none⟩ = some (.pointer (some ⟨kb, 0, none⟩)) := (blk_cell D4.out.b0 0).trans rfl
  have d1 : w4.cell? ⟨w.heap.size + 1, 0, none⟩ = some (.int .i64 B) := (blk_cell D4.out.b1 0).trans rfl
  have d2 : w4.cell? ⟨w.heap.size + 1 + 1, 0, none⟩ = some (.int .i64 0) := (blk_cell D4.out.b2 0).trans rfl
  have d3 : w4.cell? ⟨w.heap.size + 1 + 1 + 1, 0, none⟩ = some (.int .i64 0) := (blk_cell D4.out.b3 0).trans rfl
  have f2 : w4.frozen? ⟨w.heap.size + 1 + 1, 0, none⟩ = false := blk_frozen D4.out.b2 0
  have f3 : w4.frozen? ⟨w.heap.size + 1 + 1 + 1, 0, none⟩ = false := blk_frozen D4.out.b3 0
  go_wp2_with (first | (go_at_call 86; refine (clknone_any _ HC4.out).mono ?_; rintro e w5 ⟨rfl, rfl⟩) | (go_at_call 87; refine (instant_any a _).mono ?_; rintro e w5 ⟨rfl, hb⟩; rw [HI.out]; have D5 := Aside0.mk (D4.out.below hb); have HC5 := Aside0.mk (HC4.out.below hb); have HU5 := Aside0.mk (HU4.out.then hb); have HB5 := Aside0.mk (below_step HB.out hb); clear hb; have c0 : w5.cell? ⟨w.heap.size, 0, none⟩ = some (.pointer (some ⟨kb, 0, none⟩)) := (blk_cell D5.out.b0 0).trans rfl; have d1 : w5.cell? ⟨w.heap.size + 1, 0, none⟩ = some (.int .i64 B) := (blk_cell D5.out.b1 0).trans rfl; have d2 : w5.cell? ⟨w.heap.size + 1 + 1, 0, none⟩ = some (.int .i64 0) := (blk_cell D5.out.b2 0).trans rfl; have d3 : w5.cell? ⟨w.heap.size + 1 + 1 + 1, 0, none⟩ = some (.int .i64 0) := (blk_cell D5.out.b3 0).trans rfl; have f2 : w5.frozen? ⟨w.heap.size + 1 + 1, 0, none⟩ = false := blk_frozen D5.out.b2 0; have f3 : w5.frozen? ⟨w.heap.size + 1 + 1 + 1, 0, none⟩ = false := blk_frozen D5.out.b3 0))
  have HB9 : Below w.heap.size w ((w5.setCell ⟨w.heap.size + 1 + 1, 0, none⟩ (.int .i64 (0))).setCell ⟨w.heap.size + 1 + 1 + 1, 0, none⟩ (.int .i64 2)) := below_set (below_set HB5.out (by omega)) (by omega)
  have D9 := (D5.out.set2 0).set3 2
  have e2 := (blk_cell D9.b2 0).trans (rfl : _ = some (Value.int .i64 0))
  have e3 := (blk_cell D9.b3 0).trans (rfl : _ = some (Value.int .i64 2))
  refine bodyPost_ret (v := .tuple #[.int .i64 0, .int .i64 2]) (by simp [results, Tryz.results53, go_sem, e2, e3]) rfl ⟨rfl, HH.out.below HB9, Upd.of_below HB9⟩
set_option maxHeartbeats 1600000 in
set_option maxRecDepth 100000 in
theorem due_arg2 (a B : Int) (w : World) (h : ClkAt w n kb ab pb cb off week closed) (hn : n ≤ w.heap.size) (hx : 0 ≤ a ∧ a ≤ 1125899906842624) (hB : B < 0) :
    Calls Tryz.prog 53 #[.pointer (some ⟨kb, 0, none⟩), .int .i64 a, .int .i64 B] w fun e w' => e = .returned (.tuple #[.int .i64 0, .int .i64 2]) ∧ ClkAt w' n kb ab pb cb off week closed ∧ Upd cb w w' := by
  have D4 := Aside0.mk (DueB.new w (.pointer (some ⟨kb, 0, none⟩)) B)
  have HB : Aside0 (Below w.heap.size w ((((w.alloc (.cells #[.pointer (some ⟨kb, 0, none⟩)] 61)).alloc (.cells #[.int .i64 B] 2)).alloc (.cells #[.int .i64 0] 2)).alloc (.cells #[.int .i64 0] 49))) := ⟨below_alloc (below_alloc (below_alloc (below_alloc (Below.refl w.heap.size w) _) _) _) _⟩
  have HC4 := Aside0.mk (h.below HB.out)
  have HU4 := Aside0.mk (Upd.of_below (b := cb) HB.out)
  have hcb := h.lt
  have HH := Aside0.mk h
  have hnot : ∀ (x : Bool) (w : World), (Op.unary .not (.bool x)).run Tryz.prog w = .ok (.bool (!x)) w := fun _ _ => rfl
  have HI : Aside0 (instB a = true) := ⟨decide_eq_true hx⟩
  clear hx
  clear h
  go_enter Tryz.func53, Tryz.ntmps53
  go_wp2_with fail
  generalize ((((w.alloc (.cells #[.pointer (some ⟨kb, 0, none⟩)] 61)).alloc (.cells #[.int .i64 B] 2)).alloc (.cells #[.int .i64 0] 2)).alloc (.cells #[.int .i64 0] 49)) = w4 at D4 HC4 HU4 HB ⊢
  have c0 : w4.cell? ⟨w.heap.size, 0, none⟩ = some (.pointer (some ⟨kb, 0, none⟩)) := (blk_cell D4.out.b0 0).trans rfl
  have d1 : w4.cell? ⟨w.heap.size + 1, 0, none⟩ = some (.int .i64 B) := (blk_cell D4.out.b1 0).trans rfl
  have d2 : w4.cell? ⟨w.heap.size + 1 + 1, 0, none⟩ = some (.int .i64 0) := (blk_cell D4.out.b2 0).trans rfl
  have d3 : w4.cell? ⟨w.heap.size + 1 + 1 + 1, 0, none⟩ = some (.int .i64 0) := (blk_cell D4.out.b3 0).trans rfl
  have f2 : w4.frozen? ⟨w.heap.size + 1 + 1, 0, none⟩ = false := blk_frozen D4.out.b2 0
  have f3 : w4.frozen? ⟨w.heap.size + 1 + 1 + 1, 0, none⟩ = false := blk_frozen D4.out.b3 0
  go_wp2_with (first | (go_at_call 86; refine (clknone_any _ HC4.out).mono ?_; rintro e w5 ⟨rfl, rfl⟩) | (go_at_call 87; refine (instant_any a _).mono ?_; rintro e w5 ⟨rfl, hb⟩; rw [HI.out]; have D5 := Aside0.mk (D4.out.below hb); have HC5 := Aside0.mk (HC4.out.below hb); have HU5 := Aside0.mk (HU4.out.then hb); have HB5 := Aside0.mk (below_step HB.out hb); clear hb; have c0 : w5.cell? ⟨w.heap.size, 0, none⟩ = some (.pointer (some ⟨kb, 0, none⟩)) := (blk_cell D5.out.b0 0).trans rfl; have d1 : w5.cell? ⟨w.heap.size + 1, 0, none⟩ = some (.int .i64 B) := (blk_cell D5.out.b1 0).trans rfl; have d2 : w5.cell? ⟨w.heap.size + 1 + 1, 0, none⟩ = some (.int .i64 0) := (blk_cell D5.out.b2 0).trans rfl; have d3 : w5.cell? ⟨w.heap.size + 1 + 1 + 1, 0, none⟩ = some (.int .i64 0) := (blk_cell D5.out.b3 0).trans rfl; have f2 : w5.frozen? ⟨w.heap.size + 1 + 1, 0, none⟩ = false := blk_frozen D5.out.b2 0; have f3 : w5.frozen? ⟨w.heap.size + 1 + 1 + 1, 0, none⟩ = false := blk_frozen D5.out.b3 0))
  have HB9 : Below w.heap.size w ((w5.setCell ⟨w.heap.size + 1 + 1, 0, none⟩ (.int .i64 (0))).setCell ⟨w.heap.size + 1 + 1 + 1, 0, none⟩ (.int .i64 2)) := below_set (below_set HB5.out (by omega)) (by omega)
  have D9 := (D5.out.set2 0).set3 2
  have e2 := (blk_cell D9.b2 0).trans (rfl : _ = some (Value.int .i64 0))
  have e3 := (blk_cell D9.b3 0).trans (rfl : _ = some (Value.int .i64 2))
  refine bodyPost_ret (v := .tuple #[.int .i64 0, .int .i64 2]) (by simp [results, Tryz.results53, go_sem, e2, e3]) rfl ⟨rfl, HH.out.below HB9, Upd.of_below HB9⟩
set_option maxHeartbeats 1600000 in
set_option maxRecDepth 100000 in
theorem due_zero (a B : Int) (w : World) (h : ClkAt w n kb ab pb cb off week closed) (hn : n ≤ w.heap.size) (hx : 0 ≤ a ∧ a ≤ 1125899906842624) (hB : B = 0) :
    Calls Tryz.prog 53 #[.pointer (some ⟨kb, 0, none⟩), .int .i64 a, .int .i64 B] w fun e w' => e = .returned (.tuple #[.int .i64 a, .int .i64 0]) ∧ ClkAt w' n kb ab pb cb off week closed ∧ Upd cb w w' := by
  have D4 := Aside0.mk (DueB.new w (.pointer (some ⟨kb, 0, none⟩)) 0)
  have HB : Aside0 (Below w.heap.size w ((((w.alloc (.cells #[.pointer (some ⟨kb, 0, none⟩)] 61)).alloc (.cells #[.int .i64 0] 2)).alloc (.cells #[.int .i64 0] 2)).alloc (.cells #[.int .i64 0] 49))) := ⟨below_alloc (below_alloc (below_alloc (below_alloc (Below.refl w.heap.size w) _) _) _) _⟩
  have HC4 := Aside0.mk (h.below HB.out)
  have HU4 := Aside0.mk (Upd.of_below (b := cb) HB.out)
  have hcb := h.lt
  have HH := Aside0.mk h
  have hnot : ∀ (x : Bool) (w : World), (Op.unary .not (.bool x)).run Tryz.prog w = .ok (.bool (!x)) w := fun _ _ => rfl
  have HI : Aside0 (instB a = true) := ⟨decide_eq_true hx⟩
  clear hx
  subst hB
  clear h
  go_enter Tryz.func53, Tryz.ntmps53
  go_wp2_with fail
  generalize ((((w.alloc (.cells #[.pointer (some ⟨kb, 0, none⟩)] 61)).alloc (.cells #[.int .i64 0] 2)).alloc (.cells #[.int .i64 0] 2)).alloc (.cells #[.int .i64 0] 49)) = w4 at D4 HC4 HU4 HB ⊢
  have c0 : w4.cell? ⟨w.heap.size, 0, none⟩ = some (.pointer (some ⟨kb, 0, none⟩)) := (blk_cell D4.out.b0 0).trans rfl
  have d1 : w4.cell? ⟨w.heap.size + 1, 0, none⟩ = some (.int .i64 0) := (blk_cell D4.out.b1 0).trans rfl
  have d2 : w4.cell? ⟨w.heap.size + 1 + 1, 0, none⟩ = some (.int .i64 0) := (blk_cell D4.out.b2 0).trans rfl
  have d3 : w4.cell? ⟨w.heap.size + 1 + 1 + 1, 0, none⟩ = some (.int .i64 0) := (blk_cell D4.out.b3 0).trans rfl
  have f2 : w4.frozen? ⟨w.heap.size + 1 + 1, 0, none⟩ = false := blk_frozen D4.out.b2 0
  have f3 : w4.frozen? ⟨w.heap.size + 1 + 1 + 1, 0, none⟩ = false := blk_frozen D4.out.b3 0
  go_wp2_with (first | (go_at_call 86; refine (clknone_any _ HC4.out).mono ?_; rintro e w5 ⟨rfl, rfl⟩) | (go_at_call 87; refine (instant_any a _).mono ?_; rintro e w5 ⟨rfl, hb⟩; rw [HI.out]; have D5 := Aside0.mk (D4.out.below hb); have HC5 := Aside0.mk (HC4.out.below hb); have HU5 := Aside0.mk (HU4.out.then hb); have HB5 := Aside0.mk (below_step HB.out hb); clear hb; have c0 : w5.cell? ⟨w.heap.size, 0, none⟩ = some (.pointer (some ⟨kb, 0, none⟩)) := (blk_cell D5.out.b0 0).trans rfl; have d1 : w5.cell? ⟨w.heap.size + 1, 0, none⟩ = some (.int .i64 0) := (blk_cell D5.out.b1 0).trans rfl; have d2 : w5.cell? ⟨w.heap.size + 1 + 1, 0, none⟩ = some (.int .i64 0) := (blk_cell D5.out.b2 0).trans rfl; have d3 : w5.cell? ⟨w.heap.size + 1 + 1 + 1, 0, none⟩ = some (.int .i64 0) := (blk_cell D5.out.b3 0).trans rfl; have f2 : w5.frozen? ⟨w.heap.size + 1 + 1, 0, none⟩ = false := blk_frozen D5.out.b2 0; have f3 : w5.frozen? ⟨w.heap.size + 1 + 1 + 1, 0, none⟩ = false := blk_frozen D5.out.b3 0))
  have HB9 : Below w.heap.size w ((w5.setCell ⟨w.heap.size + 1 + 1, 0, none⟩ (.int .i64 (a))).setCell ⟨w.heap.size + 1 + 1 + 1, 0, none⟩ (.int .i64 0)) := below_set (below_set HB5.out (by omega)) (by omega)
  have D9 := (D5.out.set2 a).set3 0
  have e2 := (blk_cell D9.b2 0).trans (rfl : _ = some (Value.int .i64 a))
  have e3 := (blk_cell D9.b3 0).trans (rfl : _ = some (Value.int .i64 0))
  refine bodyPost_ret (v := .tuple #[.int .i64 a, .int .i64 0]) (by simp [results, Tryz.results53, go_sem, e2, e3]) rfl ⟨rfl, HH.out.below HB9, Upd.of_below HB9⟩
set_option maxHeartbeats 1600000 in
set_option maxRecDepth 100000 in
theorem due_closed (a B : Int) (w : World) (h : ClkAt w n kb ab pb cb off week closed) (hn : n ≤ w.heap.size) (hx : 0 ≤ a ∧ a ≤ 1125899906842624) (hB : 0 < B) (hs : secs week = 0) :
    Calls Tryz.prog 53 #[.pointer (some ⟨kb, 0, none⟩), .int .i64 a, .int .i64 B] w fun e w' => e = .returned (.tuple #[.int .i64 0, .int .i64 40]) ∧ ClkAt w' n kb ab pb cb off week closed ∧ Upd cb w w' := by
  have D4 := Aside0.mk (DueB.new w (.pointer (some ⟨kb, 0, none⟩)) B)
  have HB : Aside0 (Below w.heap.size w ((((w.alloc (.cells #[.pointer (some ⟨kb, 0, none⟩)] 61)).alloc (.cells #[.int .i64 B] 2)).alloc (.cells #[.int .i64 0] 2)).alloc (.cells #[.int .i64 0] 49))) := ⟨below_alloc (below_alloc (below_alloc (below_alloc (Below.refl w.heap.size w) _) _) _) _⟩
  have HC4 := Aside0.mk (h.below HB.out)
  have HU4 := Aside0.mk (Upd.of_below (b := cb) HB.out)
  have hcb := h.lt
  have HH := Aside0.mk h
  have hnot : ∀ (x : Bool) (w : World), (Op.unary .not (.bool x)).run Tryz.prog w = .ok (.bool (!x)) w := fun _ _ => rfl
  have HI : Aside0 (instB a = true) := ⟨decide_eq_true hx⟩
  have HS := Aside0.mk hs
  have hB0 : (B == 0) = false := beq_eq_false_iff_ne.mpr (by omega)
  clear hx hs
  clear h
  go_enter Tryz.func53, Tryz.ntmps53
  go_wp2_with fail
  generalize ((((w.alloc (.cells #[.pointer (some ⟨kb, 0, none⟩)] 61)).alloc (.cells #[.int .i64 B] 2)).alloc (.cells #[.int .i64 0] 2)).alloc (.cells #[.int .i64 0] 49)) = w4 at D4 HC4 HU4 HB ⊢
  have c0 : w4.cell? ⟨w.heap.size, 0, none⟩ = some (.pointer (some ⟨kb, 0, none⟩)) := (blk_cell D4.out.b0 0).trans rfl
  have d1 : w4.cell? ⟨w.heap.size + 1, 0, none⟩ = some (.int .i64 B) := (blk_cell D4.out.b1 0).trans rfl
  have d2 : w4.cell? ⟨w.heap.size + 1 + 1, 0, none⟩ = some (.int .i64 0) := (blk_cell D4.out.b2 0).trans rfl
  have d3 : w4.cell? ⟨w.heap.size + 1 + 1 + 1, 0, none⟩ = some (.int .i64 0) := (blk_cell D4.out.b3 0).trans rfl
  have f2 : w4.frozen? ⟨w.heap.size + 1 + 1, 0, none⟩ = false := blk_frozen D4.out.b2 0
  have f3 : w4.frozen? ⟨w.heap.size + 1 + 1 + 1, 0, none⟩ = false := blk_frozen D4.out.b3 0
  go_wp2_with (first | (go_at_call 86; refine (clknone_any _ HC4.out).mono ?_; rintro e w5 ⟨rfl, rfl⟩) | (go_at_call 87; refine (instant_any a _).mono ?_; rintro e w5 ⟨rfl, hb⟩; rw [HI.out]; have D5 := Aside0.mk (D4.out.below hb); have HC5 := Aside0.mk (HC4.out.below hb); have HU5 := Aside0.mk (HU4.out.then hb); have HB5 := Aside0.mk (below_step HB.out hb); clear hb; have c0 : w5.cell? ⟨w.heap.size, 0, none⟩ = some (.pointer (some ⟨kb, 0, none⟩)) := (blk_cell D5.out.b0 0).trans rfl; have d1 : w5.cell? ⟨w.heap.size + 1, 0, none⟩ = some (.int .i64 B) := (blk_cell D5.out.b1 0).trans rfl; have d2 : w5.cell? ⟨w.heap.size + 1 + 1, 0, none⟩ = some (.int .i64 0) := (blk_cell D5.out.b2 0).trans rfl; have d3 : w5.cell? ⟨w.heap.size + 1 + 1 + 1, 0, none⟩ = some (.int .i64 0) := (blk_cell D5.out.b3 0).trans rfl; have f2 : w5.frozen? ⟨w.heap.size + 1 + 1, 0, none⟩ = false := blk_frozen D5.out.b2 0; have f3 : w5.frozen? ⟨w.heap.size + 1 + 1 + 1, 0, none⟩ = false := blk_frozen D5.out.b3 0; have k1 : w5.cell? ⟨kb, 1, none⟩ = some (.pointer (some ⟨pb, 0, none⟩)) := (blk_cell HC5.out.blk 1).trans rfl) | (go_at_call 105; refine (total_any n pb cb week _ HC5.out.plan (Nat.le_trans hn HU5.out.size)).mono ?_; rintro e w6 ⟨rfl, hp, hu⟩; rw [HS.out]; have D6 := Aside0.mk (D5.out.upd hu hcb); have HC6 := Aside0.mk (HC5.out.upd hu hp); have HU6 := Aside0.mk (HU5.out.trans hu); clear hp hu; have e0 : w6.cell? ⟨w.heap.size, 0, none⟩ = some (.pointer (some ⟨kb, 0, none⟩)) := (blk_cell D6.out.b0 0).trans rfl; have d1 : w6.cell? ⟨w.heap.size + 1, 0, none⟩ = some (.int .i64 B) := (blk_cell D6.out.b1 0).trans rfl; have d2 : w6.cell? ⟨w.heap.size + 1 + 1, 0, none⟩ = some (.int .i64 0) := (blk_cell D6.out.b2 0).trans rfl; have d3 : w6.cell? ⟨w.heap.size + 1 + 1 + 1, 0, none⟩ = some (.int .i64 0) := (blk_cell D6.out.b3 0).trans rfl; have f2 : w6.frozen? ⟨w.heap.size + 1 + 1, 0, none⟩ = false := blk_frozen D6.out.b2 0; have f3 : w6.frozen? ⟨w.heap.size + 1 + 1 + 1, 0, none⟩ = false := blk_frozen D6.out.b3 0))
  have L := due_left D6.out (x := 0) (y := 40) hcb HC6.out HU6.out (.inr rfl)
  have D9 := (D6.out.set2 0).set3 40
  have e2 := (blk_cell D9.b2 0).trans (rfl : _ = some (Value.int .i64 0))
  have e3 := (blk_cell D9.b3 0).trans (rfl : _ = some (Value.int .i64 40))
  refine bodyPost_ret (v := .tuple #[.int .i64 0, .int .i64 40]) (by simp [results, Tryz.results53, go_sem, e2, e3]) rfl ⟨rfl, L⟩
end Go.Proofs.YtepldlnmeenlbaaGreat.Own
