/- OwnB: Clock, Cut, Lost, New, Clk2, OpenP, Round, Free0, Free. -/
import Derived.Test.YtknlpeabmpllmaaOwnA
import Derived.RangeFuncNested
import Derived.RangeFuncBound
import Derived.RangeFuncCalls
import Derived.RangeFuncLeaves
import Derived.Shelf.Abstract
import Derived.Shelf.RegionOpen
import Derived.WalkKit
import Derived.OwnWalkIn
import Derived.TacticsInMore
import Derived.LoopNIn
import Derived.LoopIn
import Derived.OrdersIn
set_option linter.unusedVariables false
set_option linter.unusedSimpArgs false
namespace Go.Proofs.Ytknlpeabmpllmaa.Own
open Go.RowKit Go.Proofs Go.Proofs.YtknlpeabmpllmaaW.PrintWords Go.Proofs.YtknlpeabmpllmaaW.PrintLast Go.Proofs.YtknlpeabmpllmaaW.PrintMore Go.Proofs.Ytknlpeabmpllmaa.Base
attribute [local go_sem] max2_mx min2_mn max_two min_two

/-- A clock, made from block n on: its almanac at ab, its plan at pb, the plan's cell at cb. -/
structure ClkAt (w : World) (n kb ab pb cb : Nat) (off : Int) (week closed : List S57) : Prop where
  lo : 0 ≤ off
  hi : off < 604800
  nkb : n ≤ kb
  ne : kb ≠ cb
  blk : w.heap[kb]? = some (.cells #[.pointer (some ⟨ab, 0, none⟩), .pointer (some ⟨pb, 0, none⟩), .int .i64 (604800 - off)] 50 (0, 0))
  alm : AlmAt w n ab cb closed
  plan : PlanAt w n pb cb week
variable {w w' : World} {n kb ab pb cb : Nat} {off : Int} {week closed : List S57}
theorem ClkAt.below (h : ClkAt w n kb ab pb cb off week closed) (hb : Below w.heap.size w w') : ClkAt w' n kb ab pb cb off week closed :=
  ⟨h.lo, h.hi, h.nkb, h.ne, blk_below h.blk hb, h.alm.below hb, h.plan.below hb⟩
theorem ClkAt.upd (h : ClkAt w n kb ab pb cb off week closed) (hu : Upd cb w w') (hp : PlanAt w' n pb cb week) : ClkAt w' n kb ab pb cb off week closed :=
  ⟨h.lo, h.hi, h.nkb, h.ne, hu.blk h.blk h.ne, h.alm.upd hu, hp⟩
theorem ClkAt.drew (h : ClkAt w n kb ab pb cb off week closed) : ClkAt w.drew n kb ab pb cb off week closed := h.below (below_drew (Below.refl _ _))

theorem clknone_any (w : World) (h : ClkAt w n kb ab pb cb off week closed) :
    Calls Try.prog 30 #[.pointer (some ⟨kb, 0, none⟩)] w fun e w' => e = .returned (.bool false) ∧ w = w' := by
  have c1 : w.cell? ⟨kb, 1, none⟩ = some (.pointer (some ⟨pb, 0, none⟩)) := (blk_cell h.blk 1).trans rfl
  clear h
  go_enter Try.func30, Try.ntmps30
  go_wp2
  go_ret
  exact ⟨rfl, rfl⟩
theorem clknone_nil (w : World) :
    Calls Try.prog 30 #[.pointer none] w fun e w' => e = .returned (.bool true) ∧ w = w' := by
  go_enter Try.func30, Try.ntmps30
  go_wp2
  go_ret
  exact ⟨rfl, rfl⟩
def instB (t : Int) : Bool := decide (0 ≤ t ∧ t ≤ 1125899906842624)
theorem instant_any (t : Int) (w : World) : Calls Try.prog 31 #[.int .i64 t] w fun e w' => e = .returned (.bool (instB t)) ∧ Below w.heap.size w w' :=
  (calendar_instant.calls t (instB t) w (by unfold calendar_instant.f instB; by_cases h : 0 ≤ t <;> simp [h])).mono fun _ _ h => ⟨h.1, h.2.below⟩

def weekly_T1 : Bool × List (List Nat × List Nat) := (true, [([], []), ([0], [0]), ([1], [1]), ([2], [2]), ([], []), ([], []), ([5], [5]), ([6], [6]), ([7], [7]), ([4, 8], [4, 8]), ([], []), ([], []), ([11], [11]), ([12], [12]), ([13], [13]), ([10, 14], [10, 14]), ([3, 9, 15], [3, 9, 15]), ([16, 16, 0, 1, 2, 3, 4, 5, 6, 7, 8, 9, 10, 11, 12, 13, 14, 15, 16], [16])])
def weekly_B1 : List Nat := [0, 1, 3, 7, 0, 0, 32, 96, 224, 496, 0, 0, 2048, 6144, 14336, 31744, 65535, 131071]
theorem weekly_tab1 : rtab .any (opsOf Try.f34 1) = weekly_T1 := by kernel_rfl
theorem weekly_bits1 : waitsOk weekly_T1.2 weekly_B1 = true := by kernel_rfl

/-- How many open seconds its weeks have between two instants. -/
def weeklyP (off : Int) (week : List S57) (a b : Int) : Int := betweenP week (a + (604800 - off)) (b + (604800 - off))
set_option maxHeartbeats 1600000 in
set_option maxRecDepth 100000 in
theorem weekly_any (a b : Int) (w : World) (h : ClkAt w n kb ab pb cb off week closed) (hn : n ≤ w.heap.size) (a0 : 0 ≤ a) (a1 : a ≤ 1125899906842624) (b0 : 0 ≤ b) (b1 : b ≤ 1125899906842624) :
    Calls Try.prog 34 #[.pointer (some ⟨kb, 0, none⟩), .int .i64 a, .int .i64 b] w fun e w' => e = .returned (.int .i64 (weeklyP off week a b)) ∧ ClkAt w' n kb ab pb cb off week closed ∧ Upd cb w w' := by
  have HC := Aside0.mk h.drew
  have HN : Aside0 (n ≤ w.drew.heap.size) := ⟨hn⟩
  have HU : Aside0 (Upd cb w w.drew) := ⟨(Upd.refl cb w).drew⟩
  have c1 : w.drew.cell? ⟨kb, 1, none⟩ = some (.pointer (some ⟨pb, 0, none⟩)) := (blk_cell HC.out.blk 1).trans rfl
  have c2 : w.drew.cell? ⟨kb, 2, none⟩ = some (.int .i64 (604800 - off)) := (blk_cell HC.out.blk 2).trans rfl
  have hlo := h.lo
  have hhi := h.hi
  have HE : Aside0 (weeklyP off week a b = betweenP week (wrap64 (a + (604800 - off))) (wrap64 (b + (604800 - off)))) := ⟨by rw [wrap_id (by omega) (by omega), wrap_id (by omega) (by omega)]; rfl⟩
  rw [HE.out]
  clear h hn HE
  go_enter Try.func34, Try.ntmps34
  go_wp2
  refine start_ (n := 18) (S := fun w' => w'.cell? ⟨kb, 1, none⟩ = some (.pointer (some ⟨pb, 0, none⟩)) ∧ w'.cell? ⟨kb, 2, none⟩ = some (.int .i64 (604800 - off))) (ds := []) #[false, false, false, false, false, false, false, false, false, false, false, false, false, false, false, false, false, false] (by kernel_rfl) rfl rfl ⟨c1, c2⟩ (fun hHeld => ?_); refine with_tabW weekly_tab1 weekly_bits1 (fun HT_ HW_ => ?_)
  refine pure_ (i := 0) (N := some 7) (v := ?_) (a' := ?_) #[true, false, false, false, false, false, false, false, false, false, false, false, false, false, false, false, false, false] rfl rfl (any_of HT_.out (by kernel_rfl)) (fun _ _ _ h => h) (Or.inl ⟨by rfl, ?_⟩) ?_ ?_
  rotate_left
  · intro w'
    go_simp
    with_reducible rfl
  rotate_left
  · simp only [Act.put, List.setIfInBounds_toArray, List.set_cons_zero, List.set_cons_succ, i64_w, i32_w]
    rfl
  refine pure_ (i := 1) (N := some 8) (v := ?_) (a' := ?_) #[true, true, false, false, false, false, false, false, false, false, false, false, false, false, false, false, false, false] rfl rfl (any_of HT_.out (by kernel_rfl)) (fun _ _ _ h => h) (Or.inl ⟨by rfl, ?_⟩) ?_ ?_
  rotate_left
  · intro w'
    go_simp
    with_reducible rfl
  rotate_left
  · simp only [Act.put, List.setIfInBounds_toArray, List.set_cons_zero, List.set_cons_succ, i64_w, i32_w]
    rfl
  refine pure_ (i := 2) (N := some 9) (v := ?_) (a' := ?_) #[true, true, true, false, false, false, false, false, false, false, false, false, false, false, false, false, false, false] rfl rfl (any_of HT_.out (by kernel_rfl)) (fun _ _ _ h => h) (Or.inl ⟨by rfl, ?_⟩) ?_ ?_
  rotate_left
  · intro w'
    go_simp
    with_reducible rfl
  rotate_left
  · simp only [Act.put, List.setIfInBounds_toArray, List.set_cons_zero, List.set_cons_succ, i64_w, i32_w]
    rfl
  refine pure_ (i := 4) (N := some 11) (v := ?_) (a' := ?_) #[true, true, true, false, true, false, false, false, false, false, false, false, false, false, false, false, false, false] rfl rfl (any_of HT_.out (by kernel_rfl)) (fun _ _ _ h => h) (Or.inl ⟨by rfl, ?_⟩) ?_ ?_
  rotate_left
  · intro w'
    go_simp
    with_reducible rfl
  rotate_left
  · simp only [Act.put, List.setIfInBounds_toArray, List.set_cons_zero, List.set_cons_succ, i64_w, i32_w]
    rfl
  refine pure_ (i := 5) (N := some 12) (v := ?_) (a' := ?_) #[true, true, true, false, true, true, false, false, false, false, false, false, false, false, false, false, false, false] rfl rfl (any_of HT_.out (by kernel_rfl)) (fun _ _ _ h => h) (Or.inl ⟨by rfl, ?_⟩) ?_ ?_
  rotate_left
  · intro w'
    go_simp
    with_reducible rfl
  rotate_left
  · simp only [Act.put, List.setIfInBounds_toArray, List.set_cons_zero, List.set_cons_succ, i64_w, i32_w]
    rfl
  refine pure_ (i := 6) (N := some 13) (v := ?_) (a' := ?_) #[true, true, true, false, true, true, true, false, false, false, false, false, false, false, false, false, false, false] rfl rfl (any_of HT_.out (by kernel_rfl)) (fun _ _ _ h => h) (Or.inl ⟨by rfl, ?_⟩) ?_ ?_
  rotate_left
  · intro w'
    go_simp
    with_reducible rfl
  rotate_left
  · simp only [Act.put, List.setIfInBounds_toArray, List.set_cons_zero, List.set_cons_succ, i64_w, i32_w]
    rfl
  refine pure_ (i := 7) (N := some 14) (v := ?_) (a' := ?_) #[true, true, true, false, true, true, true, true, false, false, false, false, false, false, false, false, false, false] rfl rfl (any_of HT_.out (by kernel_rfl)) (fun _ _ _ h => h) (Or.inl ⟨by rfl, ?_⟩) ?_ ?_
  rotate_left
  · intro w'
    go_simp
    with_reducible rfl
  rotate_left
  · simp only [Act.put, List.setIfInBounds_toArray, List.set_cons_zero, List.set_cons_succ, i64_w, i32_w]
    rfl
  refine pure_ (i := 10) (N := some 17) (v := ?_) (a' := ?_) #[true, true, true, false, true, true, true, true, false, false, true, false, false, false, false, false, false, false] rfl rfl (any_of HT_.out (by kernel_rfl)) (fun _ _ _ h => h) (Or.inl ⟨by rfl, ?_⟩) ?_ ?_
  rotate_left
  · intro w'
    go_simp
    with_reducible rfl
  rotate_left
  · simp only [Act.put, List.setIfInBounds_toArray, List.set_cons_zero, List.set_cons_succ, i64_w, i32_w]
    rfl
  refine pure_ (i := 11) (N := some 18) (v := ?_) (a' := ?_) #[true, true, true, false, true, true, true, true, false, false, true, true, false, false, false, false, false, false] rfl rfl (any_of HT_.out (by kernel_rfl)) (fun _ _ _ h => h) (Or.inl ⟨by rfl, ?_⟩) ?_ ?_
  rotate_left
  · intro w'
    go_simp
    with_reducible rfl
  rotate_left
  · simp only [Act.put, List.setIfInBounds_toArray, List.set_cons_zero, List.set_cons_succ, i64_w, i32_w]
    rfl
  refine pure_ (i := 12) (N := some 19) (v := ?_) (a' := ?_) #[true, true, true, false, true, true, true, true, false, false, true, true, true, false, false, false, false, false] rfl rfl (any_of HT_.out (by kernel_rfl)) (fun _ _ _ h => h) (Or.inl ⟨by rfl, ?_⟩) ?_ ?_
  rotate_left
  · intro w'
    go_simp
    with_reducible rfl
  rotate_left
  · simp only [Act.put, List.setIfInBounds_toArray, List.set_cons_zero, List.set_cons_succ, i64_w, i32_w]
    rfl
  refine pure_ (i := 13) (N := some 20) (v := ?_) (a' := ?_) #[true, true, true, false, true, true, true, true, false, false, true, true, true, true, false, false, false, false] rfl rfl (any_of HT_.out (by kernel_rfl)) (fun _ _ _ h => h) (Or.inl ⟨by rfl, ?_⟩) ?_ ?_
  rotate_left
  · intro w'
    go_simp
    with_reducible rfl
  rotate_left
  · simp only [Act.put, List.setIfInBounds_toArray, List.set_cons_zero, List.set_cons_succ, i64_w, i32_w]
    rfl
  refine take_ (i := 3) (N := some 10) (v := ?_) (a' := ?_) #[true, true, true, true, true, true, true, true, false, false, true, true, true, true, false, false, false, false] rfl rfl (take_ofW HT_.out HW_.out (by kernel_rfl)) (fun _ _ _ h => h) (Or.inl ⟨by rfl, ?_⟩) hHeld ?_ ?_
  rotate_left
  · rintro w' ⟨s0, s1⟩
    go_simp
    with_reducible rfl
  rotate_left
  · simp only [Act.put, List.setIfInBounds_toArray, List.set_cons_zero, List.set_cons_succ, i64_w, i32_w]
    rfl
  refine take_ (i := 8) (N := some 15) (v := ?_) (a' := ?_) #[true, true, true, true, true, true, true, true, true, false, true, true, true, true, false, false, false, false] rfl rfl (take_ofW HT_.out HW_.out (by kernel_rfl)) (fun _ _ _ h => h) (Or.inl ⟨by rfl, ?_⟩) hHeld ?_ ?_
  rotate_left
  · rintro w' ⟨s0, s1⟩
    go_simp
    with_reducible rfl
  rotate_left
  · simp only [Act.put, List.setIfInBounds_toArray, List.set_cons_zero, List.set_cons_succ, i64_w, i32_w]
    rfl
  refine pure_ (i := 9) (N := some 16) (v := ?_) (a' := ?_) #[true, true, true, true, true, true, true, true, true, true, true, true, true, true, false, false, false, false] rfl rfl (any_of HT_.out (by kernel_rfl)) (fun _ _ _ h => h) (Or.inl ⟨by rfl, ?_⟩) ?_ ?_
  rotate_left
  · intro w'
    go_simp
    with_reducible rfl
  rotate_left
  · simp only [Act.put, List.setIfInBounds_toArray, List.set_cons_zero, List.set_cons_succ, i64_w, i32_w]
    rfl
  refine take_ (i := 14) (N := some 21) (v := ?_) (a' := ?_) #[true, true, true, true, true, true, true, true, true, true, true, true, true, true, true, false, false, false] rfl rfl (take_ofW HT_.out HW_.out (by kernel_rfl)) (fun _ _ _ h => h) (Or.inl ⟨by rfl, ?_⟩) hHeld ?_ ?_
  rotate_left
  · rintro w' ⟨s0, s1⟩
    go_simp
    with_reducible rfl
  rotate_left
  · simp only [Act.put, List.setIfInBounds_toArray, List.set_cons_zero, List.set_cons_succ, i64_w, i32_w]
    rfl
  refine pure_ (i := 15) (N := some 22) (v := ?_) (a' := ?_) #[true, true, true, true, true, true, true, true, true, true, true, true, true, true, true, true, false, false] rfl rfl (any_of HT_.out (by kernel_rfl)) (fun _ _ _ h => h) (Or.inl ⟨by rfl, ?_⟩) ?_ ?_
  rotate_left
  · intro w'
    go_simp
    with_reducible rfl
  rotate_left
  · simp only [Act.put, List.setIfInBounds_toArray, List.set_cons_zero, List.set_cons_succ, i64_w, i32_w]
    rfl
  refine one_ (i := 16) (N := some 23) #[true, true, true, true, true, true, true, true, true, true, true, true, true, true, true, true, true, false] rfl rfl (one_of HT_.out (by kernel_rfl)) (by decide) (fun K hK => ?_)
  refine goes_ Try.func60 (by kernel_rfl) rfl #[.pointer (some ⟨pb, 0, none⟩), .int .i64 (wrap64 (a + (604800 - off))), .int .i64 (wrap64 (b + (604800 - off)))] (by rfl) rfl rfl (by (try simp only [List.map_toArray, List.map_cons, List.map_nil]); first | done | rfl) ?_
  refine (between_any n pb cb week _ _ _ HC.out.plan HN.out).mono ?_
  rintro e w2 ⟨rfl, P2, U2⟩
  refine ⟨_, rfl, ?_⟩
  have HC2 := Aside0.mk (HC.out.upd U2 P2)
  have HU2 := Aside0.mk (HU.out.trans U2)
  have e1 : w2.cell? ⟨kb, 1, none⟩ = some (.pointer (some ⟨pb, 0, none⟩)) := (blk_cell HC2.out.blk 1).trans rfl
  have e2 : w2.cell? ⟨kb, 2, none⟩ = some (.int .i64 (604800 - off)) := (blk_cell HC2.out.blk 2).trans rfl
  clear P2 U2
  refine hK.out _ _ ⟨e1, e2⟩ (fun hHeld => ?_)
  clear hK K
  refine norm_ (a' := ?_) ?_ ?_
  rotate_left
  · show Act.put _ (some 23) _ = _
    simp only [Act.put, List.setIfInBounds_toArray, List.set_cons_zero, List.set_cons_succ, i64_w, i32_w]
    rfl
  refine switch_ (fun hHeld => ?_)
  refine pure_ (i := 17) (N := some 6) (v := ?_) (a' := ?_) #[true, true, true, true, true, true, true, true, true, true, true, true, true, true, true, true, true, true] rfl rfl (any_of HT_.out (by kernel_rfl)) (fun _ _ _ h => h) (Or.inl ⟨by rfl, ?_⟩) ?_ ?_
  rotate_left
  · intro w'
    go_simp
    with_reducible rfl
  rotate_left
  · simp only [Act.put, List.setIfInBounds_toArray, List.set_cons_zero, List.set_cons_succ, i64_w, i32_w]
    rfl
  refine done_ (done_of HT_.out (by kernel_rfl)) ?_
  go_wp2
  go_ret
  exact ⟨rfl, HC2.out, HU2.out⟩
end Go.Proofs.Ytknlpeabmpllmaa.Own

set_option linter.unusedVariables false
set_option linter.unusedSimpArgs false
namespace Go.Proofs.Ytknlpeabmpllmaa.Own
open Go.RowKit Go.Proofs Go.Proofs.YtknlpeabmpllmaaW.PrintWords Go.Proofs.YtknlpeabmpllmaaW.PrintLast Go.Proofs.YtknlpeabmpllmaaW.PrintMore Go.Proofs.Ytknlpeabmpllmaa.Base

/-- What a row has between two instants. -/
def cutP (l : List S57) (a b : Int) : List S57 := (l.map fun s => (⟨mx s.f0 a, mn s.f1 b⟩ : S57)).filter fun s => decide (s.f0 < s.f1)
theorem cutP_nil (a b : Int) : cutP [] a b = [] := rfl
theorem cutP_cons (s : S57) (r : List S57) (a b : Int) : cutP (s :: r) a b = if mx s.f0 a < mn s.f1 b then ⟨mx s.f0 a, mn s.f1 b⟩ :: cutP r a b else cutP r a b := by
  unfold cutP
  rw [List.map_cons, List.filter_cons]
  simp
theorem cutP_snoc (l : List S57) (s : S57) (a b : Int) : cutP (l ++ [s]) a b = cutP l a b ++ (if mx s.f0 a < mn s.f1 b then [⟨mx s.f0 a, mn s.f1 b⟩] else []) := by
  unfold cutP
  rw [List.map_append, List.filter_append]
  congr 1
  by_cases h : mx s.f0 a < mn s.f1 b <;> simp [h]
theorem cutP_length (l : List S57) (a b : Int) : (cutP l a b).length ≤ l.length := by
  unfold cutP
  exact Nat.le_trans (List.length_filter_le _ _) (by simp)
theorem take_at {l : List S57} {i : Nat} (h : i < l.length) : l.take (i + 1) = l.take i ++ [rd_T57 l i] := by
  rw [rd_at l i h, List.take_succ_eq_append_getElem h]
theorem cut_l0 (l : List S57) (a b : Int) (hl : l.length ≤ 1000000) : ∀ (d k i : Nat), i + d = l.length → d < k → span_Cut.l0 k a b (cutP (l.take i) a b) l (l.length : Int) (i : Int) = some (cutP l a b) := by
  intro d
  induction d with
  | zero =>
    intro k i hi hk
    obtain ⟨k, rfl⟩ : ∃ m, k = m + 1 := ⟨k - 1, by omega⟩
    simp only [span_Cut.l0]
    rw [if_neg (by omega), List.take_of_length_le (by omega)]
  | succ d ih =>
    intro k i hi hk
    obtain ⟨k, rfl⟩ : ∃ m, k = m + 1 := ⟨k - 1, by omega⟩
    have hlt : i < l.length := by omega
    have ih' := ih k (i + 1) (by omega) (by omega)
    rw [take_at hlt, cutP_snoc] at ih'
    have hlen := cutP_length (l.take i) a b
    have hlen2 : (l.take i).length = i := by simp; omega
    simp only [span_Cut.l0]
    rw [if_pos (by omega), if_pos (by omega), if_pos (by omega), wrap_id (by omega) (by omega)]
    simp only [span_common.f, Option.bind_some]
    rw [show ((i : Int) + 1) = ((i + 1 : Nat) : Int) by omega]
    by_cases h : mx (rd_T57 l i).f0 a < mn (rd_T57 l i).f1 b
    · rw [if_pos h] at ih' ⊢
      rw [if_pos (by omega)]
      exact ih'
    · rw [if_neg h] at ih' ⊢
      rw [List.append_nil] at ih'
      exact ih'
theorem cut_eq (l : List S57) (a b : Int) (h : rowErr l = 0) : span_Cut.f 200 l a b = some (cutP l a b) := by
  have hl := (rowErr_ok h).len
  unfold span_Cut.f
  rw [row_eq l 200 (by omega), h]
  simp only [Option.bind_some, if_true]
  exact cut_l0 l a b (by omega) l.length 200 0 (by omega) (by omega)
theorem cutP_mem {hi : Int} {l : List S57} (h : RowOk hi l) (a b : Int) : ∀ s, s ∈ cutP l a b → 0 ≤ s.f0 ∧ a ≤ s.f0 ∧ s.f0 < s.f1 ∧ s.f1 ≤ hi ∧ s.f1 ≤ b := by
  intro s hs
  unfold cutP at hs
  rw [List.mem_filter, List.mem_map] at hs
  obtain ⟨⟨t, ht, rfl⟩, h2⟩ := hs
  have h3 := h.mem t ht
  have h4 := of_decide_eq_true h2
  simp only [mx, mn] at h4 ⊢
  split at h4 <;> split at h4 <;> rename_i c1 c2 <;> simp only [c1, c2, if_true, if_false] <;> omega
theorem RowOk.err {l : List S57} (h : RowOk 1125899906842624 l) : rowErr l = 0 := by
  have key : ∀ (l : List S57) (lo : Int), 0 ≤ lo → RowFrom lo l → (∀ s, s ∈ l → s.f1 ≤ 1125899906842624) → okRow lo l = true := by
    intro l
    induction l with
    | nil => intros; rfl
    | cons s r ih =>
      intro lo hlo hr ht
      have := ht s List.mem_cons_self
      obtain ⟨h1, h2, h3⟩ := hr
      unfold okRow
      rw [ih s.f1 (by omega) h3 (fun t ht' => ht t (List.mem_cons_of_mem _ ht')), decide_eq_true (by omega)]
      rfl
  unfold rowErr
  rw [if_neg (by have := h.len; omega), key l 0 (by omega) h.row h.top]
  rfl
end Go.Proofs.Ytknlpeabmpllmaa.Own

set_option linter.unusedVariables false
set_option linter.unusedSimpArgs false
namespace Go.Proofs.Ytknlpeabmpllmaa.Own
open Go.RowKit Go.Proofs Go.Proofs.YtknlpeabmpllmaaW.PrintWords Go.Proofs.YtknlpeabmpllmaaW.PrintLast Go.Proofs.YtknlpeabmpllmaaW.PrintMore Go.Proofs.Ytknlpeabmpllmaa.Base
attribute [local go_sem] max2_mx min2_mn max_two min_two
variable {w w' : World} {n kb ab pb cb : Nat} {off : Int} {week closed : List S57}

/-- How many open seconds the weeks have in spans. -/
def sumW (off : Int) (week : List S57) : List S57 → Int
  | [] => 0
  | s :: r => weeklyP off week s.f0 s.f1 + sumW off week r
theorem sumW_append (off : Int) (week a b : List S57) : sumW off week (a ++ b) = sumW off week a + sumW off week b := by
  induction a with
  | nil => simp [sumW]
  | cons s r ih => simp [sumW, ih]; omega
theorem sumW_bound (off : Int) {week : List S57} (h : RowOk 604800 week) (l : List S57) : 0 ≤ sumW off week l ∧ sumW off week l ≤ 2251799815500000 * l.length := by
  induction l with
  | nil => exact ⟨Int.le_refl _, by simp [sumW]⟩
  | cons s r ih =>
    have := between_bound h (s.f0 + (604800 - off)) (s.f1 + (604800 - off))
    simp only [sumW, List.length_cons, weeklyP]
    omega

set_option maxHeartbeats 4000000 in
set_option maxRecDepth 100000 in
theorem lost_any (a b : Int) (w : World) (h : ClkAt w n kb ab pb cb off week closed) (hn : n ≤ w.heap.size) (a0 : 0 ≤ a) (b1 : b ≤ 1125899906842624) :
    Calls Try.prog 43 #[.pointer (some ⟨ab, 0, none⟩), .int .i64 a, .int .i64 b, .func (.func 34) #[.pointer (some ⟨kb, 0, none⟩)] #[]] w fun e w' => e = .returned (.int .i64 (sumW off week (cutP closed a b))) ∧ ClkAt w' n kb ab pb cb off week closed ∧ Upd cb w w' := by
  obtain ⟨A, c, hb, hc, hr⟩ := h.alm.blk
  have HC := Aside0.mk h
  have HN := Aside0.mk hn
  have HB0 := Aside0.mk hb
  have HR := Aside0.mk (Kd.R_reads' hr).2.2
  have HCUT := Aside0.mk (cut_eq closed a b h.alm.ok.err)
  have HMEM := Aside0.mk (cutP_mem h.alm.ok a b)
  have hlen : (cutP closed a b).length ≤ 32 := Nat.le_trans (cutP_length _ _ _) h.alm.ok.len
  have hcb : Aside0 (cb < w.heap.size) := by
    obtain ⟨m, k, ⟨lv, hx⟩ | ⟨v, hx, _⟩⟩ := h.plan.cell
    · exact ⟨blk_lt hx⟩
    · exact ⟨blk_lt hx⟩
  have HWO := Aside0.mk h.plan.ok
  have hneq : ∀ (fn : Fn) (first captured : Array Value) (w : World), Sem.run Try.prog (binOp BinOp.eql 66 (Value.func fn first captured) Value.nilFunc) w = .ok (.bool false) w := fun _ _ _ _ => by kernel_rfl
  generalize cutP closed a b = cut at HCUT HMEM hlen ⊢
  clear h hn hb hr
  go_enter Try.func43, Try.ntmps43
  go_wp2_with (first | (go_at_call 63; refine (all_any n ab cb closed A c _ HB0.out).mono ?_; rintro e w1 ⟨rfl, rfl⟩) | (go_at_call 64; refine (span_Cut.calls 200 A c closed a b cut _ HR.out hc HCUT.out).mono ?_; rintro e w1 ⟨v, rfl, hR, hb⟩; obtain ⟨A2, c2, rfl, hl2, _⟩ := Kd.R_reads hR; have HK := Aside0.mk (show Kd.R k57 57 w1 n (fun k => k ≠ cb) (.slice A2 cut.length c2) cut from Kd.R_lower (Kd.R_mono (Kd.R_bound hR) (fun k hk => by have := hk.2.1; have := hcb.out; omega)) HN.out); have HC1 := Aside0.mk (HC.out.below hb); have HU1 := Aside0.mk (Upd.of_below (b := cb) hb); clear hR hb))
  go_loopg [8, 19] cut.length (fun g v8 v19 w' => ∃ i : Int, v19 = .int .i64 i ∧ v8 = .int .i64 (sumW off week (cut.take i.toNat)) ∧ Aside0 (0 ≤ i ∧ (g : Int) + i = cut.length) ∧ Aside0 (Kd.R k57 57 w' n (fun k => k ≠ cb) (.slice A2 cut.length c2) cut) ∧ Aside0 (ClkAt w' n kb ab pb cb off week closed) ∧ Aside0 (Upd cb w w'))
  case atStart => exact ⟨0, rfl, rfl, ⟨by omega, by omega⟩, HK, HC1, HU1⟩
  case round =>
    clear HK HC1 HU1
    obtain ⟨i, rfl, rfl, HI, HK, HC1, HU1⟩ := hrel
    by_cases hi : i < cut.length
    · have p0 : 0 ≤ i := HI.out.1
      obtain ⟨ad, e, hx0, hx1⟩ := at_T57 (Kd.R_reads' HK.out).2.2 i p0 hi
      cases e
      have hin : i.toNat < cut.length := by omega
      have hrd : rd_T57 cut i = cut[i.toNat]'hin := by rw [← rd_at cut i.toNat hin]; congr 1; omega
      have hm := HMEM.out (rd_T57 cut i) (by rw [hrd]; exact List.getElem_mem _)
      have hs := sumW_bound off HWO.out (cut.take i.toNat)
      have hw := between_bound HWO.out ((rd_T57 cut i).f0 + (604800 - off)) ((rd_T57 cut i).f1 + (604800 - off))
      have htl : (cut.take i.toNat).length ≤ 32 := by simp; omega
      have HSN : Aside0 (sumW off week (cut.take (i + 1).toNat) = sumW off week (cut.take i.toNat) + weeklyP off week (rd_T57 cut i).f0 (rd_T57 cut i).f1) := ⟨by
        rw [show (i + 1).toNat = i.toNat + 1 by omega, List.take_succ_eq_append_getElem hin, sumW_append, hrd]
        simp [sumW]⟩
      have z0 : 0 ≤ sumW off week (cut.take i.toNat) := hs.1
      have z1 : sumW off week (cut.take i.toNat) ≤ 72057594096000000 := by omega
      have z2 : 0 ≤ weeklyP off week (rd_T57 cut i).f0 (rd_T57 cut i).f1 := hw.1
      have z3 : weeklyP off week (rd_T57 cut i).f0 (rd_T57 cut i).f1 ≤ 2251799815500000 := hw.2
      have HM : Aside0 (0 ≤ (rd_T57 cut i).f0 ∧ (rd_T57 cut i).f0 ≤ 1125899906842624 ∧ 0 ≤ (rd_T57 cut i).f1 ∧ (rd_T57 cut i).f1 ≤ 1125899906842624) := ⟨by omega⟩
      have HKA := Aside0.mk (Kd.R_alloc HK.out (.cells #[.int .i64 (rd_T57 cut i).f0, .int .i64 (rd_T57 cut i).f1] 57))
      have HCA := Aside0.mk (HC1.out.below (below_alloc (Below.refl _ _) (.cells #[.int .i64 (rd_T57 cut i).f0, .int .i64 (rd_T57 cut i).f1] 57)))
      have HUA := Aside0.mk (HU1.out.alloc (.cells #[.int .i64 (rd_T57 cut i).f0, .int .i64 (rd_T57 cut i).f1] 57))
      have HNA : Aside0 (n ≤ (wr.alloc (.cells #[.int .i64 (rd_T57 cut i).f0, .int .i64 (rd_T57 cut i).f1] 57)).heap.size) := ⟨Nat.le_trans HN.out HUA.out.size⟩
      clear hrd hm hs hw htl
      go_wp2_with (go_at_call 34; refine (weekly_any _ _ _ HCA.out HNA.out HM.out.1 HM.out.2.1 HM.out.2.2.1 HM.out.2.2.2).mono ?_; rintro e w3 ⟨rfl, C3, U3⟩; have HC3 := Aside0.mk C3; have HU3 := Aside0.mk (HUA.out.trans U3); have HK3 := Aside0.mk (Kd.R_grown HKA.out U3 (fun k hk e => hk (by injection e))); clear C3 U3)
      go_roundg (gk - 1)
      case measure => have := HI.out; omega
      case rel => exact ⟨i + 1, (by first | rfl | go_num), by rw [HSN.out], ⟨by have := HI.out; omega, by have := HI.out; omega⟩, HK3, HC3, HU3⟩
    · have hi' : i = cut.length := by have := HI.out; omega
      have HE : Aside0 (sumW off week (cut.take i.toNat) = sumW off week cut) := ⟨by rw [hi', Int.toNat_natCast, List.take_length]⟩
      clear hi'
      go_wp2
      go_ret
      exact ⟨by rw [← HE.out]; rfl, HC1.out, HU1.out⟩

/-- How many open instants there are between two. -/
def elapP (off : Int) (week closed : List S57) (a b : Int) : Int := weeklyP off week a b - sumW off week (cutP closed a b)
def elap_T5 : Bool × List (List Nat × List Nat) := (true, [([], []), ([], []), ([], []), ([0, 1, 2], [0, 1, 2]), ([], []), ([4], [4]), ([5], [5]), ([6], [6]), ([], []), ([], []), ([], []), ([10], [10]), ([7, 8, 9, 11, 3], [7, 8, 9, 11]), ([3, 12], [3, 12]), ([13, 12, 0, 1, 2, 3, 4, 5, 6, 7, 8, 9, 10, 11, 12, 13], [13]), ([14, 0, 1, 2, 3, 4, 5, 6, 7, 8, 9, 10, 11, 12, 13, 14], [])])
def elap_B5 : List Nat := [0, 0, 0, 7, 0, 16, 48, 112, 0, 0, 0, 1024, 4095, 8191, 16383, 32767]
theorem elap_tab5 : rtab .any (opsOf Try.f20 5) = elap_T5 := by kernel_rfl
theorem elap_bits5 : waitsOk elap_T5.2 elap_B5 = true := by kernel_rfl

set_option maxHeartbeats 4000000 in
set_option maxRecDepth 100000 in
theorem elapsed_any (a b : Int) (w : World) (h : ClkAt w n kb ab pb cb off week closed) (hn : n ≤ w.heap.size) (a0 : 0 ≤ a) (hab : a ≤ b) (b1 : b ≤ 1125899906842624) :
    Calls Try.prog 20 #[.pointer (some ⟨kb, 0, none⟩), .int .i64 a, .int .i64 b] w fun e w' => e = .returned (.tuple #[.int .i64 (elapP off week closed a b), .int .i64 0]) ∧ ClkAt w' n kb ab pb cb off week closed ∧ Upd cb w w' := by
  have HC := Aside0.mk h
  have HN := Aside0.mk hn
  have HU := Aside0.mk (Upd.refl cb w)
  have ia : instB a = true := by unfold instB; exact decide_eq_true (by omega)
  have ib : instB b = true := by unfold instB; exact decide_eq_true (by omega)
  have HIA := Aside0.mk ia
  have HIB := Aside0.mk ib
  have hnot : ∀ (x : Bool) (w : World), (Op.unary .not (.bool x)).run Try.prog w = .ok (.bool (!x)) w := fun _ _ => rfl
  have hmf : ∀ (fn : Fn) (first cap : Array Value) (w : World), (Instr.makeFunc fn first cap).run Try.prog w = .ok (.func fn first cap) w := fun _ _ _ _ => rfl
  have hle : ¬ b < a := by omega
  have hled : decide (b < a) = false := decide_eq_false hle
  have hw := between_bound h.plan.ok (a + (604800 - off)) (b + (604800 - off))
  have hsm := sumW_bound off h.plan.ok (cutP closed a b)
  have hlen : (cutP closed a b).length ≤ 32 := Nat.le_trans (cutP_length _ _ _) h.alm.ok.len
  have HE : Aside0 (wrap64 (weeklyP off week a b - sumW off week (cutP closed a b)) = elapP off week closed a b) := ⟨by unfold elapP; rw [show weeklyP off week a b = betweenP week (a + (604800 - off)) (b + (604800 - off)) from rfl]; exact wrap_id (by omega) (by omega)⟩
  clear h hn ia ib hw hsm hlen
  go_enter Try.func20, Try.ntmps20
  go_wp2_with (first | (go_at_call 30; refine (clknone_any _ HC.out).mono ?_; rintro e w1 ⟨rfl, rfl⟩) | (go_at_call 31; refine (instant_any _ _).mono ?_; rintro e w1 ⟨rfl, hb⟩; (first | rw [HIA.out] | rw [HIB.out]); have n0 := Aside0.mk (HC.out.below hb); have n1 := Aside0.mk (HU.out.then hb); have n2 := Aside0.mk (Nat.le_trans HN.out hb.size); clear HC HU HN hb; have HC := n0; have HU := n1; have HN := n2; clear n0 n1 n2))
  have HC1 := Aside0.mk HC.out.drew
  have HN1 : Aside0 (n ≤ w1.drew.heap.size) := ⟨HN.out⟩
  have HU1 : Aside0 (Upd cb w w1.drew) := ⟨HU.out.drew⟩
  have c0 : w1.drew.cell? ⟨kb, 0, none⟩ = some (.pointer (some ⟨ab, 0, none⟩)) := (blk_cell HC1.out.blk 0).trans rfl
  have HAB : Aside0 (0 ≤ a ∧ a ≤ 1125899906842624 ∧ 0 ≤ b ∧ b ≤ 1125899906842624) := ⟨by omega⟩
  refine start_ (n := 16) (S := fun w' => w'.cell? ⟨kb, 0, none⟩ = some (.pointer (some ⟨ab, 0, none⟩))) (ds := []) #[false, false, false, false, false, false, false, false, false, false, false, false, false, false, false, false] (by kernel_rfl) rfl rfl c0 (fun hHeld => ?_); refine with_tabW elap_tab5 elap_bits5 (fun HT_ HW_ => ?_)
  refine pure_ (i := 0) (N := some 25) (v := ?_) (a' := ?_) #[true, false, false, false, false, false, false, false, false, false, false, false, false, false, false, false] rfl rfl (any_of HT_.out (by kernel_rfl)) (fun _ _ _ h => h) (Or.inl ⟨by rfl, ?_⟩) ?_ ?_
  rotate_left
  · intro w'
    go_simp
    with_reducible rfl
  rotate_left
  · simp only [Act.put, List.setIfInBounds_toArray, List.set_cons_zero, List.set_cons_succ, i64_w, i32_w]
    rfl
  refine pure_ (i := 1) (N := some 26) (v := ?_) (a' := ?_) #[true, true, false, false, false, false, false, false, false, false, false, false, false, false, false, false] rfl rfl (any_of HT_.out (by kernel_rfl)) (fun _ _ _ h => h) (Or.inl ⟨by rfl, ?_⟩) ?_ ?_
  rotate_left
  · intro w'
    go_simp
    with_reducible rfl
  rotate_left
  · simp only [Act.put, List.setIfInBounds_toArray, List.set_cons_zero, List.set_cons_succ, i64_w, i32_w]
    rfl
  refine pure_ (i := 2) (N := some 27) (v := ?_) (a' := ?_) #[true, true, true, false, false, false, false, false, false, false, false, false, false, false, false, false] rfl rfl (any_of HT_.out (by kernel_rfl)) (fun _ _ _ h => h) (Or.inl ⟨by rfl, ?_⟩) ?_ ?_
  rotate_left
  · intro w'
    go_simp
    with_reducible rfl
  rotate_left
  · simp only [Act.put, List.setIfInBounds_toArray, List.set_cons_zero, List.set_cons_succ, i64_w, i32_w]
    rfl
  refine pure_ (i := 4) (N := some 29) (v := ?_) (a' := ?_) #[true, true, true, false, true, false, false, false, false, false, false, false, false, false, false, false] rfl rfl (any_of HT_.out (by kernel_rfl)) (fun _ _ _ h => h) (Or.inl ⟨by rfl, ?_⟩) ?_ ?_
  rotate_left
  · intro w'
    go_simp
    with_reducible rfl
  rotate_left
  · simp only [Act.put, List.setIfInBounds_toArray, List.set_cons_zero, List.set_cons_succ, i64_w, i32_w]
    rfl
  refine pure_ (i := 5) (N := some 30) (v := ?_) (a' := ?_) #[true, true, true, false, true, true, false, false, false, false, false, false, false, false, false, false] rfl rfl (any_of HT_.out (by kernel_rfl)) (fun _ _ _ h => h) (Or.inl ⟨by rfl, ?_⟩) ?_ ?_
  rotate_left
  · intro w'
    go_simp
    with_reducible rfl
  rotate_left
  · simp only [Act.put, List.setIfInBounds_toArray, List.set_cons_zero, List.set_cons_succ, i64_w, i32_w]
    rfl
  refine pure_ (i := 6) (N := some 31) (v := ?_) (a' := ?_) #[true, true, true, false, true, true, true, false, false, false, false, false, false, false, false, false] rfl rfl (any_of HT_.out (by kernel_rfl)) (fun _ _ _ h => h) (Or.inl ⟨by rfl, ?_⟩) ?_ ?_
  rotate_left
  · intro w'
    go_simp
    with_reducible rfl
  rotate_left
  · simp only [Act.put, List.setIfInBounds_toArray, List.set_cons_zero, List.set_cons_succ, i64_w, i32_w]
    rfl
  refine pure_ (i := 8) (N := some 33) (v := ?_) (a' := ?_) #[true, true, true, false, true, true, true, false, true, false, false, false, false, false, false, false] rfl rfl (any_of HT_.out (by kernel_rfl)) (fun _ _ _ h => h) (Or.inl ⟨by rfl, ?_⟩) ?_ ?_
  rotate_left
  · intro w'
    go_simp
    with_reducible rfl
  rotate_left
  · simp only [Act.put, List.setIfInBounds_toArray, List.set_cons_zero, List.set_cons_succ, i64_w, i32_w]
    rfl
  refine pure_ (i := 9) (N := some 34) (v := ?_) (a' := ?_) #[true, true, true, false, true, true, true, false, true, true, false, false, false, false, false, false] rfl rfl (any_of HT_.out (by kernel_rfl)) (fun _ _ _ h => h) (Or.inl ⟨by rfl, ?_⟩) ?_ ?_
  rotate_left
  · intro w'
    go_simp
    with_reducible rfl
  rotate_left
  · simp only [Act.put, List.setIfInBounds_toArray, List.set_cons_zero, List.set_cons_succ, i64_w, i32_w]
    rfl
  refine pure_ (i := 10) (N := some 35) (v := ?_) (a' := ?_) #[true, true, true, false, true, true, true, false, true, true, true, false, false, false, false, false] rfl rfl (any_of HT_.out (by kernel_rfl)) (fun _ _ _ h => h) (Or.inl ⟨by rfl, ?_⟩) ?_ ?_
  rotate_left
  · intro w'
    go_simp
    with_reducible rfl
  rotate_left
  · simp only [Act.put, List.setIfInBounds_toArray, List.set_cons_zero, List.set_cons_succ, i64_w, i32_w]
    rfl
  refine pure_ (i := 11) (N := some 36) (v := ?_) (a' := ?_) #[true, true, true, false, true, true, true, false, true, true, true, true, false, false, false, false] rfl rfl (any_of HT_.out (by kernel_rfl)) (fun _ _ _ h => h) (Or.inl ⟨by rfl, ?_⟩) ?_ ?_
  rotate_left
  · intro w'
    go_simp
    with_reducible rfl
  rotate_left
  · simp only [Act.put, List.setIfInBounds_toArray, List.set_cons_zero, List.set_cons_succ, i64_w, i32_w]
    rfl
  refine take_ (i := 7) (N := some 32) (v := ?_) (a' := ?_) #[true, true, true, false, true, true, true, true, true, true, true, true, false, false, false, false] rfl rfl (take_ofW HT_.out HW_.out (by kernel_rfl)) (fun _ _ _ h => h) (Or.inl ⟨by rfl, ?_⟩) hHeld ?_ ?_
  rotate_left
  · rintro w' s0
    go_simp
    with_reducible rfl
  rotate_left
  · simp only [Act.put, List.setIfInBounds_toArray, List.set_cons_zero, List.set_cons_succ, i64_w, i32_w]
    rfl
  refine one_ (i := 3) (N := some 28) #[true, true, true, true, true, true, true, true, true, true, true, true, false, false, false, false] rfl rfl (one_of HT_.out (by kernel_rfl)) (by decide) (fun K hK => ?_)
  refine goes_ Try.func34 (by kernel_rfl) rfl #[.pointer (some ⟨kb, 0, none⟩), .int .i64 a, .int .i64 b] (by rfl) rfl rfl (by (try simp only [List.map_toArray, List.map_cons, List.map_nil]); first | done | rfl) ?_
  refine (weekly_any a b _ HC1.out HN1.out HAB.out.1 HAB.out.2.1 HAB.out.2.2.1 HAB.out.2.2.2).mono ?_
  rintro e w2 ⟨rfl, C2, U2⟩
  refine ⟨_, rfl, ?_⟩
  have HC2 := Aside0.mk C2
  have HU2 := Aside0.mk (HU1.out.trans U2)
  have HN2 : Aside0 (n ≤ w2.heap.size) := ⟨Nat.le_trans HN1.out U2.size⟩
  have e0 : w2.cell? ⟨kb, 0, none⟩ = some (.pointer (some ⟨ab, 0, none⟩)) := (blk_cell HC2.out.blk 0).trans rfl
  clear C2 U2
  refine hK.out _ _ e0 (fun hHeld => ?_)
  clear hK K
  refine norm_ (a' := ?_) ?_ ?_
  rotate_left
  · show Act.put _ (some 28) _ = _
    simp only [Act.put, List.setIfInBounds_toArray, List.set_cons_zero, List.set_cons_succ, i64_w, i32_w]
    rfl
  refine one_ (i := 12) (N := some 37) #[true, true, true, true, true, true, true, true, true, true, true, true, true, false, false, false] rfl rfl (one_of HT_.out (by kernel_rfl)) (by decide) (fun K hK => ?_)
  refine goes_ Try.func43 (by kernel_rfl) rfl #[.pointer (some ⟨ab, 0, none⟩), .int .i64 a, .int .i64 b, .func (.func 34) #[.pointer (some ⟨kb, 0, none⟩)] #[]] (by rfl) rfl rfl (by (try simp only [List.map_toArray, List.map_cons, List.map_nil]); first | done | rfl) ?_
  refine (lost_any a b _ HC2.out HN2.out HAB.out.1 HAB.out.2.2.2).mono ?_
  rintro e w3 ⟨rfl, C3, U3⟩
  refine ⟨_, rfl, ?_⟩
  have HC3 := Aside0.mk C3
  have HU3 := Aside0.mk (HU2.out.trans U3)
  have e0 : w3.cell? ⟨kb, 0, none⟩ = some (.pointer (some ⟨ab, 0, none⟩)) := (blk_cell HC3.out.blk 0).trans rfl
  clear C3 U3
  refine hK.out _ _ e0 (fun hHeld => ?_)
  clear hK K
  refine norm_ (a' := ?_) ?_ ?_
  rotate_left
  · show Act.put _ (some 37) _ = _
    simp only [Act.put, List.setIfInBounds_toArray, List.set_cons_zero, List.set_cons_succ, i64_w, i32_w]
    rfl
  refine pure_ (i := 13) (N := some 38) (v := ?_) (a' := ?_) #[true, true, true, true, true, true, true, true, true, true, true, true, true, true, false, false] rfl rfl (any_of HT_.out (by kernel_rfl)) (fun _ _ _ h => h) (Or.inl ⟨by rfl, ?_⟩) ?_ ?_
  rotate_left
  · intro w'
    go_simp
    with_reducible rfl
  rotate_left
  · simp only [Act.put, List.setIfInBounds_toArray, List.set_cons_zero, List.set_cons_succ, i64_w, i32_w]
    rfl
  refine pure_ (i := 14) (N := some 6) (v := ?_) (a' := ?_) #[true, true, true, true, true, true, true, true, true, true, true, true, true, true, true, false] rfl rfl (any_of HT_.out (by kernel_rfl)) (fun _ _ _ h => h) (Or.inl ⟨by rfl, ?_⟩) ?_ ?_
  rotate_left
  · intro w'
    go_simp
    with_reducible rfl
  rotate_left
  · simp only [Act.put, List.setIfInBounds_toArray, List.set_cons_zero, List.set_cons_succ, i64_w, i32_w]
    rfl
  refine pure_ (i := 15) (N := some 7) (v := ?_) (a' := ?_) #[true, true, true, true, true, true, true, true, true, true, true, true, true, true, true, true] rfl rfl (any_of HT_.out (by kernel_rfl)) (fun _ _ _ h => h) (Or.inl ⟨by rfl, ?_⟩) ?_ ?_
  rotate_left
  · intro w'
    go_simp
    with_reducible rfl
  rotate_left
  · simp only [Act.put, List.setIfInBounds_toArray, List.set_cons_zero, List.set_cons_succ, i64_w, i32_w]
    rfl
  refine done_ (done_of HT_.out (by kernel_rfl)) ?_
  rw [HE.out]
  go_wp2
  go_ret2
  exact ⟨rfl, HC3.out, HU3.out⟩

set_option maxHeartbeats 1600000 in
set_option maxRecDepth 100000 in
theorem elapsed_arg (a b : Int) (w : World) (h : ClkAt w n kb ab pb cb off week closed) (hx : ¬ (0 ≤ a ∧ a ≤ b ∧ b ≤ 1125899906842624)) :
    Calls Try.prog 20 #[.pointer (some ⟨kb, 0, none⟩), .int .i64 a, .int .i64 b] w fun e w' => e = .returned (.tuple #[.int .i64 0, .int .i64 2]) ∧ Below w.heap.size w w' := by
  have HC := Aside0.mk h
  have HB := Aside0.mk (Below.refl w.heap.size w)
  have hnot : ∀ (x : Bool) (w : World), (Op.unary .not (.bool x)).run Try.prog w = .ok (.bool (!x)) w := fun _ _ => rfl
  by_cases ia : instB a = true
  · by_cases ib : instB b = true
    · have hlt : b < a := by
        unfold instB at ia ib
        have := of_decide_eq_true ia
        have := of_decide_eq_true ib
        omega
      have hltd : decide (b < a) = true := decide_eq_true hlt
      have HIA := Aside0.mk ia
      have HIB := Aside0.mk ib
      clear h ia ib hx
      go_enter Try.func20, Try.ntmps20
      go_wp2_with (first | (go_at_call 30; refine (clknone_any _ HC.out).mono ?_; rintro e w1 ⟨rfl, rfl⟩) | (go_at_call 31; refine (instant_any _ _).mono ?_; rintro e w1 ⟨rfl, hb⟩; (first | rw [HIA.out] | rw [HIB.out]); have n0 := Aside0.mk (HC.out.below hb); have n1 := Aside0.mk (below_step HB.out hb); clear HC HB hb; have HC := n0; have HB := n1; clear n0 n1))
      go_ret2
      exact ⟨rfl, HB.out⟩
    · have ib' : instB b = false := by simpa using ib
      have HIA := Aside0.mk ia
      have HIB := Aside0.mk ib'
      clear h ia ib ib' hx
      go_enter Try.func20, Try.ntmps20
      go_wp2_with (first | (go_at_call 30; refine (clknone_any _ HC.out).mono ?_; rintro e w1 ⟨rfl, rfl⟩) | (go_at_call 31; refine (instant_any _ _).mono ?_; rintro e w1 ⟨rfl, hb⟩; (first | rw [HIA.out] | rw [HIB.out]); have n0 := Aside0.mk (HC.out.below hb); have n1 := Aside0.mk (below_step HB.out hb); clear HC HB hb; have HC := n0; have HB := n1; clear n0 n1))
      go_ret2
      exact ⟨rfl, HB.out⟩
  · have ia' : instB a = false := by simpa using ia
    have HIA := Aside0.mk ia'
    clear h ia ia' hx
    go_enter Try.func20, Try.ntmps20
    go_wp2_with (first | (go_at_call 30; refine (clknone_any _ HC.out).mono ?_; rintro e w1 ⟨rfl, rfl⟩) | (go_at_call 31; refine (instant_any _ _).mono ?_; rintro e w1 ⟨rfl, hb⟩; (first | rw [HIA.out]); have n0 := Aside0.mk (HC.out.below hb); have n1 := Aside0.mk (below_step HB.out hb); clear HC HB hb; have HC := n0; have HB := n1; clear n0 n1))
    go_ret2
    exact ⟨rfl, HB.out⟩
end Go.Proofs.Ytknlpeabmpllmaa.Own

set_option linter.unusedVariables false
set_option linter.unusedSimpArgs false
namespace Go.Proofs.Ytknlpeabmpllmaa.Own
open Go.RowKit Go.Proofs Go.Proofs.YtknlpeabmpllmaaW.PrintWords Go.Proofs.YtknlpeabmpllmaaW.PrintLast Go.Proofs.YtknlpeabmpllmaaW.PrintMore Go.Proofs.Ytknlpeabmpllmaa.Base
attribute [local go_sem] max2_mx min2_mn max_two min_two
variable {w w' : World} {n kb ab pb cb : Nat} {off : Int} {week closed : List S57}

def calErr (off : Int) (week closed : List S57) : Int := if off < 0 ∨ 604800 ≤ off then 2 else if weekErr week = 0 then rowErr closed else weekErr week
set_option maxHeartbeats 1600000 in
set_option maxRecDepth 100000 in
theorem calnew_no (off : Int) (A1 A2 : Option Addr) (c1 c2 : Nat) (week closed : List S57) (w : World) (h1 : Kd.C k57 w A1 week.length week) (hc1 : week.length ≤ c1) (h2 : Kd.C k57 w A2 closed.length closed) (hc2 : closed.length ≤ c2) (he : calErr off week closed ≠ 0) :
    Calls Try.prog 13 #[.agg #[.int .i64 off, .slice A1 week.length c1, .slice A2 closed.length c2]] w fun e w' => e = .returned (.tuple #[.pointer none, .int .i64 (calErr off week closed)]) ∧ Below w.heap.size w w' := by
  have B0 : Aside0 (Below w.heap.size w (w.alloc (.cells #[.int .i64 off, .slice A1 week.length c1, .slice A2 closed.length c2] 24))) := ⟨below_alloc (Below.refl _ _) _⟩
  have K0 := Aside0.mk (blk_new w (.cells #[.int .i64 off, .slice A1 week.length c1, .slice A2 closed.length c2] 24))
  have H1 := Aside0.mk (Kd.C_below h1 B0.out)
  have H2 := Aside0.mk (Kd.C_below h2 B0.out)
  clear h1 h2
  by_cases ho : off < 0 ∨ 604800 ≤ off
  · have hE : calErr off week closed = 2 := by unfold calErr; rw [if_pos ho]
    rw [hE]
    clear he hE
    rcases Classical.em (off < 0) with hlo | hlo
    · have hd : decide (off < 0) = true := decide_eq_true hlo
      go_enter Try.func13, Try.ntmps13
      go_wp2
      go_ret2
      exact ⟨rfl, B0.out⟩
    · have hd : decide (off < 0) = false := decide_eq_false hlo
      have hge : 604800 ≤ off := by omega
      have hd2 : decide (604800 ≤ off) = true := decide_eq_true hge
      go_enter Try.func13, Try.ntmps13
      go_wp2
      go_ret2
      exact ⟨rfl, B0.out⟩
  · have hlo : ¬ off < 0 := by omega
    have hhi : ¬ 604800 ≤ off := by omega
    have hd : decide (off < 0) = false := decide_eq_false hlo
    have hd2 : decide (604800 ≤ off) = false := decide_eq_false hhi
    by_cases hw : weekErr week = 0
    · have hE : calErr off week closed = rowErr closed := by unfold calErr; rw [if_neg ho, if_pos hw]
      rw [hE] at he ⊢
      have HWE := Aside0.mk hw
      have HE := Aside0.mk he
      have hne : (rowErr closed != 0) = true := bne_iff_ne.mpr he
      have hne' : (rowErr closed == 0) = false := beq_eq_false_iff_ne.mpr he
      clear hE hw ho he
      go_enter Try.func13, Try.ntmps13
      go_wp2_with fail
      generalize (w.alloc (.cells #[.int .i64 off, .slice A1 week.length c1, .slice A2 closed.length c2] 24)) = w1 at B0 K0 H1 H2 ⊢
      have g0 : w1.cell? ⟨w.heap.size, 0, none⟩ = some (.int .i64 off) := (blk_cell K0.out 0).trans rfl
      have g1 : w1.cell? ⟨w.heap.size, 1, none⟩ = some (.slice A1 week.length c1) := (blk_cell K0.out 1).trans rfl
      go_wp2_with (first | (go_at_call 28; refine (weeknew_yes A1 c1 week _ H1.out hc1 HWE.out).mono ?_; rintro e w2 ⟨pb, cb, rfl, P2, hb⟩; have B2 := Aside0.mk (below_step B0.out hb); have K2 := Aside0.mk (blk_below K0.out hb); have H22 := Aside0.mk (Kd.C_below H2.out hb); clear P2 hb; have e2 : w2.cell? ⟨w.heap.size, 2, none⟩ = some (.slice A2 closed.length c2) := (blk_cell K2.out 2).trans rfl) | (go_at_call 29; refine (almnew_no A2 c2 closed _ H22.out hc2 HE.out).mono ?_; rintro e w3 ⟨rfl, hb⟩; have B3 := Aside0.mk (below_step B2.out hb); clear hb))
      go_ret2
      exact ⟨rfl, B3.out⟩
    · have hE : calErr off week closed = weekErr week := by unfold calErr; rw [if_neg ho, if_neg hw]
      rw [hE] at he ⊢
      have HE := Aside0.mk he
      have hne : (weekErr week != 0) = true := bne_iff_ne.mpr he
      have hne' : (weekErr week == 0) = false := beq_eq_false_iff_ne.mpr he
      clear hE hw ho he
      go_enter Try.func13, Try.ntmps13
      go_wp2_with fail
      generalize (w.alloc (.cells #[.int .i64 off, .slice A1 week.length c1, .slice A2 closed.length c2] 24)) = w1 at B0 K0 H1 H2 ⊢
      have g0 : w1.cell? ⟨w.heap.size, 0, none⟩ = some (.int .i64 off) := (blk_cell K0.out 0).trans rfl
      have g1 : w1.cell? ⟨w.heap.size, 1, none⟩ = some (.slice A1 week.length c1) := (blk_cell K0.out 1).trans rfl
      go_wp2_with (go_at_call 28; refine (weeknew_no A1 c1 week _ H1.out hc1 HE.out).mono ?_; rintro e w2 ⟨rfl, hb⟩; have B2 := Aside0.mk (below_step B0.out hb); clear hb)
      go_ret2
      exact ⟨rfl, B2.out⟩

set_option maxHeartbeats 1600000 in
set_option maxRecDepth 100000 in
theorem calnew_yes (off : Int) (A1 A2 : Option Addr) (c1 c2 : Nat) (week closed : List S57) (w : World) (h1 : Kd.C k57 w A1 week.length week) (hc1 : week.length ≤ c1) (h2 : Kd.C k57 w A2 closed.length closed) (hc2 : closed.length ≤ c2) (he : calErr off week closed = 0) :
    Calls Try.prog 13 #[.agg #[.int .i64 off, .slice A1 week.length c1, .slice A2 closed.length c2]] w fun e w' => ∃ kb ab pb cb, e = .returned (.tuple #[.pointer (some ⟨kb, 0, none⟩), .int .i64 0]) ∧ ClkAt w' w.heap.size kb ab pb cb off week closed ∧ Below w.heap.size w w' := by
  have B0 : Aside0 (Below w.heap.size w (w.alloc (.cells #[.int .i64 off, .slice A1 week.length c1, .slice A2 closed.length c2] 24))) := ⟨below_alloc (Below.refl _ _) _⟩
  have K0 := Aside0.mk (blk_new w (.cells #[.int .i64 off, .slice A1 week.length c1, .slice A2 closed.length c2] 24))
  have H1 := Aside0.mk (Kd.C_below h1 B0.out)
  have H2 := Aside0.mk (Kd.C_below h2 B0.out)
  clear h1 h2
  have hpar : ¬ (off < 0 ∨ 604800 ≤ off) ∧ weekErr week = 0 ∧ rowErr closed = 0 := by
    unfold calErr at he
    split at he
    · omega
    · split at he
      · exact ⟨‹_›, ‹_›, he⟩
      · exact absurd he ‹_›
  obtain ⟨ho, hw, hr⟩ := hpar
  have hlo : ¬ off < 0 := by omega
  have hhi : ¬ 604800 ≤ off := by omega
  have hlo2 : 0 ≤ off := by omega
  have hhi2 : off < 604800 := by omega
  have hd : decide (off < 0) = false := decide_eq_false hlo
  have hd2 : decide (604800 ≤ off) = false := decide_eq_false hhi
  have HWE := Aside0.mk hw
  have HE := Aside0.mk hr
  have HSZ := Aside0.mk (show (w.alloc (.cells #[.int .i64 off, .slice A1 week.length c1, .slice A2 closed.length c2] 24)).heap.size = w.heap.size + 1 by simp)
  clear hw ho he hr hlo hhi
  go_enter Try.func13, Try.ntmps13
  go_wp2_with fail
  generalize (w.alloc (.cells #[.int .i64 off, .slice A1 week.length c1, .slice A2 closed.length c2] 24)) = w1 at B0 K0 H1 H2 HSZ ⊢
  have g0 : w1.cell? ⟨w.heap.size, 0, none⟩ = some (.int .i64 off) := (blk_cell K0.out 0).trans rfl
  have g1 : w1.cell? ⟨w.heap.size, 1, none⟩ = some (.slice A1 week.length c1) := (blk_cell K0.out 1).trans rfl
  go_wp2_with (first | (go_at_call 28; refine (weeknew_yes A1 c1 week _ H1.out hc1 HWE.out).mono ?_; rintro e w2 ⟨pb, cb, rfl, P2', hb⟩; have P2 := Aside0.mk P2'; have B2 := Aside0.mk (below_step B0.out hb); have K2 := Aside0.mk (blk_below K0.out hb); have H22 := Aside0.mk (Kd.C_below H2.out hb); clear P2' hb; have e0 : w2.cell? ⟨w.heap.size, 0, none⟩ = some (.int .i64 off) := (blk_cell K2.out 0).trans rfl; have e2 : w2.cell? ⟨w.heap.size, 2, none⟩ = some (.slice A2 closed.length c2) := (blk_cell K2.out 2).trans rfl) | (go_at_call 29; refine (almnew_yes A2 c2 closed _ H22.out hc2 HE.out).mono ?_; rintro e w3 ⟨ab, A3, c3, rfl, K3', hc3, R3', hge, hb⟩; have K3 := Aside0.mk K3'; have R3 := Aside0.mk R3'; have B3 := Aside0.mk (below_step B2.out hb); have P3 := Aside0.mk (P2.out.below hb); have K4 := Aside0.mk (blk_below K2.out hb); have HGE := Aside0.mk hge; clear hb K3' R3' hge; have i0 : w3.cell? ⟨w.heap.size, 0, none⟩ = some (.int .i64 off) := (blk_cell K4.out 0).trans rfl))
  go_ret2
  have hcb : cb < w2.heap.size := by
    obtain ⟨m, k, ⟨lv, hx⟩ | ⟨v, hx, _⟩⟩ := P2.out.cell
    · exact blk_lt hx
    · exact blk_lt hx
  have hsz2 := B2.out.size
  have hsz3 := B3.out.size
  have hk3 := blk_lt K3.out
  have hge := HGE.out
  have hcb3 : cb < w3.heap.size := by
    obtain ⟨m, k, ⟨lv, hx⟩ | ⟨v, hx, _⟩⟩ := P3.out.cell
    · exact blk_lt hx
    · exact blk_lt hx
  have hP : PlanAt w3 w.heap.size pb cb week := ⟨P3.out.ok, by have := P3.out.npb; have := HSZ.out; omega, by have := P3.out.ncb; have := HSZ.out; omega, P3.out.ne, (by obtain ⟨A, c, x1, x2, x3⟩ := P3.out.blk; exact ⟨A, c, x1, x2, Kd.R_lower x3 (by have := HSZ.out; omega)⟩), (by obtain ⟨m, k, hx | ⟨v, hx, hy⟩⟩ := P3.out.cell; exact ⟨m, k, .inl hx⟩; exact ⟨m, k, .inr ⟨v, hx, Kd.R_lower hy (by have := HSZ.out; omega)⟩⟩)⟩
  have hA : AlmAt w3 w.heap.size ab cb closed := ⟨rowErr_ok HE.out, by omega, by omega, ⟨A3, c3, K3.out, hc3, Kd.R_lower (Kd.R_mono (Kd.R_bound R3.out) (fun k hk => by have := hk.2.1; omega)) hsz2⟩⟩
  exact ⟨w3.heap.size, ab, pb, cb, rfl, ⟨hlo2, hhi2, hsz3, by omega, blk_new w3 _, hA.below (below_alloc (Below.refl _ _) _), hP.below (below_alloc (Below.refl _ _) _)⟩, below_alloc B3.out _⟩
end Go.Proofs.Ytknlpeabmpllmaa.Own

set_option linter.unusedVariables false
set_option linter.unusedSimpArgs false
namespace Go.Proofs.Ytknlpeabmpllmaa.Own
open Go.RowKit Go.Proofs Go.Proofs.YtknlpeabmpllmaaW.PrintWords Go.Proofs.YtknlpeabmpllmaaW.PrintLast Go.Proofs.YtknlpeabmpllmaaW.PrintMore Go.Proofs.Ytknlpeabmpllmaa.Base
attribute [local go_sem] max2_mx min2_mn max_two min_two
variable {w w' : World} {n kb ab pb cb : Nat} {off : Int} {week closed : List S57}

set_option maxHeartbeats 1600000 in
set_option maxRecDepth 100000 in
theorem calcheck_any (off : Int) (A1 A2 : Option Addr) (c1 c2 : Nat) (week closed : List S57) (w : World) (h1 : Kd.C k57 w A1 week.length week) (hc1 : week.length ≤ c1) (h2 : Kd.C k57 w A2 closed.length closed) (hc2 : closed.length ≤ c2) :
    Calls Try.prog 15 #[.agg #[.int .i64 off, .slice A1 week.length c1, .slice A2 closed.length c2]] w fun e w' => e = .returned (.int .i64 (calErr off week closed)) ∧ Below w.heap.size w w' := by
  have B0 : Aside0 (Below w.heap.size w (w.alloc (.cells #[.int .i64 off, .slice A1 week.length c1, .slice A2 closed.length c2] 24))) := ⟨below_alloc (Below.refl _ _) _⟩
  have H1 := Aside0.mk (Kd.C_below h1 B0.out)
  have H2 := Aside0.mk (Kd.C_below h2 B0.out)
  clear h1 h2
  by_cases he : calErr off week closed = 0
  · rw [he]
    have HE := Aside0.mk he
    clear he
    go_enter Try.func15, Try.ntmps15
    go_wp2_with (go_at_call 13; refine (calnew_yes off A1 A2 c1 c2 week closed _ H1.out hc1 H2.out hc2 HE.out).mono ?_; rintro e w2 ⟨kb, ab, pb, cb, rfl, _, hb⟩; have B1 := Aside0.mk (below_step B0.out hb); clear hb)
    go_ret
    exact ⟨rfl, B1.out⟩
  · have HE := Aside0.mk he
    clear he
    go_enter Try.func15, Try.ntmps15
    go_wp2_with (go_at_call 13; refine (calnew_no off A1 A2 c1 c2 week closed _ H1.out hc1 H2.out hc2 HE.out).mono ?_; rintro e w2 ⟨rfl, hb⟩; have B1 := Aside0.mk (below_step B0.out hb); clear hb)
    go_ret
    exact ⟨rfl, B1.out⟩

set_option maxHeartbeats 1600000 in
set_option maxRecDepth 100000 in
theorem rest_any (a u b : Int) (w : World) (h : ClkAt w n kb ab pb cb off week closed) (hn : n ≤ w.heap.size) (a0 : 0 ≤ a) (hab : a ≤ b) (b1 : b ≤ 1125899906842624) (u0 : 0 ≤ u) (u1 : u ≤ 9223372036854775807) (e0 : 0 ≤ elapP off week closed a b) :
    Calls Try.prog 23 #[.pointer (some ⟨kb, 0, none⟩), .int .i64 a, .int .i64 u, .int .i64 b] w fun e w' => e = .returned (.tuple #[.int .i64 (mx (u - elapP off week closed a b) 0), .int .i64 0]) ∧ ClkAt w' n kb ab pb cb off week closed ∧ Upd cb w w' := by
  have HC := Aside0.mk h
  have HN := Aside0.mk hn
  have HA : Aside0 (0 ≤ a ∧ a ≤ b ∧ b ≤ 1125899906842624) := ⟨by omega⟩
  have hnot : ∀ (x : Bool) (w : World), (Op.unary .not (.bool x)).run Try.prog w = .ok (.bool (!x)) w := fun _ _ => rfl
  have hu : ¬ u < 0 := by omega
  have hud : decide (u < 0) = false := decide_eq_false hu
  have hw := between_bound h.plan.ok (a + (604800 - off)) (b + (604800 - off))
  have hsm := sumW_bound off h.plan.ok (cutP closed a b)
  have hlen : (cutP closed a b).length ≤ 32 := Nat.le_trans (cutP_length _ _ _) h.alm.ok.len
  have hE0 : elapP off week closed a b = betweenP week (a + (604800 - off)) (b + (604800 - off)) - sumW off week (cutP closed a b) := rfl
  have e1 : elapP off week closed a b ≤ 2251799815500000 := by omega
  clear h hn a0 hab b1 hw hsm hlen hE0
  go_enter Try.func23, Try.ntmps23
  go_wp2_with (first | (go_at_call 30; refine (clknone_any _ HC.out).mono ?_; rintro e w1 ⟨rfl, rfl⟩) | (go_at_call 20; refine (elapsed_any a b _ HC.out HN.out HA.out.1 HA.out.2.1 HA.out.2.2).mono ?_; rintro e w1 ⟨rfl, C1, U1⟩; have HC1 := Aside0.mk C1; have HU1 := Aside0.mk U1; clear C1 U1))
  go_ret2
  exact ⟨rfl, HC1.out, HU1.out⟩

set_option maxHeartbeats 1600000 in
set_option maxRecDepth 100000 in
theorem rest_neg (a u b : Int) (w : World) (h : ClkAt w n kb ab pb cb off week closed) (u0 : u < 0) :
    Calls Try.prog 23 #[.pointer (some ⟨kb, 0, none⟩), .int .i64 a, .int .i64 u, .int .i64 b] w fun e w' => e = .returned (.tuple #[.int .i64 0, .int .i64 2]) ∧ w = w' := by
  have HC := Aside0.mk h
  have hnot : ∀ (x : Bool) (w : World), (Op.unary .not (.bool x)).run Try.prog w = .ok (.bool (!x)) w := fun _ _ => rfl
  have hud : decide (u < 0) = true := decide_eq_true u0
  clear h
  go_enter Try.func23, Try.ntmps23
  go_wp2_with (go_at_call 30; refine (clknone_any _ HC.out).mono ?_; rintro e w1 ⟨rfl, rfl⟩)
  go_ret2
  exact ⟨rfl, rfl⟩
set_option maxHeartbeats 1600000 in
set_option maxRecDepth 100000 in
theorem rest_arg (a u b : Int) (w : World) (h : ClkAt w n kb ab pb cb off week closed) (u0 : 0 ≤ u) (hx : ¬ (0 ≤ a ∧ a ≤ b ∧ b ≤ 1125899906842624)) :
    Calls Try.prog 23 #[.pointer (some ⟨kb, 0, none⟩), .int .i64 a, .int .i64 u, .int .i64 b] w fun e w' => e = .returned (.tuple #[.int .i64 0, .int .i64 2]) ∧ Below w.heap.size w w' := by
  have HC := Aside0.mk h
  have HX := Aside0.mk hx
  have hnot : ∀ (x : Bool) (w : World), (Op.unary .not (.bool x)).run Try.prog w = .ok (.bool (!x)) w := fun _ _ => rfl
  have hu : ¬ u < 0 := by omega
  have hud : decide (u < 0) = false := decide_eq_false hu
  clear h hx
  go_enter Try.func23, Try.ntmps23
  go_wp2_with (first | (go_at_call 30; refine (clknone_any _ HC.out).mono ?_; rintro e w1 ⟨rfl, rfl⟩) | (go_at_call 20; refine (elapsed_arg a b _ HC.out HX.out).mono ?_; rintro e w1 ⟨rfl, hb⟩; have HB := Aside0.mk hb; clear hb))
  go_ret2
  exact ⟨rfl, HB.out⟩

def plain_T3 : Bool × List (List Nat × List Nat) := (true, [([], []), ([0], [0]), ([1], [1]), ([2], [2]), ([3], [3]), ([], []), ([5], [5]), ([6], [6]), ([7], [7]), ([8], [8]), ([], []), ([10], [10]), ([11], [11]), ([12], [12]), ([13, 9], [13]), ([4, 9, 14], [4, 9, 14]), ([15, 14, 0, 1, 2, 3, 4, 5, 6, 7, 8, 9, 10, 11, 12, 13, 14, 15], [15])])
def plain_B3 : List Nat := [0, 1, 3, 7, 15, 0, 32, 96, 224, 480, 0, 1024, 3072, 7168, 16352, 32767, 65535]
theorem plain_tab3 : rtab .any (opsOf Try.f19 3) = plain_T3 := by kernel_rfl
theorem plain_bits3 : waitsOk plain_T3.2 plain_B3 = true := by kernel_rfl

set_option maxHeartbeats 4000000 in
set_option maxRecDepth 100000 in
theorem plain_any (w : World) (h : ClkAt w n kb ab pb cb off week closed) :
    Calls Try.prog 19 #[.pointer (some ⟨kb, 0, none⟩)] w fun e w' => ∃ A1 c1 A2 c2, e = .returned (.agg #[.int .i64 off, .slice A1 week.length c1, .slice A2 closed.length c2]) ∧ week.length ≤ c1 ∧ closed.length ≤ c2 ∧ Kd.R k57 57 w' w.heap.size (fun _ => True) (.slice A1 week.length c1) week ∧ Kd.R k57 57 w' w.heap.size (fun _ => True) (.slice A2 closed.length c2) closed ∧ Below w.heap.size w w' := by
  have HC := Aside0.mk h
  have W1 : Aside0 (Below w.heap.size w (w.alloc (.cells #[.int .i64 0, .slice none 0 0, .slice none 0 0] 24))) := ⟨below_alloc (Below.refl _ _) _⟩
  have K1 := Aside0.mk (blk_new w (.cells #[.int .i64 0, .slice none 0 0, .slice none 0 0] 24))
  have HC1 := Aside0.mk (h.below W1.out)
  have hlo := h.lo
  have hhi := h.hi
  clear h
  go_enter Try.func19, Try.ntmps19
  go_wp2_with fail
  generalize (w.alloc (.cells #[.int .i64 0, .slice none 0 0, .slice none 0 0] 24)) = w1 at W1 K1 HC1 ⊢
  go_wp2_with (go_at_call 30; refine (clknone_any _ HC1.out).mono ?_; rintro e w1 ⟨rfl, rfl⟩)
  have W2 : Aside0 (Below w.heap.size w w1.drew) := ⟨below_drew1 W1.out⟩
  have K2 := Aside0.mk (blk_drew K1.out)
  have HC2 := Aside0.mk HC1.out.drew
  have c0 : w1.drew.cell? ⟨kb, 0, none⟩ = some (.pointer (some ⟨ab, 0, none⟩)) := (blk_cell HC2.out.blk 0).trans rfl
  have c1 : w1.drew.cell? ⟨kb, 1, none⟩ = some (.pointer (some ⟨pb, 0, none⟩)) := (blk_cell HC2.out.blk 1).trans rfl
  have c2 : w1.drew.cell? ⟨kb, 2, none⟩ = some (.int .i64 (604800 - off)) := (blk_cell HC2.out.blk 2).trans rfl
  refine start_ (n := 17) (S := fun w' => w'.cell? ⟨kb, 0, none⟩ = some (.pointer (some ⟨ab, 0, none⟩)) ∧ w'.cell? ⟨kb, 1, none⟩ = some (.pointer (some ⟨pb, 0, none⟩)) ∧ w'.cell? ⟨kb, 2, none⟩ = some (.int .i64 (604800 - off))) (ds := [16]) #[false, false, false, false, false, false, false, false, false, false, false, false, false, false, false, false, false] (by kernel_rfl) rfl rfl ⟨c0, c1, c2⟩ (fun hHeld => ?_); refine with_tabW plain_tab3 plain_bits3 (fun HT_ HW_ => ?_)
  clear c0 c1 c2
  generalize w1.drew = w2 at W2 K2 HC2 hHeld ⊢
  refine pure_ (i := 0) (N := some 6) (v := ?_) (a' := ?_) #[true, false, false, false, false, false, false, false, false, false, false, false, false, false, false, false, false] rfl rfl (any_of HT_.out (by kernel_rfl)) (fun _ _ _ h => h) (Or.inl ⟨by rfl, ?_⟩) ?_ ?_
  rotate_left
  · intro w'
    go_simp
    with_reducible rfl
  rotate_left
  · simp only [Act.put, List.setIfInBounds_toArray, List.set_cons_zero, List.set_cons_succ, i64_w, i32_w]
    rfl
  refine pure_ (i := 1) (N := some 7) (v := ?_) (a' := ?_) #[true, true, false, false, false, false, false, false, false, false, false, false, false, false, false, false, false] rfl rfl (any_of HT_.out (by kernel_rfl)) (fun _ _ _ h => h) (Or.inl ⟨by rfl, ?_⟩) ?_ ?_
  rotate_left
  · intro w'
    go_simp
    with_reducible rfl
  rotate_left
  · simp only [Act.put, List.setIfInBounds_toArray, List.set_cons_zero, List.set_cons_succ, i64_w, i32_w]
    rfl
  refine pure_ (i := 2) (N := some 8) (v := ?_) (a' := ?_) #[true, true, true, false, false, false, false, false, false, false, false, false, false, false, false, false, false] rfl rfl (any_of HT_.out (by kernel_rfl)) (fun _ _ _ h => h) (Or.inl ⟨by rfl, ?_⟩) ?_ ?_
  rotate_left
  · intro w'
    go_simp
    with_reducible rfl
  rotate_left
  · simp only [Act.put, List.setIfInBounds_toArray, List.set_cons_zero, List.set_cons_succ, i64_w, i32_w]
    rfl
  refine pure_ (i := 5) (N := some 11) (v := ?_) (a' := ?_) #[true, true, true, false, false, true, false, false, false, false, false, false, false, false, false, false, false] rfl rfl (any_of HT_.out (by kernel_rfl)) (fun _ _ _ h => h) (Or.inl ⟨by rfl, ?_⟩) ?_ ?_
  rotate_left
  · intro w'
    go_simp
    with_reducible rfl
  rotate_left
  · simp only [Act.put, List.setIfInBounds_toArray, List.set_cons_zero, List.set_cons_succ, i64_w, i32_w]
    rfl
  refine pure_ (i := 6) (N := some 12) (v := ?_) (a' := ?_) #[true, true, true, false, false, true, true, false, false, false, false, false, false, false, false, false, false] rfl rfl (any_of HT_.out (by kernel_rfl)) (fun _ _ _ h => h) (Or.inl ⟨by rfl, ?_⟩) ?_ ?_
  rotate_left
  · intro w'
    go_simp
    with_reducible rfl
  rotate_left
  · simp only [Act.put, List.setIfInBounds_toArray, List.set_cons_zero, List.set_cons_succ, i64_w, i32_w]
    rfl
  refine pure_ (i := 7) (N := some 13) (v := ?_) (a' := ?_) #[true, true, true, false, false, true, true, true, false, false, false, false, false, false, false, false, false] rfl rfl (any_of HT_.out (by kernel_rfl)) (fun _ _ _ h => h) (Or.inl ⟨by rfl, ?_⟩) ?_ ?_
  rotate_left
  · intro w'
    go_simp
    with_reducible rfl
  rotate_left
  · simp only [Act.put, List.setIfInBounds_toArray, List.set_cons_zero, List.set_cons_succ, i64_w, i32_w]
    rfl
  refine pure_ (i := 10) (N := some 16) (v := ?_) (a' := ?_) #[true, true, true, false, false, true, true, true, false, false, true, false, false, false, false, false, false] rfl rfl (any_of HT_.out (by kernel_rfl)) (fun _ _ _ h => h) (Or.inl ⟨by rfl, ?_⟩) ?_ ?_
  rotate_left
  · intro w'
    go_simp
    with_reducible rfl
  rotate_left
  · simp only [Act.put, List.setIfInBounds_toArray, List.set_cons_zero, List.set_cons_succ, i64_w, i32_w]
    rfl
  refine pure_ (i := 11) (N := some 17) (v := ?_) (a' := ?_) #[true, true, true, false, false, true, true, true, false, false, true, true, false, false, false, false, false] rfl rfl (any_of HT_.out (by kernel_rfl)) (fun _ _ _ h => h) (Or.inl ⟨by rfl, ?_⟩) ?_ ?_
  rotate_left
  · intro w'
    go_simp
    with_reducible rfl
  rotate_left
  · simp only [Act.put, List.setIfInBounds_toArray, List.set_cons_zero, List.set_cons_succ, i64_w, i32_w]
    rfl
  refine pure_ (i := 12) (N := some 18) (v := ?_) (a' := ?_) #[true, true, true, false, false, true, true, true, false, false, true, true, true, false, false, false, false] rfl rfl (any_of HT_.out (by kernel_rfl)) (fun _ _ _ h => h) (Or.inl ⟨by rfl, ?_⟩) ?_ ?_
  rotate_left
  · intro w'
    go_simp
    with_reducible rfl
  rotate_left
  · simp only [Act.put, List.setIfInBounds_toArray, List.set_cons_zero, List.set_cons_succ, i64_w, i32_w]
    rfl
  refine take_ (i := 3) (N := some 9) (v := ?_) (a' := ?_) #[true, true, true, true, false, true, true, true, false, false, true, true, true, false, false, false, false] rfl rfl (take_ofW HT_.out HW_.out (by kernel_rfl)) (fun _ _ _ h => h) (Or.inl ⟨by rfl, ?_⟩) hHeld ?_ ?_
  rotate_left
  · rintro w' ⟨s0, s1, s2⟩
    go_simp
    with_reducible rfl
  rotate_left
  · simp only [Act.put, List.setIfInBounds_toArray, List.set_cons_zero, List.set_cons_succ, i64_w, i32_w]
    rfl
  refine pure_ (i := 4) (N := some 10) (v := ?_) (a' := ?_) #[true, true, true, true, true, true, true, true, false, false, true, true, true, false, false, false, false] rfl rfl (any_of HT_.out (by kernel_rfl)) (fun _ _ _ h => h) (Or.inl ⟨by rfl, ?_⟩) ?_ ?_
  rotate_left
  · intro w'
    go_simp
    with_reducible rfl
  rotate_left
  · simp only [Act.put, List.setIfInBounds_toArray, List.set_cons_zero, List.set_cons_succ, i64_w, i32_w]
    rfl
  refine take_ (i := 8) (N := some 14) (v := ?_) (a' := ?_) #[true, true, true, true, true, true, true, true, true, false, true, true, true, false, false, false, false] rfl rfl (take_ofW HT_.out HW_.out (by kernel_rfl)) (fun _ _ _ h => h) (Or.inl ⟨by rfl, ?_⟩) hHeld ?_ ?_
  rotate_left
  · rintro w' ⟨s0, s1, s2⟩
    go_simp
    with_reducible rfl
  rotate_left
  · simp only [Act.put, List.setIfInBounds_toArray, List.set_cons_zero, List.set_cons_succ, i64_w, i32_w]
    rfl
  refine take_ (i := 13) (N := some 19) (v := ?_) (a' := ?_) #[true, true, true, true, true, true, true, true, true, false, true, true, true, true, false, false, false] rfl rfl (take_ofW HT_.out HW_.out (by kernel_rfl)) (fun _ _ _ h => h) (Or.inl ⟨by rfl, ?_⟩) hHeld ?_ ?_
  rotate_left
  · rintro w' ⟨s0, s1, s2⟩
    go_simp
    with_reducible rfl
  rotate_left
  · simp only [Act.put, List.setIfInBounds_toArray, List.set_cons_zero, List.set_cons_succ, i64_w, i32_w]
    rfl
  refine one_ (i := 9) (N := some 15) #[true, true, true, true, true, true, true, true, true, true, true, true, true, true, false, false, false] rfl rfl (one_of HT_.out (by kernel_rfl)) (by decide) (fun K hK => ?_)
  refine goes_ Try.func41 (by kernel_rfl) rfl #[.pointer (some ⟨pb, 0, none⟩)] (by rfl) rfl rfl (by (try simp only [List.map_toArray, List.map_cons, List.map_nil]); first | done | rfl) ?_
  refine (planrow_any n pb cb week _ HC2.out.plan).mono ?_
  rintro e w3 ⟨A3, k3, rfl, hl3, hR, hb⟩
  refine ⟨_, rfl, ?_⟩
  have HC3 := Aside0.mk (HC2.out.below hb)
  have W3 := Aside0.mk (below_step W2.out hb)
  have K3 := Aside0.mk (blk_below K2.out hb)
  have R3 := Aside0.mk (Kd.R_lower hR W2.out.size)
  have e0 : w3.cell? ⟨kb, 0, none⟩ = some (.pointer (some ⟨ab, 0, none⟩)) := (blk_cell HC3.out.blk 0).trans rfl
  have e1 : w3.cell? ⟨kb, 1, none⟩ = some (.pointer (some ⟨pb, 0, none⟩)) := (blk_cell HC3.out.blk 1).trans rfl
  have e2 : w3.cell? ⟨kb, 2, none⟩ = some (.int .i64 (604800 - off)) := (blk_cell HC3.out.blk 2).trans rfl
  clear hb hR
  refine hK.out _ _ ⟨e0, e1, e2⟩ (fun hHeld => ?_)
  clear hK K
  refine norm_ (a' := ?_) ?_ ?_
  rotate_left
  · show Act.put _ (some 15) _ = _
    simp only [Act.put, List.setIfInBounds_toArray, List.set_cons_zero, List.set_cons_succ, i64_w, i32_w]
    rfl
  refine one_ (i := 14) (N := some 20) #[true, true, true, true, true, true, true, true, true, true, true, true, true, true, true, false, false] rfl rfl (one_of HT_.out (by kernel_rfl)) (by decide) (fun K hK => ?_)
  refine goes_ Try.func42 (by kernel_rfl) rfl #[.pointer (some ⟨ab, 0, none⟩)] (by rfl) rfl rfl (by (try simp only [List.map_toArray, List.map_cons, List.map_nil]); first | done | rfl) ?_
  refine (almrow_any n ab cb closed _ HC3.out.alm).mono ?_
  rintro e w4 ⟨A4, k4, rfl, hl4, hR, hb⟩
  refine ⟨_, rfl, ?_⟩
  have HC4 := Aside0.mk (HC3.out.below hb)
  have W4 := Aside0.mk (below_step W3.out hb)
  have K4 := Aside0.mk (blk_below K3.out hb)
  have R4 := Aside0.mk (Kd.R_lower hR W3.out.size)
  have R3b := Aside0.mk (Kd.R_below R3.out hb)
  have e0 : w4.cell? ⟨kb, 0, none⟩ = some (.pointer (some ⟨ab, 0, none⟩)) := (blk_cell HC4.out.blk 0).trans rfl
  have e1 : w4.cell? ⟨kb, 1, none⟩ = some (.pointer (some ⟨pb, 0, none⟩)) := (blk_cell HC4.out.blk 1).trans rfl
  have e2 : w4.cell? ⟨kb, 2, none⟩ = some (.int .i64 (604800 - off)) := (blk_cell HC4.out.blk 2).trans rfl
  clear hb hR
  have d0 : w4.cell? ⟨w.heap.size, 0, none⟩ = some (.int .i64 0) := (blk_cell K4.out 0).trans rfl
  have d1 : w4.cell? ⟨w.heap.size, 1, none⟩ = some (.slice none 0 0) := (blk_cell K4.out 1).trans rfl
  have d2 : w4.cell? ⟨w.heap.size, 2, none⟩ = some (.slice none 0 0) := (blk_cell K4.out 2).trans rfl
  have f0 : w4.frozen? ⟨w.heap.size, 0, none⟩ = false := blk_frozen K4.out 0
  have f1 : w4.frozen? ⟨w.heap.size, 1, none⟩ = false := blk_frozen K4.out 1
  have f2 : w4.frozen? ⟨w.heap.size, 2, none⟩ = false := blk_frozen K4.out 2
  refine hK.out _ _ ⟨e0, e1, e2⟩ (fun hHeld => ?_)
  clear hK K
  refine norm_ (a' := ?_) ?_ ?_
  rotate_left
  · show Act.put _ (some 20) _ = _
    simp only [Act.put, List.setIfInBounds_toArray, List.set_cons_zero, List.set_cons_succ, i64_w, i32_w]
    rfl
  refine pure_ (i := 15) (N := some 21) (v := ?_) (a' := ?_) #[true, true, true, true, true, true, true, true, true, true, true, true, true, true, true, true, false] rfl rfl (any_of HT_.out (by kernel_rfl)) (fun _ _ _ h => h) (Or.inl ⟨by rfl, ?_⟩) ?_ ?_
  rotate_left
  · intro w'
    go_simp
    with_reducible rfl
  rotate_left
  · simp only [Act.put, List.setIfInBounds_toArray, List.set_cons_zero, List.set_cons_succ, i64_w, i32_w]
    rfl
  refine last_ (i := 16) (N := none) #[true, true, true, true, true, true, true, true, true, true, true, true, true, true, true, true, true] rfl rfl (one_of HT_.out (by kernel_rfl)) (by decide) (fun K hK => ?_)
  refine skip_ (w1 := ?_) (by rfl) rfl ?_ ?_
  rotate_left 1
  · go_simp
    rfl
  refine hK.out _ _ ?_
  clear hK K
  refine done_ (done_of HT_.out (by kernel_rfl)) ?_
  have hv : wrap64 (604800 - (604800 - off)) = off := by rw [wrap_id (by omega) (by omega)]; omega
  rw [hv]
  clear hv HT_ HW_ hHeld
  go_wp2
  refine bodyPost_ret (v := .agg #[.int .i64 off, .slice A3 week.length k3, .slice A4 closed.length k4]) (by simp [results, Try.results19, go_sem, d0, d1, d2]) rfl ⟨A3, k3, A4, k4, rfl, hl3, hl4, ?_, ?_, ?_⟩
  · exact Kd.R_mono (Kd.R_far (p := ⟨w.heap.size, 2, none⟩) (Kd.R_far (p := ⟨w.heap.size, 1, none⟩) (Kd.R_far (p := ⟨w.heap.size, 0, none⟩) (Kd.R_types R3b.out K4.out (by decide)) (fun _ h => h.2) _) (fun _ h => h.2) _) (fun _ h => h.2) _) (fun _ h => h.1)
  · exact Kd.R_mono (Kd.R_far (p := ⟨w.heap.size, 2, none⟩) (Kd.R_far (p := ⟨w.heap.size, 1, none⟩) (Kd.R_far (p := ⟨w.heap.size, 0, none⟩) (Kd.R_types R4.out K4.out (by decide)) (fun _ h => h.2) _) (fun _ h => h.2) _) (fun _ h => h.2) _) (fun _ h => h.1)
  · repeat (first | exact W4.out | refine below_set ?_ (Nat.le_refl _))
end Go.Proofs.Ytknlpeabmpllmaa.Own

namespace Go.Proofs.Ytknlpeabmpllmaa.Own
open Go.RowKit Go.Proofs Go.Proofs.YtknlpeabmpllmaaW.PrintWords Go.Proofs.YtknlpeabmpllmaaW.PrintLast Go.Proofs.YtknlpeabmpllmaaW.PrintMore Go.Proofs.Ytknlpeabmpllmaa.Base
/-- Is an instant open? -/
def openP (off : Int) (week closed : List S57) (t : Int) : Bool := decide (0 ≤ t ∧ t < 1125899906842624) && (!closedP closed t && weekOpen week (t + (604800 - off)))
end Go.Proofs.Ytknlpeabmpllmaa.Own

set_option linter.unusedVariables false
namespace Go.Proofs.Ytknlpeabmpllmaa.Own
open Go.RowKit Go.Proofs Go.Proofs.YtknlpeabmpllmaaW.PrintWords Go.Proofs.YtknlpeabmpllmaaW.PrintLast Go.Proofs.YtknlpeabmpllmaaW.PrintMore

theorem opIn_of_op {P : Program} {o : Oper} {a : Act} {w : World} {K : Act → World → Prop} {Q : Exit → Act → World → Prop} {l n : Nat} (hnd : ∀ c, o.op ≠ .defer c)
    (h : o.wp P a w K Q) : o.wpIn (Fence.wide.inRound l) n P a w K Q := by
  refine ⟨fun _ _ => trivial, ?_⟩
  rw [Oper.semAt_eq _ _ _ hnd]
  unfold Oper.wp at h
  generalize (execOp a.eval o).run P w = r at h ⊢
  unfold Oper.upon at h
  unfold Oper.uponIn
  split at h
  · exact h
  · exact h
  · exact h
  · exact ⟨fun h => by simp [Fence.wide] at h, CallsIn.inRound l (callsIn_wide.2 h)⟩
  · rename_i row args w'
    refine ⟨fun h => by simp [Fence.wide] at h, ?_⟩
    intro c cs _
    obtain ⟨v, w'', hr, hs⟩ := h c cs
    exact ⟨v, w'', hr, stepsIn_wide.2 hs⟩
  · exact h
  · exact h.elim
theorem anyIn_of_any {P : Program} {md : Region.Mode} {ops : Array Oper} {Q : Exit → Act → World → Prop} {l n : Nat} (hnd : ∀ (i : Nat) (o : Oper), ops[i]? = some o → ∀ c, o.op ≠ .defer c) (hQ : ¬ LetsOut Q) :
    ∀ (fuel : Nat) (listed : Array Bool) (a : Act) (w : World), wpAny P md ops Q fuel listed a w → wpAnyIn (Fence.wide.inRound l) n P md ops Q fuel listed a w
  | 0, _, _, _, h => h
  | fuel + 1, listed, a, w, h => by
    refine ⟨h.1, fun i hi => ?_⟩
    have h1 := h.2 i hi
    unfold wpOp at h1
    unfold wpOpIn
    cases ho : ops[i]? with
    | none => rw [ho] at h1; exact anyIn_of_any hnd hQ fuel _ _ _ h1
    | some o =>
      rw [ho] at h1
      simp only at h1 ⊢
      split at h1
      · rw [if_pos ‹_›]
        rcases h1 with h1 | h1
        · exact Oper.wpIn_mono (fun a w h => anyIn_of_any hnd hQ fuel _ a w h) (opIn_of_op (hnd i o ho) h1)
        · exact absurd h1.2 hQ
      · rw [if_neg ‹_›]
        exact ⟨fun _ _ => trivial, anyIn_of_any hnd hQ fuel _ _ _ h1⟩
/-- 'start_' in a round. -/
theorem startIn_ {P : Program} {ops : Array Oper} {Q : Exit → Act → World → Prop} {S : World → Prop} {ds : List Nat} {id n m r : Nat} {a : Act} {w : World} (hnd : ∀ (i : Nat) (o : Oper), ops[i]? = some o → ∀ c, o.op ≠ .defer c) (hQ : ¬ LetsOut Q)
    (l : Array Bool) (hm : P.follows .mixedOrders = true) (hn : ops.size = n) (hl : Array.replicate n false = l) (hS : S w.drew)
    (h : S w.drew → wpAnyLast P .any ops Q S ds n l a w.drew) : (Code.region id ops true).wpIn (Fence.wide.inRound r) m P Q a w := by
  subst hn
  subst hl
  exact wpIn_region_any hm (anyIn_of_any hnd hQ _ _ _ _ (wpAny_of_last _ _ _ _ (h hS)))
end Go.Proofs.Ytknlpeabmpllmaa.Own

set_option linter.unusedVariables false
set_option linter.unusedSimpArgs false
namespace Go.Proofs.Ytknlpeabmpllmaa.Own
open Go.RowKit Go.Proofs Go.Proofs.YtknlpeabmpllmaaW.PrintWords Go.Proofs.YtknlpeabmpllmaaW.PrintLast Go.Proofs.YtknlpeabmpllmaaW.PrintMore Go.Proofs.Ytknlpeabmpllmaa.Base

/-- What is not closed from 'at' on, up to e. -/
def freeL : List S57 → Int → Int → List S57
  | [], a, e => if a < e then [⟨a, e⟩] else []
  | s :: r, a, e => if a < e then (if s.f1 ≤ a then freeL r a e else if a < mn s.f0 e then ⟨a, mn s.f0 e⟩ :: freeL r s.f1 e else freeL r s.f1 e) else []
theorem freeL_ge (l : List S57) {a e : Int} (h : ¬ a < e) : freeL l a e = [] := by
  cases l <;> simp only [freeL] <;> rw [if_neg h]
theorem freeL_drop (l : List S57) (a e : Int) : ∀ (j : Nat), (∀ s, s ∈ l.take j → s.f1 ≤ a) → freeL l a e = freeL (l.drop j) a e := by
  induction l with
  | nil => intro j _; simp
  | cons s r ih =>
    intro j hj
    cases j with
    | zero => rfl
    | succ j =>
      by_cases h : a < e
      · have h1 := hj s (by simp)
        rw [List.drop_succ_cons, ← ih j (fun t ht => hj t (by simp [ht]))]
        simp only [freeL]
        rw [if_pos h, if_pos h1]
      · rw [freeL_ge _ h, freeL_ge _ h]
theorem take_ends {l : List S57} {t : Int} : ∀ s, s ∈ l.take (atP l t) → s.f1 ≤ t := by
  intro s hs
  obtain ⟨j, hj, rfl⟩ := List.getElem_of_mem hs
  rw [List.getElem_take]
  have : j < atP l t := by simp at hj; omega
  exact atP_lt this _
theorem freeL_none {l : List S57} {a e : Int} (h : a < e) (hx : ¬ atP l a < l.length) : freeL l a e = [⟨a, e⟩] := by
  rw [freeL_drop l a e (atP l a) take_ends, List.drop_eq_nil_of_le (by omega)]
  simp only [freeL]
  rw [if_pos h]
theorem freeL_some {lo : Int} {l : List S57} (hr : RowFrom lo l) {a e : Int} (h : a < e) (hx : atP l a < l.length) :
    freeL l a e = if a < mn (rd_T57 l (atP l a)).f0 e then ⟨a, mn (rd_T57 l (atP l a)).f0 e⟩ :: freeL l (rd_T57 l (atP l a)).f1 e else freeL l (rd_T57 l (atP l a)).f1 e := by
  have h1 : a < (rd_T57 l (atP l a)).f1 := by rw [rd_at l _ hx]; exact atP_at hx
  have h2 : freeL l (rd_T57 l (atP l a)).f1 e = freeL (l.drop (atP l a + 1)) (rd_T57 l (atP l a)).f1 e := by
    refine freeL_drop l _ e _ (fun s hs => ?_)
    obtain ⟨j, hj, rfl⟩ := List.getElem_of_mem hs
    rw [List.getElem_take, rd_at l _ hx]
    exact hr.ends j (atP l a) (by simp at hj; omega) hx
  rw [h2, freeL_drop l a e (atP l a) take_ends, drop_at hx]
  conv => lhs; unfold freeL
  rw [if_pos h, if_neg (by omega)]
theorem atP_next {lo : Int} {l : List S57} (hr : RowFrom lo l) {a : Int} (hx : atP l a < l.length) : atP l a < atP l (rd_T57 l (atP l a)).f1 :=
  atP_gt hr hx (by rw [rd_at l _ hx]; exact Int.le_refl _)
/-- A span that a clock may look at. -/
abbrev GS : Type := { s : S57 // 0 ≤ s.f0 ∧ s.f0 < s.f1 ∧ s.f1 ≤ 1125899906842624 }
end Go.Proofs.Ytknlpeabmpllmaa.Own

set_option linter.unusedVariables false
set_option linter.unusedSimpArgs false
namespace Go.Proofs.Ytknlpeabmpllmaa.Own
open Go.RowKit Go.Shelf Go.Proofs Go.Proofs.YtknlpeabmpllmaaW.PrintWords Go.Proofs.YtknlpeabmpllmaaW.PrintLast Go.Proofs.YtknlpeabmpllmaaW.PrintMore Go.Proofs.Ytknlpeabmpllmaa.Base
attribute [local go_sem] Oper.semAt_some max2_mx min2_mn max_two min_two

theorem free_any (ab : Nat) (a b : Int) (w : World) :
    Calls Try.prog 33 #[.pointer (some ⟨ab, 0, none⟩), .int .i64 a, .int .i64 b] w fun e w' => e = .returned (.func (.func 58) #[] #[.pointer (some ⟨w.heap.size + 1, 0, none⟩), .pointer (some ⟨w.heap.size + 1 + 1, 0, none⟩), .pointer (some ⟨w.heap.size, 0, none⟩)]) ∧
      w' = ((w.alloc (.cells #[.pointer (some ⟨ab, 0, none⟩)] 47)).alloc (.cells #[.int .i64 a] 2)).alloc (.cells #[.int .i64 b] 2) := by
  have hmf : ∀ (fn : Fn) (first cap : Array Value) (w : World), (Instr.makeFunc fn first cap).run Try.prog w = .ok (.func fn first cap) w := fun _ _ _ _ => rfl
  go_enter Try.func33, Try.ntmps33
  go_wp2
  go_ret
  exact ⟨rfl, rfl⟩

/-- An almanac all of whose blocks lie below m. -/
structure AlmM (w : World) (m ab cb : Nat) (row : List S57) : Prop where
  ok : RowOk 1125899906842624 row
  lt : ab < m
  ne : ab ≠ cb
  blk : ∃ A c, w.heap[ab]? = some (.cells #[.slice A row.length c] 90 (0, 0)) ∧ row.length ≤ c ∧ Kd.R k57 57 w 0 (fun k => k ≠ cb ∧ k < m) (.slice A row.length c) row
theorem AlmM.of {w : World} {n ab cb : Nat} {row : List S57} (h : AlmAt w n ab cb row) : AlmM w w.heap.size ab cb row := by
  obtain ⟨A, c, hb, hc, hr⟩ := h.blk
  exact ⟨h.ok, blk_lt hb, h.ne, ⟨A, c, hb, hc, Kd.R_lower (Kd.R_mono (Kd.R_bound hr) (fun k hk => ⟨hk.1, hk.2.2.1⟩)) (Nat.zero_le _)⟩⟩
theorem AlmM.at {w : World} {m ab cb : Nat} {row : List S57} (h : AlmM w m ab cb row) : AlmAt w 0 ab cb row := by
  obtain ⟨A, c, hb, hc, hr⟩ := h.blk
  exact ⟨h.ok, Nat.zero_le _, h.ne, ⟨A, c, hb, hc, Kd.R_mono hr (fun _ hk => hk.1)⟩⟩
theorem AlmM.keep {w w' : World} {m ab cb : Nat} {row : List S57} (h : AlmM w m ab cb row) (hm : ∀ k, k < m → k ≠ cb → w'.heap[k]? = w.heap[k]?) : AlmM w' m ab cb row := by
  obtain ⟨A, c, hb, hc, hr⟩ := h.blk
  exact ⟨h.ok, h.lt, h.ne, ⟨A, c, (hm ab h.lt h.ne).trans hb, hc, Kd.R_step hr (fun k hk _ => hm k hk.2 hk.1)⟩⟩
/-- What a round keeps: all below m but cb, and the variables from the iterator's on. -/
structure KeepM (m cb fb : Nat) (W W' : World) : Prop where
  size : W.heap.size ≤ W'.heap.size
  low : ∀ k, k < m → k ≠ cb → W'.heap[k]? = W.heap[k]?
  box : ∀ k o, fb ≤ k → W.heap[k]? = some o → o.isCells = true → W'.heap[k]? = some o
theorem KeepM.trans {m cb fb : Nat} {A B C : World} (h : KeepM m cb fb A B) (k : KeepM m cb fb B C) : KeepM m cb fb A C :=
  ⟨Nat.le_trans h.size k.size, fun i a b => (k.low i a b).trans (h.low i a b), fun i o a b c => k.box i o a (h.box i o a b c) c⟩
theorem KeepM.of_below {m cb fb : Nat} {A B : World} (h : Below A.heap.size A B) (hm : m ≤ A.heap.size) : KeepM m cb fb A B :=
  ⟨h.size, fun k a _ => h.block k (by omega), fun k o _ b _ => (h.block k (blk_lt b)).trans b⟩

def freef_T0 : Bool × List (List Nat × List Nat) := (true, [([], []), ([0], [0]), ([], []), ([2], [2]), ([1, 0, 1], [1]), ([3, 4, 0, 1, 2, 3, 4], [3])])
def freef_B0 : List Nat := [0, 1, 0, 4, 3, 31]
theorem freef_tab0 : rtab .any (opsOf Try.f58 0) = freef_T0 := by kernel_rfl
theorem freef_bits0 : waitsOk freef_T0.2 freef_B0 = true := by kernel_rfl

set_option maxHeartbeats 4000000 in
set_option maxRecDepth 100000 in
theorem free_stops (m ab cb fb : Nat) (row : List S57) (a b : Int) (w : World) (hA : AlmM w m ab cb row) (hm : m ≤ w.heap.size) (hf : fb + 1 + 1 < w.heap.size) (ha : 0 ≤ a) (ha2 : a ≤ 1125899906842624) (hb : b ≤ 1125899906842624)
    (h0 : w.heap[fb]? = some (.cells #[.pointer (some ⟨ab, 0, none⟩)] 47 (0, 0))) (h1 : w.heap[fb + 1]? = some (.cells #[.int .i64 a] 2 (0, 0))) (h2 : w.heap[fb + 1 + 1]? = some (.cells #[.int .i64 b] 2 (0, 0))) (n : Nat) (hn : 1 ≤ n) :
    SeqStopsK Fence.wide n Try.prog 58 #[.pointer (some ⟨fb + 1, 0, none⟩), .pointer (some ⟨fb + 1 + 1, 0, none⟩), .pointer (some ⟨fb, 0, none⟩)] (fun x : GS => #[.agg #[.int .i64 x.1.f0, .int .i64 x.1.f1]]) (KeepM m cb fb)
      (fun xs => xs.map (·.1) = freeL row a b) (fun pre => pre.map (·.1) <+: freeL row a b) (freeL row a b).length w := by
  intro l J Jx W hW hJ hJx hY hJ0
  have k0 : W.heap[fb]? = some (.cells #[.pointer (some ⟨ab, 0, none⟩)] 47 (0, 0)) := blk_below h0 hW
  have k1 : W.heap[fb + 1]? = some (.cells #[.int .i64 a] 2 (0, 0)) := blk_below h1 hW
  have k2 : W.heap[fb + 1 + 1]? = some (.cells #[.int .i64 b] 2 (0, 0)) := blk_below h2 hW
  have HA := Aside0.mk (hA.keep (w' := W) (fun k hk _ => hW.block k (by omega)))
  have HSZ : Aside0 (m ≤ W.heap.size ∧ fb + 1 + 1 < W.heap.size) := ⟨by have := hW.size; omega⟩
  have HK0 := Aside0.mk k0
  have HJ := Aside0.mk hJ
  have HJX := Aside0.mk hJx
  have HY := Aside0.mk hY
  have HJ0 := Aside0.mk hJ0
  have c1 : W.drew.cell? ⟨fb + 1, 0, none⟩ = some (.int .i64 a) := (blk_cell k1 0).trans rfl
  have c2 : W.drew.cell? ⟨fb + 1 + 1, 0, none⟩ = some (.int .i64 b) := (blk_cell k2 0).trans rfl
  have hd1 : Below W.heap.size W W.drew := below_drew1 (Below.refl _ _)
  have HA2 := Aside0.mk (HA.out.keep (w' := W.drew) (fun k hk _ => hd1.block k (by have := HSZ.out; omega)))
  have HK2 := Aside0.mk (blk_below HK0.out hd1)
  have HJ2 : Aside0 (J [] W.drew) := ⟨hJ _ _ _ none hJ0 (grown_of_below hd1 none) (fun _ e => by cases e)⟩
  have HSZ2 : Aside0 (m ≤ W.drew.heap.size ∧ fb + 1 + 1 < W.drew.heap.size ∧ W.heap.size ≤ W.drew.heap.size) := ⟨by have := hd1.size; have := HSZ.out; omega⟩
  have hfn : ∀ g, Fence.wide.fn g := fun _ => trivial
  have ea : mx a 0 = a := by unfold mx; split <;> omega
  have eb : mn b 1125899906842624 = b := by unfold mn; split <;> omega
  clear hA hW hJ hJx hY hJ0 k0 k1 k2 h0 h1 h2 hd1 HA HK0 HJ0
  refine callsIn_of_wp Try.func58 rfl trivial ?_ rfl
  simp only [Try.ntmps58, List.size_toArray, List.length_cons, List.length_nil, Nat.reduceAdd, Nat.reduceSub, Array.replicate_succ, Array.replicate_zero, List.push_toArray, List.append_toArray, List.nil_append, List.cons_append]
  gi_wp2
  refine wpIn_wide.2 ?_
  refine start_ (n := 6) (S := fun w' => w'.cell? ⟨fb + 1, 0, none⟩ = some (.int .i64 a) ∧ w'.cell? ⟨fb + 1 + 1, 0, none⟩ = some (.int .i64 b)) (ds := []) #[false, false, false, false, false, false] (by kernel_rfl) rfl rfl ⟨c1, c2⟩ (fun hHeld => ?_); refine with_tabW freef_tab0 freef_bits0 (fun HT_ HW_ => ?_)
  clear c1 c2
  generalize W.drew = w2 at HA2 HK2 HJ2 HSZ2 hHeld ⊢
  refine take_ (i := 0) (N := some 10) (v := ?_) (a' := ?_) #[true, false, false, false, false, false] rfl rfl (take_ofW HT_.out HW_.out (by kernel_rfl)) (fun _ _ _ h => h) (Or.inl ⟨by rfl, ?_⟩) hHeld ?_ ?_
  rotate_left
  · rintro w' ⟨s0, s1⟩
    go_simp
    with_reducible rfl
  rotate_left
  · simp only [Act.put, List.setIfInBounds_toArray, List.set_cons_zero, List.set_cons_succ, i64_w, i32_w]
    rfl
  refine pure_ (i := 1) (N := some 11) (v := ?_) (a' := ?_) #[true, true, false, false, false, false] rfl rfl (any_of HT_.out (by kernel_rfl)) (fun _ _ _ h => h) (Or.inl ⟨by rfl, ?_⟩) ?_ ?_
  rotate_left
  · intro w'
    go_simp
    with_reducible rfl
  rotate_left
  · simp only [Act.put, List.setIfInBounds_toArray, List.set_cons_zero, List.set_cons_succ, i64_w, i32_w]
    rfl
  refine pure_ (i := 4) (N := some 5) (v := ?_) (a' := ?_) #[true, true, false, false, true, false] rfl rfl (any_of HT_.out (by kernel_rfl)) (fun _ _ _ h => h) (Or.inl ⟨by rfl, ?_⟩) ?_ ?_
  rotate_left
  · intro w'
    go_simp
    with_reducible rfl
  rotate_left
  · simp only [Act.put, List.setIfInBounds_toArray, List.set_cons_zero, List.set_cons_succ, i64_w, i32_w]
    rfl
  refine take_ (i := 2) (N := some 12) (v := ?_) (a' := ?_) #[true, true, true, false, true, false] rfl rfl (take_ofW HT_.out HW_.out (by kernel_rfl)) (fun _ _ _ h => h) (Or.inl ⟨by rfl, ?_⟩) hHeld ?_ ?_
  rotate_left
  · rintro w' ⟨s0, s1⟩
    go_simp
    with_reducible rfl
  rotate_left
  · simp only [Act.put, List.setIfInBounds_toArray, List.set_cons_zero, List.set_cons_succ, i64_w, i32_w]
    rfl
  refine pure_ (i := 3) (N := some 13) (v := ?_) (a' := ?_) #[true, true, true, true, true, false] rfl rfl (any_of HT_.out (by kernel_rfl)) (fun _ _ _ h => h) (Or.inl ⟨by rfl, ?_⟩) ?_ ?_
  rotate_left
  · intro w'
    go_simp
    with_reducible rfl
  rotate_left
  · simp only [Act.put, List.setIfInBounds_toArray, List.set_cons_zero, List.set_cons_succ, i64_w, i32_w]
    rfl
  refine pure_ (i := 5) (N := some 6) (v := ?_) (a' := ?_) #[true, true, true, true, true, true] rfl rfl (any_of HT_.out (by kernel_rfl)) (fun _ _ _ h => h) (Or.inl ⟨by rfl, ?_⟩) ?_ ?_
  rotate_left
  · intro w'
    go_simp
    with_reducible rfl
  rotate_left
  · simp only [Act.put, List.setIfInBounds_toArray, List.set_cons_zero, List.set_cons_succ, i64_w, i32_w]
    rfl
  refine done_ (done_of HT_.out (by kernel_rfl)) ?_
  gi_wp2
  clear HT_ HW_ hHeld ea eb HSZ
  gi_loopw [5] (fun v5 wr => ∃ (pre : List GS) (at' : Int), v5 = .int .i64 at' ∧ Aside0 (freeL row a b = pre.map (·.1) ++ freeL row at' b ∧ 0 ≤ at' ∧ at' ≤ 1125899906842624) ∧ Aside0 (J pre wr) ∧ Aside0 (AlmM wr m ab cb row) ∧ Aside0 (wr.heap[fb]? = some (.cells #[.pointer (some ⟨ab, 0, none⟩)] 47 (0, 0))) ∧ Aside0 (m ≤ wr.heap.size ∧ fb + 1 + 1 < wr.heap.size ∧ W.heap.size ≤ wr.heap.size)) (fun p wr => match p with | .int _ x => (b - x).toNat | _ => 0)
  case atStart => exact ⟨[], a, rfl, ⟨rfl, ha, ha2⟩, HJ2, HA2, HK2, HSZ2⟩
  case round =>
    clear HA2 HJ2 HK2 HSZ2
    obtain ⟨pre, at', rfl, HF, HJs, HAs, HKs, HSs⟩ := hrel
    have c0 : wr.cell? ⟨fb, 0, none⟩ = some (.pointer (some ⟨ab, 0, none⟩)) := (blk_cell HKs.out 0).trans rfl
    by_cases hlt : at' < b
    · have hp : 0 ≤ at' ∧ at' < b ∧ b ≤ 1125899906842624 := ⟨HF.out.2.1, hlt, hb⟩
      by_cases hi : atP row at' < row.length
      · have hd : decide (atP row at' < row.length) = true := decide_eq_true hi
        have HN := Aside0.mk (next_any 0 ab cb row at' wr HAs.out.at)
        rw [hd] at HN
        have hnx : nxtP row at' = rd_T57 row (atP row at') := if_pos hi
        have HFR := Aside0.mk (freeL_some HAs.out.ok.row hlt hi)
        have HAT := Aside0.mk (atP_next HAs.out.ok.row hi)
        have hin : 0 ≤ (rd_T57 row (atP row at')).f0 ∧ (rd_T57 row (atP row at')).f0 < (rd_T57 row (atP row at')).f1 ∧ (rd_T57 row (atP row at')).f1 ≤ 1125899906842624 := by
          rw [rd_at row _ hi]; exact HAs.out.ok.mem _ (List.getElem_mem _)
        rw [← hnx] at HFR HAT hin
        have hgt : at' < (nxtP row at').f1 := by rw [hnx, rd_at row _ hi]; exact atP_at hi
        clear hnx
        generalize nxtP row at' = s at *
        obtain ⟨s0, s1⟩ := s
        simp only at hin HFR HAT hgt
        have hi0 := hin.1
        have hi1 := hin.2.1
        have hi2 := hin.2.2
        have HH := Aside0.mk (show (0 ≤ s0 ∧ s0 < s1 ∧ s1 ≤ 1125899906842624) ∧ at' < s1 from ⟨hin, hgt⟩)
        have hmin : ∃ z, mn s0 b = z := ⟨_, rfl⟩
        obtain ⟨z, hz⟩ := hmin
        have hz1 : z ≤ s0 ∧ z ≤ b := by subst hz; unfold mn; split <;> omega
        have HZ := Aside0.mk hz1
        rw [hz] at HFR
        by_cases hfr : at' < z
        · rw [if_pos hfr] at HFR
          have hq : 0 ≤ at' ∧ at' < z ∧ z ≤ 1125899906842624 := ⟨hp.1, hfr, by omega⟩
          gi_wp2_with (gi_at_call 59; refine (callsIn_wide.2 HN.out).mono ?_; rintro e w3 ⟨rfl, hb3⟩; have HB3 := Aside0.mk hb3; clear hb3; obtain ⟨fn, tmps, assign, body, hy, hR⟩ := HY.out pre ⟨⟨at', z⟩, hq⟩ ((w3.alloc (.cells #[.int .i64 s0, .int .i64 s1] 57)).alloc (.cells #[.int .i64 at', .int .i64 z] 57)) (HJ.out _ _ _ none HJs.out (grown_of_below (below_alloc (below_alloc HB3.out _) _) none) (fun _ e => by cases e)) (by rw [HF.out.1, HFR.out]; simp))
          refine hR.mono ?_
          rintro e W' (⟨rfl, hJ', hk⟩ | ⟨rfl, hJx'⟩)
          · have hB := Aside0.mk (below_alloc (below_alloc HB3.out (.cells #[.int .i64 s0, .int .i64 s1] 57)) (.cells #[.int .i64 at', .int .i64 z] 57))
            have hK := Aside0.mk ((KeepM.of_below (m := m) (cb := cb) (fb := fb) hB.out HSs.out.1).trans hk)
            have hblk := hk.box w3.heap.size _ (by have := HSs.out; have := HB3.out.size; omega) (blk_alloc (blk_new w3 (.cells #[.int .i64 s0, .int .i64 s1] 57)) (.cells #[.int .i64 at', .int .i64 z] 57)) rfl
            have hc1 : W'.cell? ⟨w3.heap.size, 1, none⟩ = some (.int .i64 s1) := (blk_cell hblk 1).trans rfl
            have HJ' := Aside0.mk hJ'
            clear hk hJ' hR hy hblk hB HB3
            gi_wp2
            go_roundw
            case measure => show (b - s1).toNat < (b - at').toNat; omega
            case rel => exact ⟨pre ++ [⟨⟨at', z⟩, hq⟩], s1, rfl, ⟨by rw [HF.out.1, HFR.out]; simp, by omega, by omega⟩, HJ', ⟨HAs.out.keep (fun k hk1 hk2 => hK.out.low k hk1 hk2)⟩, ⟨hK.out.box _ _ (Nat.le_refl _) HKs.out rfl⟩, ⟨by have := HSs.out; have := hK.out.size; omega⟩⟩
          · gi_wp2
            refine bodyPost_ret (results_none rfl _ _ _) rfl ?_
            exact ⟨⟨_, rfl⟩, .inr ⟨pre ++ [⟨⟨at', z⟩, hq⟩], by rw [HF.out.1, HFR.out]; simp, hJx'⟩⟩
        · rw [if_neg hfr] at HFR
          gi_wp2_with (gi_at_call 59; refine (callsIn_wide.2 HN.out).mono ?_; rintro e w3 ⟨rfl, hb3⟩; have HB3 := Aside0.mk hb3; clear hb3)
          go_roundw
          case measure => show (b - s1).toNat < (b - at').toNat; omega
          case rel =>
            have hB := below_alloc (below_alloc HB3.out (.cells #[.int .i64 s0, .int .i64 s1] 57)) (.cells #[.int .i64 at', .int .i64 z] 57)
            have hK := KeepM.of_below (m := m) (cb := cb) (fb := fb) hB HSs.out.1
            exact ⟨pre, s1, rfl, ⟨by rw [HF.out.1, HFR.out], by omega, by omega⟩, ⟨HJ.out _ _ _ none HJs.out (grown_of_below hB none) (fun _ e => by cases e)⟩, ⟨HAs.out.keep (fun k hk1 hk2 => hK.low k hk1 hk2)⟩, ⟨hK.box _ _ (Nat.le_refl _) HKs.out rfl⟩, ⟨by have := HSs.out; have := hK.size; omega⟩⟩
      · have hd : decide (atP row at' < row.length) = false := decide_eq_false hi
        gi_wp2_with (gi_at_call 59; refine (callsIn_wide.2 (next_any 0 ab cb row at' _ HAs.out.at)).mono ?_; rintro e w3 ⟨rfl, hb3⟩; rw [hd]; have HB3 := Aside0.mk hb3; clear hb3; obtain ⟨fn, tmps, assign, body, hy, hR⟩ := HY.out pre ⟨⟨at', b⟩, hp⟩ (w3.alloc (.cells #[.int .i64 (nxtP row at').f0, .int .i64 (nxtP row at').f1] 57)) (HJ.out _ _ _ none HJs.out (grown_of_below (below_alloc HB3.out _) none) (fun _ e => by cases e)) (by rw [HF.out.1, freeL_none hlt hi]; simp))
        refine hR.mono ?_
        rintro e W' (⟨rfl, hJ', hk⟩ | ⟨rfl, hJx'⟩)
        · gi_wp2
          refine bodyPost_ret (results_none rfl _ _ _) rfl ?_
          exact ⟨⟨_, rfl⟩, .inl ⟨pre ++ [⟨⟨at', b⟩, hp⟩], by rw [HF.out.1, freeL_none hlt hi]; simp, hJ'⟩⟩
        · gi_wp2
          refine bodyPost_ret (results_none rfl _ _ _) rfl ?_
          exact ⟨⟨_, rfl⟩, .inr ⟨pre ++ [⟨⟨at', b⟩, hp⟩], by rw [HF.out.1, freeL_none hlt hi]; simp, hJx'⟩⟩
    · gi_wp2
      go_end0
      exact ⟨⟨_, rfl⟩, .inl ⟨pre, by rw [HF.out.1, freeL_ge _ (Int.not_lt.2 hlt)]; simp, HJs.out⟩⟩
end Go.Proofs.Ytknlpeabmpllmaa.Own
