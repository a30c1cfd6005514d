/- For every input: the law CalendarNobody returns true, and changes nothing of its arguments. Its conditions: those of the given row alone. -/
import Derived.Test.YtknlpeabmpllmaaOwnD
set_option linter.unusedVariables false
set_option linter.unusedSimpArgs false
namespace Go.Proofs.Ytknlpeabmpllmaa.Own
open Go.RowKit Go.Proofs Go.Proofs.YtknlpeabmpllmaaW.PrintWords Go.Proofs.YtknlpeabmpllmaaW.PrintLast Go.Proofs.YtknlpeabmpllmaaW.PrintMore Go.Proofs.Ytknlpeabmpllmaa.Base
variable {off : Int} {week closed : List S57}
theorem has_l0 (l : List S57) (t : Int) (hl : l.length ≤ 1000000) : ∀ (d k i : Nat), i + d = l.length → d < k → curfewref07_Has.l0 k l t (i : Int) = some (inRow (l.drop i) t) := by
  intro d
  induction d with
  | zero =>
    intro k i hi hk
    obtain ⟨k, rfl⟩ : ∃ m, k = m + 1 := ⟨k - 1, by omega⟩
    rw [List.drop_eq_nil_of_le (by omega)]
    simp only [curfewref07_Has.l0]
    rw [if_neg (by omega)]
    rfl
  | succ d ih =>
    intro k i hi hk
    obtain ⟨k, rfl⟩ : ∃ m, k = m + 1 := ⟨k - 1, by omega⟩
    have hlt : i < l.length := by omega
    rw [drop_at hlt, inRow_cons]
    simp only [curfewref07_Has.l0]
    rw [if_pos (by omega), if_pos (by omega), wrap_id (x := (i : Int) + 1) (by omega) (by omega)]
    have ih' := ih k (i + 1) (by omega) (by omega)
    rw [show ((i + 1 : Nat) : Int) = (i : Int) + 1 by omega] at ih'
    rw [ih']
    by_cases h1 : t ≥ (rd_T57 l i).f0
    · rw [if_pos h1]
      by_cases h2 : t < (rd_T57 l i).f1
      · rw [if_pos h2, decide_eq_true ⟨h1, h2⟩]; rfl
      · rw [if_neg h2, decide_eq_false (by omega), Bool.false_or]
    · rw [if_neg h1, decide_eq_false (by omega), Bool.false_or]
theorem RowOk.big {l : List S57} (h : RowOk 604800 l) : RowOk 1125899906842624 l := ⟨h.len, h.row, fun s hs => by have := h.top s hs; omega⟩
theorem has_eq {l : List S57} (h : RowOk 1125899906842624 l) (t : Int) (k : Nat) (hk : 40 ≤ k) : curfewref07_Has.f k l t = some (inRow l t) := by
  unfold curfewref07_Has.f
  have hl := h.len
  rw [rrow_eq l k (by omega), Option.bind_some, if_pos h.err]
  exact has_l0 l t (by omega) l.length k 0 (by omega) (by omega)
theorem openref_eq (h : CalOk off week closed) (t : Int) : curfewref10_Open.f 40 off week closed t = some (openP off week closed t) := by
  have h0 := h.lo
  have h1 := h.hi
  unfold curfewref10_Open.f
  by_cases t0 : t ≥ 0
  · rw [if_pos t0]
    by_cases t1 : t < 1125899906842624
    · rw [if_pos t1, has_eq h.closed _ _ (by omega), Option.bind_some, openP_cop h t0 t1, wrap_id (x := t - off) (by omega) (by omega), wrap_id (by omega) (by omega)]
      unfold cop wop
      cases hc : inRow closed t with
      | true => rfl
      | false =>
        rw [if_neg (by decide), has_eq h.week.big _ _ (by omega), Option.bind_some, Int.tmod_eq_emod_of_nonneg (by omega)]
        rw [show t - off + 604800 = t + (604800 - off) by omega]
        rfl
    · rw [if_neg t1]; unfold openP; rw [decide_eq_false (by omega)]; rfl
  · rw [if_neg t0]; unfold openP; rw [decide_eq_false (by omega)]; rfl
theorem same_l0 (l : List S57) (hl : l.length ≤ 1000000) : ∀ (d k i : Nat), i + d = l.length → d < k → curfewref07_Same.l0 k l l (i : Int) = some true := by
  intro d
  induction d with
  | zero =>
    intro k i hi hk
    obtain ⟨k, rfl⟩ : ∃ m, k = m + 1 := ⟨k - 1, by omega⟩
    simp only [curfewref07_Same.l0]
    rw [if_neg (by omega)]
  | succ d ih =>
    intro k i hi hk
    obtain ⟨k, rfl⟩ : ∃ m, k = m + 1 := ⟨k - 1, by omega⟩
    simp only [curfewref07_Same.l0]
    have ih' := ih k (i + 1) (by omega) (by omega)
    rw [show ((i + 1 : Nat) : Int) = (i : Int) + 1 by omega] at ih'
    rw [if_pos (by omega), if_pos (by omega), if_pos (by omega), if_neg (by simp), wrap_id (by omega) (by omega), ih']
theorem sameref_eq (off : Int) (week closed : List S57) (h1 : week.length ≤ 32) (h2 : closed.length ≤ 32) : curfewref10_Same.f 40 off week closed off week closed = some true := by
  unfold curfewref10_Same.f curfewref07_Same.f
  have e1 : curfewref07_Same.l0 40 week week 0 = some true := same_l0 week (by omega) week.length 40 0 (by omega) (by omega)
  have e2 : curfewref07_Same.l0 40 closed closed 0 = some true := same_l0 closed (by omega) closed.length 40 0 (by omega) (by omega)
  rw [if_pos rfl, if_pos rfl, e1, Option.bind_some, if_pos rfl, if_pos rfl, e2]
  rfl
variable {A1 A2 : Option Addr} {c1 c2 : Nat}
theorem refopen_any (h : CalOk off week closed) (t : Int) (w : World) (h1 : Kd.C k57 w A1 week.length week ∧ week.length ≤ c1) (h2 : Kd.C k57 w A2 closed.length closed ∧ closed.length ≤ c2) :
    Calls Try.prog 17 #[.agg #[.int .i64 off, .slice A1 week.length c1, .slice A2 closed.length c2], .int .i64 t] w fun e w' => e = .returned (.bool (openP off week closed t)) ∧ Below w.heap.size w w' :=
  curfewref10_Open.calls 40 off A1 c1 week A2 c2 closed t _ w h1.1 h1.2 h2.1 h2.2 (openref_eq h t)
theorem refsame_any {B1 B2 : Option Addr} {d1 d2 : Nat} (h : CalOk off week closed) (w : World) (g1 : Kd.C k57 w B1 week.length week ∧ week.length ≤ d1) (g2 : Kd.C k57 w B2 closed.length closed ∧ closed.length ≤ d2) (h1 : Kd.C k57 w A1 week.length week ∧ week.length ≤ c1) (h2 : Kd.C k57 w A2 closed.length closed ∧ closed.length ≤ c2) :
    Calls Try.prog 18 #[.agg #[.int .i64 off, .slice B1 week.length d1, .slice B2 closed.length d2], .agg #[.int .i64 off, .slice A1 week.length c1, .slice A2 closed.length c2]] w fun e w' => e = .returned (.bool true) ∧ Below w.heap.size w w' :=
  curfewref10_Same.calls 40 off B1 d1 week B2 d2 closed off A1 c1 week A2 c2 closed _ w g1.1 g1.2 g2.1 g2.2 h1.1 h1.2 h2.1 h2.2 (sameref_eq off week closed h.week.len h.closed.len)
end Go.Proofs.Ytknlpeabmpllmaa.Own

set_option linter.unusedVariables false
set_option linter.unusedSimpArgs false
namespace Go.Proofs.Ytknlpeabmpllmaa.Own
open Go.RowKit Go.Proofs Go.Proofs.YtknlpeabmpllmaaW.PrintWords Go.Proofs.YtknlpeabmpllmaaW.PrintLast Go.Proofs.YtknlpeabmpllmaaW.PrintMore Go.Proofs.Ytknlpeabmpllmaa.Base
attribute [local go_sem] max2_mx min2_mn max_two min_two
variable {w : World} {v : Value}
/-- Nil, or a clock that no call made. -/
def NoClk (w : World) (v : Value) : Prop := v = .pointer none ∨ ∃ b, v = .pointer (some ⟨b, 0, none⟩) ∧ w.heap[b]? = some (.cells #[.pointer none, .pointer none, .int .i64 0] 50 (0, 0))
theorem NoClk.below {w' : World} (h : NoClk w v) (hb : Below w.heap.size w w') : NoClk w' v := by
  rcases h with h | ⟨b, h, k⟩
  · exact .inl h
  · exact .inr ⟨b, h, blk_below k hb⟩
theorem no_none (w : World) (h : NoClk w v) : Calls Try.prog 30 #[v] w fun e w' => e = .returned (.bool true) ∧ w = w' := by
  rcases h with rfl | ⟨b, rfl, hb⟩
  · exact clknone_nil w
  · have c1 : w.cell? ⟨b, 1, none⟩ = some (.pointer none) := (blk_cell hb 1).trans rfl
    clear hb
    go_enter Try.func30, Try.ntmps30
    go_wp2
    go_ret
    exact ⟨rfl, rfl⟩
set_option maxHeartbeats 1600000 in
set_option maxRecDepth 100000 in
theorem no_elapsed (a b : Int) (w : World) (h : NoClk w v) : Calls Try.prog 20 #[v, .int .i64 a, .int .i64 b] w fun e w' => e = .returned (.tuple #[.int .i64 0, .int .i64 1]) ∧ w = w' := by
  have HN := Aside0.mk (no_none w h)
  clear h
  go_enter Try.func20, Try.ntmps20
  go_wp2_with (go_at_call 30; refine HN.out.mono ?_; rintro e w1 ⟨rfl, rfl⟩)
  go_ret2
  exact ⟨rfl, rfl⟩
set_option maxHeartbeats 1600000 in
set_option maxRecDepth 100000 in
theorem no_rest (a u b : Int) (w : World) (h : NoClk w v) : Calls Try.prog 23 #[v, .int .i64 a, .int .i64 u, .int .i64 b] w fun e w' => e = .returned (.tuple #[.int .i64 0, .int .i64 1]) ∧ w = w' := by
  have HN := Aside0.mk (no_none w h)
  have HE := Aside0.mk (no_elapsed a b w h)
  have hnot : ∀ (x : Bool) (w : World), (Op.unary .not (.bool x)).run Try.prog w = .ok (.bool (!x)) w := fun _ _ => rfl
  clear h
  go_enter Try.func23, Try.ntmps23
  go_wp2_with (first | (go_at_call 30; refine HN.out.mono ?_; rintro e w1 ⟨rfl, rfl⟩) | (go_at_call 20; refine HE.out.mono ?_; rintro e w1 ⟨rfl, rfl⟩))
  go_ret2
  exact ⟨rfl, rfl⟩
set_option maxHeartbeats 1600000 in
set_option maxRecDepth 100000 in
theorem no_due (a B : Int) (w : World) (h : NoClk w v) :
    Calls Try.prog 14 #[v, .int .i64 a, .int .i64 B] w fun e w' => e = .returned (.tuple #[.int .i64 0, .int .i64 1]) ∧ Below w.heap.size w w' := by
  rcases h with rfl | ⟨b, rfl, hb⟩
  · exact due_nil a B w
  have D := Aside0.mk (DueB.new w (.pointer (some ⟨b, 0, none⟩)) B)
  have HB := Aside0.mk (below_alloc (below_alloc (below_alloc (below_alloc (Below.refl w.heap.size w) (.cells #[.pointer (some ⟨b, 0, none⟩)] 28)) (.cells #[.int .i64 B] 2)) (.cells #[.int .i64 0] 2)) (.cells #[.int .i64 0] 29))
  have HN := Aside0.mk (no_none _ ((show NoClk w (.pointer (some ⟨b, 0, none⟩)) from .inr ⟨b, rfl, hb⟩).below HB.out))
  clear hb
  go_enter Try.func14, Try.ntmps14
  go_wp2_with fail
  generalize ((((w.alloc (.cells #[.pointer (some ⟨b, 0, none⟩)] 28)).alloc (.cells #[.int .i64 B] 2)).alloc (.cells #[.int .i64 0] 2)).alloc (.cells #[.int .i64 0] 29)) = w4 at D HB HN ⊢
  have d0 : w4.cell? ⟨w.heap.size, 0, none⟩ = some (.pointer (some ⟨b, 0, none⟩)) := (blk_cell D.out.b0 0).trans rfl
  have d2 : w4.cell? ⟨w.heap.size + 1 + 1, 0, none⟩ = some (.int .i64 0) := (blk_cell D.out.b2 0).trans rfl
  have d3 : w4.cell? ⟨w.heap.size + 1 + 1 + 1, 0, none⟩ = some (.int .i64 0) := (blk_cell D.out.b3 0).trans rfl
  have f2 : w4.frozen? ⟨w.heap.size + 1 + 1, 0, none⟩ = false := blk_frozen D.out.b2 0
  have f3 : w4.frozen? ⟨w.heap.size + 1 + 1 + 1, 0, none⟩ = false := blk_frozen D.out.b3 0
  go_wp2_with (go_at_call 30; refine HN.out.mono ?_; rintro e w5 ⟨rfl, rfl⟩)
  have D5 := (D.out.set2 0).set3 1
  have e2 := (blk_cell D5.b2 0).trans (rfl : _ = some (Value.int .i64 0))
  have e3 := (blk_cell D5.b3 0).trans (rfl : _ = some (Value.int .i64 1))
  refine bodyPost_ret (v := .tuple #[.int .i64 0, .int .i64 1]) (by simp [results, Try.results14, go_sem, e2, e3]) rfl ⟨rfl, ?_⟩
  exact below_set (below_set HB.out (by show w.heap.size ≤ w.heap.size + 1 + 1; omega)) (by show w.heap.size ≤ w.heap.size + 1 + 1 + 1; omega)
def noopen_T1 : Bool × List (List Nat × List Nat) := (true, [([], []), ([0], [0]), ([1], [1]), ([2, 1], [2]), ([3], [3]), ([4, 3, 3], [3, 4]), ([3, 5], [3, 5]), ([6, 5], [6]), ([7], [7]), ([8, 7], [7, 8]), ([7, 9], [7, 9]), ([10, 7], [10]), ([11], [11]), ([12, 11], [11, 12]), ([13, 11], [11, 13]), ([14, 11], [11, 14]), ([11], [11]), ([15, 16, 11, 11], [11, 15, 16]), ([17, 11], [11, 17]), ([11, 18], [11, 18]), ([19, 17], [19]), ([20], [20]), ([21, 20], [20, 21]), ([22, 20], [20, 22]), ([23, 20], [20, 23]), ([20], [20]), ([20], [20]), ([26, 20], [20, 26]), ([27, 20], [20, 27]), ([28, 20], [20, 28]), ([25, 29, 20], [20, 25, 29]), ([24, 30, 20, 20], [20, 24, 30]), ([20, 31], [20, 31]), ([32, 31, 0, 1, 2, 3, 4, 5, 6, 7, 8, 9, 10, 11, 12, 13, 14, 15, 16, 17, 18, 19, 20, 21, 22, 23, 24, 25, 26, 27, 28, 29, 30, 31, 32], [32])])
def noopen_B1 : List Nat := [0, 1, 3, 7, 15, 31, 63, 127, 255, 511, 1023, 2047, 4095, 8191, 16383, 32767, 4095, 131071, 262143, 524287, 1048575, 2097151, 4194303, 8388607, 16777215, 2097151, 2097151, 69206015, 203423743, 471859199, 1042284543, 2147483647, 4294967295, 8589934591]
theorem noopen_tab1 : rtab .any (opsOf Try.f16 1) = noopen_T1 := by kernel_rfl
theorem noopen_bits1 : waitsOk noopen_T1.2 noopen_B1 = true := by kernel_rfl

set_option maxHeartbeats 4000000 in
set_option maxRecDepth 100000 in
theorem no_open (t : Int) (w : World) (h : NoClk w v) : Calls Try.prog 16 #[v, .int .i64 t] w fun e w' => e = .returned (.bool false) ∧ Below w.heap.size w w' := by
  have HB : Aside0 (Below w.heap.size w w.drew) := ⟨below_drew1 (Below.refl _ _)⟩
  have HN := Aside0.mk (no_none _ (h.below HB.out))
  have hnot : ∀ (x : Bool) (w : World), (Op.unary .not (.bool x)).run Try.prog w = .ok (.bool (!x)) w := fun _ _ => rfl
  clear h
  go_enter Try.func16, Try.ntmps16
  go_wp2
  refine start_ (n := 34) (S := fun w' => w.drew = w') (ds := []) #[false, false, false, false, false, false, false, false, false, false, false, false, false, false, false, false, false, false, false, false, false, false, false, false, false, false, false, false, false, false, false, false, false, false] (by kernel_rfl) rfl rfl rfl (fun hHeld => ?_); refine with_tabW noopen_tab1 noopen_bits1 (fun HT_ HW_ => ?_)
  generalize w.drew = w1 at HB HN hHeld ⊢
  refine pure_ (i := 0) (N := some 5) (v := ?_) (a' := ?_) #[true, false, false, false, false, false, false, false, false, false, false, false, false, false, false, false, false, false, false, false, false, false, false, false, false, false, false, false, false, false, false, false, false, false] rfl rfl (any_of HT_.out (by kernel_rfl)) (fun _ _ _ h => h) (Or.inl ⟨by rfl, ?_⟩) ?_ ?_
  rotate_left
  · intro w'
    go_simp
    with_reducible rfl
  rotate_left
  · simp only [Act.put, List.setIfInBounds_toArray, List.set_cons_zero, List.set_cons_succ, i64_w, i32_w]
    rfl
  refine one_ (i := 1) (N := some 6) #[true, true, false, false, false, false, false, false, false, false, false, false, false, false, false, false, false, false, false, false, false, false, false, false, false, false, false, false, false, false, false, false, false, false] rfl rfl (one_of HT_.out (by kernel_rfl)) (by decide) (fun K hK => ?_)
  refine goes_ Try.func30 (by kernel_rfl) rfl #[v] (by rfl) rfl rfl (by (try simp only [List.map_toArray, List.map_cons, List.map_nil]); first | done | rfl) ?_
  refine (HN.out).mono ?_
  rintro e w2 ⟨rfl, rfl⟩
  refine ⟨_, rfl, ?_⟩
  refine hK.out _ _ hHeld (fun hHeld => ?_)
  clear hK K
  refine norm_ (a' := ?_) ?_ ?_
  rotate_left
  · show Act.put _ (some 6) _ = _
    simp only [Act.put, List.setIfInBounds_toArray, List.set_cons_zero, List.set_cons_succ, i64_w, i32_w]
    rfl
  refine pure_ (i := 2) (N := some 7) (v := ?_) (a' := ?_) #[true, true, true, false, false, false, false, false, false, false, false, false, false, false, false, false, false, false, false, false, false, false, false, false, false, false, false, false, false, false, false, false, false, false] rfl rfl (any_of HT_.out (by kernel_rfl)) (fun _ _ _ h => h) (Or.inl ⟨by rfl, ?_⟩) ?_ ?_
  rotate_left
  · intro w'
    go_simp
    with_reducible rfl
  rotate_left
  · simp only [Act.put, List.setIfInBounds_toArray, List.set_cons_zero, List.set_cons_succ, i64_w, i32_w]
    rfl
  refine pure_ (i := 3) (N := some 8) (v := ?_) (a' := ?_) #[true, true, true, true, false, false, false, false, false, false, false, false, false, false, false, false, false, false, false, false, false, false, false, false, false, false, false, false, false, false, false, false, false, false] rfl rfl (any_of HT_.out (by kernel_rfl)) (fun _ _ _ h => h) (Or.inl ⟨by rfl, ?_⟩) ?_ ?_
  rotate_left
  · intro w'
    go_simp
    with_reducible rfl
  rotate_left
  · simp only [Act.put, List.setIfInBounds_toArray, List.set_cons_zero, List.set_cons_succ, i64_w, i32_w]
    rfl
  refine pure_ (i := 4) (N := some 9) (v := undef) (a' := ?_) #[true, true, true, true, true, false, false, false, false, false, false, false, false, false, false, false, false, false, false, false, false, false, false, false, false, false, false, false, false, false, false, false, false, false] rfl rfl (any_of HT_.out (by kernel_rfl)) (fun _ _ _ h => h) (Or.inr ⟨by rfl, rfl⟩) ?_ ?_
  rotate_left
  · simp only [Act.put, List.setIfInBounds_toArray, List.set_cons_zero, List.set_cons_succ, i64_w, i32_w]
    rfl
  refine pure_ (i := 5) (N := some 10) (v := undef) (a' := ?_) #[true, true, true, true, true, true, false, false, false, false, false, false, false, false, false, false, false, false, false, false, false, false, false, false, false, false, false, false, false, false, false, false, false, false] rfl rfl (any_of HT_.out (by kernel_rfl)) (fun _ _ _ h => h) (Or.inr ⟨by rfl, rfl⟩) ?_ ?_
  rotate_left
  · simp only [Act.put, List.setIfInBounds_toArray, List.set_cons_zero, List.set_cons_succ, i64_w, i32_w]
    rfl
  refine pure_ (i := 6) (N := some 11) (v := ?_) (a' := ?_) #[true, true, true, true, true, true, true, false, false, false, false, false, false, false, false, false, false, false, false, false, false, false, false, false, false, false, false, false, false, false, false, false, false, false] rfl rfl (any_of HT_.out (by kernel_rfl)) (fun _ _ _ h => h) (Or.inl ⟨by rfl, ?_⟩) ?_ ?_
  rotate_left
  · intro w'
    go_simp
    with_reducible rfl
  rotate_left
  · simp only [Act.put, List.setIfInBounds_toArray, List.set_cons_zero, List.set_cons_succ, i64_w, i32_w]
    rfl
  refine pure_ (i := 7) (N := some 12) (v := ?_) (a' := ?_) #[true, true, true, true, true, true, true, true, false, false, false, false, false, false, false, false, false, false, false, false, false, false, false, false, false, false, false, false, false, false, false, false, false, false] rfl rfl (any_of HT_.out (by kernel_rfl)) (fun _ _ _ h => h) (Or.inl ⟨by rfl, ?_⟩) ?_ ?_
  rotate_left
  · intro w'
    go_simp
    with_reducible rfl
  rotate_left
  · simp only [Act.put, List.setIfInBounds_toArray, List.set_cons_zero, List.set_cons_succ, i64_w, i32_w]
    rfl
  refine pure_ (i := 8) (N := some 13) (v := undef) (a' := ?_) #[true, true, true, true, true, true, true, true, true, false, false, false, false, false, false, false, false, false, false, false, false, false, false, false, false, false, false, false, false, false, false, false, false, false] rfl rfl (any_of HT_.out (by kernel_rfl)) (fun _ _ _ h => h) (Or.inr ⟨by rfl, rfl⟩) ?_ ?_
  rotate_left
  · simp only [Act.put, List.setIfInBounds_toArray, List.set_cons_zero, List.set_cons_succ, i64_w, i32_w]
    rfl
  refine pure_ (i := 9) (N := some 14) (v := undef) (a' := ?_) #[true, true, true, true, true, true, true, true, true, true, false, false, false, false, false, false, false, false, false, false, false, false, false, false, false, false, false, false, false, false, false, false, false, false] rfl rfl (any_of HT_.out (by kernel_rfl)) (fun _ _ _ h => h) (Or.inr ⟨by rfl, rfl⟩) ?_ ?_
  rotate_left
  · simp only [Act.put, List.setIfInBounds_toArray, List.set_cons_zero, List.set_cons_succ, i64_w, i32_w]
    rfl
  refine pure_ (i := 10) (N := some 15) (v := ?_) (a' := ?_) #[true, true, true, true, true, true, true, true, true, true, true, false, false, false, false, false, false, false, false, false, false, false, false, false, false, false, false, false, false, false, false, false, false, false] rfl rfl (any_of HT_.out (by kernel_rfl)) (fun _ _ _ h => h) (Or.inl ⟨by rfl, ?_⟩) ?_ ?_
  rotate_left
  · intro w'
    go_simp
    with_reducible rfl
  rotate_left
  · simp only [Act.put, List.setIfInBounds_toArray, List.set_cons_zero, List.set_cons_succ, i64_w, i32_w]
    rfl
  refine pure_ (i := 11) (N := some 16) (v := ?_) (a' := ?_) #[true, true, true, true, true, true, true, true, true, true, true, true, false, false, false, false, false, false, false, false, false, false, false, false, false, false, false, false, false, false, false, false, false, false] rfl rfl (any_of HT_.out (by kernel_rfl)) (fun _ _ _ h => h) (Or.inl ⟨by rfl, ?_⟩) ?_ ?_
  rotate_left
  · intro w'
    go_simp
    with_reducible rfl
  rotate_left
  · simp only [Act.put, List.setIfInBounds_toArray, List.set_cons_zero, List.set_cons_succ, i64_w, i32_w]
    rfl
  refine pure_ (i := 12) (N := some 17) (v := undef) (a' := ?_) #[true, true, true, true, true, true, true, true, true, true, true, true, true, false, false, false, false, false, false, false, false, false, false, false, false, false, false, false, false, false, false, false, false, false] rfl rfl (any_of HT_.out (by kernel_rfl)) (fun _ _ _ h => h) (Or.inr ⟨by rfl, rfl⟩) ?_ ?_
  rotate_left
  · simp only [Act.put, List.setIfInBounds_toArray, List.set_cons_zero, List.set_cons_succ, i64_w, i32_w]
    rfl
  refine pure_ (i := 13) (N := some 18) (v := undef) (a' := ?_) #[true, true, true, true, true, true, true, true, true, true, true, true, true, true, false, false, false, false, false, false, false, false, false, false, false, false, false, false, false, false, false, false, false, false] rfl rfl (any_of HT_.out (by kernel_rfl)) (fun _ _ _ h => h) (Or.inr ⟨by rfl, rfl⟩) ?_ ?_
  rotate_left
  · simp only [Act.put, List.setIfInBounds_toArray, List.set_cons_zero, List.set_cons_succ, i64_w, i32_w]
    rfl
  refine pure_ (i := 14) (N := some 19) (v := undef) (a' := ?_) #[true, true, true, true, true, true, true, true, true, true, true, true, true, true, true, false, false, false, false, false, false, false, false, false, false, false, false, false, false, false, false, false, false, false] rfl rfl (any_of HT_.out (by kernel_rfl)) (fun _ _ _ h => h) (Or.inr ⟨by rfl, rfl⟩) ?_ ?_
  rotate_left
  · simp only [Act.put, List.setIfInBounds_toArray, List.set_cons_zero, List.set_cons_succ, i64_w, i32_w]
    rfl
  refine pure_ (i := 15) (N := some 20) (v := undef) (a' := ?_) #[true, true, true, true, true, true, true, true, true, true, true, true, true, true, true, true, false, false, false, false, false, false, false, false, false, false, false, false, false, false, false, false, false, false] rfl rfl (any_of HT_.out (by kernel_rfl)) (fun _ _ _ h => h) (Or.inr ⟨by rfl, rfl⟩) ?_ ?_
  rotate_left
  · simp only [Act.put, List.setIfInBounds_toArray, List.set_cons_zero, List.set_cons_succ, i64_w, i32_w]
    rfl
  refine pure_ (i := 16) (N := some 21) (v := undef) (a' := ?_) #[true, true, true, true, true, true, true, true, true, true, true, true, true, true, true, true, true, false, false, false, false, false, false, false, false, false, false, false, false, false, false, false, false, false] rfl rfl (any_of HT_.out (by kernel_rfl)) (fun _ _ _ h => h) (Or.inr ⟨by rfl, rfl⟩) ?_ ?_
  rotate_left
  · simp only [Act.put, List.setIfInBounds_toArray, List.set_cons_zero, List.set_cons_succ, i64_w, i32_w]
    rfl
  refine pure_ (i := 17) (N := some 22) (v := undef) (a' := ?_) #[true, true, true, true, true, true, true, true, true, true, true, true, true, true, true, true, true, true, false, false, false, false, false, false, false, false, false, false, false, false, false, false, false, false] rfl rfl (any_of HT_.out (by kernel_rfl)) (fun _ _ _ h => h) (Or.inr ⟨by rfl, rfl⟩) ?_ ?_
  rotate_left
  · simp only [Act.put, List.setIfInBounds_toArray, List.set_cons_zero, List.set_cons_succ, i64_w, i32_w]
    rfl
  refine pure_ (i := 18) (N := some 23) (v := undef) (a' := ?_) #[true, true, true, true, true, true, true, true, true, true, true, true, true, true, true, true, true, true, true, false, false, false, false, false, false, false, false, false, false, false, false, false, false, false] rfl rfl (any_of HT_.out (by kernel_rfl)) (fun _ _ _ h => h) (Or.inr ⟨by rfl, rfl⟩) ?_ ?_
  rotate_left
  · simp only [Act.put, List.setIfInBounds_toArray, List.set_cons_zero, List.set_cons_succ, i64_w, i32_w]
    rfl
  refine pure_ (i := 19) (N := some 24) (v := ?_) (a' := ?_) #[true, true, true, true, true, true, true, true, true, true, true, true, true, true, true, true, true, true, true, true, false, false, false, false, false, false, false, false, false, false, false, false, false, false] rfl rfl (any_of HT_.out (by kernel_rfl)) (fun _ _ _ h => h) (Or.inl ⟨by rfl, ?_⟩) ?_ ?_
  rotate_left
  · intro w'
    go_simp
    with_reducible rfl
  rotate_left
  · simp only [Act.put, List.setIfInBounds_toArray, List.set_cons_zero, List.set_cons_succ, i64_w, i32_w]
    rfl
  refine pure_ (i := 20) (N := some 25) (v := ?_) (a' := ?_) #[true, true, true, true, true, true, true, true, true, true, true, true, true, true, true, true, true, true, true, true, true, false, false, false, false, false, false, false, false, false, false, false, false, false] rfl rfl (any_of HT_.out (by kernel_rfl)) (fun _ _ _ h => h) (Or.inl ⟨by rfl, ?_⟩) ?_ ?_
  rotate_left
  · intro w'
    go_simp
    with_reducible rfl
  rotate_left
  · simp only [Act.put, List.setIfInBounds_toArray, List.set_cons_zero, List.set_cons_succ, i64_w, i32_w]
    rfl
  refine pure_ (i := 21) (N := some 26) (v := undef) (a' := ?_) #[true, true, true, true, true, true, true, true, true, true, true, true, true, true, true, true, true, true, true, true, true, true, false, false, false, false, false, false, false, false, false, false, false, false] rfl rfl (any_of HT_.out (by kernel_rfl)) (fun _ _ _ h => h) (Or.inr ⟨by rfl, rfl⟩) ?_ ?_
  rotate_left
  · simp only [Act.put, List.setIfInBounds_toArray, List.set_cons_zero, List.set_cons_succ, i64_w, i32_w]
    rfl
  refine pure_ (i := 22) (N := some 27) (v := undef) (a' := ?_) #[true, true, true, true, true, true, true, true, true, true, true, true, true, true, true, true, true, true, true, true, true, true, true, false, false, false, false, false, false, false, false, false, false, false] rfl rfl (any_of HT_.out (by kernel_rfl)) (fun _ _ _ h => h) (Or.inr ⟨by rfl, rfl⟩) ?_ ?_
  rotate_left
  · simp only [Act.put, List.setIfInBounds_toArray, List.set_cons_zero, List.set_cons_succ, i64_w, i32_w]
    rfl
  refine pure_ (i := 23) (N := some 28) (v := undef) (a' := ?_) #[true, true, true, true, true, true, true, true, true, true, true, true, true, true, true, true, true, true, true, true, true, true, true, true, false, false, false, false, false, false, false, false, false, false] rfl rfl (any_of HT_.out (by kernel_rfl)) (fun _ _ _ h => h) (Or.inr ⟨by rfl, rfl⟩) ?_ ?_
  rotate_left
  · simp only [Act.put, List.setIfInBounds_toArray, List.set_cons_zero, List.set_cons_succ, i64_w, i32_w]
    rfl
  refine pure_ (i := 24) (N := some 29) (v := undef) (a' := ?_) #[true, true, true, true, true, true, true, true, true, true, true, true, true, true, true, true, true, true, true, true, true, true, true, true, true, false, false, false, false, false, false, false, false, false] rfl rfl (any_of HT_.out (by kernel_rfl)) (fun _ _ _ h => h) (Or.inr ⟨by rfl, rfl⟩) ?_ ?_
  rotate_left
  · simp only [Act.put, List.setIfInBounds_toArray, List.set_cons_zero, List.set_cons_succ, i64_w, i32_w]
    rfl
  refine pure_ (i := 25) (N := some 30) (v := undef) (a' := ?_) #[true, true, true, true, true, true, true, true, true, true, true, true, true, true, true, true, true, true, true, true, true, true, true, true, true, true, false, false, false, false, false, false, false, false] rfl rfl (any_of HT_.out (by kernel_rfl)) (fun _ _ _ h => h) (Or.inr ⟨by rfl, rfl⟩) ?_ ?_
  rotate_left
  · simp only [Act.put, List.setIfInBounds_toArray, List.set_cons_zero, List.set_cons_succ, i64_w, i32_w]
    rfl
  refine pure_ (i := 26) (N := some 31) (v := undef) (a' := ?_) #[true, true, true, true, true, true, true, true, true, true, true, true, true, true, true, true, true, true, true, true, true, true, true, true, true, true, true, false, false, false, false, false, false, false] rfl rfl (any_of HT_.out (by kernel_rfl)) (fun _ _ _ h => h) (Or.inr ⟨by rfl, rfl⟩) ?_ ?_
  rotate_left
  · simp only [Act.put, List.setIfInBounds_toArray, List.set_cons_zero, List.set_cons_succ, i64_w, i32_w]
    rfl
  refine pure_ (i := 27) (N := some 32) (v := undef) (a' := ?_) #[true, true, true, true, true, true, true, true, true, true, true, true, true, true, true, true, true, true, true, true, true, true, true, true, true, true, true, true, false, false, false, false, false, false] rfl rfl (any_of HT_.out (by kernel_rfl)) (fun _ _ _ h => h) (Or.inr ⟨by rfl, rfl⟩) ?_ ?_
  rotate_left
  · simp only [Act.put, List.setIfInBounds_toArray, List.set_cons_zero, List.set_cons_succ, i64_w, i32_w]
    rfl
  refine pure_ (i := 28) (N := some 33) (v := undef) (a' := ?_) #[true, true, true, true, true, true, true, true, true, true, true, true, true, true, true, true, true, true, true, true, true, true, true, true, true, true, true, true, true, false, false, false, false, false] rfl rfl (any_of HT_.out (by kernel_rfl)) (fun _ _ _ h => h) (Or.inr ⟨by rfl, rfl⟩) ?_ ?_
  rotate_left
  · simp only [Act.put, List.setIfInBounds_toArray, List.set_cons_zero, List.set_cons_succ, i64_w, i32_w]
    rfl
  refine pure_ (i := 29) (N := some 34) (v := undef) (a' := ?_) #[true, true, true, true, true, true, true, true, true, true, true, true, true, true, true, true, true, true, true, true, true, true, true, true, true, true, true, true, true, true, false, false, false, false] rfl rfl (any_of HT_.out (by kernel_rfl)) (fun _ _ _ h => h) (Or.inr ⟨by rfl, rfl⟩) ?_ ?_
  rotate_left
  · simp only [Act.put, List.setIfInBounds_toArray, List.set_cons_zero, List.set_cons_succ, i64_w, i32_w]
    rfl
  refine pure_ (i := 30) (N := some 35) (v := undef) (a' := ?_) #[true, true, true, true, true, true, true, true, true, true, true, true, true, true, true, true, true, true, true, true, true, true, true, true, true, true, true, true, true, true, true, false, false, false] rfl rfl (any_of HT_.out (by kernel_rfl)) (fun _ _ _ h => h) (Or.inr ⟨by rfl, rfl⟩) ?_ ?_
  rotate_left
  · simp only [Act.put, List.setIfInBounds_toArray, List.set_cons_zero, List.set_cons_succ, i64_w, i32_w]
    rfl
  refine pure_ (i := 31) (N := some 36) (v := undef) (a' := ?_) #[true, true, true, true, true, true, true, true, true, true, true, true, true, true, true, true, true, true, true, true, true, true, true, true, true, true, true, true, true, true, true, true, false, false] rfl rfl (any_of HT_.out (by kernel_rfl)) (fun _ _ _ h => h) (Or.inr ⟨by rfl, rfl⟩) ?_ ?_
  rotate_left
  · simp only [Act.put, List.setIfInBounds_toArray, List.set_cons_zero, List.set_cons_succ, i64_w, i32_w]
    rfl
  refine pure_ (i := 32) (N := some 37) (v := ?_) (a' := ?_) #[true, true, true, true, true, true, true, true, true, true, true, true, true, true, true, true, true, true, true, true, true, true, true, true, true, true, true, true, true, true, true, true, true, false] rfl rfl (any_of HT_.out (by kernel_rfl)) (fun _ _ _ h => h) (Or.inl ⟨by rfl, ?_⟩) ?_ ?_
  rotate_left
  · intro w'
    go_simp
    with_reducible rfl
  rotate_left
  · simp only [Act.put, List.setIfInBounds_toArray, List.set_cons_zero, List.set_cons_succ, i64_w, i32_w]
    rfl
  refine pure_ (i := 33) (N := some 4) (v := ?_) (a' := ?_) #[true, true, true, true, true, true, true, true, true, true, true, true, true, true, true, true, true, true, true, true, true, true, true, true, true, true, true, true, true, true, true, true, true, true] rfl rfl (any_of HT_.out (by kernel_rfl)) (fun _ _ _ h => h) (Or.inl ⟨by rfl, ?_⟩) ?_ ?_
  rotate_left
  · intro w'
    go_simp
    with_reducible rfl
  rotate_left
  · simp only [Act.put, List.setIfInBounds_toArray, List.set_cons_zero, List.set_cons_succ, i64_w, i32_w]
    rfl
  refine done_ (done_of HT_.out (by kernel_rfl)) ?_
  go_wp2
  go_ret
  exact ⟨rfl, HB.out⟩
set_option maxHeartbeats 1600000 in
set_option maxRecDepth 100000 in
theorem no_plain (w : World) (h : NoClk w v) : Calls Try.prog 19 #[v] w fun e w' => e = .returned (.agg #[.int .i64 0, .slice none 0 0, .slice none 0 0]) ∧ Below w.heap.size w w' := by
  have HB := Aside0.mk (below_alloc (Below.refl w.heap.size w) (.cells #[.int .i64 0, .slice none 0 0, .slice none 0 0] 24))
  have HN := Aside0.mk (no_none _ (h.below HB.out))
  have BK := Aside0.mk (blk_new w (.cells #[.int .i64 0, .slice none 0 0, .slice none 0 0] 24))
  clear h
  go_enter Try.func19, Try.ntmps19
  go_wp2_with fail
  generalize (w.alloc (.cells #[.int .i64 0, .slice none 0 0, .slice none 0 0] 24)) = w1 at HB HN BK ⊢
  have d0 : w1.cell? ⟨w.heap.size, 0, none⟩ = some (.int .i64 0) := (blk_cell BK.out 0).trans rfl
  have d1 : w1.cell? ⟨w.heap.size, 1, none⟩ = some (.slice none 0 0) := (blk_cell BK.out 1).trans rfl
  have d2 : w1.cell? ⟨w.heap.size, 2, none⟩ = some (.slice none 0 0) := (blk_cell BK.out 2).trans rfl
  have f0 : w1.frozen? ⟨w.heap.size, 0, none⟩ = false := blk_frozen BK.out 0
  have f1 : w1.frozen? ⟨w.heap.size, 1, none⟩ = false := blk_frozen BK.out 1
  have f2 : w1.frozen? ⟨w.heap.size, 2, none⟩ = false := blk_frozen BK.out 2
  go_wp2_with (go_at_call 30; refine HN.out.mono ?_; rintro e w5 ⟨rfl, rfl⟩)
  refine bodyPost_ret (v := .agg #[.int .i64 0, .slice none 0 0, .slice none 0 0]) (by simp [results, Try.results19, go_sem, d0, d1, d2]) rfl ⟨rfl, ?_⟩
  repeat (first | exact HB.out | refine below_set ?_ (Nat.le_refl _))
theorem no_same (w : World) : Calls Try.prog 18 #[.agg #[.int .i64 0, .slice none 0 0, .slice none 0 0], .agg #[.int .i64 0, .slice none 0 0, .slice none 0 0]] w fun e w' => e = .returned (.bool true) ∧ Below w.heap.size w w' :=
  curfewref10_Same.calls 40 0 none 0 [] none 0 [] 0 none 0 [] none 0 [] _ w (no_span w) (Nat.le_refl _) (no_span w) (Nat.le_refl _) (no_span w) (Nat.le_refl _) (no_span w) (Nat.le_refl _) (sameref_eq 0 [] [] (by decide) (by decide))
set_option maxHeartbeats 1600000 in
set_option maxRecDepth 100000 in
theorem nil_num (m : Int) (w : World) : Calls Try.prog 48 #[.pointer none, .int .u64 m] w fun e w' => e = .returned (.int .u64 0) ∧ w = w' := by
  go_enter Try.func48, Try.ntmps48
  go_wp2
  go_ret
  exact ⟨rfl, rfl⟩
set_option maxHeartbeats 1600000 in
set_option maxRecDepth 100000 in
theorem nil_int (w : World) : Calls Try.prog 47 #[.pointer none] w fun e w' => e = .returned (.int .i64 0) ∧ w = w' := by
  go_enter Try.func47, Try.ntmps47
  go_wp2
  go_ret
  exact ⟨rfl, rfl⟩
set_option maxHeartbeats 1600000 in
set_option maxRecDepth 100000 in
theorem nil_fail (w : World) : Calls Try.prog 50 #[.pointer none] w fun e w' => e = .returned (.tuple #[]) ∧ w = w' := by
  go_enter Try.func50, Try.ntmps50
  go_wp2
  go_end0
  exact ⟨rfl, rfl⟩
set_option maxHeartbeats 1600000 in
set_option maxRecDepth 100000 in
theorem nil_read (w : World) : Calls Try.prog 25 #[.pointer none] w fun e w' => e = .returned (.tuple #[.agg #[.int .i64 0, .slice none 0 0, .slice none 0 0], .bool false]) ∧ Below w.heap.size w w' := by
  have HB := Aside0.mk (below_alloc (below_alloc (Below.refl w.heap.size w) (.cells #[.int .i64 0, .slice none 0 0, .slice none 0 0] 24)) (.cells #[.int .i64 0, .slice none 0 0, .slice none 0 0] 24))
  have BK := Aside0.mk (blk_alloc (blk_new w (.cells #[.int .i64 0, .slice none 0 0, .slice none 0 0] 24)) (.cells #[.int .i64 0, .slice none 0 0, .slice none 0 0] 24))
  have ix0 : ∀ (x y : Value) (w : World), (Instr.index 77 (.agg #[x, y]) (.int .i64 0)).run Try.prog w = .ok x w := fun _ _ _ => by kernel_rfl
  have ix1 : ∀ (x y : Value) (w : World), (Instr.index 77 (.agg #[x, y]) (.int .i64 1)).run Try.prog w = .ok y w := fun _ _ _ => by kernel_rfl
  go_enter Try.func25, Try.ntmps25
  go_wp2_with (first | (go_at_call 47; refine (nil_int _).mono ?_; rintro e w1 ⟨rfl, rfl⟩) | (go_at_call 48; refine (nil_num _ _).mono ?_; rintro e w1 ⟨rfl, rfl⟩))
  generalize ((w.alloc (.cells #[.int .i64 0, .slice none 0 0, .slice none 0 0] 24)).alloc (.cells #[.int .i64 0, .slice none 0 0, .slice none 0 0] 24)) = w2 at HB BK ⊢
  go_loopg [15] 2 (fun g v15 w' => ∃ i : Int, v15 = .int .i64 i ∧ Aside0 (0 ≤ i ∧ i ≤ 2 ∧ (g : Int) = 2 - i) ∧ w' = w2)
  case atStart => exact ⟨0, rfl, ⟨by omega, by omega, by omega⟩, rfl⟩
  case round =>
    obtain ⟨i, rfl, HI, rfl⟩ := hrel
    obtain ⟨o, ho⟩ : ∃ o : Nat, o = gk := ⟨_, rfl⟩
    have HO : Aside0 (o = gk) := ⟨ho⟩
    rw [← ho] at HI
    clear ho
    have i0 := HI.out.1
    have i1 := HI.out.2.1
    by_cases hlt : i < 2
    · have h01 : i = 0 ∨ i = 1 := by omega
      rcases h01 with rfl | rfl
      all_goals
        go_wp2_with (first | (go_at_call 47; refine (nil_int _).mono ?_; rintro e w1 ⟨rfl, rfl⟩) | (go_at_call 48; refine (nil_num _ _).mono ?_; rintro e w1 ⟨rfl, rfl⟩))
        go_loopg [20] 0 (fun g v20 w' => v20 = .int .u64 0 ∧ w' = wr)
        case atStart => exact ⟨rfl, rfl⟩
        case round =>
          obtain ⟨rfl, rfl⟩ := hrel
          go_wp2
          go_roundg (o - 1)
          case measure => have := HI.out; have := HO.out; omega
          case rel => exact ⟨_, rfl, ⟨by omega, by omega, by have := HI.out; omega⟩, rfl⟩
    · have hi : i = 2 := by omega
      subst hi
      have f0 : wr.frozen? ⟨w.heap.size, 0, none⟩ = false := blk_frozen BK.out 0
      have f1 : wr.frozen? ⟨w.heap.size, 1, none⟩ = false := blk_frozen BK.out 1
      have f2 : wr.frozen? ⟨w.heap.size, 2, none⟩ = false := blk_frozen BK.out 2
      have d0 : wr.cell? ⟨w.heap.size, 0, none⟩ = some (.int .i64 0) := (blk_cell BK.out 0).trans rfl
      have d1 : wr.cell? ⟨w.heap.size, 1, none⟩ = some (.slice none 0 0) := (blk_cell BK.out 1).trans rfl
      have d2 : wr.cell? ⟨w.heap.size, 2, none⟩ = some (.slice none 0 0) := (blk_cell BK.out 2).trans rfl
      go_wp2_with (go_at_call 50; refine (nil_fail _).mono ?_; rintro e w1 ⟨rfl, rfl⟩)
      refine bodyPost_ret (v := .tuple #[.agg #[.int .i64 0, .slice none 0 0, .slice none 0 0], .bool false]) (by simp [results, Try.results25, go_sem, d0, d1, d2]) rfl ⟨rfl, ?_⟩
      repeat (first | exact HB.out | refine below_set ?_ (Nat.le_refl _))
end Go.Proofs.Ytknlpeabmpllmaa.Own

set_option linter.unusedVariables false
set_option linter.unusedSimpArgs false
namespace Go.Proofs.Ytknlpeabmpllmaa.Own
open Go.RowKit Go.Proofs Go.Proofs.YtknlpeabmpllmaaW.PrintWords Go.Proofs.YtknlpeabmpllmaaW.PrintLast Go.Proofs.YtknlpeabmpllmaaW.PrintMore Go.Proofs.Ytknlpeabmpllmaa.Base
set_option maxHeartbeats 4000000 in
set_option maxRecDepth 100000 in
theorem nobody_any (t a b : Int) (w : World) : Calls Try.prog 9 #[.int .i64 t, .int .i64 a, .int .i64 b] w fun e w' => e = .returned (.bool true) ∧ Below w.heap.size w w' := by
  have hnot : ∀ (x : Bool) (w : World), (Op.unary .not (.bool x)).run Try.prog w = .ok (.bool (!x)) w := fun _ _ => rfl
  have HB0 := Aside0.mk (below_alloc (below_alloc (Below.refl w.heap.size w) (.cells #[.pointer none, .pointer none, .int .i64 0] 50)) (.cells #[.pointer none, .pointer (some ⟨w.heap.size, 0, none⟩)] 28))
  have HK0 := Aside0.mk (blk_alloc (blk_new w (.cells #[.pointer none, .pointer none, .int .i64 0] 50)) (.cells #[.pointer none, .pointer (some ⟨w.heap.size, 0, none⟩)] 28))
  have HS0 : Aside0 (((w.alloc (.cells #[.pointer none, .pointer none, .int .i64 0] 50)).alloc (.cells #[.pointer none, .pointer (some ⟨w.heap.size, 0, none⟩)] 28)).heap[w.heap.size + 1]? = some (.cells #[.pointer none, .pointer (some ⟨w.heap.size, 0, none⟩)] 28 (0, 0))) := ⟨by simpa using blk_new (w.alloc (.cells #[.pointer none, .pointer none, .int .i64 0] 50)) (.cells #[.pointer none, .pointer (some ⟨w.heap.size, 0, none⟩)] 28)⟩
  go_enter Try.func9, Try.ntmps9
  go_wp2
  generalize ((w.alloc (.cells #[.pointer none, .pointer none, .int .i64 0] 50)).alloc (.cells #[.pointer none, .pointer (some ⟨w.heap.size, 0, none⟩)] 28)) = w2 at HB0 HK0 HS0 ⊢
  go_loopg [23] 2 (fun g v23 w' => ∃ i : Int, v23 = .int .i64 i ∧ Aside0 (0 ≤ i ∧ i ≤ 2 ∧ (g : Int) = 2 - i) ∧ Aside0 (Below w.heap.size w w') ∧ Aside0 (w'.heap[w.heap.size]? = some (.cells #[.pointer none, .pointer none, .int .i64 0] 50 (0, 0))) ∧ Aside0 (w'.heap[w.heap.size + 1]? = some (.cells #[.pointer none, .pointer (some ⟨w.heap.size, 0, none⟩)] 28 (0, 0))))
  case atStart => exact ⟨0, rfl, ⟨by omega, by omega, by omega⟩, HB0, HK0, HS0⟩
  case round =>
    clear HB0 HK0 HS0
    obtain ⟨i, rfl, HI, HB1, HK1, HS1⟩ := hrel
    have i0 := HI.out.1
    have i1 := HI.out.2.1
    have s0 : wr.cell? ⟨w.heap.size + 1, 0, none⟩ = some (.pointer none) := (blk_cell HS1.out 0).trans rfl
    have s1 : wr.cell? ⟨w.heap.size + 1, 1, none⟩ = some (.pointer (some ⟨w.heap.size, 0, none⟩)) := (blk_cell HS1.out 1).trans rfl
    by_cases hlt : i < 2
    · have h01 : i = 0 ∨ i = 1 := by omega
      rcases h01 with rfl | rfl
      · have HV1 : Aside0 (NoClk wr (.pointer none)) := ⟨.inl rfl⟩
        go_wp2_with (first | (go_at_call 20; refine (no_elapsed a b _ HV1.out).mono ?_; rintro e w1 ⟨rfl, rfl⟩) | (go_at_call 14; refine (no_due a b _ HV1.out).mono ?_; rintro e w3 ⟨rfl, bb⟩; have HV3 := Aside0.mk (HV1.out.below bb); have HB3 := Aside0.mk (below_step HB1.out bb); have HK3 := Aside0.mk (blk_below HK1.out bb); have HS3 := Aside0.mk (blk_below HS1.out bb); clear bb) | (go_at_call 23; refine (no_rest a b t _ HV3.out).mono ?_; rintro e w1 ⟨rfl, rfl⟩) | (go_at_call 16; refine (no_open t _ HV3.out).mono ?_; rintro e w4 ⟨rfl, bb⟩; have HV4 := Aside0.mk (HV3.out.below bb); have HB4 := Aside0.mk (below_step HB3.out bb); have HK4 := Aside0.mk (blk_below HK3.out bb); have HS4 := Aside0.mk (blk_below HS3.out bb); clear bb) | (go_at_call 19; refine (no_plain _ HV4.out).mono ?_; rintro e w5 ⟨rfl, bb⟩; have HB5 := Aside0.mk (below_step HB4.out bb); have HK5 := Aside0.mk (blk_below HK4.out bb); have HS5 := Aside0.mk (blk_below HS4.out bb); clear bb) | (go_at_call 18; refine (no_same _).mono ?_; rintro e w6 ⟨rfl, bb⟩; have HB6 := Aside0.mk (below_step HB5.out bb); have HK6 := Aside0.mk (blk_below HK5.out bb); have HS6 := Aside0.mk (blk_below HS5.out bb); clear bb))
        go_roundg (gk - 1)
        case measure => have := HI.out; omega
        case rel => exact ⟨_, rfl, ⟨by omega, by omega, by have := HI.out; omega⟩, HB6, HK6, HS6⟩
      · have HV1 : Aside0 (NoClk wr (.pointer (some ⟨w.heap.size, 0, none⟩))) := ⟨.inr ⟨_, rfl, HK1.out⟩⟩
        go_wp2_with (first | (go_at_call 20; refine (no_elapsed a b _ HV1.out).mono ?_; rintro e w1 ⟨rfl, rfl⟩) | (go_at_call 14; refine (no_due a b _ HV1.out).mono ?_; rintro e w3 ⟨rfl, bb⟩; have HV3 := Aside0.mk (HV1.out.below bb); have HB3 := Aside0.mk (below_step HB1.out bb); have HK3 := Aside0.mk (blk_below HK1.out bb); have HS3 := Aside0.mk (blk_below HS1.out bb); clear bb) | (go_at_call 23; refine (no_rest a b t _ HV3.out).mono ?_; rintro e w1 ⟨rfl, rfl⟩) | (go_at_call 16; refine (no_open t _ HV3.out).mono ?_; rintro e w4 ⟨rfl, bb⟩; have HV4 := Aside0.mk (HV3.out.below bb); have HB4 := Aside0.mk (below_step HB3.out bb); have HK4 := Aside0.mk (blk_below HK3.out bb); have HS4 := Aside0.mk (blk_below HS3.out bb); clear bb) | (go_at_call 19; refine (no_plain _ HV4.out).mono ?_; rintro e w5 ⟨rfl, bb⟩; have HB5 := Aside0.mk (below_step HB4.out bb); have HK5 := Aside0.mk (blk_below HK4.out bb); have HS5 := Aside0.mk (blk_below HS4.out bb); clear bb) | (go_at_call 18; refine (no_same _).mono ?_; rintro e w6 ⟨rfl, bb⟩; have HB6 := Aside0.mk (below_step HB5.out bb); have HK6 := Aside0.mk (blk_below HK5.out bb); have HS6 := Aside0.mk (blk_below HS5.out bb); clear bb))
        go_roundg (gk - 1)
        case measure => have := HI.out; omega
        case rel => exact ⟨_, rfl, ⟨by omega, by omega, by have := HI.out; omega⟩, HB6, HK6, HS6⟩
    · have hi : i = 2 := by omega
      subst hi
      go_wp2_with (first | (go_at_call 25; refine (nil_read _).mono ?_; rintro e w3 ⟨rfl, bb⟩; have HB3 := Aside0.mk (below_step HB1.out bb); clear bb) | (go_at_call 12; refine (lives_any _).mono ?_; rintro e w4 ⟨rfl, bb⟩; have HB4 := Aside0.mk (below_step (below_alloc HB3.out _) bb); clear bb))
      go_ret
      exact ⟨rfl, HB4.out⟩
end Go.Proofs.Ytknlpeabmpllmaa.Own

set_option linter.unusedVariables false
set_option linter.unusedSimpArgs false
namespace Go.Proofs.Ytknlpeabmpllmaa.calendarNobody
open Go.ChangeShapes Go.WideShapes Go.ChangeAt Go.RowKit
set_option maxRecDepth 100000 in
theorem lifted (os : Os) (started : os.Started) (H : Type) (enc : TypeId × Value → H) :
    ReturnsInHanded {} Try.checked os 9 .any (Rows.calendarNobodySpec.pre6 enc Try.prog Try.f9 Rows.calendarNobodyRow.domain false) (Rows.calendarNobodySpec.post enc Try.prog Try.f9 false true false false) := by
  refine returnsInHanded_of_change_sized (C := Try.checked) Own.ownKnob_none started (by kernel_rfl) Try.func9
    (ChangeSpec.witness6 (enc := enc) (C := Try.checked) false ⟨#[], #[.int .i64 0, .int .i64 0, .int .i64 0], []⟩ 8 (by kernel_rfl) (by kernel_rfl) (by kernel_rfl) (by kernel_rfl)) ?_
  intro W base args ds gs before hval0 hW hcnd hsz0 _
  have hval : ∀ (j : Nat) t v, Try.f9.params[j]? = some t → args[j]? = some v → Value.okWide Try.prog W .any base t v := hval0
  have hW' := hW
  obtain ⟨p, q, hA0, hV, rfl, hfz, hnd⟩ := hW
  have hA : DataW.TrodAll enc Try.prog W 0 (fun _ => true) true Try.f9.params.toList args.toList ds p := hA0
  rw [Try.params9] at hA hval
  obtain ⟨v0, vs0, d0, ds0, p0, q0, hargs, rfl, rfl, h0, r0⟩ := trodAll_cons hA
  obtain ⟨v1, vs1, d1, ds1, p1, q1, rfl, rfl, rfl, h1, r1⟩ := trodAll_cons r0
  obtain ⟨v2, vs2, d2, ds2, p2, q2, rfl, rfl, rfl, h2, r2⟩ := trodAll_cons r1
  obtain ⟨rfl, rfl, rfl⟩ := trodAll_nil r2
  obtain rfl : args = #[v0, v1, v2] := by cases args; simp_all
  obtain ⟨rfl, rfl⟩ := trodVars_none hV
  obtain ⟨a0, rfl, rfl, rfl, w0⟩ := open_int Try.underlying2 (hval 0 2 v0 rfl rfl) h0
  obtain ⟨a1, rfl, rfl, rfl, w1⟩ := open_int Try.underlying2 (hval 1 2 v1 rfl rfl) h1
  obtain ⟨a2, rfl, rfl, rfl, w2⟩ := open_int Try.underlying2 (hval 2 2 v2 rfl rfl) h2
  clear hA0 hval0 hsz0
  refine (Own.nobody_any a0 a1 a2 W).mono fun e W' ⟨he, bel⟩ => ?_
  subst he
  exact ⟨_, rfl, _, _, _, [], _, [], hW', trodAll_mk1 (shut_bool Try.underlying4 _), (trodAll_cons_mk (shut_int Try.underlying2 w0) (trodAll_cons_mk (shut_int Try.underlying2 w1) (trodAll_cons_mk (shut_int Try.underlying2 w2) trodAll_mk0))), rfl, bel.frame _, fun h => by cases h⟩
theorem over : Rows.calendarNobodyRow.holds Try.pinned (OpenSpec.ofChange Rows.calendarNobodySpec) :=
  OpenClaim.holds_of_wide 9 Try.f9 rfl rfl rfl rfl rfl rfl rfl ⟨rfl, rfl, rfl, rfl, rfl⟩ rfl rfl rfl rfl rfl (by kernel_rfl) Try.func9 (by kernel_rfl)
    (of_decide_eq_true (by kernel_rfl)) (by unfold Func.isWrapper; first | (rw [if_pos (by decide +kernel)]; kernel_rfl) | (rw [if_neg (by decide +kernel)]; exact ⟨rfl, rfl⟩))
    (fun os started H enc _ => lifted os started H enc)
theorem proved : Rows.CalendarNobodySaid := over
#print axioms proved
end Go.Proofs.Ytknlpeabmpllmaa.calendarNobody
namespace Go.Proofs.Ytknlpeabmpllmaa
/-- The row, under a short name, for the claim. -/
theorem calendarNobody_holds : Rows.CalendarNobodySaid := calendarNobody.proved
end Go.Proofs.Ytknlpeabmpllmaa
