/- For every input: the law CalendarChecks returns true, and changes nothing of its arguments. Its conditions: those of the given row alone. -/
import Derived.Test.YtknlpeabmpllmaaOwnD
set_option linter.unusedVariables false
set_option linter.unusedSimpArgs false
namespace Go.Proofs.Ytknlpeabmpllmaa.Own
open Go.RowKit Go.Proofs Go.Proofs.YtknlpeabmpllmaaW.PrintWords Go.Proofs.YtknlpeabmpllmaaW.PrintLast Go.Proofs.YtknlpeabmpllmaaW.PrintMore Go.Proofs.Ytknlpeabmpllmaa.Base
variable {off : Int} {week closed : List S57}
theorem has_l0 (l : List S57) (t : Int) (hl : l.length ≤ 1000000) : ∀ (d k i : Nat), i + d = l.length → d < k → curfewref07_Has.l0 k l t (i : Int) = some (inRow (l.drop i) t) := by
  intro d
  induction d with
  | zero =>
    intro k i hi hk
    obtain ⟨k, rfl⟩ : ∃ m, k = m + 1 := ⟨k - 1, by omega⟩
    rw [List.drop_eq_nil_of_le (by omega)]
    simp only [curfewref07_Has.l0]
    rw [if_neg (by omega)]
    rfl
  | succ d ih =>
    intro k i hi hk
    obtain ⟨k, rfl⟩ : ∃ m, k = m + 1 := ⟨k - 1, by omega⟩
    have hlt : i < l.length := by omega
    rw [drop_at hlt, inRow_cons]
    simp only [curfewref07_Has.l0]
    rw [if_pos (by omega), if_pos (by omega), wrap_id (x := (i : Int) + 1) (by omega) (by omega)]
    have ih' := ih k (i + 1) (by omega) (by omega)
    rw [show ((i + 1 : Nat) : Int) = (i : Int) + 1 by omega] at ih'
    rw [ih']
    by_cases h1 : t ≥ (rd_T57 l i).f0
    · rw [if_pos h1]
      by_cases h2 : t < (rd_T57 l i).f1
      · rw [if_pos h2, decide_eq_true ⟨h1, h2⟩]; rfl
      · rw [if_neg h2, decide_eq_false (by omega), Bool.false_or]
    · rw [if_neg h1, decide_eq_false (by omega), Bool.false_or]
theorem RowOk.big {l : List S57} (h : RowOk 604800 l) : RowOk 1125899906842624 l := ⟨h.len, h.row, fun s hs => by have := h.top s hs; omega⟩
theorem has_eq {l : List S57} (h : RowOk 1125899906842624 l) (t : Int) (k : Nat) (hk : 40 ≤ k) : curfewref07_Has.f k l t = some (inRow l t) := by
  unfold curfewref07_Has.f
  have hl := h.len
  rw [rrow_eq l k (by omega), Option.bind_some, if_pos h.err]
  exact has_l0 l t (by omega) l.length k 0 (by omega) (by omega)
theorem openref_eq (h : CalOk off week closed) (t : Int) : curfewref10_Open.f 40 off week closed t = some (openP off week closed t) := by
  have h0 := h.lo
  have h1 := h.hi
  unfold curfewref10_Open.f
  by_cases t0 : t ≥ 0
  · rw [if_pos t0]
    by_cases t1 : t < 1125899906842624
    · rw [if_pos t1, has_eq h.closed _ _ (by omega), Option.bind_some, openP_cop h t0 t1, wrap_id (x := t - off) (by omega) (by omega), wrap_id (by omega) (by omega)]
      unfold cop wop
      cases hc : inRow closed t with
      | true => rfl
      | false =>
        rw [if_neg (by decide), has_eq h.week.big _ _ (by omega), Option.bind_some, Int.tmod_eq_emod_of_nonneg (by omega)]
        rw [show t - off + 604800 = t + (604800 - off) by omega]
        rfl
    · rw [if_neg t1]; unfold openP; rw [decide_eq_false (by omega)]; rfl
  · rw [if_neg t0]; unfold openP; rw [decide_eq_false (by omega)]; rfl
theorem same_l0 (l : List S57) (hl : l.length ≤ 1000000) : ∀ (d k i : Nat), i + d = l.length → d < k → curfewref07_Same.l0 k l l (i : Int) = some true := by
  intro d
  induction d with
  | zero =>
    intro k i hi hk
    obtain ⟨k, rfl⟩ : ∃ m, k = m + 1 := ⟨k - 1, by omega⟩
    simp only [curfewref07_Same.l0]
    rw [if_neg (by omega)]
  | succ d ih =>
    intro k i hi hk
    obtain ⟨k, rfl⟩ : ∃ m, k = m + 1 := ⟨k - 1, by omega⟩
    simp only [curfewref07_Same.l0]
    have ih' := ih k (i + 1) (by omega) (by omega)
    rw [show ((i + 1 : Nat) : Int) = (i : Int) + 1 by omega] at ih'
    rw [if_pos (by omega), if_pos (by omega), if_pos (by omega), if_neg (by simp), wrap_id (by omega) (by omega), ih']
theorem sameref_eq (off : Int) (week closed : List S57) (h1 : week.length ≤ 32) (h2 : closed.length ≤ 32) : curfewref10_Same.f 40 off week closed off week closed = some true := by
  unfold curfewref10_Same.f curfewref07_Same.f
  have e1 : curfewref07_Same.l0 40 week week 0 = some true := same_l0 week (by omega) week.length 40 0 (by omega) (by omega)
  have e2 : curfewref07_Same.l0 40 closed closed 0 = some true := same_l0 closed (by omega) closed.length 40 0 (by omega) (by omega)
  rw [if_pos rfl, if_pos rfl, e1, Option.bind_some, if_pos rfl, if_pos rfl, e2]
  rfl
variable {A1 A2 : Option Addr} {c1 c2 : Nat}
theorem refopen_any (h : CalOk off week closed) (t : Int) (w : World) (h1 : Kd.C k57 w A1 week.length week ∧ week.length ≤ c1) (h2 : Kd.C k57 w A2 closed.length closed ∧ closed.length ≤ c2) :
    Calls Try.prog 17 #[.agg #[.int .i64 off, .slice A1 week.length c1, .slice A2 closed.length c2], .int .i64 t] w fun e w' => e = .returned (.bool (openP off week closed t)) ∧ Below w.heap.size w w' :=
  curfewref10_Open.calls 40 off A1 c1 week A2 c2 closed t _ w h1.1 h1.2 h2.1 h2.2 (openref_eq h t)
theorem refsame_any {B1 B2 : Option Addr} {d1 d2 : Nat} (h : CalOk off week closed) (w : World) (g1 : Kd.C k57 w B1 week.length week ∧ week.length ≤ d1) (g2 : Kd.C k57 w B2 closed.length closed ∧ closed.length ≤ d2) (h1 : Kd.C k57 w A1 week.length week ∧ week.length ≤ c1) (h2 : Kd.C k57 w A2 closed.length closed ∧ closed.length ≤ c2) :
    Calls Try.prog 18 #[.agg #[.int .i64 off, .slice B1 week.length d1, .slice B2 closed.length d2], .agg #[.int .i64 off, .slice A1 week.length c1, .slice A2 closed.length c2]] w fun e w' => e = .returned (.bool true) ∧ Below w.heap.size w w' :=
  curfewref10_Same.calls 40 off B1 d1 week B2 d2 closed off A1 c1 week A2 c2 closed _ w g1.1 g1.2 g2.1 g2.2 h1.1 h1.2 h2.1 h2.2 (sameref_eq off week closed h.week.len h.closed.len)
end Go.Proofs.Ytknlpeabmpllmaa.Own

set_option linter.unusedVariables false
set_option linter.unusedSimpArgs false
namespace Go.Proofs.Ytknlpeabmpllmaa.Own
open Go.RowKit Go.Proofs Go.Proofs.YtknlpeabmpllmaaW.PrintWords Go.Proofs.YtknlpeabmpllmaaW.PrintLast Go.Proofs.YtknlpeabmpllmaaW.PrintMore Go.Proofs.Ytknlpeabmpllmaa.Base
variable {off : Int} {week closed : List S57} {A1 A2 : Option Addr} {c1 c2 : Nat}
theorem calcheck2 (w : World) (h1 : Kd.C k57 w A1 week.length week ∧ week.length ≤ c1) (h2 : Kd.C k57 w A2 closed.length closed ∧ closed.length ≤ c2) :
    Calls Try.prog 15 #[.agg #[.int .i64 off, .slice A1 week.length c1, .slice A2 closed.length c2]] w fun e w' => e = .returned (.int .i64 (calErr off week closed)) ∧ Below w.heap.size w w' := calcheck_any off A1 A2 c1 c2 week closed w h1.1 h1.2 h2.1 h2.2
theorem calnew_err (w : World) (h1 : Kd.C k57 w A1 week.length week ∧ week.length ≤ c1) (h2 : Kd.C k57 w A2 closed.length closed ∧ closed.length ≤ c2) (he : calErr off week closed ≠ 0) :
    Calls Try.prog 13 #[.agg #[.int .i64 off, .slice A1 week.length c1, .slice A2 closed.length c2]] w fun e w' => e = .returned (.tuple #[.pointer none, .int .i64 (calErr off week closed)]) ∧ Below w.heap.size w w' := calnew_no off A1 A2 c1 c2 week closed w h1.1 h1.2 h2.1 h2.2 he
def checks_T9 : Bool × List (List Nat × List Nat) := (true, [([], []), ([], []), ([0, 1], [0, 1]), ([], []), ([], []), ([3, 4, 2], [3, 4]), ([2, 5], [2, 5]), ([6, 5], [6]), ([7], [7]), ([8, 7, 7], [7, 8]), ([7], [7]), ([9, 10, 9, 7], [7, 9, 10]), ([7, 11], [7, 11]), ([12, 11], [12]), ([13, 13], [13]), ([13, 14], [13, 14]), ([15, 14, 0, 1, 2, 3, 4, 5, 6, 7, 8, 9, 10, 11, 12, 13, 14, 15], [15])])
def checks_B9 : List Nat := [0, 0, 3, 0, 0, 31, 63, 127, 255, 511, 255, 2047, 4095, 8191, 16383, 32767, 65535]
theorem checks_tab9 : rtab .any (opsOf Try.f4 9) = checks_T9 := by kernel_rfl
theorem checks_bits9 : waitsOk checks_T9.2 checks_B9 = true := by kernel_rfl

set_option maxHeartbeats 4000000 in
set_option maxRecDepth 100000 in
theorem checks_light (t : Int) (w : World) (h1 : Kd.C k57 w A1 week.length week ∧ week.length ≤ c1) (h2 : Kd.C k57 w A2 closed.length closed ∧ closed.length ≤ c2) (hL : lightP week closed = false) :
    Calls Try.prog 4 #[.agg #[.int .i64 off, .slice A1 week.length c1, .slice A2 closed.length c2], .int .i64 t] w fun e w' => e = .returned (.bool true) ∧ Below w.heap.size w w' := by
  have HX1 := Aside0.mk (CalBox.new (off := off) w h1 h2)
  have HB1 : Aside0 (Below w.heap.size w (w.alloc (.cells #[.int .i64 off, .slice A1 week.length c1, .slice A2 closed.length c2] 24))) := ⟨below_alloc (Below.refl _ _) _⟩
  have HL := Aside0.mk hL
  have hnot : ∀ (x : Bool) (w : World), (Op.unary .not (.bool x)).run Try.prog w = .ok (.bool (!x)) w := fun _ _ => rfl
  clear h1 h2 hL
  skip
  go_enter Try.func4, Try.ntmps4
  go_wp2_with fail
  generalize (w.alloc (.cells #[.int .i64 off, .slice A1 week.length c1, .slice A2 closed.length c2] 24)) = w1 at HX1 HB1 ⊢
  have d0 : w1.cell? ⟨w.heap.size, 0, none⟩ = some (.int .i64 off) := (blk_cell HX1.out.blk 0).trans rfl
  have d1 : w1.cell? ⟨w.heap.size, 1, none⟩ = some (.slice A1 week.length c1) := (blk_cell HX1.out.blk 1).trans rfl
  have d2 : w1.cell? ⟨w.heap.size, 2, none⟩ = some (.slice A2 closed.length c2) := (blk_cell HX1.out.blk 2).trans rfl
  go_wp2_with (first | (go_at_call 10; with_reducible refine (light_any w1 HX1.out.h1 HX1.out.h2).mono ?_; rintro e w2 ⟨rfl, hb⟩; rw [HL.out]; have HX2 := Aside0.mk (HX1.out.below hb); have HB2 := Aside0.mk (below_step HB1.out hb); clear hb d0 d1 d2; have d0 : w2.cell? ⟨w.heap.size, 0, none⟩ = some (.int .i64 off) := (blk_cell HX2.out.blk 0).trans rfl; have d1 : w2.cell? ⟨w.heap.size, 1, none⟩ = some (.slice A1 week.length c1) := (blk_cell HX2.out.blk 1).trans rfl; have d2 : w2.cell? ⟨w.heap.size, 2, none⟩ = some (.slice A2 closed.length c2) := (blk_cell HX2.out.blk 2).trans rfl) | (go_at_call 12; with_reducible refine (lives_any w2).mono ?_; rintro e w99 ⟨rfl, hb⟩; have HB99 := Aside0.mk (below_step HB2.out hb); clear hb))
  go_ret
  exact ⟨rfl, HB99.out⟩

set_option maxHeartbeats 4000000 in
set_option maxRecDepth 100000 in
theorem checks_err (t : Int) (w : World) (h1 : Kd.C k57 w A1 week.length week ∧ week.length ≤ c1) (h2 : Kd.C k57 w A2 closed.length closed ∧ closed.length ≤ c2) (hL : lightP week closed = true) (hE : calErr off week closed ≠ 0) :
    Calls Try.prog 4 #[.agg #[.int .i64 off, .slice A1 week.length c1, .slice A2 closed.length c2], .int .i64 t] w fun e w' => e = .returned (.bool true) ∧ Below w.heap.size w w' := by
  have HX1 := Aside0.mk (CalBox.new (off := off) w h1 h2)
  have HB1 : Aside0 (Below w.heap.size w (w.alloc (.cells #[.int .i64 off, .slice A1 week.length c1, .slice A2 closed.length c2] 24))) := ⟨below_alloc (Below.refl _ _) _⟩
  have HL := Aside0.mk hL
  have hnot : ∀ (x : Bool) (w : World), (Op.unary .not (.bool x)).run Try.prog w = .ok (.bool (!x)) w := fun _ _ => rfl
  clear h1 h2 hL
  have HE := Aside0.mk hE
  generalize hE0 : calErr off week closed = E at hE
  have hE1 : (E != 0) = true := bne_iff_ne.mpr hE
  have HE0 := Aside0.mk hE0
  clear hE hE0
  go_enter Try.func4, Try.ntmps4
  go_wp2_with fail
  generalize (w.alloc (.cells #[.int .i64 off, .slice A1 week.length c1, .slice A2 closed.length c2] 24)) = w1 at HX1 HB1 ⊢
  have d0 : w1.cell? ⟨w.heap.size, 0, none⟩ = some (.int .i64 off) := (blk_cell HX1.out.blk 0).trans rfl
  have d1 : w1.cell? ⟨w.heap.size, 1, none⟩ = some (.slice A1 week.length c1) := (blk_cell HX1.out.blk 1).trans rfl
  have d2 : w1.cell? ⟨w.heap.size, 2, none⟩ = some (.slice A2 closed.length c2) := (blk_cell HX1.out.blk 2).trans rfl
  go_wp2_with (first | (go_at_call 10; with_reducible refine (light_any w1 HX1.out.h1 HX1.out.h2).mono ?_; rintro e w2 ⟨rfl, hb⟩; rw [HL.out]; have HX2 := Aside0.mk (HX1.out.below hb); have HB2 := Aside0.mk (below_step HB1.out hb); clear hb d0 d1 d2; have d0 : w2.cell? ⟨w.heap.size, 0, none⟩ = some (.int .i64 off) := (blk_cell HX2.out.blk 0).trans rfl; have d1 : w2.cell? ⟨w.heap.size, 1, none⟩ = some (.slice A1 week.length c1) := (blk_cell HX2.out.blk 1).trans rfl; have d2 : w2.cell? ⟨w.heap.size, 2, none⟩ = some (.slice A2 closed.length c2) := (blk_cell HX2.out.blk 2).trans rfl) | (go_at_call 13; with_reducible refine (calnew_err w2 HX2.out.h1 HX2.out.h2 HE.out).mono ?_; rintro e w3 ⟨rfl, hb⟩; rw [HE0.out]; have HX3 := Aside0.mk (HX2.out.below hb); have HB3 := Aside0.mk (below_step HB2.out hb); clear hb d0 d1 d2; have d0 : w3.cell? ⟨w.heap.size, 0, none⟩ = some (.int .i64 off) := (blk_cell HX3.out.blk 0).trans rfl; have d1 : w3.cell? ⟨w.heap.size, 1, none⟩ = some (.slice A1 week.length c1) := (blk_cell HX3.out.blk 1).trans rfl; have d2 : w3.cell? ⟨w.heap.size, 2, none⟩ = some (.slice A2 closed.length c2) := (blk_cell HX3.out.blk 2).trans rfl) | (go_at_call 11; with_reducible refine (refcheck_any w3 HX3.out.h1 HX3.out.h2).mono ?_; rintro e w4 ⟨rfl, hb⟩; rw [HE0.out]; have HX4 := Aside0.mk (HX3.out.below hb); have HB4 := Aside0.mk (below_step HB3.out hb); clear hb d0 d1 d2; have d0 : w4.cell? ⟨w.heap.size, 0, none⟩ = some (.int .i64 off) := (blk_cell HX4.out.blk 0).trans rfl; have d1 : w4.cell? ⟨w.heap.size, 1, none⟩ = some (.slice A1 week.length c1) := (blk_cell HX4.out.blk 1).trans rfl; have d2 : w4.cell? ⟨w.heap.size, 2, none⟩ = some (.slice A2 closed.length c2) := (blk_cell HX4.out.blk 2).trans rfl) | (go_at_call 15; with_reducible refine (calcheck2 w4 HX4.out.h1 HX4.out.h2).mono ?_; rintro e w5 ⟨rfl, hb⟩; rw [HE0.out]; have HX5 := Aside0.mk (HX4.out.below hb); have HB5 := Aside0.mk (below_step HB4.out hb); clear hb d0 d1 d2; have d0 : w5.cell? ⟨w.heap.size, 0, none⟩ = some (.int .i64 off) := (blk_cell HX5.out.blk 0).trans rfl; have d1 : w5.cell? ⟨w.heap.size, 1, none⟩ = some (.slice A1 week.length c1) := (blk_cell HX5.out.blk 1).trans rfl; have d2 : w5.cell? ⟨w.heap.size, 2, none⟩ = some (.slice A2 closed.length c2) := (blk_cell HX5.out.blk 2).trans rfl) | (go_at_call 12; with_reducible refine (lives_any w5).mono ?_; rintro e w99 ⟨rfl, hb⟩; have HB99 := Aside0.mk (below_step HB5.out hb); clear hb))
  go_ret
  exact ⟨rfl, HB99.out⟩

set_option maxHeartbeats 4000000 in
set_option maxRecDepth 100000 in
theorem checks_ok (t : Int) (w : World) (h1 : Kd.C k57 w A1 week.length week ∧ week.length ≤ c1) (h2 : Kd.C k57 w A2 closed.length closed ∧ closed.length ≤ c2) (hL : lightP week closed = true) (hE : calErr off week closed = 0) :
    Calls Try.prog 4 #[.agg #[.int .i64 off, .slice A1 week.length c1, .slice A2 closed.length c2], .int .i64 t] w fun e w' => e = .returned (.bool true) ∧ Below w.heap.size w w' := by
  have HX1 := Aside0.mk (CalBox.new (off := off) w h1 h2)
  have HB1 : Aside0 (Below w.heap.size w (w.alloc (.cells #[.int .i64 off, .slice A1 week.length c1, .slice A2 closed.length c2] 24))) := ⟨below_alloc (Below.refl _ _) _⟩
  have HL := Aside0.mk hL
  have hnot : ∀ (x : Bool) (w : World), (Op.unary .not (.bool x)).run Try.prog w = .ok (.bool (!x)) w := fun _ _ => rfl
  clear h1 h2 hL
  have HE := Aside0.mk hE
  have HK := Aside0.mk (calErr_ok hE)
  clear hE
  go_enter Try.func4, Try.ntmps4
  go_wp2_with fail
  generalize (w.alloc (.cells #[.int .i64 off, .slice A1 week.length c1, .slice A2 closed.length c2] 24)) = w1 at HX1 HB1 ⊢
  have d0 : w1.cell? ⟨w.heap.size, 0, none⟩ = some (.int .i64 off) := (blk_cell HX1.out.blk 0).trans rfl
  have d1 : w1.cell? ⟨w.heap.size, 1, none⟩ = some (.slice A1 week.length c1) := (blk_cell HX1.out.blk 1).trans rfl
  have d2 : w1.cell? ⟨w.heap.size, 2, none⟩ = some (.slice A2 closed.length c2) := (blk_cell HX1.out.blk 2).trans rfl
  go_wp2_with (first | (go_at_call 10; with_reducible refine (light_any w1 HX1.out.h1 HX1.out.h2).mono ?_; rintro e w2 ⟨rfl, hb⟩; rw [HL.out]; have HX2 := Aside0.mk (HX1.out.below hb); have HB2 := Aside0.mk (below_step HB1.out hb); clear hb d0 d1 d2; have d0 : w2.cell? ⟨w.heap.size, 0, none⟩ = some (.int .i64 off) := (blk_cell HX2.out.blk 0).trans rfl; have d1 : w2.cell? ⟨w.heap.size, 1, none⟩ = some (.slice A1 week.length c1) := (blk_cell HX2.out.blk 1).trans rfl; have d2 : w2.cell? ⟨w.heap.size, 2, none⟩ = some (.slice A2 closed.length c2) := (blk_cell HX2.out.blk 2).trans rfl) | (go_at_call 13; with_reducible refine (calnew_ok w2 HX2.out.h1 HX2.out.h2 HE.out).mono ?_; rintro e w3 ⟨kb, ab, pb, cb, rfl, CK, hb⟩; have HX3 := Aside0.mk (HX2.out.below hb); have HB3 := Aside0.mk (below_step HB2.out hb); have HC3 := Aside0.mk CK; have HN3 : Aside0 (w2.heap.size ≤ w3.heap.size) := ⟨hb.size⟩; have HQ3 := Aside0.mk hb; clear hb CK d0 d1 d2; have d0 : w3.cell? ⟨w.heap.size, 0, none⟩ = some (.int .i64 off) := (blk_cell HX3.out.blk 0).trans rfl; have d1 : w3.cell? ⟨w.heap.size, 1, none⟩ = some (.slice A1 week.length c1) := (blk_cell HX3.out.blk 1).trans rfl; have d2 : w3.cell? ⟨w.heap.size, 2, none⟩ = some (.slice A2 closed.length c2) := (blk_cell HX3.out.blk 2).trans rfl) | (go_at_call 11; with_reducible refine (refcheck_any w3 HX3.out.h1 HX3.out.h2).mono ?_; rintro e w4 ⟨rfl, hb⟩; rw [HE.out]; have HX4 := Aside0.mk (HX3.out.below hb); have HB4 := Aside0.mk (below_step HB3.out hb); have HC4 := Aside0.mk (HC3.out.below hb); clear hb d0 d1 d2; have d0 : w4.cell? ⟨w.heap.size, 0, none⟩ = some (.int .i64 off) := (blk_cell HX4.out.blk 0).trans rfl; have d1 : w4.cell? ⟨w.heap.size, 1, none⟩ = some (.slice A1 week.length c1) := (blk_cell HX4.out.blk 1).trans rfl; have d2 : w4.cell? ⟨w.heap.size, 2, none⟩ = some (.slice A2 closed.length c2) := (blk_cell HX4.out.blk 2).trans rfl) | (go_at_call 15; with_reducible refine (calcheck2 w4 HX4.out.h1 HX4.out.h2).mono ?_; rintro e w5 ⟨rfl, hb⟩; rw [HE.out]; have HX5 := Aside0.mk (HX4.out.below hb); have HB5 := Aside0.mk (below_step HB4.out hb); have HC5 := Aside0.mk (HC4.out.below hb); clear hb d0 d1 d2; have d0 : w5.cell? ⟨w.heap.size, 0, none⟩ = some (.int .i64 off) := (blk_cell HX5.out.blk 0).trans rfl; have d1 : w5.cell? ⟨w.heap.size, 1, none⟩ = some (.slice A1 week.length c1) := (blk_cell HX5.out.blk 1).trans rfl; have d2 : w5.cell? ⟨w.heap.size, 2, none⟩ = some (.slice A2 closed.length c2) := (blk_cell HX5.out.blk 2).trans rfl))

  have hb6 : Below w5.heap.size w5 w5.drew := below_drew1 (Below.refl _ _)
  have HX6 := Aside0.mk (HX5.out.below hb6)
  have HB6 := Aside0.mk (below_step HB5.out hb6)
  have HC6 := Aside0.mk (HC5.out.below hb6)
  have z0 := (blk_cell HX6.out.blk 0).trans (rfl : _ = some (Value.int .i64 off))
  have z1 := (blk_cell HX6.out.blk 1).trans (rfl : _ = some (Value.slice A1 week.length c1))
  have z2 := (blk_cell HX6.out.blk 2).trans (rfl : _ = some (Value.slice A2 closed.length c2))
  clear hb6 d0 d1 d2 HX5 HB5 HC5
  refine start_ (n := 17) (S := fun w' => w'.cell? ⟨w.heap.size, 0, none⟩ = some (.int .i64 off) ∧ w'.cell? ⟨w.heap.size, 1, none⟩ = some (.slice A1 week.length c1) ∧ w'.cell? ⟨w.heap.size, 2, none⟩ = some (.slice A2 closed.length c2)) (ds := []) #[false, false, false, false, false, false, false, false, false, false, false, false, false, false, false, false, false] (by kernel_rfl) rfl rfl ⟨z0, z1, z2⟩ (fun hHeld => ?_); refine with_tabW checks_tab9 checks_bits9 (fun HT_ HW_ => ?_)
  clear z0 z1 z2
  generalize w5.drew = w6 at HX6 HB6 HC6 hHeld ⊢
  refine pure_ (i := 0) (N := some 38) (v := ?_) (a' := ?_) #[true, false, false, false, false, false, false, false, false, false, false, false, false, false, false, false, false] rfl rfl (any_of HT_.out (by kernel_rfl)) (fun _ _ _ h => h) (Or.inl ⟨by rfl, ?_⟩) ?_ ?_
  rotate_left
  · intro w'
    go_simp
    with_reducible rfl
  rotate_left
  · simp only [Act.put, List.setIfInBounds_toArray, List.set_cons_zero, List.set_cons_succ, i64_w, i32_w]
    rfl
  refine pure_ (i := 1) (N := some 39) (v := ?_) (a' := ?_) #[true, true, false, false, false, false, false, false, false, false, false, false, false, false, false, false, false] rfl rfl (any_of HT_.out (by kernel_rfl)) (fun _ _ _ h => h) (Or.inl ⟨by rfl, ?_⟩) ?_ ?_
  rotate_left
  · intro w'
    go_simp
    with_reducible rfl
  rotate_left
  · simp only [Act.put, List.setIfInBounds_toArray, List.set_cons_zero, List.set_cons_succ, i64_w, i32_w]
    rfl
  refine pure_ (i := 4) (N := some 42) (v := ?_) (a' := ?_) #[true, true, false, false, true, false, false, false, false, false, false, false, false, false, false, false, false] rfl rfl (any_of HT_.out (by kernel_rfl)) (fun _ _ _ h => h) (Or.inl ⟨by rfl, ?_⟩) ?_ ?_
  rotate_left
  · intro w'
    go_simp
    with_reducible rfl
  rotate_left
  · simp only [Act.put, List.setIfInBounds_toArray, List.set_cons_zero, List.set_cons_succ, i64_w, i32_w]
    rfl
  refine take_ (i := 3) (N := some 41) (v := ?_) (a' := ?_) #[true, true, false, true, true, false, false, false, false, false, false, false, false, false, false, false, false] rfl rfl (take_ofW HT_.out HW_.out (by kernel_rfl)) (fun _ _ _ h => h) (Or.inl ⟨by rfl, ?_⟩) hHeld ?_ ?_
  rotate_left
  · rintro w' ⟨s0, s1, s2⟩
    go_simp
    with_reducible rfl
  rotate_left
  · simp only [Act.put, List.setIfInBounds_toArray, List.set_cons_zero, List.set_cons_succ, i64_w, i32_w]
    rfl
  refine one_ (i := 2) (N := some 40) #[true, true, true, true, true, false, false, false, false, false, false, false, false, false, false, false, false] rfl rfl (one_of HT_.out (by kernel_rfl)) (by decide) (fun K hK => ?_)
  refine goes_ Try.func16 (by kernel_rfl) rfl #[.pointer (some ⟨kb, 0, none⟩), .int .i64 t] (by rfl) rfl rfl (by (try simp only [List.map_toArray, List.map_cons, List.map_nil]); first | done | rfl) ?_
  refine (clkopen_any t _ HC6.out).mono ?_
  rintro e w7 ⟨rfl, hb⟩
  refine ⟨_, rfl, ?_⟩
  have HX7 := Aside0.mk (HX6.out.below hb)
  have HB7 := Aside0.mk (below_step HB6.out hb)
  have HC7 := Aside0.mk (HC6.out.below hb)
  have e0 : w7.cell? ⟨w.heap.size, 0, none⟩ = some (.int .i64 off) := (blk_cell HX7.out.blk 0).trans rfl
  have e1 : w7.cell? ⟨w.heap.size, 1, none⟩ = some (.slice A1 week.length c1) := (blk_cell HX7.out.blk 1).trans rfl
  have e2 : w7.cell? ⟨w.heap.size, 2, none⟩ = some (.slice A2 closed.length c2) := (blk_cell HX7.out.blk 2).trans rfl
  clear hb
  refine hK.out _ _ ⟨e0, e1, e2⟩ (fun hHeld => ?_)
  clear hK K
  refine norm_ (a' := ?_) ?_ ?_
  rotate_left
  · show Act.put _ (some 40) _ = _
    simp only [Act.put, List.setIfInBounds_toArray, List.set_cons_zero, List.set_cons_succ, i64_w, i32_w]
    rfl
  refine one_ (i := 5) (N := some 43) #[true, true, true, true, true, true, false, false, false, false, false, false, false, false, false, false, false] rfl rfl (one_of HT_.out (by kernel_rfl)) (by decide) (fun K hK => ?_)
  refine goes_ Try.func17 (by kernel_rfl) rfl #[.agg #[.int .i64 off, .slice A1 week.length c1, .slice A2 closed.length c2], .int .i64 t] (by rfl) rfl rfl (by (try simp only [List.map_toArray, List.map_cons, List.map_nil]); first | done | rfl) ?_
  refine (refopen_any HK.out t _ HX7.out.h1 HX7.out.h2).mono ?_
  rintro e w8 ⟨rfl, hb⟩
  refine ⟨_, rfl, ?_⟩
  have HX8 := Aside0.mk (HX7.out.below hb)
  have HB8 := Aside0.mk (below_step HB7.out hb)
  have HC8 := Aside0.mk (HC7.out.below hb)
  have e0 : w8.cell? ⟨w.heap.size, 0, none⟩ = some (.int .i64 off) := (blk_cell HX8.out.blk 0).trans rfl
  have e1 : w8.cell? ⟨w.heap.size, 1, none⟩ = some (.slice A1 week.length c1) := (blk_cell HX8.out.blk 1).trans rfl
  have e2 : w8.cell? ⟨w.heap.size, 2, none⟩ = some (.slice A2 closed.length c2) := (blk_cell HX8.out.blk 2).trans rfl
  clear hb
  refine hK.out _ _ ⟨e0, e1, e2⟩ (fun hHeld => ?_)
  clear hK K
  refine norm_ (a' := ?_) ?_ ?_
  rotate_left
  · show Act.put _ (some 43) _ = _
    simp only [Act.put, List.setIfInBounds_toArray, List.set_cons_zero, List.set_cons_succ, i64_w, i32_w]
    rfl
  refine pure_ (i := 6) (N := some 44) (v := ?_) (a' := ?_) #[true, true, true, true, true, true, true, false, false, false, false, false, false, false, false, false, false] rfl rfl (any_of HT_.out (by kernel_rfl)) (fun _ _ _ h => h) (Or.inl ⟨by rfl, ?_⟩) ?_ ?_
  rotate_left
  · intro w'
    go_simp
    with_reducible rfl
  rotate_left
  · simp only [Act.put, List.setIfInBounds_toArray, List.set_cons_zero, List.set_cons_succ, i64_w, i32_w]
    rfl
  refine pure_ (i := 7) (N := some 45) (v := ?_) (a' := ?_) #[true, true, true, true, true, true, true, true, false, false, false, false, false, false, false, false, false] rfl rfl (any_of HT_.out (by kernel_rfl)) (fun _ _ _ h => h) (Or.inl ⟨by rfl, ?_⟩) ?_ ?_
  rotate_left
  · intro w'
    go_simp
    with_reducible rfl
  rotate_left
  · simp only [Act.put, List.setIfInBounds_toArray, List.set_cons_zero, List.set_cons_succ, i64_w, i32_w]
    rfl
  refine pure_ (i := 8) (N := some 46) (v := ?_) (a' := ?_) #[true, true, true, true, true, true, true, true, true, false, false, false, false, false, false, false, false] rfl rfl (any_of HT_.out (by kernel_rfl)) (fun _ _ _ h => h) (Or.inl ⟨by rfl, ?_⟩) ?_ ?_
  rotate_left
  · intro w'
    go_simp
    with_reducible rfl
  rotate_left
  · simp only [Act.put, List.setIfInBounds_toArray, List.set_cons_zero, List.set_cons_succ, i64_w, i32_w]
    rfl
  refine take_ (i := 10) (N := some 48) (v := ?_) (a' := ?_) #[true, true, true, true, true, true, true, true, true, false, true, false, false, false, false, false, false] rfl rfl (take_ofW HT_.out HW_.out (by kernel_rfl)) (fun _ _ _ h => h) (Or.inl ⟨by rfl, ?_⟩) hHeld ?_ ?_
  rotate_left
  · rintro w' ⟨s0, s1, s2⟩
    go_simp
    with_reducible rfl
  rotate_left
  · simp only [Act.put, List.setIfInBounds_toArray, List.set_cons_zero, List.set_cons_succ, i64_w, i32_w]
    rfl
  refine one_ (i := 9) (N := some 47) #[true, true, true, true, true, true, true, true, true, true, true, false, false, false, false, false, false] rfl rfl (one_of HT_.out (by kernel_rfl)) (by decide) (fun K hK => ?_)
  refine goes_ Try.func19 (by kernel_rfl) rfl #[.pointer (some ⟨kb, 0, none⟩)] (by rfl) rfl rfl (by (try simp only [List.map_toArray, List.map_cons, List.map_nil]); first | done | rfl) ?_
  refine (plain_any _ HC8.out).mono ?_
  rintro e w9 ⟨B1, b1, B2, b2, rfl, hl1, hl2, hr1, hr2, hb⟩
  refine ⟨_, rfl, ?_⟩
  have HX9 := Aside0.mk (HX8.out.below hb)
  have HB9 := Aside0.mk (below_step HB8.out hb)
  have HC9 := Aside0.mk (HC8.out.below hb)
  have e0 : w9.cell? ⟨w.heap.size, 0, none⟩ = some (.int .i64 off) := (blk_cell HX9.out.blk 0).trans rfl
  have e1 : w9.cell? ⟨w.heap.size, 1, none⟩ = some (.slice A1 week.length c1) := (blk_cell HX9.out.blk 1).trans rfl
  have e2 : w9.cell? ⟨w.heap.size, 2, none⟩ = some (.slice A2 closed.length c2) := (blk_cell HX9.out.blk 2).trans rfl
  have HR1 := Aside0.mk (Kd.R_reads' hr1).2.2
  have HR2 := Aside0.mk (Kd.R_reads' hr2).2.2
  clear hb hr1 hr2
  refine hK.out _ _ ⟨e0, e1, e2⟩ (fun hHeld => ?_)
  clear hK K
  refine norm_ (a' := ?_) ?_ ?_
  rotate_left
  · show Act.put _ (some 47) _ = _
    simp only [Act.put, List.setIfInBounds_toArray, List.set_cons_zero, List.set_cons_succ, i64_w, i32_w]
    rfl
  refine one_ (i := 11) (N := some 49) #[true, true, true, true, true, true, true, true, true, true, true, true, false, false, false, false, false] rfl rfl (one_of HT_.out (by kernel_rfl)) (by decide) (fun K hK => ?_)
  refine goes_ Try.func18 (by kernel_rfl) rfl #[.agg #[.int .i64 off, .slice B1 week.length b1, .slice B2 closed.length b2], .agg #[.int .i64 off, .slice A1 week.length c1, .slice A2 closed.length c2]] (by rfl) rfl rfl (by (try simp only [List.map_toArray, List.map_cons, List.map_nil]); first | done | rfl) ?_
  refine (refsame_any HK.out _ ⟨HR1.out, hl1⟩ ⟨HR2.out, hl2⟩ HX9.out.h1 HX9.out.h2).mono ?_
  rintro e w10 ⟨rfl, hb⟩
  refine ⟨_, rfl, ?_⟩
  have HX10 := Aside0.mk (HX9.out.below hb)
  have HB10 := Aside0.mk (below_step HB9.out hb)
  have HC10 := Aside0.mk (HC9.out.below hb)
  have e0 : w10.cell? ⟨w.heap.size, 0, none⟩ = some (.int .i64 off) := (blk_cell HX10.out.blk 0).trans rfl
  have e1 : w10.cell? ⟨w.heap.size, 1, none⟩ = some (.slice A1 week.length c1) := (blk_cell HX10.out.blk 1).trans rfl
  have e2 : w10.cell? ⟨w.heap.size, 2, none⟩ = some (.slice A2 closed.length c2) := (blk_cell HX10.out.blk 2).trans rfl
  clear hb
  refine hK.out _ _ ⟨e0, e1, e2⟩ (fun hHeld => ?_)
  clear hK K
  refine norm_ (a' := ?_) ?_ ?_
  rotate_left
  · show Act.put _ (some 49) _ = _
    simp only [Act.put, List.setIfInBounds_toArray, List.set_cons_zero, List.set_cons_succ, i64_w, i32_w]
    rfl
  refine pure_ (i := 12) (N := some 50) (v := ?_) (a' := ?_) #[true, true, true, true, true, true, true, true, true, true, true, true, true, false, false, false, false] rfl rfl (any_of HT_.out (by kernel_rfl)) (fun _ _ _ h => h) (Or.inl ⟨by rfl, ?_⟩) ?_ ?_
  rotate_left
  · intro w'
    go_simp
    with_reducible rfl
  rotate_left
  · simp only [Act.put, List.setIfInBounds_toArray, List.set_cons_zero, List.set_cons_succ, i64_w, i32_w]
    rfl
  refine pure_ (i := 13) (N := some 51) (v := ?_) (a' := ?_) #[true, true, true, true, true, true, true, true, true, true, true, true, true, true, false, false, false] rfl rfl (any_of HT_.out (by kernel_rfl)) (fun _ _ _ h => h) (Or.inl ⟨by rfl, ?_⟩) ?_ ?_
  rotate_left
  · intro w'
    go_simp
    with_reducible rfl
  rotate_left
  · simp only [Act.put, List.setIfInBounds_toArray, List.set_cons_zero, List.set_cons_succ, i64_w, i32_w]
    rfl
  refine one_ (i := 14) (N := some 52) #[true, true, true, true, true, true, true, true, true, true, true, true, true, true, true, false, false] rfl rfl (one_of HT_.out (by kernel_rfl)) (by decide) (fun K hK => ?_)
  refine goes_ Try.func12 (by kernel_rfl) rfl #[] (by rfl) rfl rfl (by (try simp only [List.map_toArray, List.map_cons, List.map_nil]); first | done | rfl) ?_
  refine (lives_any _).mono ?_
  rintro e w11 ⟨rfl, hb⟩
  refine ⟨_, rfl, ?_⟩
  have HX11 := Aside0.mk (HX10.out.below hb)
  have HB11 := Aside0.mk (below_step HB10.out hb)
  have HC11 := Aside0.mk (HC10.out.below hb)
  have e0 : w11.cell? ⟨w.heap.size, 0, none⟩ = some (.int .i64 off) := (blk_cell HX11.out.blk 0).trans rfl
  have e1 : w11.cell? ⟨w.heap.size, 1, none⟩ = some (.slice A1 week.length c1) := (blk_cell HX11.out.blk 1).trans rfl
  have e2 : w11.cell? ⟨w.heap.size, 2, none⟩ = some (.slice A2 closed.length c2) := (blk_cell HX11.out.blk 2).trans rfl
  clear hb
  refine hK.out _ _ ⟨e0, e1, e2⟩ (fun hHeld => ?_)
  clear hK K
  refine norm_ (a' := ?_) ?_ ?_
  rotate_left
  · show Act.put _ (some 52) _ = _
    simp only [Act.put, List.setIfInBounds_toArray, List.set_cons_zero, List.set_cons_succ, i64_w, i32_w]
    rfl
  refine pure_ (i := 15) (N := some 53) (v := ?_) (a' := ?_) #[true, true, true, true, true, true, true, true, true, true, true, true, true, true, true, true, false] rfl rfl (any_of HT_.out (by kernel_rfl)) (fun _ _ _ h => h) (Or.inl ⟨by rfl, ?_⟩) ?_ ?_
  rotate_left
  · intro w'
    go_simp
    with_reducible rfl
  rotate_left
  · simp only [Act.put, List.setIfInBounds_toArray, List.set_cons_zero, List.set_cons_succ, i64_w, i32_w]
    rfl
  refine pure_ (i := 16) (N := some 4) (v := ?_) (a' := ?_) #[true, true, true, true, true, true, true, true, true, true, true, true, true, true, true, true, true] rfl rfl (any_of HT_.out (by kernel_rfl)) (fun _ _ _ h => h) (Or.inl ⟨by rfl, ?_⟩) ?_ ?_
  rotate_left
  · intro w'
    go_simp
    with_reducible rfl
  rotate_left
  · simp only [Act.put, List.setIfInBounds_toArray, List.set_cons_zero, List.set_cons_succ, i64_w, i32_w]
    rfl
  refine done_ (done_of HT_.out (by kernel_rfl)) ?_
  go_wp2
  go_ret
  exact ⟨by simp, HB11.out⟩
theorem checks_any (t : Int) (w : World) (h1 : Kd.C k57 w A1 week.length week ∧ week.length ≤ c1) (h2 : Kd.C k57 w A2 closed.length closed ∧ closed.length ≤ c2) :
    Calls Try.prog 4 #[.agg #[.int .i64 off, .slice A1 week.length c1, .slice A2 closed.length c2], .int .i64 t] w fun e w' => e = .returned (.bool true) ∧ Below w.heap.size w w' := by
  cases hL : lightP week closed with
  | false => exact checks_light t w h1 h2 hL
  | true =>
    by_cases hE : calErr off week closed = 0
    · exact checks_ok t w h1 h2 hL hE
    · exact checks_err t w h1 h2 hL hE
end Go.Proofs.Ytknlpeabmpllmaa.Own

set_option linter.unusedVariables false
set_option linter.unusedSimpArgs false
namespace Go.Proofs.Ytknlpeabmpllmaa.calendarChecks
open Go.ChangeShapes Go.WideShapes Go.ChangeAt Go.RowKit
set_option maxRecDepth 100000 in
theorem lifted (os : Os) (started : os.Started) (H : Type) (enc : TypeId × Value → H) :
    ReturnsInHanded {} Try.checked os 4 .any (Rows.calendarChecksSpec.pre6 enc Try.prog Try.f4 Rows.calendarChecksRow.domain false) (Rows.calendarChecksSpec.post enc Try.prog Try.f4 false true false false) := by
  refine returnsInHanded_of_change_sized (C := Try.checked) Own.ownKnob_none started (by kernel_rfl) Try.func4
    (ChangeSpec.witness6 (enc := enc) (C := Try.checked) false ⟨#[], #[.agg #[.int .i64 0, .slice none 0 0, .slice none 0 0], .int .i64 0], []⟩ 8 (by kernel_rfl) (by kernel_rfl) (by kernel_rfl) (by kernel_rfl)) ?_
  intro W base args ds gs before hval0 hW hcnd hsz0 _
  have hval : ∀ (j : Nat) t v, Try.f4.params[j]? = some t → args[j]? = some v → Value.okWide Try.prog W .any base t v := hval0
  have hW' := hW
  obtain ⟨p, q, hA0, hV, rfl, hfz, hnd⟩ := hW
  have hA : DataW.TrodAll enc Try.prog W 0 (fun _ => true) true Try.f4.params.toList args.toList ds p := hA0
  rw [Try.params4] at hA hval
  obtain ⟨v0, vs0, d0, ds0, p0, q0, hargs, rfl, rfl, h0, r0⟩ := trodAll_cons hA
  obtain ⟨v1, vs1, d1, ds1, p1, q1, rfl, rfl, rfl, h1, r1⟩ := trodAll_cons r0
  obtain ⟨rfl, rfl, rfl⟩ := trodAll_nil r1
  obtain rfl : args = #[v0, v1] := by cases args; simp_all
  obtain ⟨rfl, rfl⟩ := trodVars_none hV
  have k0 := h0
  have lt0 : ∀ x ∈ p0, x.block < W.heap.size := by obtain ⟨m, hm⟩ := k0; exact DataW.trod_lt m _ _ _ hm
  obtain ⟨off0, A10, A20, c10, c20, week0, closed0, rfl, hx0, hy0⟩ := Own.cal_open (hval 0 24 v0 rfl rfl) h0
  obtain ⟨a1, rfl, rfl, rfl, w1⟩ := open_int Try.underlying2 (hval 1 2 v1 rfl rfl) h1
  clear hA0 hval0 hsz0
  refine (Own.checks_any a1 W hx0 hy0).mono fun e W' ⟨he, bel⟩ => ?_
  subst he
  exact ⟨_, rfl, _, _, _, [], _, [], hW', trodAll_mk1 (shut_bool Try.underlying4 _), (trodAll_cons_mk (Below.trod Own.laidOut (by kernel_rfl) (of_decide_eq_true (by kernel_rfl)) k0 bel lt0) (trodAll_cons_mk (shut_int Try.underlying2 w1) trodAll_mk0)), rfl, bel.frame _, fun h => by cases h⟩
theorem over : Rows.calendarChecksRow.holds Try.pinned (OpenSpec.ofChange Rows.calendarChecksSpec) :=
  OpenClaim.holds_of_wide 4 Try.f4 rfl rfl rfl rfl rfl rfl rfl ⟨rfl, rfl, rfl, rfl, rfl⟩ rfl rfl rfl rfl rfl (by kernel_rfl) Try.func4 (by kernel_rfl)
    (of_decide_eq_true (by kernel_rfl)) (by unfold Func.isWrapper; first | (rw [if_pos (by decide +kernel)]; kernel_rfl) | (rw [if_neg (by decide +kernel)]; exact ⟨rfl, rfl⟩))
    (fun os started H enc _ => lifted os started H enc)
theorem proved : Rows.CalendarChecksSaid := over
#print axioms proved
end Go.Proofs.Ytknlpeabmpllmaa.calendarChecks
namespace Go.Proofs.Ytknlpeabmpllmaa
/-- The row, under a short name, for the claim. -/
theorem calendarChecks_holds : Rows.CalendarChecksSaid := calendarChecks.proved
end Go.Proofs.Ytknlpeabmpllmaa
