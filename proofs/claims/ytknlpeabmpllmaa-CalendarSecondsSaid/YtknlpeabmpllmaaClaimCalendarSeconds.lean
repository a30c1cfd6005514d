/- For every input: the law CalendarSeconds returns true, and changes nothing of its arguments. Its conditions: those of the given row alone. -/
import Derived.Test.YtknlpeabmpllmaaOwnD
set_option linter.unusedVariables false
set_option linter.unusedSimpArgs false
namespace Go.Proofs.Ytknlpeabmpllmaa.Own
open Go.RowKit Go.Proofs Go.Proofs.YtknlpeabmpllmaaW.PrintWords Go.Proofs.YtknlpeabmpllmaaW.PrintLast Go.Proofs.YtknlpeabmpllmaaW.PrintMore Go.Proofs.Ytknlpeabmpllmaa.Base
variable {off : Int} {week closed : List S57} {A1 A2 : Option Addr} {c1 c2 : Nat}
set_option maxHeartbeats 4000000 in
set_option maxRecDepth 100000 in
theorem seconds_light (a g : Int) (w : World) (h1 : Kd.C k57 w A1 week.length week ∧ week.length ≤ c1) (h2 : Kd.C k57 w A2 closed.length closed ∧ closed.length ≤ c2) (hL : lightP week closed = false) :
    Calls Try.prog 7 #[.agg #[.int .i64 off, .slice A1 week.length c1, .slice A2 closed.length c2], .int .i64 a, .int .u8 g] w fun e w' => e = .returned (.bool true) ∧ Below w.heap.size w w' := by
  have HX1 := Aside0.mk (CalBox.new (off := off) w h1 h2)
  have HB1 : Aside0 (Below w.heap.size w (w.alloc (.cells #[.int .i64 off, .slice A1 week.length c1, .slice A2 closed.length c2] 24))) := ⟨below_alloc (Below.refl _ _) _⟩
  have HL := Aside0.mk hL
  have hnot : ∀ (x : Bool) (w : World), (Op.unary .not (.bool x)).run Try.prog w = .ok (.bool (!x)) w := fun _ _ => rfl
  clear h1 h2 hL
  skip
  go_enter Try.func7, Try.ntmps7
  go_wp2_with fail
  generalize (w.alloc (.cells #[.int .i64 off, .slice A1 week.length c1, .slice A2 closed.length c2] 24)) = w1 at HX1 HB1 ⊢
  have d0 : w1.cell? ⟨w.heap.size, 0, none⟩ = some (.int .i64 off) := (blk_cell HX1.out.blk 0).trans rfl
  have d1 : w1.cell? ⟨w.heap.size, 1, none⟩ = some (.slice A1 week.length c1) := (blk_cell HX1.out.blk 1).trans rfl
  have d2 : w1.cell? ⟨w.heap.size, 2, none⟩ = some (.slice A2 closed.length c2) := (blk_cell HX1.out.blk 2).trans rfl
  go_wp2_with (first | (go_at_call 10; with_reducible refine (light_any w1 HX1.out.h1 HX1.out.h2).mono ?_; rintro e w2 ⟨rfl, hb⟩; rw [HL.out]; have HX2 := Aside0.mk (HX1.out.below hb); have HB2 := Aside0.mk (below_step HB1.out hb); clear hb d0 d1 d2; have d0 : w2.cell? ⟨w.heap.size, 0, none⟩ = some (.int .i64 off) := (blk_cell HX2.out.blk 0).trans rfl; have d1 : w2.cell? ⟨w.heap.size, 1, none⟩ = some (.slice A1 week.length c1) := (blk_cell HX2.out.blk 1).trans rfl; have d2 : w2.cell? ⟨w.heap.size, 2, none⟩ = some (.slice A2 closed.length c2) := (blk_cell HX2.out.blk 2).trans rfl) | (go_at_call 12; with_reducible refine (lives_any w2).mono ?_; rintro e w99 ⟨rfl, hb⟩; have HB99 := Aside0.mk (below_step HB2.out hb); clear hb))
  go_ret
  exact ⟨rfl, HB99.out⟩

set_option maxHeartbeats 4000000 in
set_option maxRecDepth 100000 in
theorem seconds_check (a g : Int) (w : World) (h1 : Kd.C k57 w A1 week.length week ∧ week.length ≤ c1) (h2 : Kd.C k57 w A2 closed.length closed ∧ closed.length ≤ c2) (hL : lightP week closed = true) (hE : calErr off week closed ≠ 0) :
    Calls Try.prog 7 #[.agg #[.int .i64 off, .slice A1 week.length c1, .slice A2 closed.length c2], .int .i64 a, .int .u8 g] w fun e w' => e = .returned (.bool true) ∧ Below w.heap.size w w' := by
  have HX1 := Aside0.mk (CalBox.new (off := off) w h1 h2)
  have HB1 : Aside0 (Below w.heap.size w (w.alloc (.cells #[.int .i64 off, .slice A1 week.length c1, .slice A2 closed.length c2] 24))) := ⟨below_alloc (Below.refl _ _) _⟩
  have HL := Aside0.mk hL
  have hnot : ∀ (x : Bool) (w : World), (Op.unary .not (.bool x)).run Try.prog w = .ok (.bool (!x)) w := fun _ _ => rfl
  clear h1 h2 hL
  have hE1 : (calErr off week closed != 0) = true := bne_iff_ne.mpr hE
  clear hE
  go_enter Try.func7, Try.ntmps7
  go_wp2_with fail
  generalize (w.alloc (.cells #[.int .i64 off, .slice A1 week.length c1, .slice A2 closed.length c2] 24)) = w1 at HX1 HB1 ⊢
  have d0 : w1.cell? ⟨w.heap.size, 0, none⟩ = some (.int .i64 off) := (blk_cell HX1.out.blk 0).trans rfl
  have d1 : w1.cell? ⟨w.heap.size, 1, none⟩ = some (.slice A1 week.length c1) := (blk_cell HX1.out.blk 1).trans rfl
  have d2 : w1.cell? ⟨w.heap.size, 2, none⟩ = some (.slice A2 closed.length c2) := (blk_cell HX1.out.blk 2).trans rfl
  go_wp2_with (first | (go_at_call 10; with_reducible refine (light_any w1 HX1.out.h1 HX1.out.h2).mono ?_; rintro e w2 ⟨rfl, hb⟩; rw [HL.out]; have HX2 := Aside0.mk (HX1.out.below hb); have HB2 := Aside0.mk (below_step HB1.out hb); clear hb d0 d1 d2; have d0 : w2.cell? ⟨w.heap.size, 0, none⟩ = some (.int .i64 off) := (blk_cell HX2.out.blk 0).trans rfl; have d1 : w2.cell? ⟨w.heap.size, 1, none⟩ = some (.slice A1 week.length c1) := (blk_cell HX2.out.blk 1).trans rfl; have d2 : w2.cell? ⟨w.heap.size, 2, none⟩ = some (.slice A2 closed.length c2) := (blk_cell HX2.out.blk 2).trans rfl) | (go_at_call 11; with_reducible refine (refcheck_any w2 HX2.out.h1 HX2.out.h2).mono ?_; rintro e w3 ⟨rfl, hb⟩; have HX3 := Aside0.mk (HX2.out.below hb); have HB3 := Aside0.mk (below_step HB2.out hb); clear hb d0 d1 d2; have d0 : w3.cell? ⟨w.heap.size, 0, none⟩ = some (.int .i64 off) := (blk_cell HX3.out.blk 0).trans rfl; have d1 : w3.cell? ⟨w.heap.size, 1, none⟩ = some (.slice A1 week.length c1) := (blk_cell HX3.out.blk 1).trans rfl; have d2 : w3.cell? ⟨w.heap.size, 2, none⟩ = some (.slice A2 closed.length c2) := (blk_cell HX3.out.blk 2).trans rfl) | (go_at_call 12; with_reducible refine (lives_any w3).mono ?_; rintro e w99 ⟨rfl, hb⟩; have HB99 := Aside0.mk (below_step HB3.out hb); clear hb))
  go_ret
  exact ⟨rfl, HB99.out⟩

set_option maxHeartbeats 4000000 in
set_option maxRecDepth 100000 in
theorem seconds_r0 (a g : Int) (w : World) (h1 : Kd.C k57 w A1 week.length week ∧ week.length ≤ c1) (h2 : Kd.C k57 w A2 closed.length closed ∧ closed.length ≤ c2) (hL : lightP week closed = true) (hE : calErr off week closed = 0) (t0 : a < 0) :
    Calls Try.prog 7 #[.agg #[.int .i64 off, .slice A1 week.length c1, .slice A2 closed.length c2], .int .i64 a, .int .u8 g] w fun e w' => e = .returned (.bool true) ∧ Below w.heap.size w w' := by
  have HX1 := Aside0.mk (CalBox.new (off := off) w h1 h2)
  have HB1 : Aside0 (Below w.heap.size w (w.alloc (.cells #[.int .i64 off, .slice A1 week.length c1, .slice A2 closed.length c2] 24))) := ⟨below_alloc (Below.refl _ _) _⟩
  have HL := Aside0.mk hL
  have hnot : ∀ (x : Bool) (w : World), (Op.unary .not (.bool x)).run Try.prog w = .ok (.bool (!x)) w := fun _ _ => rfl
  clear h1 h2 hL
  have HE := Aside0.mk hE
  clear hE
  go_enter Try.func7, Try.ntmps7
  go_wp2_with fail
  generalize (w.alloc (.cells #[.int .i64 off, .slice A1 week.length c1, .slice A2 closed.length c2] 24)) = w1 at HX1 HB1 ⊢
  have d0 : w1.cell? ⟨w.heap.size, 0, none⟩ = some (.int .i64 off) := (blk_cell HX1.out.blk 0).trans rfl
  have d1 : w1.cell? ⟨w.heap.size, 1, none⟩ = some (.slice A1 week.length c1) := (blk_cell HX1.out.blk 1).trans rfl
  have d2 : w1.cell? ⟨w.heap.size, 2, none⟩ = some (.slice A2 closed.length c2) := (blk_cell HX1.out.blk 2).trans rfl
  go_wp2_with (first | (go_at_call 10; with_reducible refine (light_any w1 HX1.out.h1 HX1.out.h2).mono ?_; rintro e w2 ⟨rfl, hb⟩; rw [HL.out]; have HX2 := Aside0.mk (HX1.out.below hb); have HB2 := Aside0.mk (below_step HB1.out hb); clear hb d0 d1 d2; have d0 : w2.cell? ⟨w.heap.size, 0, none⟩ = some (.int .i64 off) := (blk_cell HX2.out.blk 0).trans rfl; have d1 : w2.cell? ⟨w.heap.size, 1, none⟩ = some (.slice A1 week.length c1) := (blk_cell HX2.out.blk 1).trans rfl; have d2 : w2.cell? ⟨w.heap.size, 2, none⟩ = some (.slice A2 closed.length c2) := (blk_cell HX2.out.blk 2).trans rfl) | (go_at_call 11; with_reducible refine (refcheck_any w2 HX2.out.h1 HX2.out.h2).mono ?_; rintro e w3 ⟨rfl, hb⟩; rw [HE.out]; have HX3 := Aside0.mk (HX2.out.below hb); have HB3 := Aside0.mk (below_step HB2.out hb); clear hb d0 d1 d2; have d0 : w3.cell? ⟨w.heap.size, 0, none⟩ = some (.int .i64 off) := (blk_cell HX3.out.blk 0).trans rfl; have d1 : w3.cell? ⟨w.heap.size, 1, none⟩ = some (.slice A1 week.length c1) := (blk_cell HX3.out.blk 1).trans rfl; have d2 : w3.cell? ⟨w.heap.size, 2, none⟩ = some (.slice A2 closed.length c2) := (blk_cell HX3.out.blk 2).trans rfl) | (go_at_call 12; with_reducible refine (lives_any w3).mono ?_; rintro e w99 ⟨rfl, hb⟩; have HB99 := Aside0.mk (below_step HB3.out hb); clear hb))
  go_ret
  exact ⟨rfl, HB99.out⟩

set_option maxHeartbeats 4000000 in
set_option maxRecDepth 100000 in
theorem seconds_r1 (a g : Int) (w : World) (h1 : Kd.C k57 w A1 week.length week ∧ week.length ≤ c1) (h2 : Kd.C k57 w A2 closed.length closed ∧ closed.length ≤ c2) (hL : lightP week closed = true) (hE : calErr off week closed = 0) (t0 : ¬ a < 0) (t1 : a > 1125899906842368) :
    Calls Try.prog 7 #[.agg #[.int .i64 off, .slice A1 week.length c1, .slice A2 closed.length c2], .int .i64 a, .int .u8 g] w fun e w' => e = .returned (.bool true) ∧ Below w.heap.size w w' := by
  have HX1 := Aside0.mk (CalBox.new (off := off) w h1 h2)
  have HB1 : Aside0 (Below w.heap.size w (w.alloc (.cells #[.int .i64 off, .slice A1 week.length c1, .slice A2 closed.length c2] 24))) := ⟨below_alloc (Below.refl _ _) _⟩
  have HL := Aside0.mk hL
  have hnot : ∀ (x : Bool) (w : World), (Op.unary .not (.bool x)).run Try.prog w = .ok (.bool (!x)) w := fun _ _ => rfl
  clear h1 h2 hL
  have HE := Aside0.mk hE
  clear hE
  go_enter Try.func7, Try.ntmps7
  go_wp2_with fail
  generalize (w.alloc (.cells #[.int .i64 off, .slice A1 week.length c1, .slice A2 closed.length c2] 24)) = w1 at HX1 HB1 ⊢
  have d0 : w1.cell? ⟨w.heap.size, 0, none⟩ = some (.int .i64 off) := (blk_cell HX1.out.blk 0).trans rfl
  have d1 : w1.cell? ⟨w.heap.size, 1, none⟩ = some (.slice A1 week.length c1) := (blk_cell HX1.out.blk 1).trans rfl
  have d2 : w1.cell? ⟨w.heap.size, 2, none⟩ = some (.slice A2 closed.length c2) := (blk_cell HX1.out.blk 2).trans rfl
  go_wp2_with (first | (go_at_call 10; with_reducible refine (light_any w1 HX1.out.h1 HX1.out.h2).mono ?_; rintro e w2 ⟨rfl, hb⟩; rw [HL.out]; have HX2 := Aside0.mk (HX1.out.below hb); have HB2 := Aside0.mk (below_step HB1.out hb); clear hb d0 d1 d2; have d0 : w2.cell? ⟨w.heap.size, 0, none⟩ = some (.int .i64 off) := (blk_cell HX2.out.blk 0).trans rfl; have d1 : w2.cell? ⟨w.heap.size, 1, none⟩ = some (.slice A1 week.length c1) := (blk_cell HX2.out.blk 1).trans rfl; have d2 : w2.cell? ⟨w.heap.size, 2, none⟩ = some (.slice A2 closed.length c2) := (blk_cell HX2.out.blk 2).trans rfl) | (go_at_call 11; with_reducible refine (refcheck_any w2 HX2.out.h1 HX2.out.h2).mono ?_; rintro e w3 ⟨rfl, hb⟩; rw [HE.out]; have HX3 := Aside0.mk (HX2.out.below hb); have HB3 := Aside0.mk (below_step HB2.out hb); clear hb d0 d1 d2; have d0 : w3.cell? ⟨w.heap.size, 0, none⟩ = some (.int .i64 off) := (blk_cell HX3.out.blk 0).trans rfl; have d1 : w3.cell? ⟨w.heap.size, 1, none⟩ = some (.slice A1 week.length c1) := (blk_cell HX3.out.blk 1).trans rfl; have d2 : w3.cell? ⟨w.heap.size, 2, none⟩ = some (.slice A2 closed.length c2) := (blk_cell HX3.out.blk 2).trans rfl) | (go_at_call 12; with_reducible refine (lives_any w3).mono ?_; rintro e w99 ⟨rfl, hb⟩; have HB99 := Aside0.mk (below_step HB3.out hb); clear hb))
  go_ret
  exact ⟨rfl, HB99.out⟩

set_option maxHeartbeats 4000000 in
set_option maxRecDepth 100000 in
theorem seconds_main (a g : Int) (w : World) (h1 : Kd.C k57 w A1 week.length week ∧ week.length ≤ c1) (h2 : Kd.C k57 w A2 closed.length closed ∧ closed.length ≤ c2) (g0 : 0 ≤ g) (g1 : g ≤ 255) (hL : lightP week closed = true) (hE : calErr off week closed = 0) (t0 : ¬ a < 0) (t1 : ¬ a > 1125899906842368) :
    Calls Try.prog 7 #[.agg #[.int .i64 off, .slice A1 week.length c1, .slice A2 closed.length c2], .int .i64 a, .int .u8 g] w fun e w' => e = .returned (.bool true) ∧ Below w.heap.size w w' := by
  have HX1 := Aside0.mk (CalBox.new (off := off) w h1 h2)
  have HB1 : Aside0 (Below w.heap.size w (w.alloc (.cells #[.int .i64 off, .slice A1 week.length c1, .slice A2 closed.length c2] 24))) := ⟨below_alloc (Below.refl _ _) _⟩
  have HL := Aside0.mk hL
  have hnot : ∀ (x : Bool) (w : World), (Op.unary .not (.bool x)).run Try.prog w = .ok (.bool (!x)) w := fun _ _ => rfl
  clear h1 h2 hL
  have HE := Aside0.mk hE
  obtain ⟨e0, e1, e2⟩ := secs_pure (calErr_ok hE) (a := a) (by omega)
  have HE0 := Aside0.mk e0
  have HE1 := Aside0.mk e1
  have HE2 := Aside0.mk e2
  have ha0 : 0 ≤ a := by omega
  have ha1 : a ≤ 1125899906842368 := by omega
  have hw1 : wrap64 g = g := wrap_id (by omega) (by omega)
  clear hE e0 e1 e2
  go_enter Try.func7, Try.ntmps7
  go_wp2_with fail
  generalize (w.alloc (.cells #[.int .i64 off, .slice A1 week.length c1, .slice A2 closed.length c2] 24)) = w1 at HX1 HB1 ⊢
  have d0 : w1.cell? ⟨w.heap.size, 0, none⟩ = some (.int .i64 off) := (blk_cell HX1.out.blk 0).trans rfl
  have d1 : w1.cell? ⟨w.heap.size, 1, none⟩ = some (.slice A1 week.length c1) := (blk_cell HX1.out.blk 1).trans rfl
  have d2 : w1.cell? ⟨w.heap.size, 2, none⟩ = some (.slice A2 closed.length c2) := (blk_cell HX1.out.blk 2).trans rfl
  go_wp2_with (first | (go_at_call 10; with_reducible refine (light_any w1 HX1.out.h1 HX1.out.h2).mono ?_; rintro e w2 ⟨rfl, hb⟩; rw [HL.out]; have HX2 := Aside0.mk (HX1.out.below hb); have HB2 := Aside0.mk (below_step HB1.out hb); clear hb d0 d1 d2; have d0 : w2.cell? ⟨w.heap.size, 0, none⟩ = some (.int .i64 off) := (blk_cell HX2.out.blk 0).trans rfl; have d1 : w2.cell? ⟨w.heap.size, 1, none⟩ = some (.slice A1 week.length c1) := (blk_cell HX2.out.blk 1).trans rfl; have d2 : w2.cell? ⟨w.heap.size, 2, none⟩ = some (.slice A2 closed.length c2) := (blk_cell HX2.out.blk 2).trans rfl) | (go_at_call 11; with_reducible refine (refcheck_any w2 HX2.out.h1 HX2.out.h2).mono ?_; rintro e w3 ⟨rfl, hb⟩; rw [HE.out]; have HX3 := Aside0.mk (HX2.out.below hb); have HB3 := Aside0.mk (below_step HB2.out hb); clear hb d0 d1 d2; have d0 : w3.cell? ⟨w.heap.size, 0, none⟩ = some (.int .i64 off) := (blk_cell HX3.out.blk 0).trans rfl; have d1 : w3.cell? ⟨w.heap.size, 1, none⟩ = some (.slice A1 week.length c1) := (blk_cell HX3.out.blk 1).trans rfl; have d2 : w3.cell? ⟨w.heap.size, 2, none⟩ = some (.slice A2 closed.length c2) := (blk_cell HX3.out.blk 2).trans rfl) | (go_at_call 13; with_reducible refine (calnew_ok w3 HX3.out.h1 HX3.out.h2 HE.out).mono ?_; rintro e w4 ⟨kb, ab, pb, cb, rfl, CK, hb⟩; have HX4 := Aside0.mk (HX3.out.below hb); have HB4 := Aside0.mk (below_step HB3.out hb); have HC4 := Aside0.mk CK; have HN4 : Aside0 (w3.heap.size ≤ w4.heap.size) := ⟨hb.size⟩; have HQ4 := Aside0.mk hb; clear hb CK d0 d1 d2))
  go_loopg [39, 9] 255 (fun gh v39 v9 w' => ∃ i : Int, v39 = .int .i64 i ∧ v9 = .int .i64 (elapP off week closed a (a + i)) ∧ Aside0 (0 ≤ i ∧ i ≤ g ∧ (gh : Int) = 255 - i) ∧ Aside0 (ClkAt w' w3.heap.size kb ab pb cb off week closed) ∧ Aside0 (Below w3.heap.size w3 w'))
  case atStart => exact ⟨0, rfl, by rw [HE0.out], ⟨by omega, by omega, by omega⟩, HC4, HQ4⟩
  case round =>
    clear HC4 HQ4 HN4 HX4 HB4
    obtain ⟨i, rfl, rfl, HI, HC4, HQ4⟩ := hrel
    have HB4 := Aside0.mk (below_step HB3.out HQ4.out)
    have HN4 : Aside0 (w3.heap.size ≤ wr.heap.size) := ⟨HQ4.out.size⟩
    have hI := HI.out
    have i0 := hI.1
    have i1 := hI.2.1
    by_cases hlt : i < g
    · have b1 := HE2.out i (by omega) (by omega)
      have hw2 : wrap64 (a + i) = a + i := wrap_id (by omega) (by omega)
      have hst := HE1.out i (by omega) (by omega)
      cases ho : openP off week closed (a + i) with
      | true =>
        have HO := Aside0.mk ho
        rw [ho] at hst
        simp only [one, if_true] at hst
        have HST := Aside0.mk hst
        generalize elapP off week closed a (a + i) = n at b1 HST ⊢
        clear ho hst
        go_wp2_with (first | (go_at_call 16; with_reducible refine (clkopen_any (a + i) wr HC4.out).mono ?_; rintro e w5 ⟨rfl, bb⟩; rw [HO.out]; have HC5 := Aside0.mk (HC4.out.below bb); have HN5 : Aside0 (w3.heap.size ≤ w5.heap.size) := ⟨Nat.le_trans HN4.out bb.size⟩; have HB5 := Aside0.mk (below_step HB4.out bb); have HQ5 := Aside0.mk (below_step HQ4.out bb); clear bb))
        go_roundg (gk - 1)
        case measure => have := HI.out; omega
        case rel => exact ⟨i + 1, by (first | rfl | go_num), by rw [HST.out], ⟨by omega, by omega, by have := HI.out; omega⟩, HC5, HQ5⟩
      | false =>
        have HO := Aside0.mk ho
        rw [ho] at hst
        simp only [one] at hst
        have HST := Aside0.mk hst
        generalize elapP off week closed a (a + i) = n at b1 HST ⊢
        clear ho hst
        go_wp2_with (first | (go_at_call 16; with_reducible refine (clkopen_any (a + i) wr HC4.out).mono ?_; rintro e w5 ⟨rfl, bb⟩; rw [HO.out]; have HC5 := Aside0.mk (HC4.out.below bb); have HN5 : Aside0 (w3.heap.size ≤ w5.heap.size) := ⟨Nat.le_trans HN4.out bb.size⟩; have HB5 := Aside0.mk (below_step HB4.out bb); have HQ5 := Aside0.mk (below_step HQ4.out bb); clear bb))
        go_roundg (gk - 1)
        case measure => have := HI.out; omega
        case rel => exact ⟨i + 1, by (first | rfl | go_num), by rw [HST.out]; simp, ⟨by omega, by omega, by have := HI.out; omega⟩, HC5, HQ5⟩
    · have hig : i = g := by omega
      subst hig
      have hw2 : wrap64 (a + i) = a + i := wrap_id (by omega) (by omega)
      clear hI
      generalize hn : elapP off week closed a (a + i) = n
      have HN0 := Aside0.mk hn
      clear hn
      go_wp2_with (first | (go_at_call 20; with_reducible refine (elapsed_any (a) (a + i) wr HC4.out HN4.out (by omega) (by omega) (by omega)).mono ?_; rintro e w5 ⟨rfl, CK, UK⟩; rw [HN0.out]; have HC5 := Aside0.mk CK; have HN5 : Aside0 (w3.heap.size ≤ w5.heap.size) := ⟨Nat.le_trans HN4.out UK.size⟩; have HB5 := Aside0.mk (upd_below HB4.out UK (Nat.le_trans HB3.out.size HC4.out.plan.ncb) HB4.out.size); have HQ5 := Aside0.mk (upd_below HQ4.out UK HC4.out.plan.ncb HQ4.out.size); clear CK UK) | (go_at_call 12; with_reducible refine (lives_any w5).mono ?_; rintro e w99 ⟨rfl, hb⟩; have HB99 := Aside0.mk (below_step HB5.out hb); clear hb))
      go_ret
      exact ⟨rfl, HB99.out⟩
theorem seconds_any (a g : Int) (g0 : 0 ≤ g) (g1 : g ≤ 255) (w : World) (h1 : Kd.C k57 w A1 week.length week ∧ week.length ≤ c1) (h2 : Kd.C k57 w A2 closed.length closed ∧ closed.length ≤ c2) :
    Calls Try.prog 7 #[.agg #[.int .i64 off, .slice A1 week.length c1, .slice A2 closed.length c2], .int .i64 a, .int .u8 g] w fun e w' => e = .returned (.bool true) ∧ Below w.heap.size w w' := by
  cases hL : lightP week closed with
  | false => exact seconds_light a g w h1 h2 hL
  | true =>
    by_cases hE : calErr off week closed = 0
    · by_cases t0 : a < 0
      · exact seconds_r0 a g w h1 h2 hL hE t0
      · by_cases t1 : a > 1125899906842368
        · exact seconds_r1 a g w h1 h2 hL hE t0 t1
        · exact seconds_main a g w h1 h2 g0 g1 hL hE t0 t1
    · exact seconds_check a g w h1 h2 hL hE
end Go.Proofs.Ytknlpeabmpllmaa.Own

set_option linter.unusedVariables false
set_option linter.unusedSimpArgs false
namespace Go.Proofs.Ytknlpeabmpllmaa.calendarSeconds
open Go.ChangeShapes Go.WideShapes Go.ChangeAt Go.RowKit
set_option maxRecDepth 100000 in
theorem lifted (os : Os) (started : os.Started) (H : Type) (enc : TypeId × Value → H) :
    ReturnsInHanded {} Try.checked os 7 .any (Rows.calendarSecondsSpec.pre6 enc Try.prog Try.f7 Rows.calendarSecondsRow.domain false) (Rows.calendarSecondsSpec.post enc Try.prog Try.f7 false true false false) := by
  refine returnsInHanded_of_change_sized (C := Try.checked) Own.ownKnob_none started (by kernel_rfl) Try.func7
    (ChangeSpec.witness6 (enc := enc) (C := Try.checked) false ⟨#[], #[.agg #[.int .i64 0, .slice none 0 0, .slice none 0 0], .int .i64 0, .int .u8 0], []⟩ 8 (by kernel_rfl) (by kernel_rfl) (by kernel_rfl) (by kernel_rfl)) ?_
  intro W base args ds gs before hval0 hW hcnd hsz0 _
  have hval : ∀ (j : Nat) t v, Try.f7.params[j]? = some t → args[j]? = some v → Value.okWide Try.prog W .any base t v := hval0
  have hW' := hW
  obtain ⟨p, q, hA0, hV, rfl, hfz, hnd⟩ := hW
  have hA : DataW.TrodAll enc Try.prog W 0 (fun _ => true) true Try.f7.params.toList args.toList ds p := hA0
  rw [Try.params7] at hA hval
  obtain ⟨v0, vs0, d0, ds0, p0, q0, hargs, rfl, rfl, h0, r0⟩ := trodAll_cons hA
  obtain ⟨v1, vs1, d1, ds1, p1, q1, rfl, rfl, rfl, h1, r1⟩ := trodAll_cons r0
  obtain ⟨v2, vs2, d2, ds2, p2, q2, rfl, rfl, rfl, h2, r2⟩ := trodAll_cons r1
  obtain ⟨rfl, rfl, rfl⟩ := trodAll_nil r2
  obtain rfl : args = #[v0, v1, v2] := by cases args; simp_all
  obtain ⟨rfl, rfl⟩ := trodVars_none hV
  have k0 := h0
  have lt0 : ∀ x ∈ p0, x.block < W.heap.size := by obtain ⟨m, hm⟩ := k0; exact DataW.trod_lt m _ _ _ hm
  obtain ⟨off0, A10, A20, c10, c20, week0, closed0, rfl, hx0, hy0⟩ := Own.cal_open (hval 0 24 v0 rfl rfl) h0
  obtain ⟨a1, rfl, rfl, rfl, w1⟩ := open_int Try.underlying2 (hval 1 2 v1 rfl rfl) h1
  obtain ⟨a2, rfl, rfl, rfl, w2⟩ := open_int Try.underlying5 (hval 2 5 v2 rfl rfl) h2
  clear hA0 hval0 hsz0
  refine (Own.seconds_any a1 a2 (Own.u8_bd w2).1 (Own.u8_bd w2).2 W hx0 hy0).mono fun e W' ⟨he, bel⟩ => ?_
  subst he
  exact ⟨_, rfl, _, _, _, [], _, [], hW', trodAll_mk1 (shut_bool Try.underlying4 _), (trodAll_cons_mk (Below.trod Own.laidOut (by kernel_rfl) (of_decide_eq_true (by kernel_rfl)) k0 bel lt0) (trodAll_cons_mk (shut_int Try.underlying2 w1) (trodAll_cons_mk (shut_int Try.underlying5 w2) trodAll_mk0))), rfl, bel.frame _, fun h => by cases h⟩
theorem over : Rows.calendarSecondsRow.holds Try.pinned (OpenSpec.ofChange Rows.calendarSecondsSpec) :=
  OpenClaim.holds_of_wide 7 Try.f7 rfl rfl rfl rfl rfl rfl rfl ⟨rfl, rfl, rfl, rfl, rfl⟩ rfl rfl rfl rfl rfl (by kernel_rfl) Try.func7 (by kernel_rfl)
    (of_decide_eq_true (by kernel_rfl)) (by unfold Func.isWrapper; first | (rw [if_pos (by decide +kernel)]; kernel_rfl) | (rw [if_neg (by decide +kernel)]; exact ⟨rfl, rfl⟩))
    (fun os started H enc _ => lifted os started H enc)
theorem proved : Rows.CalendarSecondsSaid := over
#print axioms proved
end Go.Proofs.Ytknlpeabmpllmaa.calendarSeconds
namespace Go.Proofs.Ytknlpeabmpllmaa
/-- The row, under a short name, for the claim. -/
theorem calendarSeconds_holds : Rows.CalendarSecondsSaid := calendarSeconds.proved
end Go.Proofs.Ytknlpeabmpllmaa
