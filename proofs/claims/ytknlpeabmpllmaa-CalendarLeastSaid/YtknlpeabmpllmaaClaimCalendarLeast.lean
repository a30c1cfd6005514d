/- For every input: the law CalendarLeast returns true, and changes nothing of its arguments. Its conditions: those of the given row alone. -/
import Derived.Test.YtknlpeabmpllmaaOwnD
set_option linter.unusedVariables false
set_option linter.unusedSimpArgs false
namespace Go.Proofs.Ytknlpeabmpllmaa.Own
open Go.RowKit Go.Proofs Go.Proofs.YtknlpeabmpllmaaW.PrintWords Go.Proofs.YtknlpeabmpllmaaW.PrintLast Go.Proofs.YtknlpeabmpllmaaW.PrintMore Go.Proofs.Ytknlpeabmpllmaa.Base
variable {off : Int} {week closed : List S57} {A1 A2 : Option Addr} {c1 c2 : Nat}
set_option maxHeartbeats 4000000 in
set_option maxRecDepth 100000 in
theorem least_light (a B : Int) (w : World) (h1 : Kd.C k57 w A1 week.length week ∧ week.length ≤ c1) (h2 : Kd.C k57 w A2 closed.length closed ∧ closed.length ≤ c2) (hL : lightP week closed = false) :
    Calls Try.prog 8 #[.agg #[.int .i64 off, .slice A1 week.length c1, .slice A2 closed.length c2], .int .i64 a, .int .i64 B] w fun e w' => e = .returned (.bool true) ∧ Below w.heap.size w w' := by
  have HX1 := Aside0.mk (CalBox.new (off := off) w h1 h2)
  have HB1 : Aside0 (Below w.heap.size w (w.alloc (.cells #[.int .i64 off, .slice A1 week.length c1, .slice A2 closed.length c2] 24))) := ⟨below_alloc (Below.refl _ _) _⟩
  have HL := Aside0.mk hL
  have hnot : ∀ (x : Bool) (w : World), (Op.unary .not (.bool x)).run Try.prog w = .ok (.bool (!x)) w := fun _ _ => rfl
  clear h1 h2 hL
  skip
  go_enter Try.func8, Try.ntmps8
  go_wp2_with fail
  generalize (w.alloc (.cells #[.int .i64 off, .slice A1 week.length c1, .slice A2 closed.length c2] 24)) = w1 at HX1 HB1 ⊢
  have d0 : w1.cell? ⟨w.heap.size, 0, none⟩ = some (.int .i64 off) := (blk_cell HX1.out.blk 0).trans rfl
  have d1 : w1.cell? ⟨w.heap.size, 1, none⟩ = some (.slice A1 week.length c1) := (blk_cell HX1.out.blk 1).trans rfl
  have d2 : w1.cell? ⟨w.heap.size, 2, none⟩ = some (.slice A2 closed.length c2) := (blk_cell HX1.out.blk 2).trans rfl
  go_wp2_with (first | (go_at_call 10; with_reducible refine (light_any w1 HX1.out.h1 HX1.out.h2).mono ?_; rintro e w2 ⟨rfl, hb⟩; rw [HL.out]; have HX2 := Aside0.mk (HX1.out.below hb); have HB2 := Aside0.mk (below_step HB1.out hb); clear hb d0 d1 d2; have d0 : w2.cell? ⟨w.heap.size, 0, none⟩ = some (.int .i64 off) := (blk_cell HX2.out.blk 0).trans rfl; have d1 : w2.cell? ⟨w.heap.size, 1, none⟩ = some (.slice A1 week.length c1) := (blk_cell HX2.out.blk 1).trans rfl; have d2 : w2.cell? ⟨w.heap.size, 2, none⟩ = some (.slice A2 closed.length c2) := (blk_cell HX2.out.blk 2).trans rfl) | (go_at_call 12; with_reducible refine (lives_any w2).mono ?_; rintro e w99 ⟨rfl, hb⟩; have HB99 := Aside0.mk (below_step HB2.out hb); clear hb))
  go_ret
  exact ⟨rfl, HB99.out⟩

set_option maxHeartbeats 4000000 in
set_option maxRecDepth 100000 in
theorem least_check (a B : Int) (w : World) (h1 : Kd.C k57 w A1 week.length week ∧ week.length ≤ c1) (h2 : Kd.C k57 w A2 closed.length closed ∧ closed.length ≤ c2) (hL : lightP week closed = true) (hE : calErr off week closed ≠ 0) :
    Calls Try.prog 8 #[.agg #[.int .i64 off, .slice A1 week.length c1, .slice A2 closed.length c2], .int .i64 a, .int .i64 B] w fun e w' => e = .returned (.bool true) ∧ Below w.heap.size w w' := by
  have HX1 := Aside0.mk (CalBox.new (off := off) w h1 h2)
  have HB1 : Aside0 (Below w.heap.size w (w.alloc (.cells #[.int .i64 off, .slice A1 week.length c1, .slice A2 closed.length c2] 24))) := ⟨below_alloc (Below.refl _ _) _⟩
  have HL := Aside0.mk hL
  have hnot : ∀ (x : Bool) (w : World), (Op.unary .not (.bool x)).run Try.prog w = .ok (.bool (!x)) w := fun _ _ => rfl
  clear h1 h2 hL
  have hE1 : (calErr off week closed != 0) = true := bne_iff_ne.mpr hE
  clear hE
  go_enter Try.func8, Try.ntmps8
  go_wp2_with fail
  generalize (w.alloc (.cells #[.int .i64 off, .slice A1 week.length c1, .slice A2 closed.length c2] 24)) = w1 at HX1 HB1 ⊢
  have d0 : w1.cell? ⟨w.heap.size, 0, none⟩ = some (.int .i64 off) := (blk_cell HX1.out.blk 0).trans rfl
  have d1 : w1.cell? ⟨w.heap.size, 1, none⟩ = some (.slice A1 week.length c1) := (blk_cell HX1.out.blk 1).trans rfl
  have d2 : w1.cell? ⟨w.heap.size, 2, none⟩ = some (.slice A2 closed.length c2) := (blk_cell HX1.out.blk 2).trans rfl
  go_wp2_with (first | (go_at_call 10; with_reducible refine (light_any w1 HX1.out.h1 HX1.out.h2).mono ?_; rintro e w2 ⟨rfl, hb⟩; rw [HL.out]; have HX2 := Aside0.mk (HX1.out.below hb); have HB2 := Aside0.mk (below_step HB1.out hb); clear hb d0 d1 d2; have d0 : w2.cell? ⟨w.heap.size, 0, none⟩ = some (.int .i64 off) := (blk_cell HX2.out.blk 0).trans rfl; have d1 : w2.cell? ⟨w.heap.size, 1, none⟩ = some (.slice A1 week.length c1) := (blk_cell HX2.out.blk 1).trans rfl; have d2 : w2.cell? ⟨w.heap.size, 2, none⟩ = some (.slice A2 closed.length c2) := (blk_cell HX2.out.blk 2).trans rfl) | (go_at_call 11; with_reducible refine (refcheck_any w2 HX2.out.h1 HX2.out.h2).mono ?_; rintro e w3 ⟨rfl, hb⟩; have HX3 := Aside0.mk (HX2.out.below hb); have HB3 := Aside0.mk (below_step HB2.out hb); clear hb d0 d1 d2; have d0 : w3.cell? ⟨w.heap.size, 0, none⟩ = some (.int .i64 off) := (blk_cell HX3.out.blk 0).trans rfl; have d1 : w3.cell? ⟨w.heap.size, 1, none⟩ = some (.slice A1 week.length c1) := (blk_cell HX3.out.blk 1).trans rfl; have d2 : w3.cell? ⟨w.heap.size, 2, none⟩ = some (.slice A2 closed.length c2) := (blk_cell HX3.out.blk 2).trans rfl) | (go_at_call 12; with_reducible refine (lives_any w3).mono ?_; rintro e w99 ⟨rfl, hb⟩; have HB99 := Aside0.mk (below_step HB3.out hb); clear hb))
  go_ret
  exact ⟨rfl, HB99.out⟩

set_option maxHeartbeats 4000000 in
set_option maxRecDepth 100000 in
theorem least_r0 (a B : Int) (w : World) (h1 : Kd.C k57 w A1 week.length week ∧ week.length ≤ c1) (h2 : Kd.C k57 w A2 closed.length closed ∧ closed.length ≤ c2) (hL : lightP week closed = true) (hE : calErr off week closed = 0) (t0 : a < 0) :
    Calls Try.prog 8 #[.agg #[.int .i64 off, .slice A1 week.length c1, .slice A2 closed.length c2], .int .i64 a, .int .i64 B] w fun e w' => e = .returned (.bool true) ∧ Below w.heap.size w w' := by
  have HX1 := Aside0.mk (CalBox.new (off := off) w h1 h2)
  have HB1 : Aside0 (Below w.heap.size w (w.alloc (.cells #[.int .i64 off, .slice A1 week.length c1, .slice A2 closed.length c2] 24))) := ⟨below_alloc (Below.refl _ _) _⟩
  have HL := Aside0.mk hL
  have hnot : ∀ (x : Bool) (w : World), (Op.unary .not (.bool x)).run Try.prog w = .ok (.bool (!x)) w := fun _ _ => rfl
  clear h1 h2 hL
  have HE := Aside0.mk hE
  clear hE
  go_enter Try.func8, Try.ntmps8
  go_wp2_with fail
  generalize (w.alloc (.cells #[.int .i64 off, .slice A1 week.length c1, .slice A2 closed.length c2] 24)) = w1 at HX1 HB1 ⊢
  have d0 : w1.cell? ⟨w.heap.size, 0, none⟩ = some (.int .i64 off) := (blk_cell HX1.out.blk 0).trans rfl
  have d1 : w1.cell? ⟨w.heap.size, 1, none⟩ = some (.slice A1 week.length c1) := (blk_cell HX1.out.blk 1).trans rfl
  have d2 : w1.cell? ⟨w.heap.size, 2, none⟩ = some (.slice A2 closed.length c2) := (blk_cell HX1.out.blk 2).trans rfl
  go_wp2_with (first | (go_at_call 10; with_reducible refine (light_any w1 HX1.out.h1 HX1.out.h2).mono ?_; rintro e w2 ⟨rfl, hb⟩; rw [HL.out]; have HX2 := Aside0.mk (HX1.out.below hb); have HB2 := Aside0.mk (below_step HB1.out hb); clear hb d0 d1 d2; have d0 : w2.cell? ⟨w.heap.size, 0, none⟩ = some (.int .i64 off) := (blk_cell HX2.out.blk 0).trans rfl; have d1 : w2.cell? ⟨w.heap.size, 1, none⟩ = some (.slice A1 week.length c1) := (blk_cell HX2.out.blk 1).trans rfl; have d2 : w2.cell? ⟨w.heap.size, 2, none⟩ = some (.slice A2 closed.length c2) := (blk_cell HX2.out.blk 2).trans rfl) | (go_at_call 11; with_reducible refine (refcheck_any w2 HX2.out.h1 HX2.out.h2).mono ?_; rintro e w3 ⟨rfl, hb⟩; rw [HE.out]; have HX3 := Aside0.mk (HX2.out.below hb); have HB3 := Aside0.mk (below_step HB2.out hb); clear hb d0 d1 d2; have d0 : w3.cell? ⟨w.heap.size, 0, none⟩ = some (.int .i64 off) := (blk_cell HX3.out.blk 0).trans rfl; have d1 : w3.cell? ⟨w.heap.size, 1, none⟩ = some (.slice A1 week.length c1) := (blk_cell HX3.out.blk 1).trans rfl; have d2 : w3.cell? ⟨w.heap.size, 2, none⟩ = some (.slice A2 closed.length c2) := (blk_cell HX3.out.blk 2).trans rfl) | (go_at_call 12; with_reducible refine (lives_any w3).mono ?_; rintro e w99 ⟨rfl, hb⟩; have HB99 := Aside0.mk (below_step HB3.out hb); clear hb))
  go_ret
  exact ⟨rfl, HB99.out⟩

set_option maxHeartbeats 4000000 in
set_option maxRecDepth 100000 in
theorem least_r1 (a B : Int) (w : World) (h1 : Kd.C k57 w A1 week.length week ∧ week.length ≤ c1) (h2 : Kd.C k57 w A2 closed.length closed ∧ closed.length ≤ c2) (hL : lightP week closed = true) (hE : calErr off week closed = 0) (t0 : ¬ a < 0) (t1 : a > 1125899906842624) :
    Calls Try.prog 8 #[.agg #[.int .i64 off, .slice A1 week.length c1, .slice A2 closed.length c2], .int .i64 a, .int .i64 B] w fun e w' => e = .returned (.bool true) ∧ Below w.heap.size w w' := by
  have HX1 := Aside0.mk (CalBox.new (off := off) w h1 h2)
  have HB1 : Aside0 (Below w.heap.size w (w.alloc (.cells #[.int .i64 off, .slice A1 week.length c1, .slice A2 closed.length c2] 24))) := ⟨below_alloc (Below.refl _ _) _⟩
  have HL := Aside0.mk hL
  have hnot : ∀ (x : Bool) (w : World), (Op.unary .not (.bool x)).run Try.prog w = .ok (.bool (!x)) w := fun _ _ => rfl
  clear h1 h2 hL
  have HE := Aside0.mk hE
  clear hE
  go_enter Try.func8, Try.ntmps8
  go_wp2_with fail
  generalize (w.alloc (.cells #[.int .i64 off, .slice A1 week.length c1, .slice A2 closed.length c2] 24)) = w1 at HX1 HB1 ⊢
  have d0 : w1.cell? ⟨w.heap.size, 0, none⟩ = some (.int .i64 off) := (blk_cell HX1.out.blk 0).trans rfl
  have d1 : w1.cell? ⟨w.heap.size, 1, none⟩ = some (.slice A1 week.length c1) := (blk_cell HX1.out.blk 1).trans rfl
  have d2 : w1.cell? ⟨w.heap.size, 2, none⟩ = some (.slice A2 closed.length c2) := (blk_cell HX1.out.blk 2).trans rfl
  go_wp2_with (first | (go_at_call 10; with_reducible refine (light_any w1 HX1.out.h1 HX1.out.h2).mono ?_; rintro e w2 ⟨rfl, hb⟩; rw [HL.out]; have HX2 := Aside0.mk (HX1.out.below hb); have HB2 := Aside0.mk (below_step HB1.out hb); clear hb d0 d1 d2; have d0 : w2.cell? ⟨w.heap.size, 0, none⟩ = some (.int .i64 off) := (blk_cell HX2.out.blk 0).trans rfl; have d1 : w2.cell? ⟨w.heap.size, 1, none⟩ = some (.slice A1 week.length c1) := (blk_cell HX2.out.blk 1).trans rfl; have d2 : w2.cell? ⟨w.heap.size, 2, none⟩ = some (.slice A2 closed.length c2) := (blk_cell HX2.out.blk 2).trans rfl) | (go_at_call 11; with_reducible refine (refcheck_any w2 HX2.out.h1 HX2.out.h2).mono ?_; rintro e w3 ⟨rfl, hb⟩; rw [HE.out]; have HX3 := Aside0.mk (HX2.out.below hb); have HB3 := Aside0.mk (below_step HB2.out hb); clear hb d0 d1 d2; have d0 : w3.cell? ⟨w.heap.size, 0, none⟩ = some (.int .i64 off) := (blk_cell HX3.out.blk 0).trans rfl; have d1 : w3.cell? ⟨w.heap.size, 1, none⟩ = some (.slice A1 week.length c1) := (blk_cell HX3.out.blk 1).trans rfl; have d2 : w3.cell? ⟨w.heap.size, 2, none⟩ = some (.slice A2 closed.length c2) := (blk_cell HX3.out.blk 2).trans rfl) | (go_at_call 12; with_reducible refine (lives_any w3).mono ?_; rintro e w99 ⟨rfl, hb⟩; have HB99 := Aside0.mk (below_step HB3.out hb); clear hb))
  go_ret
  exact ⟨rfl, HB99.out⟩

set_option maxHeartbeats 4000000 in
set_option maxRecDepth 100000 in
theorem least_r2 (a B : Int) (w : World) (h1 : Kd.C k57 w A1 week.length week ∧ week.length ≤ c1) (h2 : Kd.C k57 w A2 closed.length closed ∧ closed.length ≤ c2) (hL : lightP week closed = true) (hE : calErr off week closed = 0) (t0 : ¬ a < 0) (t1 : ¬ a > 1125899906842624) (t2 : B < 1) :
    Calls Try.prog 8 #[.agg #[.int .i64 off, .slice A1 week.length c1, .slice A2 closed.length c2], .int .i64 a, .int .i64 B] w fun e w' => e = .returned (.bool true) ∧ Below w.heap.size w w' := by
  have HX1 := Aside0.mk (CalBox.new (off := off) w h1 h2)
  have HB1 : Aside0 (Below w.heap.size w (w.alloc (.cells #[.int .i64 off, .slice A1 week.length c1, .slice A2 closed.length c2] 24))) := ⟨below_alloc (Below.refl _ _) _⟩
  have HL := Aside0.mk hL
  have hnot : ∀ (x : Bool) (w : World), (Op.unary .not (.bool x)).run Try.prog w = .ok (.bool (!x)) w := fun _ _ => rfl
  clear h1 h2 hL
  have HE := Aside0.mk hE
  clear hE
  go_enter Try.func8, Try.ntmps8
  go_wp2_with fail
  generalize (w.alloc (.cells #[.int .i64 off, .slice A1 week.length c1, .slice A2 closed.length c2] 24)) = w1 at HX1 HB1 ⊢
  have d0 : w1.cell? ⟨w.heap.size, 0, none⟩ = some (.int .i64 off) := (blk_cell HX1.out.blk 0).trans rfl
  have d1 : w1.cell? ⟨w.heap.size, 1, none⟩ = some (.slice A1 week.length c1) := (blk_cell HX1.out.blk 1).trans rfl
  have d2 : w1.cell? ⟨w.heap.size, 2, none⟩ = some (.slice A2 closed.length c2) := (blk_cell HX1.out.blk 2).trans rfl
  go_wp2_with (first | (go_at_call 10; with_reducible refine (light_any w1 HX1.out.h1 HX1.out.h2).mono ?_; rintro e w2 ⟨rfl, hb⟩; rw [HL.out]; have HX2 := Aside0.mk (HX1.out.below hb); have HB2 := Aside0.mk (below_step HB1.out hb); clear hb d0 d1 d2; have d0 : w2.cell? ⟨w.heap.size, 0, none⟩ = some (.int .i64 off) := (blk_cell HX2.out.blk 0).trans rfl; have d1 : w2.cell? ⟨w.heap.size, 1, none⟩ = some (.slice A1 week.length c1) := (blk_cell HX2.out.blk 1).trans rfl; have d2 : w2.cell? ⟨w.heap.size, 2, none⟩ = some (.slice A2 closed.length c2) := (blk_cell HX2.out.blk 2).trans rfl) | (go_at_call 11; with_reducible refine (refcheck_any w2 HX2.out.h1 HX2.out.h2).mono ?_; rintro e w3 ⟨rfl, hb⟩; rw [HE.out]; have HX3 := Aside0.mk (HX2.out.below hb); have HB3 := Aside0.mk (below_step HB2.out hb); clear hb d0 d1 d2; have d0 : w3.cell? ⟨w.heap.size, 0, none⟩ = some (.int .i64 off) := (blk_cell HX3.out.blk 0).trans rfl; have d1 : w3.cell? ⟨w.heap.size, 1, none⟩ = some (.slice A1 week.length c1) := (blk_cell HX3.out.blk 1).trans rfl; have d2 : w3.cell? ⟨w.heap.size, 2, none⟩ = some (.slice A2 closed.length c2) := (blk_cell HX3.out.blk 2).trans rfl) | (go_at_call 12; with_reducible refine (lives_any w3).mono ?_; rintro e w99 ⟨rfl, hb⟩; have HB99 := Aside0.mk (below_step HB3.out hb); clear hb))
  go_ret
  exact ⟨rfl, HB99.out⟩

set_option maxHeartbeats 4000000 in
set_option maxRecDepth 100000 in
theorem least_main0 (a B : Int) (w : World) (h1 : Kd.C k57 w A1 week.length week ∧ week.length ≤ c1) (h2 : Kd.C k57 w A2 closed.length closed ∧ closed.length ≤ c2) (hBr : B ≤ 9223372036854775807) (hL : lightP week closed = true) (hE : calErr off week closed = 0) (t0 : ¬ a < 0) (t1 : ¬ a > 1125899906842624) (t2 : ¬ B < 1) (hg : (dueP off week closed a B).2 = 0) :
    Calls Try.prog 8 #[.agg #[.int .i64 off, .slice A1 week.length c1, .slice A2 closed.length c2], .int .i64 a, .int .i64 B] w fun e w' => e = .returned (.bool true) ∧ Below w.heap.size w w' := by
  have HX1 := Aside0.mk (CalBox.new (off := off) w h1 h2)
  have HB1 : Aside0 (Below w.heap.size w (w.alloc (.cells #[.int .i64 off, .slice A1 week.length c1, .slice A2 closed.length c2] 24))) := ⟨below_alloc (Below.refl _ _) _⟩
  have HL := Aside0.mk hL
  have hnot : ∀ (x : Bool) (w : World), (Op.unary .not (.bool x)).run Try.prog w = .ok (.bool (!x)) w := fun _ _ => rfl
  clear h1 h2 hL
  have hp := least_ok (calErr_ok hE) (a := a) (B := B) (by omega) (by omega) (by omega) hg
  have HE := Aside0.mk hE
  obtain ⟨⟨x1, x2⟩, hx⟩ : ∃ p, dueP off week closed a B = p := ⟨_, rfl⟩
  rw [hx] at hp hg
  simp only at hp hg
  have HD1 := Aside0.mk hx
  have ha : 0 ≤ a := by omega
  have haH : a ≤ 1125899906842624 := by omega
  obtain ⟨⟨p0, p1⟩, p2, p3, p4⟩ := hp
  have HP2 := Aside0.mk p2
  have HP3 := Aside0.mk p3
  have HP4 := Aside0.mk p4
  have hx2 : (x2 != 0) = false := by rw [hg]; rfl
  clear hE hx hg p2 p3 p4
  go_enter Try.func8, Try.ntmps8
  go_wp2_with fail
  generalize (w.alloc (.cells #[.int .i64 off, .slice A1 week.length c1, .slice A2 closed.length c2] 24)) = w1 at HX1 HB1 ⊢
  have d0 : w1.cell? ⟨w.heap.size, 0, none⟩ = some (.int .i64 off) := (blk_cell HX1.out.blk 0).trans rfl
  have d1 : w1.cell? ⟨w.heap.size, 1, none⟩ = some (.slice A1 week.length c1) := (blk_cell HX1.out.blk 1).trans rfl
  have d2 : w1.cell? ⟨w.heap.size, 2, none⟩ = some (.slice A2 closed.length c2) := (blk_cell HX1.out.blk 2).trans rfl
  go_wp2_with (first | (go_at_call 10; with_reducible refine (light_any w1 HX1.out.h1 HX1.out.h2).mono ?_; rintro e w2 ⟨rfl, hb⟩; rw [HL.out]; have HX2 := Aside0.mk (HX1.out.below hb); have HB2 := Aside0.mk (below_step HB1.out hb); clear hb d0 d1 d2; have d0 : w2.cell? ⟨w.heap.size, 0, none⟩ = some (.int .i64 off) := (blk_cell HX2.out.blk 0).trans rfl; have d1 : w2.cell? ⟨w.heap.size, 1, none⟩ = some (.slice A1 week.length c1) := (blk_cell HX2.out.blk 1).trans rfl; have d2 : w2.cell? ⟨w.heap.size, 2, none⟩ = some (.slice A2 closed.length c2) := (blk_cell HX2.out.blk 2).trans rfl) | (go_at_call 11; with_reducible refine (refcheck_any w2 HX2.out.h1 HX2.out.h2).mono ?_; rintro e w3 ⟨rfl, hb⟩; rw [HE.out]; have HX3 := Aside0.mk (HX2.out.below hb); have HB3 := Aside0.mk (below_step HB2.out hb); clear hb d0 d1 d2; have d0 : w3.cell? ⟨w.heap.size, 0, none⟩ = some (.int .i64 off) := (blk_cell HX3.out.blk 0).trans rfl; have d1 : w3.cell? ⟨w.heap.size, 1, none⟩ = some (.slice A1 week.length c1) := (blk_cell HX3.out.blk 1).trans rfl; have d2 : w3.cell? ⟨w.heap.size, 2, none⟩ = some (.slice A2 closed.length c2) := (blk_cell HX3.out.blk 2).trans rfl) | (go_at_call 13; with_reducible refine (calnew_ok w3 HX3.out.h1 HX3.out.h2 HE.out).mono ?_; rintro e w4 ⟨kb, ab, pb, cb, rfl, CK, hb⟩; have HX4 := Aside0.mk (HX3.out.below hb); have HB4 := Aside0.mk (below_step HB3.out hb); have HC4 := Aside0.mk CK; have HN4 : Aside0 (w3.heap.size ≤ w4.heap.size) := ⟨hb.size⟩; have HQ4 := Aside0.mk hb; clear hb CK d0 d1 d2) | (go_at_call 14; with_reducible refine (due_any (a) (B) w4 HC4.out HN4.out (by first | assumption | omega)).mono ?_; rintro e w5 ⟨rfl, CK, UK⟩; rw [HD1.out]; have HC5 := Aside0.mk CK; have HN5 : Aside0 (w3.heap.size ≤ w5.heap.size) := ⟨Nat.le_trans HN4.out UK.size⟩; have HB5 := Aside0.mk (upd_below HB4.out UK (Nat.le_trans HB3.out.size HC4.out.plan.ncb) HB4.out.size); have HQ5 := Aside0.mk (upd_below HQ4.out UK HC4.out.plan.ncb HQ4.out.size); clear CK UK) | (go_at_call 20; with_reducible refine (elapsed_any (a) (x1) w5 HC5.out HN5.out (by omega) (by omega) (by omega)).mono ?_; rintro e w6 ⟨rfl, CK, UK⟩; rw [HP2.out]; have HC6 := Aside0.mk CK; have HN6 : Aside0 (w3.heap.size ≤ w6.heap.size) := ⟨Nat.le_trans HN5.out UK.size⟩; have HB6 := Aside0.mk (upd_below HB5.out UK (Nat.le_trans HB3.out.size HC5.out.plan.ncb) HB5.out.size); have HQ6 := Aside0.mk (upd_below HQ5.out UK HC5.out.plan.ncb HQ5.out.size); clear CK UK) | (go_at_call 20; with_reducible refine (elapsed_any (a) (x1 - 1) w6 HC6.out HN6.out (by omega) (by omega) (by omega)).mono ?_; rintro e w7 ⟨rfl, CK, UK⟩; rw [HP3.out]; have HC7 := Aside0.mk CK; have HN7 : Aside0 (w3.heap.size ≤ w7.heap.size) := ⟨Nat.le_trans HN6.out UK.size⟩; have HB7 := Aside0.mk (upd_below HB6.out UK (Nat.le_trans HB3.out.size HC6.out.plan.ncb) HB6.out.size); have HQ7 := Aside0.mk (upd_below HQ6.out UK HC6.out.plan.ncb HQ6.out.size); clear CK UK) | (go_at_call 16; with_reducible refine (clkopen_any (x1 - 1) w7 HC7.out).mono ?_; rintro e w8 ⟨rfl, bb⟩; rw [HP4.out]; have HC8 := Aside0.mk (HC7.out.below bb); have HN8 : Aside0 (w3.heap.size ≤ w8.heap.size) := ⟨Nat.le_trans HN7.out bb.size⟩; have HB8 := Aside0.mk (below_step HB7.out bb); have HQ8 := Aside0.mk (below_step HQ7.out bb); clear bb) | (go_at_call 12; with_reducible refine (lives_any w8).mono ?_; rintro e w99 ⟨rfl, hb⟩; have HB99 := Aside0.mk (below_step HB8.out hb); clear hb))
  go_ret
  exact ⟨rfl, HB99.out⟩

set_option maxHeartbeats 4000000 in
set_option maxRecDepth 100000 in
theorem least_main1 (a B : Int) (w : World) (h1 : Kd.C k57 w A1 week.length week ∧ week.length ≤ c1) (h2 : Kd.C k57 w A2 closed.length closed ∧ closed.length ≤ c2) (hBr : B ≤ 9223372036854775807) (hL : lightP week closed = true) (hE : calErr off week closed = 0) (t0 : ¬ a < 0) (t1 : ¬ a > 1125899906842624) (t2 : ¬ B < 1) (hg : (dueP off week closed a B).2 = 10) :
    Calls Try.prog 8 #[.agg #[.int .i64 off, .slice A1 week.length c1, .slice A2 closed.length c2], .int .i64 a, .int .i64 B] w fun e w' => e = .returned (.bool true) ∧ Below w.heap.size w w' := by
  have HX1 := Aside0.mk (CalBox.new (off := off) w h1 h2)
  have HB1 : Aside0 (Below w.heap.size w (w.alloc (.cells #[.int .i64 off, .slice A1 week.length c1, .slice A2 closed.length c2] 24))) := ⟨below_alloc (Below.refl _ _) _⟩
  have HL := Aside0.mk hL
  have hnot : ∀ (x : Bool) (w : World), (Op.unary .not (.bool x)).run Try.prog w = .ok (.bool (!x)) w := fun _ _ => rfl
  clear h1 h2 hL
  have hp := least_no (calErr_ok hE) (a := a) (B := B) (by omega) (by omega) (by omega) (by rw [hg]; decide)
  have HE := Aside0.mk hE
  obtain ⟨⟨x1, x2⟩, hx⟩ : ∃ p, dueP off week closed a B = p := ⟨_, rfl⟩
  rw [hx] at hp hg
  simp only at hp hg
  have HD1 := Aside0.mk hx
  have ha : 0 ≤ a := by omega
  have haH : a ≤ 1125899906842624 := by omega
  obtain ⟨rfl, p1, _⟩ := hp
  have p1 : elapP off week closed a 1125899906842624 < B := p1
  obtain ⟨E1, hE1⟩ : ∃ E1, elapP off week closed a 1125899906842624 = E1 := ⟨_, rfl⟩
  rw [hE1] at p1
  have HP2 := Aside0.mk hE1
  subst hg
  clear hE hx hE1
  go_enter Try.func8, Try.ntmps8
  go_wp2_with fail
  generalize (w.alloc (.cells #[.int .i64 off, .slice A1 week.length c1, .slice A2 closed.length c2] 24)) = w1 at HX1 HB1 ⊢
  have d0 : w1.cell? ⟨w.heap.size, 0, none⟩ = some (.int .i64 off) := (blk_cell HX1.out.blk 0).trans rfl
  have d1 : w1.cell? ⟨w.heap.size, 1, none⟩ = some (.slice A1 week.length c1) := (blk_cell HX1.out.blk 1).trans rfl
  have d2 : w1.cell? ⟨w.heap.size, 2, none⟩ = some (.slice A2 closed.length c2) := (blk_cell HX1.out.blk 2).trans rfl
  go_wp2_with (first | (go_at_call 10; with_reducible refine (light_any w1 HX1.out.h1 HX1.out.h2).mono ?_; rintro e w2 ⟨rfl, hb⟩; rw [HL.out]; have HX2 := Aside0.mk (HX1.out.below hb); have HB2 := Aside0.mk (below_step HB1.out hb); clear hb d0 d1 d2; have d0 : w2.cell? ⟨w.heap.size, 0, none⟩ = some (.int .i64 off) := (blk_cell HX2.out.blk 0).trans rfl; have d1 : w2.cell? ⟨w.heap.size, 1, none⟩ = some (.slice A1 week.length c1) := (blk_cell HX2.out.blk 1).trans rfl; have d2 : w2.cell? ⟨w.heap.size, 2, none⟩ = some (.slice A2 closed.length c2) := (blk_cell HX2.out.blk 2).trans rfl) | (go_at_call 11; with_reducible refine (refcheck_any w2 HX2.out.h1 HX2.out.h2).mono ?_; rintro e w3 ⟨rfl, hb⟩; rw [HE.out]; have HX3 := Aside0.mk (HX2.out.below hb); have HB3 := Aside0.mk (below_step HB2.out hb); clear hb d0 d1 d2; have d0 : w3.cell? ⟨w.heap.size, 0, none⟩ = some (.int .i64 off) := (blk_cell HX3.out.blk 0).trans rfl; have d1 : w3.cell? ⟨w.heap.size, 1, none⟩ = some (.slice A1 week.length c1) := (blk_cell HX3.out.blk 1).trans rfl; have d2 : w3.cell? ⟨w.heap.size, 2, none⟩ = some (.slice A2 closed.length c2) := (blk_cell HX3.out.blk 2).trans rfl) | (go_at_call 13; with_reducible refine (calnew_ok w3 HX3.out.h1 HX3.out.h2 HE.out).mono ?_; rintro e w4 ⟨kb, ab, pb, cb, rfl, CK, hb⟩; have HX4 := Aside0.mk (HX3.out.below hb); have HB4 := Aside0.mk (below_step HB3.out hb); have HC4 := Aside0.mk CK; have HN4 : Aside0 (w3.heap.size ≤ w4.heap.size) := ⟨hb.size⟩; have HQ4 := Aside0.mk hb; clear hb CK d0 d1 d2) | (go_at_call 14; with_reducible refine (due_any (a) (B) w4 HC4.out HN4.out (by first | assumption | omega)).mono ?_; rintro e w5 ⟨rfl, CK, UK⟩; rw [HD1.out]; have HC5 := Aside0.mk CK; have HN5 : Aside0 (w3.heap.size ≤ w5.heap.size) := ⟨Nat.le_trans HN4.out UK.size⟩; have HB5 := Aside0.mk (upd_below HB4.out UK (Nat.le_trans HB3.out.size HC4.out.plan.ncb) HB4.out.size); have HQ5 := Aside0.mk (upd_below HQ4.out UK HC4.out.plan.ncb HQ4.out.size); clear CK UK) | (go_at_call 20; with_reducible refine (elapsed_any (a) (1125899906842624) w5 HC5.out HN5.out (by omega) (by omega) (by omega)).mono ?_; rintro e w6 ⟨rfl, CK, UK⟩; rw [HP2.out]; have HC6 := Aside0.mk CK; have HN6 : Aside0 (w3.heap.size ≤ w6.heap.size) := ⟨Nat.le_trans HN5.out UK.size⟩; have HB6 := Aside0.mk (upd_below HB5.out UK (Nat.le_trans HB3.out.size HC5.out.plan.ncb) HB5.out.size); have HQ6 := Aside0.mk (upd_below HQ5.out UK HC5.out.plan.ncb HQ5.out.size); clear CK UK) | (go_at_call 12; with_reducible refine (lives_any w6).mono ?_; rintro e w99 ⟨rfl, hb⟩; have HB99 := Aside0.mk (below_step HB6.out hb); clear hb))
  go_ret
  exact ⟨rfl, HB99.out⟩

set_option maxHeartbeats 4000000 in
set_option maxRecDepth 100000 in
theorem least_main2 (a B : Int) (w : World) (h1 : Kd.C k57 w A1 week.length week ∧ week.length ≤ c1) (h2 : Kd.C k57 w A2 closed.length closed ∧ closed.length ≤ c2) (hBr : B ≤ 9223372036854775807) (hL : lightP week closed = true) (hE : calErr off week closed = 0) (t0 : ¬ a < 0) (t1 : ¬ a > 1125899906842624) (t2 : ¬ B < 1) (hg : (dueP off week closed a B).2 = 40) (hwk : week.length = 0) :
    Calls Try.prog 8 #[.agg #[.int .i64 off, .slice A1 week.length c1, .slice A2 closed.length c2], .int .i64 a, .int .i64 B] w fun e w' => e = .returned (.bool true) ∧ Below w.heap.size w w' := by
  have HX1 := Aside0.mk (CalBox.new (off := off) w h1 h2)
  have HB1 : Aside0 (Below w.heap.size w (w.alloc (.cells #[.int .i64 off, .slice A1 week.length c1, .slice A2 closed.length c2] 24))) := ⟨below_alloc (Below.refl _ _) _⟩
  have HL := Aside0.mk hL
  have hnot : ∀ (x : Bool) (w : World), (Op.unary .not (.bool x)).run Try.prog w = .ok (.bool (!x)) w := fun _ _ => rfl
  clear h1 h2 hL
  have hp := least_no (calErr_ok hE) (a := a) (B := B) (by omega) (by omega) (by omega) (by rw [hg]; decide)
  have HE := Aside0.mk hE
  obtain ⟨⟨x1, x2⟩, hx⟩ : ∃ p, dueP off week closed a B = p := ⟨_, rfl⟩
  rw [hx] at hp hg
  simp only at hp hg
  have HD1 := Aside0.mk hx
  have ha : 0 ≤ a := by omega
  have haH : a ≤ 1125899906842624 := by omega
  obtain ⟨rfl, p1, _⟩ := hp
  have p1 : elapP off week closed a 1125899906842624 < B := p1
  obtain ⟨E1, hE1⟩ : ∃ E1, elapP off week closed a 1125899906842624 = E1 := ⟨_, rfl⟩
  rw [hE1] at p1
  have HP2 := Aside0.mk hE1
  subst hg
  clear hE hx hE1
  have HW := Aside0.mk hwk
  clear hwk
  go_enter Try.func8, Try.ntmps8
  go_wp2_with fail
  generalize (w.alloc (.cells #[.int .i64 off, .slice A1 week.length c1, .slice A2 closed.length c2] 24)) = w1 at HX1 HB1 ⊢
  have d0 : w1.cell? ⟨w.heap.size, 0, none⟩ = some (.int .i64 off) := (blk_cell HX1.out.blk 0).trans rfl
  have d1 : w1.cell? ⟨w.heap.size, 1, none⟩ = some (.slice A1 week.length c1) := (blk_cell HX1.out.blk 1).trans rfl
  have d2 : w1.cell? ⟨w.heap.size, 2, none⟩ = some (.slice A2 closed.length c2) := (blk_cell HX1.out.blk 2).trans rfl
  go_wp2_with (first | (go_at_call 10; with_reducible refine (light_any w1 HX1.out.h1 HX1.out.h2).mono ?_; rintro e w2 ⟨rfl, hb⟩; rw [HL.out]; have HX2 := Aside0.mk (HX1.out.below hb); have HB2 := Aside0.mk (below_step HB1.out hb); clear hb d0 d1 d2; have d0 : w2.cell? ⟨w.heap.size, 0, none⟩ = some (.int .i64 off) := (blk_cell HX2.out.blk 0).trans rfl; have d1 : w2.cell? ⟨w.heap.size, 1, none⟩ = some (.slice A1 week.length c1) := (blk_cell HX2.out.blk 1).trans rfl; have d2 : w2.cell? ⟨w.heap.size, 2, none⟩ = some (.slice A2 closed.length c2) := (blk_cell HX2.out.blk 2).trans rfl) | (go_at_call 11; with_reducible refine (refcheck_any w2 HX2.out.h1 HX2.out.h2).mono ?_; rintro e w3 ⟨rfl, hb⟩; rw [HE.out]; have HX3 := Aside0.mk (HX2.out.below hb); have HB3 := Aside0.mk (below_step HB2.out hb); clear hb d0 d1 d2; have d0 : w3.cell? ⟨w.heap.size, 0, none⟩ = some (.int .i64 off) := (blk_cell HX3.out.blk 0).trans rfl; have d1 : w3.cell? ⟨w.heap.size, 1, none⟩ = some (.slice A1 week.length c1) := (blk_cell HX3.out.blk 1).trans rfl; have d2 : w3.cell? ⟨w.heap.size, 2, none⟩ = some (.slice A2 closed.length c2) := (blk_cell HX3.out.blk 2).trans rfl) | (go_at_call 13; with_reducible refine (calnew_ok w3 HX3.out.h1 HX3.out.h2 HE.out).mono ?_; rintro e w4 ⟨kb, ab, pb, cb, rfl, CK, hb⟩; have HX4 := Aside0.mk (HX3.out.below hb); have HB4 := Aside0.mk (below_step HB3.out hb); have HC4 := Aside0.mk CK; have HN4 : Aside0 (w3.heap.size ≤ w4.heap.size) := ⟨hb.size⟩; have HQ4 := Aside0.mk hb; clear hb CK d0 d1 d2) | (go_at_call 14; with_reducible refine (due_any (a) (B) w4 HC4.out HN4.out (by first | assumption | omega)).mono ?_; rintro e w5 ⟨rfl, CK, UK⟩; rw [HD1.out]; have HC5 := Aside0.mk CK; have HN5 : Aside0 (w3.heap.size ≤ w5.heap.size) := ⟨Nat.le_trans HN4.out UK.size⟩; have HB5 := Aside0.mk (upd_below HB4.out UK (Nat.le_trans HB3.out.size HC4.out.plan.ncb) HB4.out.size); have HQ5 := Aside0.mk (upd_below HQ4.out UK HC4.out.plan.ncb HQ4.out.size); clear CK UK) | (go_at_call 20; refine (elapsed_any (a) (1125899906842624) w5 HC5.out HN5.out (by omega) (by omega) (by omega)).mono ?_; rintro e w6 ⟨rfl, CK, UK⟩; rw [HP2.out]; have HC6 := Aside0.mk CK; have HN6 : Aside0 (w3.heap.size ≤ w6.heap.size) := ⟨Nat.le_trans HN5.out UK.size⟩; have HB6 := Aside0.mk (upd_below HB5.out UK (Nat.le_trans HB3.out.size HC5.out.plan.ncb) HB5.out.size); have HQ6 := Aside0.mk (upd_below HQ5.out UK HC5.out.plan.ncb HQ5.out.size); have HX6 := HX3.out.below HQ6.out; have d1 := (blk_cell HX6.blk 1).trans (rfl : _ = some (Value.slice A1 week.length c1)); rw [HW.out] at d1; clear HX6 CK UK) | (go_at_call 12; with_reducible refine (lives_any w6).mono ?_; rintro e w99 ⟨rfl, hb⟩; have HB99 := Aside0.mk (below_step HB6.out hb); clear hb))
  go_ret
  exact ⟨rfl, HB99.out⟩

theorem least_any (a B : Int) (hBr : B ≤ 9223372036854775807) (w : World) (h1 : Kd.C k57 w A1 week.length week ∧ week.length ≤ c1) (h2 : Kd.C k57 w A2 closed.length closed ∧ closed.length ≤ c2) :
    Calls Try.prog 8 #[.agg #[.int .i64 off, .slice A1 week.length c1, .slice A2 closed.length c2], .int .i64 a, .int .i64 B] w fun e w' => e = .returned (.bool true) ∧ Below w.heap.size w w' := by
  cases hL : lightP week closed with
  | false => exact least_light a B w h1 h2 hL
  | true =>
    by_cases hE : calErr off week closed = 0
    · by_cases t0 : a < 0
      · exact least_r0 a B w h1 h2 hL hE t0
      · by_cases t1 : a > 1125899906842624
        · exact least_r1 a B w h1 h2 hL hE t0 t1
        · by_cases t2 : B < 1
          · exact least_r2 a B w h1 h2 hL hE t0 t1 t2
          · by_cases hg : (dueP off week closed a B).2 = 0
            · exact least_main0 a B w h1 h2 hBr hL hE t0 t1 t2 hg
            · rcases (least_no (calErr_ok hE) (a := a) (B := B) (by omega) (by omega) (by omega) hg).2.2 with e | ⟨e, k⟩
              · exact least_main1 a B w h1 h2 hBr hL hE t0 t1 t2 e
              · exact least_main2 a B w h1 h2 hBr hL hE t0 t1 t2 e (by rw [k]; rfl)
    · exact least_check a B w h1 h2 hL hE
end Go.Proofs.Ytknlpeabmpllmaa.Own

set_option linter.unusedVariables false
set_option linter.unusedSimpArgs false
namespace Go.Proofs.Ytknlpeabmpllmaa.calendarLeast
open Go.ChangeShapes Go.WideShapes Go.ChangeAt Go.RowKit
set_option maxRecDepth 100000 in
theorem lifted (os : Os) (started : os.Started) (H : Type) (enc : TypeId × Value → H) :
    ReturnsInHanded {} Try.checked os 8 .any (Rows.calendarLeastSpec.pre6 enc Try.prog Try.f8 Rows.calendarLeastRow.domain false) (Rows.calendarLeastSpec.post enc Try.prog Try.f8 false true false false) := by
  refine returnsInHanded_of_change_sized (C := Try.checked) Own.ownKnob_none started (by kernel_rfl) Try.func8
    (ChangeSpec.witness6 (enc := enc) (C := Try.checked) false ⟨#[], #[.agg #[.int .i64 0, .slice none 0 0, .slice none 0 0], .int .i64 0, .int .i64 0], []⟩ 8 (by kernel_rfl) (by kernel_rfl) (by kernel_rfl) (by kernel_rfl)) ?_
  intro W base args ds gs before hval0 hW hcnd hsz0 _
  have hval : ∀ (j : Nat) t v, Try.f8.params[j]? = some t → args[j]? = some v → Value.okWide Try.prog W .any base t v := hval0
  have hW' := hW
  obtain ⟨p, q, hA0, hV, rfl, hfz, hnd⟩ := hW
  have hA : DataW.TrodAll enc Try.prog W 0 (fun _ => true) true Try.f8.params.toList args.toList ds p := hA0
  rw [Try.params8] at hA hval
  obtain ⟨v0, vs0, d0, ds0, p0, q0, hargs, rfl, rfl, h0, r0⟩ := trodAll_cons hA
  obtain ⟨v1, vs1, d1, ds1, p1, q1, rfl, rfl, rfl, h1, r1⟩ := trodAll_cons r0
  obtain ⟨v2, vs2, d2, ds2, p2, q2, rfl, rfl, rfl, h2, r2⟩ := trodAll_cons r1
  obtain ⟨rfl, rfl, rfl⟩ := trodAll_nil r2
  obtain rfl : args = #[v0, v1, v2] := by cases args; simp_all
  obtain ⟨rfl, rfl⟩ := trodVars_none hV
  have k0 := h0
  have lt0 : ∀ x ∈ p0, x.block < W.heap.size := by obtain ⟨m, hm⟩ := k0; exact DataW.trod_lt m _ _ _ hm
  obtain ⟨off0, A10, A20, c10, c20, week0, closed0, rfl, hx0, hy0⟩ := Own.cal_open (hval 0 24 v0 rfl rfl) h0
  obtain ⟨a1, rfl, rfl, rfl, w1⟩ := open_int Try.underlying2 (hval 1 2 v1 rfl rfl) h1
  obtain ⟨a2, rfl, rfl, rfl, w2⟩ := open_int Try.underlying2 (hval 2 2 v2 rfl rfl) h2
  clear hA0 hval0 hsz0
  refine (Own.least_any a1 a2 (Own.i64_bd w2).2 W hx0 hy0).mono fun e W' ⟨he, bel⟩ => ?_
  subst he
  exact ⟨_, rfl, _, _, _, [], _, [], hW', trodAll_mk1 (shut_bool Try.underlying4 _), (trodAll_cons_mk (Below.trod Own.laidOut (by kernel_rfl) (of_decide_eq_true (by kernel_rfl)) k0 bel lt0) (trodAll_cons_mk (shut_int Try.underlying2 w1) (trodAll_cons_mk (shut_int Try.underlying2 w2) trodAll_mk0))), rfl, bel.frame _, fun h => by cases h⟩
theorem over : Rows.calendarLeastRow.holds Try.pinned (OpenSpec.ofChange Rows.calendarLeastSpec) :=
  OpenClaim.holds_of_wide 8 Try.f8 rfl rfl rfl rfl rfl rfl rfl ⟨rfl, rfl, rfl, rfl, rfl⟩ rfl rfl rfl rfl rfl (by kernel_rfl) Try.func8 (by kernel_rfl)
    (of_decide_eq_true (by kernel_rfl)) (by unfold Func.isWrapper; first | (rw [if_pos (by decide +kernel)]; kernel_rfl) | (rw [if_neg (by decide +kernel)]; exact ⟨rfl, rfl⟩))
    (fun os started H enc _ => lifted os started H enc)
theorem proved : Rows.CalendarLeastSaid := over
#print axioms proved
end Go.Proofs.Ytknlpeabmpllmaa.calendarLeast
namespace Go.Proofs.Ytknlpeabmpllmaa
/-- The row, under a short name, for the claim. -/
theorem calendarLeast_holds : Rows.CalendarLeastSaid := calendarLeast.proved
end Go.Proofs.Ytknlpeabmpllmaa
