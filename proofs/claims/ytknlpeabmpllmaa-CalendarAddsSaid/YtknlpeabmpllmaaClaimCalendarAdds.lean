/- For every input: the law CalendarAdds returns true, and changes nothing of its arguments. Its conditions: those of the given row alone. -/
import Derived.Test.YtknlpeabmpllmaaOwnD
set_option linter.unusedVariables false
set_option linter.unusedSimpArgs false
namespace Go.Proofs.Ytknlpeabmpllmaa.Own
open Go.RowKit Go.Proofs Go.Proofs.YtknlpeabmpllmaaW.PrintWords Go.Proofs.YtknlpeabmpllmaaW.PrintLast Go.Proofs.YtknlpeabmpllmaaW.PrintMore Go.Proofs.Ytknlpeabmpllmaa.Base
variable {off : Int} {week closed : List S57} {A1 A2 : Option Addr} {c1 c2 : Nat}
set_option maxHeartbeats 4000000 in
set_option maxRecDepth 100000 in
theorem adds_light (a P R now : Int) (w : World) (h1 : Kd.C k57 w A1 week.length week ∧ week.length ≤ c1) (h2 : Kd.C k57 w A2 closed.length closed ∧ closed.length ≤ c2) (hL : lightP week closed = false) :
    Calls Try.prog 6 #[.agg #[.int .i64 off, .slice A1 week.length c1, .slice A2 closed.length c2], .int .i64 a, .int .i64 P, .int .i64 R, .int .i64 now] w fun e w' => e = .returned (.bool true) ∧ Below w.heap.size w w' := by
  have HX1 := Aside0.mk (CalBox.new (off := off) w h1 h2)
  have HB1 : Aside0 (Below w.heap.size w (w.alloc (.cells #[.int .i64 off, .slice A1 week.length c1, .slice A2 closed.length c2] 24))) := ⟨below_alloc (Below.refl _ _) _⟩
  have HL := Aside0.mk hL
  have hnot : ∀ (x : Bool) (w : World), (Op.unary .not (.bool x)).run Try.prog w = .ok (.bool (!x)) w := fun _ _ => rfl
  clear h1 h2 hL
  skip
  go_enter Try.func6, Try.ntmps6
  go_wp2_with fail
  generalize (w.alloc (.cells #[.int .i64 off, .slice A1 week.length c1, .slice A2 closed.length c2] 24)) = w1 at HX1 HB1 ⊢
  have d0 : w1.cell? ⟨w.heap.size, 0, none⟩ = some (.int .i64 off) := (blk_cell HX1.out.blk 0).trans rfl
  have d1 : w1.cell? ⟨w.heap.size, 1, none⟩ = some (.slice A1 week.length c1) := (blk_cell HX1.out.blk 1).trans rfl
  have d2 : w1.cell? ⟨w.heap.size, 2, none⟩ = some (.slice A2 closed.length c2) := (blk_cell HX1.out.blk 2).trans rfl
  go_wp2_with (first | (go_at_call 10; with_reducible refine (light_any w1 HX1.out.h1 HX1.out.h2).mono ?_; rintro e w2 ⟨rfl, hb⟩; rw [HL.out]; have HX2 := Aside0.mk (HX1.out.below hb); have HB2 := Aside0.mk (below_step HB1.out hb); clear hb d0 d1 d2; have d0 : w2.cell? ⟨w.heap.size, 0, none⟩ = some (.int .i64 off) := (blk_cell HX2.out.blk 0).trans rfl; have d1 : w2.cell? ⟨w.heap.size, 1, none⟩ = some (.slice A1 week.length c1) := (blk_cell HX2.out.blk 1).trans rfl; have d2 : w2.cell? ⟨w.heap.size, 2, none⟩ = some (.slice A2 closed.length c2) := (blk_cell HX2.out.blk 2).trans rfl) | (go_at_call 12; with_reducible refine (lives_any w2).mono ?_; rintro e w99 ⟨rfl, hb⟩; have HB99 := Aside0.mk (below_step HB2.out hb); clear hb))
  go_ret
  exact ⟨rfl, HB99.out⟩

set_option maxHeartbeats 4000000 in
set_option maxRecDepth 100000 in
theorem adds_check (a P R now : Int) (w : World) (h1 : Kd.C k57 w A1 week.length week ∧ week.length ≤ c1) (h2 : Kd.C k57 w A2 closed.length closed ∧ closed.length ≤ c2) (hL : lightP week closed = true) (hE : calErr off week closed ≠ 0) :
    Calls Try.prog 6 #[.agg #[.int .i64 off, .slice A1 week.length c1, .slice A2 closed.length c2], .int .i64 a, .int .i64 P, .int .i64 R, .int .i64 now] w fun e w' => e = .returned (.bool true) ∧ Below w.heap.size w w' := by
  have HX1 := Aside0.mk (CalBox.new (off := off) w h1 h2)
  have HB1 : Aside0 (Below w.heap.size w (w.alloc (.cells #[.int .i64 off, .slice A1 week.length c1, .slice A2 closed.length c2] 24))) := ⟨below_alloc (Below.refl _ _) _⟩
  have HL := Aside0.mk hL
  have hnot : ∀ (x : Bool) (w : World), (Op.unary .not (.bool x)).run Try.prog w = .ok (.bool (!x)) w := fun _ _ => rfl
  clear h1 h2 hL
  have hE1 : (calErr off week closed != 0) = true := bne_iff_ne.mpr hE
  clear hE
  go_enter Try.func6, Try.ntmps6
  go_wp2_with fail
  generalize (w.alloc (.cells #[.int .i64 off, .slice A1 week.length c1, .slice A2 closed.length c2] 24)) = w1 at HX1 HB1 ⊢
  have d0 : w1.cell? ⟨w.heap.size, 0, none⟩ = some (.int .i64 off) := (blk_cell HX1.out.blk 0).trans rfl
  have d1 : w1.cell? ⟨w.heap.size, 1, none⟩ = some (.slice A1 week.length c1) := (blk_cell HX1.out.blk 1).trans rfl
  have d2 : w1.cell? ⟨w.heap.size, 2, none⟩ = some (.slice A2 closed.length c2) := (blk_cell HX1.out.blk 2).trans rfl
  go_wp2_with (first | (go_at_call 10; with_reducible refine (light_any w1 HX1.out.h1 HX1.out.h2).mono ?_; rintro e w2 ⟨rfl, hb⟩; rw [HL.out]; have HX2 := Aside0.mk (HX1.out.below hb); have HB2 := Aside0.mk (below_step HB1.out hb); clear hb d0 d1 d2; have d0 : w2.cell? ⟨w.heap.size, 0, none⟩ = some (.int .i64 off) := (blk_cell HX2.out.blk 0).trans rfl; have d1 : w2.cell? ⟨w.heap.size, 1, none⟩ = some (.slice A1 week.length c1) := (blk_cell HX2.out.blk 1).trans rfl; have d2 : w2.cell? ⟨w.heap.size, 2, none⟩ = some (.slice A2 closed.length c2) := (blk_cell HX2.out.blk 2).trans rfl) | (go_at_call 11; with_reducible refine (refcheck_any w2 HX2.out.h1 HX2.out.h2).mono ?_; rintro e w3 ⟨rfl, hb⟩; have HX3 := Aside0.mk (HX2.out.below hb); have HB3 := Aside0.mk (below_step HB2.out hb); clear hb d0 d1 d2; have d0 : w3.cell? ⟨w.heap.size, 0, none⟩ = some (.int .i64 off) := (blk_cell HX3.out.blk 0).trans rfl; have d1 : w3.cell? ⟨w.heap.size, 1, none⟩ = some (.slice A1 week.length c1) := (blk_cell HX3.out.blk 1).trans rfl; have d2 : w3.cell? ⟨w.heap.size, 2, none⟩ = some (.slice A2 closed.length c2) := (blk_cell HX3.out.blk 2).trans rfl) | (go_at_call 12; with_reducible refine (lives_any w3).mono ?_; rintro e w99 ⟨rfl, hb⟩; have HB99 := Aside0.mk (below_step HB3.out hb); clear hb))
  go_ret
  exact ⟨rfl, HB99.out⟩

set_option maxHeartbeats 4000000 in
set_option maxRecDepth 100000 in
theorem adds_r0 (a P R now : Int) (w : World) (h1 : Kd.C k57 w A1 week.length week ∧ week.length ≤ c1) (h2 : Kd.C k57 w A2 closed.length closed ∧ closed.length ≤ c2) (hL : lightP week closed = true) (hE : calErr off week closed = 0) (t0 : P < 0) :
    Calls Try.prog 6 #[.agg #[.int .i64 off, .slice A1 week.length c1, .slice A2 closed.length c2], .int .i64 a, .int .i64 P, .int .i64 R, .int .i64 now] w fun e w' => e = .returned (.bool true) ∧ Below w.heap.size w w' := by
  have HX1 := Aside0.mk (CalBox.new (off := off) w h1 h2)
  have HB1 : Aside0 (Below w.heap.size w (w.alloc (.cells #[.int .i64 off, .slice A1 week.length c1, .slice A2 closed.length c2] 24))) := ⟨below_alloc (Below.refl _ _) _⟩
  have HL := Aside0.mk hL
  have hnot : ∀ (x : Bool) (w : World), (Op.unary .not (.bool x)).run Try.prog w = .ok (.bool (!x)) w := fun _ _ => rfl
  clear h1 h2 hL
  have HE := Aside0.mk hE
  clear hE
  go_enter Try.func6, Try.ntmps6
  go_wp2_with fail
  generalize (w.alloc (.cells #[.int .i64 off, .slice A1 week.length c1, .slice A2 closed.length c2] 24)) = w1 at HX1 HB1 ⊢
  have d0 : w1.cell? ⟨w.heap.size, 0, none⟩ = some (.int .i64 off) := (blk_cell HX1.out.blk 0).trans rfl
  have d1 : w1.cell? ⟨w.heap.size, 1, none⟩ = some (.slice A1 week.length c1) := (blk_cell HX1.out.blk 1).trans rfl
  have d2 : w1.cell? ⟨w.heap.size, 2, none⟩ = some (.slice A2 closed.length c2) := (blk_cell HX1.out.blk 2).trans rfl
  go_wp2_with (first | (go_at_call 10; with_reducible refine (light_any w1 HX1.out.h1 HX1.out.h2).mono ?_; rintro e w2 ⟨rfl, hb⟩; rw [HL.out]; have HX2 := Aside0.mk (HX1.out.below hb); have HB2 := Aside0.mk (below_step HB1.out hb); clear hb d0 d1 d2; have d0 : w2.cell? ⟨w.heap.size, 0, none⟩ = some (.int .i64 off) := (blk_cell HX2.out.blk 0).trans rfl; have d1 : w2.cell? ⟨w.heap.size, 1, none⟩ = some (.slice A1 week.length c1) := (blk_cell HX2.out.blk 1).trans rfl; have d2 : w2.cell? ⟨w.heap.size, 2, none⟩ = some (.slice A2 closed.length c2) := (blk_cell HX2.out.blk 2).trans rfl) | (go_at_call 11; with_reducible refine (refcheck_any w2 HX2.out.h1 HX2.out.h2).mono ?_; rintro e w3 ⟨rfl, hb⟩; rw [HE.out]; have HX3 := Aside0.mk (HX2.out.below hb); have HB3 := Aside0.mk (below_step HB2.out hb); clear hb d0 d1 d2; have d0 : w3.cell? ⟨w.heap.size, 0, none⟩ = some (.int .i64 off) := (blk_cell HX3.out.blk 0).trans rfl; have d1 : w3.cell? ⟨w.heap.size, 1, none⟩ = some (.slice A1 week.length c1) := (blk_cell HX3.out.blk 1).trans rfl; have d2 : w3.cell? ⟨w.heap.size, 2, none⟩ = some (.slice A2 closed.length c2) := (blk_cell HX3.out.blk 2).trans rfl) | (go_at_call 12; with_reducible refine (lives_any w3).mono ?_; rintro e w99 ⟨rfl, hb⟩; have HB99 := Aside0.mk (below_step HB3.out hb); clear hb))
  go_ret
  exact ⟨rfl, HB99.out⟩

set_option maxHeartbeats 4000000 in
set_option maxRecDepth 100000 in
theorem adds_r1 (a P R now : Int) (w : World) (h1 : Kd.C k57 w A1 week.length week ∧ week.length ≤ c1) (h2 : Kd.C k57 w A2 closed.length closed ∧ closed.length ≤ c2) (hL : lightP week closed = true) (hE : calErr off week closed = 0) (t0 : ¬ P < 0) (t1 : R < 0) :
    Calls Try.prog 6 #[.agg #[.int .i64 off, .slice A1 week.length c1, .slice A2 closed.length c2], .int .i64 a, .int .i64 P, .int .i64 R, .int .i64 now] w fun e w' => e = .returned (.bool true) ∧ Below w.heap.size w w' := by
  have HX1 := Aside0.mk (CalBox.new (off := off) w h1 h2)
  have HB1 : Aside0 (Below w.heap.size w (w.alloc (.cells #[.int .i64 off, .slice A1 week.length c1, .slice A2 closed.length c2] 24))) := ⟨below_alloc (Below.refl _ _) _⟩
  have HL := Aside0.mk hL
  have hnot : ∀ (x : Bool) (w : World), (Op.unary .not (.bool x)).run Try.prog w = .ok (.bool (!x)) w := fun _ _ => rfl
  clear h1 h2 hL
  have HE := Aside0.mk hE
  clear hE
  go_enter Try.func6, Try.ntmps6
  go_wp2_with fail
  generalize (w.alloc (.cells #[.int .i64 off, .slice A1 week.length c1, .slice A2 closed.length c2] 24)) = w1 at HX1 HB1 ⊢
  have d0 : w1.cell? ⟨w.heap.size, 0, none⟩ = some (.int .i64 off) := (blk_cell HX1.out.blk 0).trans rfl
  have d1 : w1.cell? ⟨w.heap.size, 1, none⟩ = some (.slice A1 week.length c1) := (blk_cell HX1.out.blk 1).trans rfl
  have d2 : w1.cell? ⟨w.heap.size, 2, none⟩ = some (.slice A2 closed.length c2) := (blk_cell HX1.out.blk 2).trans rfl
  go_wp2_with (first | (go_at_call 10; with_reducible refine (light_any w1 HX1.out.h1 HX1.out.h2).mono ?_; rintro e w2 ⟨rfl, hb⟩; rw [HL.out]; have HX2 := Aside0.mk (HX1.out.below hb); have HB2 := Aside0.mk (below_step HB1.out hb); clear hb d0 d1 d2; have d0 : w2.cell? ⟨w.heap.size, 0, none⟩ = some (.int .i64 off) := (blk_cell HX2.out.blk 0).trans rfl; have d1 : w2.cell? ⟨w.heap.size, 1, none⟩ = some (.slice A1 week.length c1) := (blk_cell HX2.out.blk 1).trans rfl; have d2 : w2.cell? ⟨w.heap.size, 2, none⟩ = some (.slice A2 closed.length c2) := (blk_cell HX2.out.blk 2).trans rfl) | (go_at_call 11; with_reducible refine (refcheck_any w2 HX2.out.h1 HX2.out.h2).mono ?_; rintro e w3 ⟨rfl, hb⟩; rw [HE.out]; have HX3 := Aside0.mk (HX2.out.below hb); have HB3 := Aside0.mk (below_step HB2.out hb); clear hb d0 d1 d2; have d0 : w3.cell? ⟨w.heap.size, 0, none⟩ = some (.int .i64 off) := (blk_cell HX3.out.blk 0).trans rfl; have d1 : w3.cell? ⟨w.heap.size, 1, none⟩ = some (.slice A1 week.length c1) := (blk_cell HX3.out.blk 1).trans rfl; have d2 : w3.cell? ⟨w.heap.size, 2, none⟩ = some (.slice A2 closed.length c2) := (blk_cell HX3.out.blk 2).trans rfl) | (go_at_call 12; with_reducible refine (lives_any w3).mono ?_; rintro e w99 ⟨rfl, hb⟩; have HB99 := Aside0.mk (below_step HB3.out hb); clear hb))
  go_ret
  exact ⟨rfl, HB99.out⟩

set_option maxHeartbeats 4000000 in
set_option maxRecDepth 100000 in
theorem adds_r2 (a P R now : Int) (w : World) (h1 : Kd.C k57 w A1 week.length week ∧ week.length ≤ c1) (h2 : Kd.C k57 w A2 closed.length closed ∧ closed.length ≤ c2) (hL : lightP week closed = true) (hE : calErr off week closed = 0) (t0 : ¬ P < 0) (t1 : ¬ R < 0) (t2 : P > 4503599627370496) :
    Calls Try.prog 6 #[.agg #[.int .i64 off, .slice A1 week.length c1, .slice A2 closed.length c2], .int .i64 a, .int .i64 P, .int .i64 R, .int .i64 now] w fun e w' => e = .returned (.bool true) ∧ Below w.heap.size w w' := by
  have HX1 := Aside0.mk (CalBox.new (off := off) w h1 h2)
  have HB1 : Aside0 (Below w.heap.size w (w.alloc (.cells #[.int .i64 off, .slice A1 week.length c1, .slice A2 closed.length c2] 24))) := ⟨below_alloc (Below.refl _ _) _⟩
  have HL := Aside0.mk hL
  have hnot : ∀ (x : Bool) (w : World), (Op.unary .not (.bool x)).run Try.prog w = .ok (.bool (!x)) w := fun _ _ => rfl
  clear h1 h2 hL
  have HE := Aside0.mk hE
  clear hE
  go_enter Try.func6, Try.ntmps6
  go_wp2_with fail
  generalize (w.alloc (.cells #[.int .i64 off, .slice A1 week.length c1, .slice A2 closed.length c2] 24)) = w1 at HX1 HB1 ⊢
  have d0 : w1.cell? ⟨w.heap.size, 0, none⟩ = some (.int .i64 off) := (blk_cell HX1.out.blk 0).trans rfl
  have d1 : w1.cell? ⟨w.heap.size, 1, none⟩ = some (.slice A1 week.length c1) := (blk_cell HX1.out.blk 1).trans rfl
  have d2 : w1.cell? ⟨w.heap.size, 2, none⟩ = some (.slice A2 closed.length c2) := (blk_cell HX1.out.blk 2).trans rfl
  go_wp2_with (first | (go_at_call 10; with_reducible refine (light_any w1 HX1.out.h1 HX1.out.h2).mono ?_; rintro e w2 ⟨rfl, hb⟩; rw [HL.out]; have HX2 := Aside0.mk (HX1.out.below hb); have HB2 := Aside0.mk (below_step HB1.out hb); clear hb d0 d1 d2; have d0 : w2.cell? ⟨w.heap.size, 0, none⟩ = some (.int .i64 off) := (blk_cell HX2.out.blk 0).trans rfl; have d1 : w2.cell? ⟨w.heap.size, 1, none⟩ = some (.slice A1 week.length c1) := (blk_cell HX2.out.blk 1).trans rfl; have d2 : w2.cell? ⟨w.heap.size, 2, none⟩ = some (.slice A2 closed.length c2) := (blk_cell HX2.out.blk 2).trans rfl) | (go_at_call 11; with_reducible refine (refcheck_any w2 HX2.out.h1 HX2.out.h2).mono ?_; rintro e w3 ⟨rfl, hb⟩; rw [HE.out]; have HX3 := Aside0.mk (HX2.out.below hb); have HB3 := Aside0.mk (below_step HB2.out hb); clear hb d0 d1 d2; have d0 : w3.cell? ⟨w.heap.size, 0, none⟩ = some (.int .i64 off) := (blk_cell HX3.out.blk 0).trans rfl; have d1 : w3.cell? ⟨w.heap.size, 1, none⟩ = some (.slice A1 week.length c1) := (blk_cell HX3.out.blk 1).trans rfl; have d2 : w3.cell? ⟨w.heap.size, 2, none⟩ = some (.slice A2 closed.length c2) := (blk_cell HX3.out.blk 2).trans rfl) | (go_at_call 12; with_reducible refine (lives_any w3).mono ?_; rintro e w99 ⟨rfl, hb⟩; have HB99 := Aside0.mk (below_step HB3.out hb); clear hb))
  go_ret
  exact ⟨rfl, HB99.out⟩

set_option maxHeartbeats 4000000 in
set_option maxRecDepth 100000 in
theorem adds_r3 (a P R now : Int) (w : World) (h1 : Kd.C k57 w A1 week.length week ∧ week.length ≤ c1) (h2 : Kd.C k57 w A2 closed.length closed ∧ closed.length ≤ c2) (hL : lightP week closed = true) (hE : calErr off week closed = 0) (t0 : ¬ P < 0) (t1 : ¬ R < 0) (t2 : ¬ P > 4503599627370496) (t3 : R > 4503599627370496) :
    Calls Try.prog 6 #[.agg #[.int .i64 off, .slice A1 week.length c1, .slice A2 closed.length c2], .int .i64 a, .int .i64 P, .int .i64 R, .int .i64 now] w fun e w' => e = .returned (.bool true) ∧ Below w.heap.size w w' := by
  have HX1 := Aside0.mk (CalBox.new (off := off) w h1 h2)
  have HB1 : Aside0 (Below w.heap.size w (w.alloc (.cells #[.int .i64 off, .slice A1 week.length c1, .slice A2 closed.length c2] 24))) := ⟨below_alloc (Below.refl _ _) _⟩
  have HL := Aside0.mk hL
  have hnot : ∀ (x : Bool) (w : World), (Op.unary .not (.bool x)).run Try.prog w = .ok (.bool (!x)) w := fun _ _ => rfl
  clear h1 h2 hL
  have HE := Aside0.mk hE
  clear hE
  go_enter Try.func6, Try.ntmps6
  go_wp2_with fail
  generalize (w.alloc (.cells #[.int .i64 off, .slice A1 week.length c1, .slice A2 closed.length c2] 24)) = w1 at HX1 HB1 ⊢
  have d0 : w1.cell? ⟨w.heap.size, 0, none⟩ = some (.int .i64 off) := (blk_cell HX1.out.blk 0).trans rfl
  have d1 : w1.cell? ⟨w.heap.size, 1, none⟩ = some (.slice A1 week.length c1) := (blk_cell HX1.out.blk 1).trans rfl
  have d2 : w1.cell? ⟨w.heap.size, 2, none⟩ = some (.slice A2 closed.length c2) := (blk_cell HX1.out.blk 2).trans rfl
  go_wp2_with (first | (go_at_call 10; with_reducible refine (light_any w1 HX1.out.h1 HX1.out.h2).mono ?_; rintro e w2 ⟨rfl, hb⟩; rw [HL.out]; have HX2 := Aside0.mk (HX1.out.below hb); have HB2 := Aside0.mk (below_step HB1.out hb); clear hb d0 d1 d2; have d0 : w2.cell? ⟨w.heap.size, 0, none⟩ = some (.int .i64 off) := (blk_cell HX2.out.blk 0).trans rfl; have d1 : w2.cell? ⟨w.heap.size, 1, none⟩ = some (.slice A1 week.length c1) := (blk_cell HX2.out.blk 1).trans rfl; have d2 : w2.cell? ⟨w.heap.size, 2, none⟩ = some (.slice A2 closed.length c2) := (blk_cell HX2.out.blk 2).trans rfl) | (go_at_call 11; with_reducible refine (refcheck_any w2 HX2.out.h1 HX2.out.h2).mono ?_; rintro e w3 ⟨rfl, hb⟩; rw [HE.out]; have HX3 := Aside0.mk (HX2.out.below hb); have HB3 := Aside0.mk (below_step HB2.out hb); clear hb d0 d1 d2; have d0 : w3.cell? ⟨w.heap.size, 0, none⟩ = some (.int .i64 off) := (blk_cell HX3.out.blk 0).trans rfl; have d1 : w3.cell? ⟨w.heap.size, 1, none⟩ = some (.slice A1 week.length c1) := (blk_cell HX3.out.blk 1).trans rfl; have d2 : w3.cell? ⟨w.heap.size, 2, none⟩ = some (.slice A2 closed.length c2) := (blk_cell HX3.out.blk 2).trans rfl) | (go_at_call 12; with_reducible refine (lives_any w3).mono ?_; rintro e w99 ⟨rfl, hb⟩; have HB99 := Aside0.mk (below_step HB3.out hb); clear hb))
  go_ret
  exact ⟨rfl, HB99.out⟩

set_option maxHeartbeats 4000000 in
set_option maxRecDepth 100000 in
theorem adds_no (a P R now : Int) (w : World) (h1 : Kd.C k57 w A1 week.length week ∧ week.length ≤ c1) (h2 : Kd.C k57 w A2 closed.length closed ∧ closed.length ≤ c2) (hL : lightP week closed = true) (hE : calErr off week closed = 0) (t0 : ¬ P < 0) (t1 : ¬ R < 0) (t2 : ¬ P > 4503599627370496) (t3 : ¬ R > 4503599627370496) (hg : (dueP off week closed a (P + R)).2 ≠ 0) :
    Calls Try.prog 6 #[.agg #[.int .i64 off, .slice A1 week.length c1, .slice A2 closed.length c2], .int .i64 a, .int .i64 P, .int .i64 R, .int .i64 now] w fun e w' => e = .returned (.bool true) ∧ Below w.heap.size w w' := by
  have HX1 := Aside0.mk (CalBox.new (off := off) w h1 h2)
  have HB1 : Aside0 (Below w.heap.size w (w.alloc (.cells #[.int .i64 off, .slice A1 week.length c1, .slice A2 closed.length c2] 24))) := ⟨below_alloc (Below.refl _ _) _⟩
  have HL := Aside0.mk hL
  have hnot : ∀ (x : Bool) (w : World), (Op.unary .not (.bool x)).run Try.prog w = .ok (.bool (!x)) w := fun _ _ => rfl
  clear h1 h2 hL
  have HE := Aside0.mk hE
  obtain ⟨⟨x1, x2⟩, hx⟩ : ∃ p, dueP off week closed a (P + R) = p := ⟨_, rfl⟩
  rw [hx] at hg
  simp only at hg
  have HD1 := Aside0.mk hx
  have hg1 : (x2 != 0) = true := bne_iff_ne.mpr hg
  have hwr : wrap64 (P + R) = P + R := wrap_id (by omega) (by omega)
  clear hE hx hg
  go_enter Try.func6, Try.ntmps6
  go_wp2_with fail
  generalize (w.alloc (.cells #[.int .i64 off, .slice A1 week.length c1, .slice A2 closed.length c2] 24)) = w1 at HX1 HB1 ⊢
  have d0 : w1.cell? ⟨w.heap.size, 0, none⟩ = some (.int .i64 off) := (blk_cell HX1.out.blk 0).trans rfl
  have d1 : w1.cell? ⟨w.heap.size, 1, none⟩ = some (.slice A1 week.length c1) := (blk_cell HX1.out.blk 1).trans rfl
  have d2 : w1.cell? ⟨w.heap.size, 2, none⟩ = some (.slice A2 closed.length c2) := (blk_cell HX1.out.blk 2).trans rfl
  go_wp2_with (first | (go_at_call 10; with_reducible refine (light_any w1 HX1.out.h1 HX1.out.h2).mono ?_; rintro e w2 ⟨rfl, hb⟩; rw [HL.out]; have HX2 := Aside0.mk (HX1.out.below hb); have HB2 := Aside0.mk (below_step HB1.out hb); clear hb d0 d1 d2; have d0 : w2.cell? ⟨w.heap.size, 0, none⟩ = some (.int .i64 off) := (blk_cell HX2.out.blk 0).trans rfl; have d1 : w2.cell? ⟨w.heap.size, 1, none⟩ = some (.slice A1 week.length c1) := (blk_cell HX2.out.blk 1).trans rfl; have d2 : w2.cell? ⟨w.heap.size, 2, none⟩ = some (.slice A2 closed.length c2) := (blk_cell HX2.out.blk 2).trans rfl) | (go_at_call 11; with_reducible refine (refcheck_any w2 HX2.out.h1 HX2.out.h2).mono ?_; rintro e w3 ⟨rfl, hb⟩; rw [HE.out]; have HX3 := Aside0.mk (HX2.out.below hb); have HB3 := Aside0.mk (below_step HB2.out hb); clear hb d0 d1 d2; have d0 : w3.cell? ⟨w.heap.size, 0, none⟩ = some (.int .i64 off) := (blk_cell HX3.out.blk 0).trans rfl; have d1 : w3.cell? ⟨w.heap.size, 1, none⟩ = some (.slice A1 week.length c1) := (blk_cell HX3.out.blk 1).trans rfl; have d2 : w3.cell? ⟨w.heap.size, 2, none⟩ = some (.slice A2 closed.length c2) := (blk_cell HX3.out.blk 2).trans rfl) | (go_at_call 13; with_reducible refine (calnew_ok w3 HX3.out.h1 HX3.out.h2 HE.out).mono ?_; rintro e w4 ⟨kb, ab, pb, cb, rfl, CK, hb⟩; have HX4 := Aside0.mk (HX3.out.below hb); have HB4 := Aside0.mk (below_step HB3.out hb); have HC4 := Aside0.mk CK; have HN4 : Aside0 (w3.heap.size ≤ w4.heap.size) := ⟨hb.size⟩; have HQ4 := Aside0.mk hb; clear hb CK d0 d1 d2) | (go_at_call 14; with_reducible refine (due_any (a) (P + R) w4 HC4.out HN4.out (by first | assumption | omega)).mono ?_; rintro e w5 ⟨rfl, CK, UK⟩; rw [HD1.out]; have HC5 := Aside0.mk CK; have HN5 : Aside0 (w3.heap.size ≤ w5.heap.size) := ⟨Nat.le_trans HN4.out UK.size⟩; have HB5 := Aside0.mk (upd_below HB4.out UK (Nat.le_trans HB3.out.size HC4.out.plan.ncb) HB4.out.size); have HQ5 := Aside0.mk (upd_below HQ4.out UK HC4.out.plan.ncb HQ4.out.size); clear CK UK) | (go_at_call 12; with_reducible refine (lives_any w5).mono ?_; rintro e w99 ⟨rfl, hb⟩; have HB99 := Aside0.mk (below_step HB5.out hb); clear hb))
  go_ret
  exact ⟨rfl, HB99.out⟩

set_option maxHeartbeats 4000000 in
set_option maxRecDepth 100000 in
theorem adds_pos0 (a P R now : Int) (w : World) (h1 : Kd.C k57 w A1 week.length week ∧ week.length ≤ c1) (h2 : Kd.C k57 w A2 closed.length closed ∧ closed.length ≤ c2) (hL : lightP week closed = true) (hE : calErr off week closed = 0) (t0 : ¬ P < 0) (t1 : ¬ R < 0) (t2 : ¬ P > 4503599627370496) (t3 : ¬ R > 4503599627370496) (m d : Int) (a0 : 0 ≤ a) (q1 : dueP off week closed a (P + R) = (d, 0)) (q2 : dueP off week closed a P = (m, 0)) (hmd : m ≤ d) (hdH : d ≤ 1125899906842624) (hR0 : 0 < R) (q3 : dueP off week closed m R = (d, 0)) (hn : now < a) :
    Calls Try.prog 6 #[.agg #[.int .i64 off, .slice A1 week.length c1, .slice A2 closed.length c2], .int .i64 a, .int .i64 P, .int .i64 R, .int .i64 now] w fun e w' => e = .returned (.bool true) ∧ Below w.heap.size w w' := by
  have HX1 := Aside0.mk (CalBox.new (off := off) w h1 h2)
  have HB1 : Aside0 (Below w.heap.size w (w.alloc (.cells #[.int .i64 off, .slice A1 week.length c1, .slice A2 closed.length c2] 24))) := ⟨below_alloc (Below.refl _ _) _⟩
  have HL := Aside0.mk hL
  have hnot : ∀ (x : Bool) (w : World), (Op.unary .not (.bool x)).run Try.prog w = .ok (.bool (!x)) w := fun _ _ => rfl
  clear h1 h2 hL
  have HE := Aside0.mk hE
  have HD1 := Aside0.mk q1
  have HD2 := Aside0.mk q2
  have HD3 := Aside0.mk q3
  have hwr : wrap64 (P + R) = P + R := wrap_id (by omega) (by omega)
  have hPR : 0 ≤ P + R ∧ P + R ≤ 9007199254740992 := by omega
  have hR1 : (R == 0) = false := beq_eq_false_iff_ne.mpr (by omega)
  have hR2 : R > 0 := by omega
  have hmd2 : ¬ m > d := by omega
  clear hE q1 q2 q3 hmd hR0
  go_enter Try.func6, Try.ntmps6
  go_wp2_with fail
  generalize (w.alloc (.cells #[.int .i64 off, .slice A1 week.length c1, .slice A2 closed.length c2] 24)) = w1 at HX1 HB1 ⊢
  have d0 : w1.cell? ⟨w.heap.size, 0, none⟩ = some (.int .i64 off) := (blk_cell HX1.out.blk 0).trans rfl
  have d1 : w1.cell? ⟨w.heap.size, 1, none⟩ = some (.slice A1 week.length c1) := (blk_cell HX1.out.blk 1).trans rfl
  have d2 : w1.cell? ⟨w.heap.size, 2, none⟩ = some (.slice A2 closed.length c2) := (blk_cell HX1.out.blk 2).trans rfl
  go_wp2_with (first | (go_at_call 10; with_reducible refine (light_any w1 HX1.out.h1 HX1.out.h2).mono ?_; rintro e w2 ⟨rfl, hb⟩; rw [HL.out]; have HX2 := Aside0.mk (HX1.out.below hb); have HB2 := Aside0.mk (below_step HB1.out hb); clear hb d0 d1 d2; have d0 : w2.cell? ⟨w.heap.size, 0, none⟩ = some (.int .i64 off) := (blk_cell HX2.out.blk 0).trans rfl; have d1 : w2.cell? ⟨w.heap.size, 1, none⟩ = some (.slice A1 week.length c1) := (blk_cell HX2.out.blk 1).trans rfl; have d2 : w2.cell? ⟨w.heap.size, 2, none⟩ = some (.slice A2 closed.length c2) := (blk_cell HX2.out.blk 2).trans rfl) | (go_at_call 11; with_reducible refine (refcheck_any w2 HX2.out.h1 HX2.out.h2).mono ?_; rintro e w3 ⟨rfl, hb⟩; rw [HE.out]; have HX3 := Aside0.mk (HX2.out.below hb); have HB3 := Aside0.mk (below_step HB2.out hb); clear hb d0 d1 d2; have d0 : w3.cell? ⟨w.heap.size, 0, none⟩ = some (.int .i64 off) := (blk_cell HX3.out.blk 0).trans rfl; have d1 : w3.cell? ⟨w.heap.size, 1, none⟩ = some (.slice A1 week.length c1) := (blk_cell HX3.out.blk 1).trans rfl; have d2 : w3.cell? ⟨w.heap.size, 2, none⟩ = some (.slice A2 closed.length c2) := (blk_cell HX3.out.blk 2).trans rfl) | (go_at_call 13; with_reducible refine (calnew_ok w3 HX3.out.h1 HX3.out.h2 HE.out).mono ?_; rintro e w4 ⟨kb, ab, pb, cb, rfl, CK, hb⟩; have HX4 := Aside0.mk (HX3.out.below hb); have HB4 := Aside0.mk (below_step HB3.out hb); have HC4 := Aside0.mk CK; have HN4 : Aside0 (w3.heap.size ≤ w4.heap.size) := ⟨hb.size⟩; have HQ4 := Aside0.mk hb; clear hb CK d0 d1 d2) | (go_at_call 14; with_reducible refine (due_any (a) (P + R) w4 HC4.out HN4.out (by first | assumption | omega)).mono ?_; rintro e w5 ⟨rfl, CK, UK⟩; rw [HD1.out]; have HC5 := Aside0.mk CK; have HN5 : Aside0 (w3.heap.size ≤ w5.heap.size) := ⟨Nat.le_trans HN4.out UK.size⟩; have HB5 := Aside0.mk (upd_below HB4.out UK (Nat.le_trans HB3.out.size HC4.out.plan.ncb) HB4.out.size); have HQ5 := Aside0.mk (upd_below HQ4.out UK HC4.out.plan.ncb HQ4.out.size); clear CK UK) | (go_at_call 14; with_reducible refine (due_any (a) (P) w5 HC5.out HN5.out (by first | assumption | omega)).mono ?_; rintro e w6 ⟨rfl, CK, UK⟩; rw [HD2.out]; have HC6 := Aside0.mk CK; have HN6 : Aside0 (w3.heap.size ≤ w6.heap.size) := ⟨Nat.le_trans HN5.out UK.size⟩; have HB6 := Aside0.mk (upd_below HB5.out UK (Nat.le_trans HB3.out.size HC5.out.plan.ncb) HB5.out.size); have HQ6 := Aside0.mk (upd_below HQ5.out UK HC5.out.plan.ncb HQ5.out.size); clear CK UK) | (go_at_call 14; with_reducible refine (due_any (m) (R) w6 HC6.out HN6.out (by first | assumption | omega)).mono ?_; rintro e w7 ⟨rfl, CK, UK⟩; rw [HD3.out]; have HC7 := Aside0.mk CK; have HN7 : Aside0 (w3.heap.size ≤ w7.heap.size) := ⟨Nat.le_trans HN6.out UK.size⟩; have HB7 := Aside0.mk (upd_below HB6.out UK (Nat.le_trans HB3.out.size HC6.out.plan.ncb) HB6.out.size); have HQ7 := Aside0.mk (upd_below HQ6.out UK HC6.out.plan.ncb HQ6.out.size); clear CK UK) | (go_at_call 12; with_reducible refine (lives_any w7).mono ?_; rintro e w99 ⟨rfl, hb⟩; have HB99 := Aside0.mk (below_step HB7.out hb); clear hb))
  go_ret
  exact ⟨rfl, HB99.out⟩

set_option maxHeartbeats 4000000 in
set_option maxRecDepth 100000 in
theorem adds_pos1 (a P R now : Int) (w : World) (h1 : Kd.C k57 w A1 week.length week ∧ week.length ≤ c1) (h2 : Kd.C k57 w A2 closed.length closed ∧ closed.length ≤ c2) (hL : lightP week closed = true) (hE : calErr off week closed = 0) (t0 : ¬ P < 0) (t1 : ¬ R < 0) (t2 : ¬ P > 4503599627370496) (t3 : ¬ R > 4503599627370496) (m d : Int) (a0 : 0 ≤ a) (q1 : dueP off week closed a (P + R) = (d, 0)) (q2 : dueP off week closed a P = (m, 0)) (hmd : m ≤ d) (hdH : d ≤ 1125899906842624) (hR0 : 0 < R) (q3 : dueP off week closed m R = (d, 0)) (hn0 : ¬ now < a) (hn : now ≥ d) :
    Calls Try.prog 6 #[.agg #[.int .i64 off, .slice A1 week.length c1, .slice A2 closed.length c2], .int .i64 a, .int .i64 P, .int .i64 R, .int .i64 now] w fun e w' => e = .returned (.bool true) ∧ Below w.heap.size w w' := by
  have HX1 := Aside0.mk (CalBox.new (off := off) w h1 h2)
  have HB1 : Aside0 (Below w.heap.size w (w.alloc (.cells #[.int .i64 off, .slice A1 week.length c1, .slice A2 closed.length c2] 24))) := ⟨below_alloc (Below.refl _ _) _⟩
  have HL := Aside0.mk hL
  have hnot : ∀ (x : Bool) (w : World), (Op.unary .not (.bool x)).run Try.prog w = .ok (.bool (!x)) w := fun _ _ => rfl
  clear h1 h2 hL
  have HE := Aside0.mk hE
  have HD1 := Aside0.mk q1
  have HD2 := Aside0.mk q2
  have HD3 := Aside0.mk q3
  have hwr : wrap64 (P + R) = P + R := wrap_id (by omega) (by omega)
  have hPR : 0 ≤ P + R ∧ P + R ≤ 9007199254740992 := by omega
  have hR1 : (R == 0) = false := beq_eq_false_iff_ne.mpr (by omega)
  have hR2 : R > 0 := by omega
  have hmd2 : ¬ m > d := by omega
  clear hE q1 q2 q3 hmd hR0
  go_enter Try.func6, Try.ntmps6
  go_wp2_with fail
  generalize (w.alloc (.cells #[.int .i64 off, .slice A1 week.length c1, .slice A2 closed.length c2] 24)) = w1 at HX1 HB1 ⊢
  have d0 : w1.cell? ⟨w.heap.size, 0, none⟩ = some (.int .i64 off) := (blk_cell HX1.out.blk 0).trans rfl
  have d1 : w1.cell? ⟨w.heap.size, 1, none⟩ = some (.slice A1 week.length c1) := (blk_cell HX1.out.blk 1).trans rfl
  have d2 : w1.cell? ⟨w.heap.size, 2, none⟩ = some (.slice A2 closed.length c2) := (blk_cell HX1.out.blk 2).trans rfl
  go_wp2_with (first | (go_at_call 10; with_reducible refine (light_any w1 HX1.out.h1 HX1.out.h2).mono ?_; rintro e w2 ⟨rfl, hb⟩; rw [HL.out]; have HX2 := Aside0.mk (HX1.out.below hb); have HB2 := Aside0.mk (below_step HB1.out hb); clear hb d0 d1 d2; have d0 : w2.cell? ⟨w.heap.size, 0, none⟩ = some (.int .i64 off) := (blk_cell HX2.out.blk 0).trans rfl; have d1 : w2.cell? ⟨w.heap.size, 1, none⟩ = some (.slice A1 week.length c1) := (blk_cell HX2.out.blk 1).trans rfl; have d2 : w2.cell? ⟨w.heap.size, 2, none⟩ = some (.slice A2 closed.length c2) := (blk_cell HX2.out.blk 2).trans rfl) | (go_at_call 11; with_reducible refine (refcheck_any w2 HX2.out.h1 HX2.out.h2).mono ?_; rintro e w3 ⟨rfl, hb⟩; rw [HE.out]; have HX3 := Aside0.mk (HX2.out.below hb); have HB3 := Aside0.mk (below_step HB2.out hb); clear hb d0 d1 d2; have d0 : w3.cell? ⟨w.heap.size, 0, none⟩ = some (.int .i64 off) := (blk_cell HX3.out.blk 0).trans rfl; have d1 : w3.cell? ⟨w.heap.size, 1, none⟩ = some (.slice A1 week.length c1) := (blk_cell HX3.out.blk 1).trans rfl; have d2 : w3.cell? ⟨w.heap.size, 2, none⟩ = some (.slice A2 closed.length c2) := (blk_cell HX3.out.blk 2).trans rfl) | (go_at_call 13; with_reducible refine (calnew_ok w3 HX3.out.h1 HX3.out.h2 HE.out).mono ?_; rintro e w4 ⟨kb, ab, pb, cb, rfl, CK, hb⟩; have HX4 := Aside0.mk (HX3.out.below hb); have HB4 := Aside0.mk (below_step HB3.out hb); have HC4 := Aside0.mk CK; have HN4 : Aside0 (w3.heap.size ≤ w4.heap.size) := ⟨hb.size⟩; have HQ4 := Aside0.mk hb; clear hb CK d0 d1 d2) | (go_at_call 14; with_reducible refine (due_any (a) (P + R) w4 HC4.out HN4.out (by first | assumption | omega)).mono ?_; rintro e w5 ⟨rfl, CK, UK⟩; rw [HD1.out]; have HC5 := Aside0.mk CK; have HN5 : Aside0 (w3.heap.size ≤ w5.heap.size) := ⟨Nat.le_trans HN4.out UK.size⟩; have HB5 := Aside0.mk (upd_below HB4.out UK (Nat.le_trans HB3.out.size HC4.out.plan.ncb) HB4.out.size); have HQ5 := Aside0.mk (upd_below HQ4.out UK HC4.out.plan.ncb HQ4.out.size); clear CK UK) | (go_at_call 14; with_reducible refine (due_any (a) (P) w5 HC5.out HN5.out (by first | assumption | omega)).mono ?_; rintro e w6 ⟨rfl, CK, UK⟩; rw [HD2.out]; have HC6 := Aside0.mk CK; have HN6 : Aside0 (w3.heap.size ≤ w6.heap.size) := ⟨Nat.le_trans HN5.out UK.size⟩; have HB6 := Aside0.mk (upd_below HB5.out UK (Nat.le_trans HB3.out.size HC5.out.plan.ncb) HB5.out.size); have HQ6 := Aside0.mk (upd_below HQ5.out UK HC5.out.plan.ncb HQ5.out.size); clear CK UK) | (go_at_call 14; with_reducible refine (due_any (m) (R) w6 HC6.out HN6.out (by first | assumption | omega)).mono ?_; rintro e w7 ⟨rfl, CK, UK⟩; rw [HD3.out]; have HC7 := Aside0.mk CK; have HN7 : Aside0 (w3.heap.size ≤ w7.heap.size) := ⟨Nat.le_trans HN6.out UK.size⟩; have HB7 := Aside0.mk (upd_below HB6.out UK (Nat.le_trans HB3.out.size HC6.out.plan.ncb) HB6.out.size); have HQ7 := Aside0.mk (upd_below HQ6.out UK HC6.out.plan.ncb HQ6.out.size); clear CK UK) | (go_at_call 12; with_reducible refine (lives_any w7).mono ?_; rintro e w99 ⟨rfl, hb⟩; have HB99 := Aside0.mk (below_step HB7.out hb); clear hb))
  go_ret
  exact ⟨rfl, HB99.out⟩

set_option maxHeartbeats 4000000 in
set_option maxRecDepth 100000 in
theorem adds_pos2 (a P R now : Int) (w : World) (h1 : Kd.C k57 w A1 week.length week ∧ week.length ≤ c1) (h2 : Kd.C k57 w A2 closed.length closed ∧ closed.length ≤ c2) (hL : lightP week closed = true) (hE : calErr off week closed = 0) (t0 : ¬ P < 0) (t1 : ¬ R < 0) (t2 : ¬ P > 4503599627370496) (t3 : ¬ R > 4503599627370496) (m d : Int) (a0 : 0 ≤ a) (q1 : dueP off week closed a (P + R) = (d, 0)) (q2 : dueP off week closed a P = (m, 0)) (hmd : m ≤ d) (hdH : d ≤ 1125899906842624) (hR0 : 0 < R) (q3 : dueP off week closed m R = (d, 0)) (hn0 : ¬ now < a) (hn : ¬ now ≥ d) (l : Int) (q5 : mx (P + R - elapP off week closed a now) 0 = l) (l0 : 0 < l) (l1 : l ≤ P + R) (q4 : dueP off week closed now l = (d, 0)) (q6 : 0 ≤ elapP off week closed a now) :
    Calls Try.prog 6 #[.agg #[.int .i64 off, .slice A1 week.length c1, .slice A2 closed.length c2], .int .i64 a, .int .i64 P, .int .i64 R, .int .i64 now] w fun e w' => e = .returned (.bool true) ∧ Below w.heap.size w w' := by
  have HX1 := Aside0.mk (CalBox.new (off := off) w h1 h2)
  have HB1 : Aside0 (Below w.heap.size w (w.alloc (.cells #[.int .i64 off, .slice A1 week.length c1, .slice A2 closed.length c2] 24))) := ⟨below_alloc (Below.refl _ _) _⟩
  have HL := Aside0.mk hL
  have hnot : ∀ (x : Bool) (w : World), (Op.unary .not (.bool x)).run Try.prog w = .ok (.bool (!x)) w := fun _ _ => rfl
  clear h1 h2 hL
  have HE := Aside0.mk hE
  have HD1 := Aside0.mk q1
  have HD2 := Aside0.mk q2
  have HD3 := Aside0.mk q3
  have hwr : wrap64 (P + R) = P + R := wrap_id (by omega) (by omega)
  have hPR : 0 ≤ P + R ∧ P + R ≤ 9007199254740992 := by omega
  have hR1 : (R == 0) = false := beq_eq_false_iff_ne.mpr (by omega)
  have hR2 : R > 0 := by omega
  have hmd2 : ¬ m > d := by omega
  have HD4 := Aside0.mk q4
  have HL0 := Aside0.mk q5
  have HE0 := Aside0.mk q6
  clear hE q1 q2 q3 hmd hR0 q4 q5 q6
  go_enter Try.func6, Try.ntmps6
  go_wp2_with fail
  generalize (w.alloc (.cells #[.int .i64 off, .slice A1 week.length c1, .slice A2 closed.length c2] 24)) = w1 at HX1 HB1 ⊢
  have d0 : w1.cell? ⟨w.heap.size, 0, none⟩ = some (.int .i64 off) := (blk_cell HX1.out.blk 0).trans rfl
  have d1 : w1.cell? ⟨w.heap.size, 1, none⟩ = some (.slice A1 week.length c1) := (blk_cell HX1.out.blk 1).trans rfl
  have d2 : w1.cell? ⟨w.heap.size, 2, none⟩ = some (.slice A2 closed.length c2) := (blk_cell HX1.out.blk 2).trans rfl
  go_wp2_with (first | (go_at_call 10; with_reducible refine (light_any w1 HX1.out.h1 HX1.out.h2).mono ?_; rintro e w2 ⟨rfl, hb⟩; rw [HL.out]; have HX2 := Aside0.mk (HX1.out.below hb); have HB2 := Aside0.mk (below_step HB1.out hb); clear hb d0 d1 d2; have d0 : w2.cell? ⟨w.heap.size, 0, none⟩ = some (.int .i64 off) := (blk_cell HX2.out.blk 0).trans rfl; have d1 : w2.cell? ⟨w.heap.size, 1, none⟩ = some (.slice A1 week.length c1) := (blk_cell HX2.out.blk 1).trans rfl; have d2 : w2.cell? ⟨w.heap.size, 2, none⟩ = some (.slice A2 closed.length c2) := (blk_cell HX2.out.blk 2).trans rfl) | (go_at_call 11; with_reducible refine (refcheck_any w2 HX2.out.h1 HX2.out.h2).mono ?_; rintro e w3 ⟨rfl, hb⟩; rw [HE.out]; have HX3 := Aside0.mk (HX2.out.below hb); have HB3 := Aside0.mk (below_step HB2.out hb); clear hb d0 d1 d2; have d0 : w3.cell? ⟨w.heap.size, 0, none⟩ = some (.int .i64 off) := (blk_cell HX3.out.blk 0).trans rfl; have d1 : w3.cell? ⟨w.heap.size, 1, none⟩ = some (.slice A1 week.length c1) := (blk_cell HX3.out.blk 1).trans rfl; have d2 : w3.cell? ⟨w.heap.size, 2, none⟩ = some (.slice A2 closed.length c2) := (blk_cell HX3.out.blk 2).trans rfl) | (go_at_call 13; with_reducible refine (calnew_ok w3 HX3.out.h1 HX3.out.h2 HE.out).mono ?_; rintro e w4 ⟨kb, ab, pb, cb, rfl, CK, hb⟩; have HX4 := Aside0.mk (HX3.out.below hb); have HB4 := Aside0.mk (below_step HB3.out hb); have HC4 := Aside0.mk CK; have HN4 : Aside0 (w3.heap.size ≤ w4.heap.size) := ⟨hb.size⟩; have HQ4 := Aside0.mk hb; clear hb CK d0 d1 d2) | (go_at_call 14; with_reducible refine (due_any (a) (P + R) w4 HC4.out HN4.out (by first | assumption | omega)).mono ?_; rintro e w5 ⟨rfl, CK, UK⟩; rw [HD1.out]; have HC5 := Aside0.mk CK; have HN5 : Aside0 (w3.heap.size ≤ w5.heap.size) := ⟨Nat.le_trans HN4.out UK.size⟩; have HB5 := Aside0.mk (upd_below HB4.out UK (Nat.le_trans HB3.out.size HC4.out.plan.ncb) HB4.out.size); have HQ5 := Aside0.mk (upd_below HQ4.out UK HC4.out.plan.ncb HQ4.out.size); clear CK UK) | (go_at_call 14; with_reducible refine (due_any (a) (P) w5 HC5.out HN5.out (by first | assumption | omega)).mono ?_; rintro e w6 ⟨rfl, CK, UK⟩; rw [HD2.out]; have HC6 := Aside0.mk CK; have HN6 : Aside0 (w3.heap.size ≤ w6.heap.size) := ⟨Nat.le_trans HN5.out UK.size⟩; have HB6 := Aside0.mk (upd_below HB5.out UK (Nat.le_trans HB3.out.size HC5.out.plan.ncb) HB5.out.size); have HQ6 := Aside0.mk (upd_below HQ5.out UK HC5.out.plan.ncb HQ5.out.size); clear CK UK) | (go_at_call 14; with_reducible refine (due_any (m) (R) w6 HC6.out HN6.out (by first | assumption | omega)).mono ?_; rintro e w7 ⟨rfl, CK, UK⟩; rw [HD3.out]; have HC7 := Aside0.mk CK; have HN7 : Aside0 (w3.heap.size ≤ w7.heap.size) := ⟨Nat.le_trans HN6.out UK.size⟩; have HB7 := Aside0.mk (upd_below HB6.out UK (Nat.le_trans HB3.out.size HC6.out.plan.ncb) HB6.out.size); have HQ7 := Aside0.mk (upd_below HQ6.out UK HC6.out.plan.ncb HQ6.out.size); clear CK UK) | (go_at_call 23; with_reducible refine (rest_any (a) (P + R) (now) w7 HC7.out HN7.out  (by omega) (by omega) (by omega) (by omega) (by omega) HE0.out).mono ?_; rintro e w8 ⟨rfl, CK, UK⟩; rw [HL0.out]; have HC8 := Aside0.mk CK; have HN8 : Aside0 (w3.heap.size ≤ w8.heap.size) := ⟨Nat.le_trans HN7.out UK.size⟩; have HB8 := Aside0.mk (upd_below HB7.out UK (Nat.le_trans HB3.out.size HC7.out.plan.ncb) HB7.out.size); have HQ8 := Aside0.mk (upd_below HQ7.out UK HC7.out.plan.ncb HQ7.out.size); clear CK UK) | (go_at_call 14; with_reducible refine (due_any (now) (l) w8 HC8.out HN8.out (by first | assumption | omega)).mono ?_; rintro e w9 ⟨rfl, CK, UK⟩; rw [HD4.out]; have HC9 := Aside0.mk CK; have HN9 : Aside0 (w3.heap.size ≤ w9.heap.size) := ⟨Nat.le_trans HN8.out UK.size⟩; have HB9 := Aside0.mk (upd_below HB8.out UK (Nat.le_trans HB3.out.size HC8.out.plan.ncb) HB8.out.size); have HQ9 := Aside0.mk (upd_below HQ8.out UK HC8.out.plan.ncb HQ8.out.size); clear CK UK) | (go_at_call 12; with_reducible refine (lives_any w9).mono ?_; rintro e w99 ⟨rfl, hb⟩; have HB99 := Aside0.mk (below_step HB9.out hb); clear hb))
  go_ret
  exact ⟨rfl, HB99.out⟩

set_option maxHeartbeats 4000000 in
set_option maxRecDepth 100000 in
theorem adds_nul0 (a P R now : Int) (w : World) (h1 : Kd.C k57 w A1 week.length week ∧ week.length ≤ c1) (h2 : Kd.C k57 w A2 closed.length closed ∧ closed.length ≤ c2) (hL : lightP week closed = true) (hE : calErr off week closed = 0) (t0 : ¬ P < 0) (t1 : ¬ R < 0) (t2 : ¬ P > 4503599627370496) (t3 : ¬ R > 4503599627370496) (m d : Int) (a0 : 0 ≤ a) (q1 : dueP off week closed a (P + R) = (d, 0)) (q2 : dueP off week closed a P = (m, 0)) (hmd : m ≤ d) (hdH : d ≤ 1125899906842624) (hR0 : R = 0) (q3 : dueP off week closed m R = (m, 0)) (hn : now < a) :
    Calls Try.prog 6 #[.agg #[.int .i64 off, .slice A1 week.length c1, .slice A2 closed.length c2], .int .i64 a, .int .i64 P, .int .i64 R, .int .i64 now] w fun e w' => e = .returned (.bool true) ∧ Below w.heap.size w w' := by
  have HX1 := Aside0.mk (CalBox.new (off := off) w h1 h2)
  have HB1 : Aside0 (Below w.heap.size w (w.alloc (.cells #[.int .i64 off, .slice A1 week.length c1, .slice A2 closed.length c2] 24))) := ⟨below_alloc (Below.refl _ _) _⟩
  have HL := Aside0.mk hL
  have hnot : ∀ (x : Bool) (w : World), (Op.unary .not (.bool x)).run Try.prog w = .ok (.bool (!x)) w := fun _ _ => rfl
  clear h1 h2 hL
  have HE := Aside0.mk hE
  have HD1 := Aside0.mk q1
  have HD2 := Aside0.mk q2
  have HD3 := Aside0.mk q3
  have hwr : wrap64 (P + R) = P + R := wrap_id (by omega) (by omega)
  have hPR : 0 ≤ P + R ∧ P + R ≤ 9007199254740992 := by omega
  have hR1 : (R == 0) = true := beq_iff_eq.mpr hR0
  have hR2 : ¬ R > 0 := by omega
  have hmd2 : ¬ m > d := by omega
  clear hE q1 q2 q3 hmd hR0
  go_enter Try.func6, Try.ntmps6
  go_wp2_with fail
  generalize (w.alloc (.cells #[.int .i64 off, .slice A1 week.length c1, .slice A2 closed.length c2] 24)) = w1 at HX1 HB1 ⊢
  have d0 : w1.cell? ⟨w.heap.size, 0, none⟩ = some (.int .i64 off) := (blk_cell HX1.out.blk 0).trans rfl
  have d1 : w1.cell? ⟨w.heap.size, 1, none⟩ = some (.slice A1 week.length c1) := (blk_cell HX1.out.blk 1).trans rfl
  have d2 : w1.cell? ⟨w.heap.size, 2, none⟩ = some (.slice A2 closed.length c2) := (blk_cell HX1.out.blk 2).trans rfl
  go_wp2_with (first | (go_at_call 10; with_reducible refine (light_any w1 HX1.out.h1 HX1.out.h2).mono ?_; rintro e w2 ⟨rfl, hb⟩; rw [HL.out]; have HX2 := Aside0.mk (HX1.out.below hb); have HB2 := Aside0.mk (below_step HB1.out hb); clear hb d0 d1 d2; have d0 : w2.cell? ⟨w.heap.size, 0, none⟩ = some (.int .i64 off) := (blk_cell HX2.out.blk 0).trans rfl; have d1 : w2.cell? ⟨w.heap.size, 1, none⟩ = some (.slice A1 week.length c1) := (blk_cell HX2.out.blk 1).trans rfl; have d2 : w2.cell? ⟨w.heap.size, 2, none⟩ = some (.slice A2 closed.length c2) := (blk_cell HX2.out.blk 2).trans rfl) | (go_at_call 11; with_reducible refine (refcheck_any w2 HX2.out.h1 HX2.out.h2).mono ?_; rintro e w3 ⟨rfl, hb⟩; rw [HE.out]; have HX3 := Aside0.mk (HX2.out.below hb); have HB3 := Aside0.mk (below_step HB2.out hb); clear hb d0 d1 d2; have d0 : w3.cell? ⟨w.heap.size, 0, none⟩ = some (.int .i64 off) := (blk_cell HX3.out.blk 0).trans rfl; have d1 : w3.cell? ⟨w.heap.size, 1, none⟩ = some (.slice A1 week.length c1) := (blk_cell HX3.out.blk 1).trans rfl; have d2 : w3.cell? ⟨w.heap.size, 2, none⟩ = some (.slice A2 closed.length c2) := (blk_cell HX3.out.blk 2).trans rfl) | (go_at_call 13; with_reducible refine (calnew_ok w3 HX3.out.h1 HX3.out.h2 HE.out).mono ?_; rintro e w4 ⟨kb, ab, pb, cb, rfl, CK, hb⟩; have HX4 := Aside0.mk (HX3.out.below hb); have HB4 := Aside0.mk (below_step HB3.out hb); have HC4 := Aside0.mk CK; have HN4 : Aside0 (w3.heap.size ≤ w4.heap.size) := ⟨hb.size⟩; have HQ4 := Aside0.mk hb; clear hb CK d0 d1 d2) | (go_at_call 14; with_reducible refine (due_any (a) (P + R) w4 HC4.out HN4.out (by first | assumption | omega)).mono ?_; rintro e w5 ⟨rfl, CK, UK⟩; rw [HD1.out]; have HC5 := Aside0.mk CK; have HN5 : Aside0 (w3.heap.size ≤ w5.heap.size) := ⟨Nat.le_trans HN4.out UK.size⟩; have HB5 := Aside0.mk (upd_below HB4.out UK (Nat.le_trans HB3.out.size HC4.out.plan.ncb) HB4.out.size); have HQ5 := Aside0.mk (upd_below HQ4.out UK HC4.out.plan.ncb HQ4.out.size); clear CK UK) | (go_at_call 14; with_reducible refine (due_any (a) (P) w5 HC5.out HN5.out (by first | assumption | omega)).mono ?_; rintro e w6 ⟨rfl, CK, UK⟩; rw [HD2.out]; have HC6 := Aside0.mk CK; have HN6 : Aside0 (w3.heap.size ≤ w6.heap.size) := ⟨Nat.le_trans HN5.out UK.size⟩; have HB6 := Aside0.mk (upd_below HB5.out UK (Nat.le_trans HB3.out.size HC5.out.plan.ncb) HB5.out.size); have HQ6 := Aside0.mk (upd_below HQ5.out UK HC5.out.plan.ncb HQ5.out.size); clear CK UK) | (go_at_call 14; with_reducible refine (due_any (m) (R) w6 HC6.out HN6.out (by first | assumption | omega)).mono ?_; rintro e w7 ⟨rfl, CK, UK⟩; rw [HD3.out]; have HC7 := Aside0.mk CK; have HN7 : Aside0 (w3.heap.size ≤ w7.heap.size) := ⟨Nat.le_trans HN6.out UK.size⟩; have HB7 := Aside0.mk (upd_below HB6.out UK (Nat.le_trans HB3.out.size HC6.out.plan.ncb) HB6.out.size); have HQ7 := Aside0.mk (upd_below HQ6.out UK HC6.out.plan.ncb HQ6.out.size); clear CK UK) | (go_at_call 12; with_reducible refine (lives_any w7).mono ?_; rintro e w99 ⟨rfl, hb⟩; have HB99 := Aside0.mk (below_step HB7.out hb); clear hb))
  go_ret
  exact ⟨rfl, HB99.out⟩

set_option maxHeartbeats 4000000 in
set_option maxRecDepth 100000 in
theorem adds_nul1 (a P R now : Int) (w : World) (h1 : Kd.C k57 w A1 week.length week ∧ week.length ≤ c1) (h2 : Kd.C k57 w A2 closed.length closed ∧ closed.length ≤ c2) (hL : lightP week closed = true) (hE : calErr off week closed = 0) (t0 : ¬ P < 0) (t1 : ¬ R < 0) (t2 : ¬ P > 4503599627370496) (t3 : ¬ R > 4503599627370496) (m d : Int) (a0 : 0 ≤ a) (q1 : dueP off week closed a (P + R) = (d, 0)) (q2 : dueP off week closed a P = (m, 0)) (hmd : m ≤ d) (hdH : d ≤ 1125899906842624) (hR0 : R = 0) (q3 : dueP off week closed m R = (m, 0)) (hn0 : ¬ now < a) (hn : now ≥ d) :
    Calls Try.prog 6 #[.agg #[.int .i64 off, .slice A1 week.length c1, .slice A2 closed.length c2], .int .i64 a, .int .i64 P, .int .i64 R, .int .i64 now] w fun e w' => e = .returned (.bool true) ∧ Below w.heap.size w w' := by
  have HX1 := Aside0.mk (CalBox.new (off := off) w h1 h2)
  have HB1 : Aside0 (Below w.heap.size w (w.alloc (.cells #[.int .i64 off, .slice A1 week.length c1, .slice A2 closed.length c2] 24))) := ⟨below_alloc (Below.refl _ _) _⟩
  have HL := Aside0.mk hL
  have hnot : ∀ (x : Bool) (w : World), (Op.unary .not (.bool x)).run Try.prog w = .ok (.bool (!x)) w := fun _ _ => rfl
  clear h1 h2 hL
  have HE := Aside0.mk hE
  have HD1 := Aside0.mk q1
  have HD2 := Aside0.mk q2
  have HD3 := Aside0.mk q3
  have hwr : wrap64 (P + R) = P + R := wrap_id (by omega) (by omega)
  have hPR : 0 ≤ P + R ∧ P + R ≤ 9007199254740992 := by omega
  have hR1 : (R == 0) = true := beq_iff_eq.mpr hR0
  have hR2 : ¬ R > 0 := by omega
  have hmd2 : ¬ m > d := by omega
  clear hE q1 q2 q3 hmd hR0
  go_enter Try.func6, Try.ntmps6
  go_wp2_with fail
  generalize (w.alloc (.cells #[.int .i64 off, .slice A1 week.length c1, .slice A2 closed.length c2] 24)) = w1 at HX1 HB1 ⊢
  have d0 : w1.cell? ⟨w.heap.size, 0, none⟩ = some (.int .i64 off) := (blk_cell HX1.out.blk 0).trans rfl
  have d1 : w1.cell? ⟨w.heap.size, 1, none⟩ = some (.slice A1 week.length c1) := (blk_cell HX1.out.blk 1).trans rfl
  have d2 : w1.cell? ⟨w.heap.size, 2, none⟩ = some (.slice A2 closed.length c2) := (blk_cell HX1.out.blk 2).trans rfl
  go_wp2_with (first | (go_at_call 10; with_reducible refine (light_any w1 HX1.out.h1 HX1.out.h2).mono ?_; rintro e w2 ⟨rfl, hb⟩; rw [HL.out]; have HX2 := Aside0.mk (HX1.out.below hb); have HB2 := Aside0.mk (below_step HB1.out hb); clear hb d0 d1 d2; have d0 : w2.cell? ⟨w.heap.size, 0, none⟩ = some (.int .i64 off) := (blk_cell HX2.out.blk 0).trans rfl; have d1 : w2.cell? ⟨w.heap.size, 1, none⟩ = some (.slice A1 week.length c1) := (blk_cell HX2.out.blk 1).trans rfl; have d2 : w2.cell? ⟨w.heap.size, 2, none⟩ = some (.slice A2 closed.length c2) := (blk_cell HX2.out.blk 2).trans rfl) | (go_at_call 11; with_reducible refine (refcheck_any w2 HX2.out.h1 HX2.out.h2).mono ?_; rintro e w3 ⟨rfl, hb⟩; rw [HE.out]; have HX3 := Aside0.mk (HX2.out.below hb); have HB3 := Aside0.mk (below_step HB2.out hb); clear hb d0 d1 d2; have d0 : w3.cell? ⟨w.heap.size, 0, none⟩ = some (.int .i64 off) := (blk_cell HX3.out.blk 0).trans rfl; have d1 : w3.cell? ⟨w.heap.size, 1, none⟩ = some (.slice A1 week.length c1) := (blk_cell HX3.out.blk 1).trans rfl; have d2 : w3.cell? ⟨w.heap.size, 2, none⟩ = some (.slice A2 closed.length c2) := (blk_cell HX3.out.blk 2).trans rfl) | (go_at_call 13; with_reducible refine (calnew_ok w3 HX3.out.h1 HX3.out.h2 HE.out).mono ?_; rintro e w4 ⟨kb, ab, pb, cb, rfl, CK, hb⟩; have HX4 := Aside0.mk (HX3.out.below hb); have HB4 := Aside0.mk (below_step HB3.out hb); have HC4 := Aside0.mk CK; have HN4 : Aside0 (w3.heap.size ≤ w4.heap.size) := ⟨hb.size⟩; have HQ4 := Aside0.mk hb; clear hb CK d0 d1 d2) | (go_at_call 14; with_reducible refine (due_any (a) (P + R) w4 HC4.out HN4.out (by first | assumption | omega)).mono ?_; rintro e w5 ⟨rfl, CK, UK⟩; rw [HD1.out]; have HC5 := Aside0.mk CK; have HN5 : Aside0 (w3.heap.size ≤ w5.heap.size) := ⟨Nat.le_trans HN4.out UK.size⟩; have HB5 := Aside0.mk (upd_below HB4.out UK (Nat.le_trans HB3.out.size HC4.out.plan.ncb) HB4.out.size); have HQ5 := Aside0.mk (upd_below HQ4.out UK HC4.out.plan.ncb HQ4.out.size); clear CK UK) | (go_at_call 14; with_reducible refine (due_any (a) (P) w5 HC5.out HN5.out (by first | assumption | omega)).mono ?_; rintro e w6 ⟨rfl, CK, UK⟩; rw [HD2.out]; have HC6 := Aside0.mk CK; have HN6 : Aside0 (w3.heap.size ≤ w6.heap.size) := ⟨Nat.le_trans HN5.out UK.size⟩; have HB6 := Aside0.mk (upd_below HB5.out UK (Nat.le_trans HB3.out.size HC5.out.plan.ncb) HB5.out.size); have HQ6 := Aside0.mk (upd_below HQ5.out UK HC5.out.plan.ncb HQ5.out.size); clear CK UK) | (go_at_call 14; with_reducible refine (due_any (m) (R) w6 HC6.out HN6.out (by first | assumption | omega)).mono ?_; rintro e w7 ⟨rfl, CK, UK⟩; rw [HD3.out]; have HC7 := Aside0.mk CK; have HN7 : Aside0 (w3.heap.size ≤ w7.heap.size) := ⟨Nat.le_trans HN6.out UK.size⟩; have HB7 := Aside0.mk (upd_below HB6.out UK (Nat.le_trans HB3.out.size HC6.out.plan.ncb) HB6.out.size); have HQ7 := Aside0.mk (upd_below HQ6.out UK HC6.out.plan.ncb HQ6.out.size); clear CK UK) | (go_at_call 12; with_reducible refine (lives_any w7).mono ?_; rintro e w99 ⟨rfl, hb⟩; have HB99 := Aside0.mk (below_step HB7.out hb); clear hb))
  go_ret
  exact ⟨rfl, HB99.out⟩

set_option maxHeartbeats 4000000 in
set_option maxRecDepth 100000 in
theorem adds_nul2 (a P R now : Int) (w : World) (h1 : Kd.C k57 w A1 week.length week ∧ week.length ≤ c1) (h2 : Kd.C k57 w A2 closed.length closed ∧ closed.length ≤ c2) (hL : lightP week closed = true) (hE : calErr off week closed = 0) (t0 : ¬ P < 0) (t1 : ¬ R < 0) (t2 : ¬ P > 4503599627370496) (t3 : ¬ R > 4503599627370496) (m d : Int) (a0 : 0 ≤ a) (q1 : dueP off week closed a (P + R) = (d, 0)) (q2 : dueP off week closed a P = (m, 0)) (hmd : m ≤ d) (hdH : d ≤ 1125899906842624) (hR0 : R = 0) (q3 : dueP off week closed m R = (m, 0)) (hn0 : ¬ now < a) (hn : ¬ now ≥ d) (l : Int) (q5 : mx (P + R - elapP off week closed a now) 0 = l) (l0 : 0 < l) (l1 : l ≤ P + R) (q4 : dueP off week closed now l = (d, 0)) (q6 : 0 ≤ elapP off week closed a now) :
    Calls Try.prog 6 #[.agg #[.int .i64 off, .slice A1 week.length c1, .slice A2 closed.length c2], .int .i64 a, .int .i64 P, .int .i64 R, .int .i64 now] w fun e w' => e = .returned (.bool true) ∧ Below w.heap.size w w' := by
  have HX1 := Aside0.mk (CalBox.new (off := off) w h1 h2)
  have HB1 : Aside0 (Below w.heap.size w (w.alloc (.cells #[.int .i64 off, .slice A1 week.length c1, .slice A2 closed.length c2] 24))) := ⟨below_alloc (Below.refl _ _) _⟩
  have HL := Aside0.mk hL
  have hnot : ∀ (x : Bool) (w : World), (Op.unary .not (.bool x)).run Try.prog w = .ok (.bool (!x)) w := fun _ _ => rfl
  clear h1 h2 hL
  have HE := Aside0.mk hE
  have HD1 := Aside0.mk q1
  have HD2 := Aside0.mk q2
  have HD3 := Aside0.mk q3
  have hwr : wrap64 (P + R) = P + R := wrap_id (by omega) (by omega)
  have hPR : 0 ≤ P + R ∧ P + R ≤ 9007199254740992 := by omega
  have hR1 : (R == 0) = true := beq_iff_eq.mpr hR0
  have hR2 : ¬ R > 0 := by omega
  have hmd2 : ¬ m > d := by omega
  have HD4 := Aside0.mk q4
  have HL0 := Aside0.mk q5
  have HE0 := Aside0.mk q6
  clear hE q1 q2 q3 hmd hR0 q4 q5 q6
  go_enter Try.func6, Try.ntmps6
  go_wp2_with fail
  generalize (w.alloc (.cells #[.int .i64 off, .slice A1 week.length c1, .slice A2 closed.length c2] 24)) = w1 at HX1 HB1 ⊢
  have d0 : w1.cell? ⟨w.heap.size, 0, none⟩ = some (.int .i64 off) := (blk_cell HX1.out.blk 0).trans rfl
  have d1 : w1.cell? ⟨w.heap.size, 1, none⟩ = some (.slice A1 week.length c1) := (blk_cell HX1.out.blk 1).trans rfl
  have d2 : w1.cell? ⟨w.heap.size, 2, none⟩ = some (.slice A2 closed.length c2) := (blk_cell HX1.out.blk 2).trans rfl
  go_wp2_with (first | (go_at_call 10; with_reducible refine (light_any w1 HX1.out.h1 HX1.out.h2).mono ?_; rintro e w2 ⟨rfl, hb⟩; rw [HL.out]; have HX2 := Aside0.mk (HX1.out.below hb); have HB2 := Aside0.mk (below_step HB1.out hb); clear hb d0 d1 d2; have d0 : w2.cell? ⟨w.heap.size, 0, none⟩ = some (.int .i64 off) := (blk_cell HX2.out.blk 0).trans rfl; have d1 : w2.cell? ⟨w.heap.size, 1, none⟩ = some (.slice A1 week.length c1) := (blk_cell HX2.out.blk 1).trans rfl; have d2 : w2.cell? ⟨w.heap.size, 2, none⟩ = some (.slice A2 closed.length c2) := (blk_cell HX2.out.blk 2).trans rfl) | (go_at_call 11; with_reducible refine (refcheck_any w2 HX2.out.h1 HX2.out.h2).mono ?_; rintro e w3 ⟨rfl, hb⟩; rw [HE.out]; have HX3 := Aside0.mk (HX2.out.below hb); have HB3 := Aside0.mk (below_step HB2.out hb); clear hb d0 d1 d2; have d0 : w3.cell? ⟨w.heap.size, 0, none⟩ = some (.int .i64 off) := (blk_cell HX3.out.blk 0).trans rfl; have d1 : w3.cell? ⟨w.heap.size, 1, none⟩ = some (.slice A1 week.length c1) := (blk_cell HX3.out.blk 1).trans rfl; have d2 : w3.cell? ⟨w.heap.size, 2, none⟩ = some (.slice A2 closed.length c2) := (blk_cell HX3.out.blk 2).trans rfl) | (go_at_call 13; with_reducible refine (calnew_ok w3 HX3.out.h1 HX3.out.h2 HE.out).mono ?_; rintro e w4 ⟨kb, ab, pb, cb, rfl, CK, hb⟩; have HX4 := Aside0.mk (HX3.out.below hb); have HB4 := Aside0.mk (below_step HB3.out hb); have HC4 := Aside0.mk CK; have HN4 : Aside0 (w3.heap.size ≤ w4.heap.size) := ⟨hb.size⟩; have HQ4 := Aside0.mk hb; clear hb CK d0 d1 d2) | (go_at_call 14; with_reducible refine (due_any (a) (P + R) w4 HC4.out HN4.out (by first | assumption | omega)).mono ?_; rintro e w5 ⟨rfl, CK, UK⟩; rw [HD1.out]; have HC5 := Aside0.mk CK; have HN5 : Aside0 (w3.heap.size ≤ w5.heap.size) := ⟨Nat.le_trans HN4.out UK.size⟩; have HB5 := Aside0.mk (upd_below HB4.out UK (Nat.le_trans HB3.out.size HC4.out.plan.ncb) HB4.out.size); have HQ5 := Aside0.mk (upd_below HQ4.out UK HC4.out.plan.ncb HQ4.out.size); clear CK UK) | (go_at_call 14; with_reducible refine (due_any (a) (P) w5 HC5.out HN5.out (by first | assumption | omega)).mono ?_; rintro e w6 ⟨rfl, CK, UK⟩; rw [HD2.out]; have HC6 := Aside0.mk CK; have HN6 : Aside0 (w3.heap.size ≤ w6.heap.size) := ⟨Nat.le_trans HN5.out UK.size⟩; have HB6 := Aside0.mk (upd_below HB5.out UK (Nat.le_trans HB3.out.size HC5.out.plan.ncb) HB5.out.size); have HQ6 := Aside0.mk (upd_below HQ5.out UK HC5.out.plan.ncb HQ5.out.size); clear CK UK) | (go_at_call 14; with_reducible refine (due_any (m) (R) w6 HC6.out HN6.out (by first | assumption | omega)).mono ?_; rintro e w7 ⟨rfl, CK, UK⟩; rw [HD3.out]; have HC7 := Aside0.mk CK; have HN7 : Aside0 (w3.heap.size ≤ w7.heap.size) := ⟨Nat.le_trans HN6.out UK.size⟩; have HB7 := Aside0.mk (upd_below HB6.out UK (Nat.le_trans HB3.out.size HC6.out.plan.ncb) HB6.out.size); have HQ7 := Aside0.mk (upd_below HQ6.out UK HC6.out.plan.ncb HQ6.out.size); clear CK UK) | (go_at_call 23; with_reducible refine (rest_any (a) (P + R) (now) w7 HC7.out HN7.out  (by omega) (by omega) (by omega) (by omega) (by omega) HE0.out).mono ?_; rintro e w8 ⟨rfl, CK, UK⟩; rw [HL0.out]; have HC8 := Aside0.mk CK; have HN8 : Aside0 (w3.heap.size ≤ w8.heap.size) := ⟨Nat.le_trans HN7.out UK.size⟩; have HB8 := Aside0.mk (upd_below HB7.out UK (Nat.le_trans HB3.out.size HC7.out.plan.ncb) HB7.out.size); have HQ8 := Aside0.mk (upd_below HQ7.out UK HC7.out.plan.ncb HQ7.out.size); clear CK UK) | (go_at_call 14; with_reducible refine (due_any (now) (l) w8 HC8.out HN8.out (by first | assumption | omega)).mono ?_; rintro e w9 ⟨rfl, CK, UK⟩; rw [HD4.out]; have HC9 := Aside0.mk CK; have HN9 : Aside0 (w3.heap.size ≤ w9.heap.size) := ⟨Nat.le_trans HN8.out UK.size⟩; have HB9 := Aside0.mk (upd_below HB8.out UK (Nat.le_trans HB3.out.size HC8.out.plan.ncb) HB8.out.size); have HQ9 := Aside0.mk (upd_below HQ8.out UK HC8.out.plan.ncb HQ8.out.size); clear CK UK) | (go_at_call 12; with_reducible refine (lives_any w9).mono ?_; rintro e w99 ⟨rfl, hb⟩; have HB99 := Aside0.mk (below_step HB9.out hb); clear hb))
  go_ret
  exact ⟨rfl, HB99.out⟩

theorem adds_any (a P R now : Int) (w : World) (h1 : Kd.C k57 w A1 week.length week ∧ week.length ≤ c1) (h2 : Kd.C k57 w A2 closed.length closed ∧ closed.length ≤ c2) :
    Calls Try.prog 6 #[.agg #[.int .i64 off, .slice A1 week.length c1, .slice A2 closed.length c2], .int .i64 a, .int .i64 P, .int .i64 R, .int .i64 now] w fun e w' => e = .returned (.bool true) ∧ Below w.heap.size w w' := by
  cases hL : lightP week closed with
  | false => exact adds_light a P R now w h1 h2 hL
  | true =>
    by_cases hE : calErr off week closed = 0
    · by_cases t0 : P < 0
      · exact adds_r0 a P R now w h1 h2 hL hE t0
      · by_cases t1 : R < 0
        · exact adds_r1 a P R now w h1 h2 hL hE t0 t1
        · by_cases t2 : P > 4503599627370496
          · exact adds_r2 a P R now w h1 h2 hL hE t0 t1 t2
          · by_cases t3 : R > 4503599627370496
            · exact adds_r3 a P R now w h1 h2 hL hE t0 t1 t2 t3
            · by_cases hg : (dueP off week closed a (P + R)).2 = 0
              · obtain ⟨a0, m, d, q1, q2, hmd, hdH, qp, qn, ql⟩ := adds_pure (calErr_ok hE) (a := a) (P := P) (R := R) (by omega) (by omega) hg
                by_cases hR0 : 0 < R
                · by_cases hn0 : now < a
                  · exact adds_pos0 a P R now w h1 h2 hL hE t0 t1 t2 t3 m d a0 q1 q2 hmd hdH hR0 (qp hR0) hn0
                  · by_cases hn1 : now ≥ d
                    · exact adds_pos1 a P R now w h1 h2 hL hE t0 t1 t2 t3 m d a0 q1 q2 hmd hdH hR0 (qp hR0) hn0 hn1
                    · obtain ⟨q6, l, q5, l0, l1, q4⟩ := ql now (by omega) (by omega)
                      exact adds_pos2 a P R now w h1 h2 hL hE t0 t1 t2 t3 m d a0 q1 q2 hmd hdH hR0 (qp hR0) hn0 hn1 l q5 l0 l1 q4 q6
                · by_cases hn0 : now < a
                  · exact adds_nul0 a P R now w h1 h2 hL hE t0 t1 t2 t3 m d a0 q1 q2 hmd hdH (by omega) (qn (by omega)) hn0
                  · by_cases hn1 : now ≥ d
                    · exact adds_nul1 a P R now w h1 h2 hL hE t0 t1 t2 t3 m d a0 q1 q2 hmd hdH (by omega) (qn (by omega)) hn0 hn1
                    · obtain ⟨q6, l, q5, l0, l1, q4⟩ := ql now (by omega) (by omega)
                      exact adds_nul2 a P R now w h1 h2 hL hE t0 t1 t2 t3 m d a0 q1 q2 hmd hdH (by omega) (qn (by omega)) hn0 hn1 l q5 l0 l1 q4 q6
              · exact adds_no a P R now w h1 h2 hL hE t0 t1 t2 t3 hg
    · exact adds_check a P R now w h1 h2 hL hE
end Go.Proofs.Ytknlpeabmpllmaa.Own

set_option linter.unusedVariables false
set_option linter.unusedSimpArgs false
namespace Go.Proofs.Ytknlpeabmpllmaa.calendarAdds
open Go.ChangeShapes Go.WideShapes Go.ChangeAt Go.RowKit
set_option maxRecDepth 100000 in
theorem lifted (os : Os) (started : os.Started) (H : Type) (enc : TypeId × Value → H) :
    ReturnsInHanded {} Try.checked os 6 .any (Rows.calendarAddsSpec.pre6 enc Try.prog Try.f6 Rows.calendarAddsRow.domain false) (Rows.calendarAddsSpec.post enc Try.prog Try.f6 false true false false) := by
  refine returnsInHanded_of_change_sized (C := Try.checked) Own.ownKnob_none started (by kernel_rfl) Try.func6
    (ChangeSpec.witness6 (enc := enc) (C := Try.checked) false ⟨#[], #[.agg #[.int .i64 0, .slice none 0 0, .slice none 0 0], .int .i64 0, .int .i64 0, .int .i64 0, .int .i64 0], []⟩ 8 (by kernel_rfl) (by kernel_rfl) (by kernel_rfl) (by kernel_rfl)) ?_
  intro W base args ds gs before hval0 hW hcnd hsz0 _
  have hval : ∀ (j : Nat) t v, Try.f6.params[j]? = some t → args[j]? = some v → Value.okWide Try.prog W .any base t v := hval0
  have hW' := hW
  obtain ⟨p, q, hA0, hV, rfl, hfz, hnd⟩ := hW
  have hA : DataW.TrodAll enc Try.prog W 0 (fun _ => true) true Try.f6.params.toList args.toList ds p := hA0
  rw [Try.params6] at hA hval
  obtain ⟨v0, vs0, d0, ds0, p0, q0, hargs, rfl, rfl, h0, r0⟩ := trodAll_cons hA
  obtain ⟨v1, vs1, d1, ds1, p1, q1, rfl, rfl, rfl, h1, r1⟩ := trodAll_cons r0
  obtain ⟨v2, vs2, d2, ds2, p2, q2, rfl, rfl, rfl, h2, r2⟩ := trodAll_cons r1
  obtain ⟨v3, vs3, d3, ds3, p3, q3, rfl, rfl, rfl, h3, r3⟩ := trodAll_cons r2
  obtain ⟨v4, vs4, d4, ds4, p4, q4, rfl, rfl, rfl, h4, r4⟩ := trodAll_cons r3
  obtain ⟨rfl, rfl, rfl⟩ := trodAll_nil r4
  obtain rfl : args = #[v0, v1, v2, v3, v4] := by cases args; simp_all
  obtain ⟨rfl, rfl⟩ := trodVars_none hV
  have k0 := h0
  have lt0 : ∀ x ∈ p0, x.block < W.heap.size := by obtain ⟨m, hm⟩ := k0; exact DataW.trod_lt m _ _ _ hm
  obtain ⟨off0, A10, A20, c10, c20, week0, closed0, rfl, hx0, hy0⟩ := Own.cal_open (hval 0 24 v0 rfl rfl) h0
  obtain ⟨a1, rfl, rfl, rfl, w1⟩ := open_int Try.underlying2 (hval 1 2 v1 rfl rfl) h1
  obtain ⟨a2, rfl, rfl, rfl, w2⟩ := open_int Try.underlying2 (hval 2 2 v2 rfl rfl) h2
  obtain ⟨a3, rfl, rfl, rfl, w3⟩ := open_int Try.underlying2 (hval 3 2 v3 rfl rfl) h3
  obtain ⟨a4, rfl, rfl, rfl, w4⟩ := open_int Try.underlying2 (hval 4 2 v4 rfl rfl) h4
  clear hA0 hval0 hsz0
  refine (Own.adds_any a1 a2 a3 a4 W hx0 hy0).mono fun e W' ⟨he, bel⟩ => ?_
  subst he
  exact ⟨_, rfl, _, _, _, [], _, [], hW', trodAll_mk1 (shut_bool Try.underlying4 _), (trodAll_cons_mk (Below.trod Own.laidOut (by kernel_rfl) (of_decide_eq_true (by kernel_rfl)) k0 bel lt0) (trodAll_cons_mk (shut_int Try.underlying2 w1) (trodAll_cons_mk (shut_int Try.underlying2 w2) (trodAll_cons_mk (shut_int Try.underlying2 w3) (trodAll_cons_mk (shut_int Try.underlying2 w4) trodAll_mk0))))), rfl, bel.frame _, fun h => by cases h⟩
theorem over : Rows.calendarAddsRow.holds Try.pinned (OpenSpec.ofChange Rows.calendarAddsSpec) :=
  OpenClaim.holds_of_wide 6 Try.f6 rfl rfl rfl rfl rfl rfl rfl ⟨rfl, rfl, rfl, rfl, rfl⟩ rfl rfl rfl rfl rfl (by kernel_rfl) Try.func6 (by kernel_rfl)
    (of_decide_eq_true (by kernel_rfl)) (by unfold Func.isWrapper; first | (rw [if_pos (by decide +kernel)]; kernel_rfl) | (rw [if_neg (by decide +kernel)]; exact ⟨rfl, rfl⟩))
    (fun os started H enc _ => lifted os started H enc)
theorem proved : Rows.CalendarAddsSaid := over
#print axioms proved
end Go.Proofs.Ytknlpeabmpllmaa.calendarAdds
namespace Go.Proofs.Ytknlpeabmpllmaa
/-- The row, under a short name, for the claim. -/
theorem calendarAdds_holds : Rows.CalendarAddsSaid := calendarAdds.proved
end Go.Proofs.Ytknlpeabmpllmaa
