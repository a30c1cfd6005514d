/- CalendarBytes, part 4: what the claim needs of New, Clk2, Far, Free0, Math, Math2, Round, Free, Due0, Due, Pure, CalQ, CalW, Ref0, CalR, CalP, SpanS, Lives, Wr3, CalL. -/
import Derived.Test.YtepldlnmeenlbaaGreatCalendarBytes3
import Derived.Test.YtepldlnmeenlbaaGreatProg
import Derived.Below
import Derived.Deep.Draws
import Derived.Deep.AppendLies
import Derived.Maps.AppendAt
import Derived.OwnWalk
import Derived.Laws.BytesArg
import Derived.Laws.MakeOwn
import Derived.Laws.OwnMore
import Derived.Deep.OwnRows
import Derived.Tactics
import Derived.Lib.ConvBytes
import Derived.Laws.Slices
import Derived.WalkKit
import Derived.KernelRfl
import Derived.RowKit3
import Derived.Deep.LoopGhost
import Derived.Deep.QuietTactic
import Derived.BigQuiet
import Derived.WideLaws
import Derived.Deep.DeepCutAuto
import Derived.Deep.CutBlock
import Derived.Deep.RegionHeld3
import Derived.Laws.Rows
import Derived.Lib.AppendStr
import Derived.ArgAppend
import Derived.Laws.IdiomCopy
import Derived.OrdersHeld
import Derived.Laws.BitsLemmas
import Derived.RowKit
import Derived.Laws.StructEq
import Derived.Tactics2
import Derived.Defers
import Derived.Laws.Pointers
import Derived.Laws.LoneSync
import Derived.Laws.NewBlocks
import Derived.RegionTactic
import Derived.RegionCalls
import Derived.ChangeAlike
import Derived.StillTailTactics
import Derived.Outline
import Derived.Handy
import Derived.SizedLaws
import Derived.ChangeSlices
import Derived.Laws.EntriesVeiled
import Derived.WalkSpells
import Derived.RangeFuncNested
import Derived.RangeFuncBound
import Derived.RangeFuncCalls
import Derived.RangeFuncLeaves
import Derived.Shelf.Abstract
import Derived.Shelf.RegionOpen
import Derived.OwnWalkIn
import Derived.TacticsInMore
import Derived.LoopNIn
import Derived.LoopIn
import Derived.OrdersIn
set_option linter.unusedVariables false
set_option linter.unusedSimpArgs false
namespace Go.Proofs.YtepldlnmeenlbaaGreat.Own
open Go.RowKit Go.Proofs Go.Proofs.YtepldlnmeenlbaaGreatW.PrintWords Go.Proofs.YtepldlnmeenlbaaGreatW.PrintLast Go.Proofs.YtepldlnmeenlbaaGreatW.PrintMore Go.Proofs.YtepldlnmeenlbaaGreat.Base
attribute [local go_sem] max2_mx min2_mn max_two min_two
variable {w w' : World} {n kb ab pb cb : Nat} {off : Int} {week closed : List S114}
def calErr (off : Int) (week closed : List S114) : Int := if off < 0 ∨ 604800 ≤ off then 2 else if weekErr week = 0 then rowErr closed else weekErr week
set_option maxHeartbeats 1600000 in
set_option maxRecDepth 100000 in
theorem calnew_no (off : Int) (A1 A2 : Option Addr) (c1 c2 : Nat) (week closed : List S114) (w : World) (h1 : Kd.C k114 w A1 week.length week) (hc1 : week.length ≤ c1) (h2 : Kd.C k114 w A2 closed.length closed) (hc2 : closed.length ≤ c2) (he : calErr off week closed ≠ 0) :
    Calls Tryz.prog 35 #[.agg #[.int .i64 off, .slice A1 week.length c1, .slice A2 closed.length c2]] w fun e w' => e = .returned (.tuple #[.pointer none, .int .i64 (calErr off week closed)]) ∧ Below w.heap.size w w' := by
  have B0 : Aside0 (Below w.heap.size w (w.alloc (.cells #[.int .i64 off, .slice A1 week.length c1, .slice A2 closed.length c2] 24))) := ⟨below_alloc (Below.refl _ _) _⟩
  have K0 := Aside0.mk (blk_new w (.cells #[.int .i64 off, .slice A1 week.length c1, .slice A2 closed.length c2] 24))
  have H1 := Aside0.mk (Kd.C_below h1 B0.out)
  have H2 := Aside0.mk (Kd.C_below h2 B0.out)
  clear h1 h2
  by_cases ho : off < 0 ∨ 604800 ≤ off
  · have hE : calErr off week closed = 2 := by unfold calErr; rw [if_pos ho]
    rw [hE]
    clear he hE
    rcases Classical.em (off < 0) with hlo | hlo
    · have hd : decide (off < 0) = true := decide_eq_true hlo
      go_enter Tryz.func35, Tryz.ntmps35
      go_wp2
      go_ret2
      exact ⟨rfl, B0.out⟩
    · have hd : decide (off < 0) = false := decide_eq_false hlo
      have hge : 604800 ≤ off := by omega
      have hd2 : decide (604800 ≤ off) = true := decide_eq_true hge
      go_enter Tryz.func35, Tryz.ntmps35
      go_wp2
      go_ret2
      exact ⟨rfl, B0.out⟩
  · have hlo : ¬ off < 0 := by omega
    have hhi : ¬ 604800 ≤ off := by omega
    have hd : decide (off < 0) = false := decide_eq_false hlo
    have hd2 : decide (604800 ≤ off) = false := decide_eq_false hhi
    by_cases hw : weekErr week = 0
    · have hE : calErr off week closed = rowErr closed := by unfold calErr; rw [if_neg ho, if_pos hw]
      rw [hE] at he ⊢
      have HWE := Aside0.mk hw
      have HE := Aside0.mk he
      have hne : (rowErr closed != 0) = true := bne_iff_ne.mpr he
      have hne' : (rowErr closed == 0) = false := beq_eq_false_iff_ne.mpr he
      clear hE hw ho he
      go_enter Tryz.func35, Tryz.ntmps35
      go_wp2_with fail
      generalize (w.alloc (.cells #[.int .i64 off, .slice A1 week.length c1, .slice A2 closed.length c2] 24)) = w1 at B0 K0 H1 H2 ⊢
      have g0 : w1.cell? ⟨w.heap.size, 0, none⟩ = some (.int .i64 off) := (blk_cell K0.out 0).trans rfl
      have g1 : w1.cell? ⟨w.heap.size, 1, none⟩ = some (.slice A1 week.length c1) := (blk_cell K0.out 1).trans rfl
      go_wp2_with (first | (go_at_call 81; refine (weeknew_yes A1 c1 week _ H1.out hc1 HWE.out).mono ?_; rintro e w2 ⟨pb, cb, rfl, P2, hb⟩; have B2 := Aside0.mk (below_step B0.out hb); have K2 := Aside0.mk (blk_below K0.out hb); have H22 := Aside0.mk (Kd.C_below H2.out hb); clear P2 hb; have e2 : w2.cell? ⟨w.heap.size, 2, none⟩ = some (.slice A2 closed.length c2) := (blk_cell K2.out 2).trans rfl) | (go_at_call 82; refine (almnew_no A2 c2 closed _ H22.out hc2 HE.out).mono ?_; rintro e w3 ⟨rfl, hb⟩; have B3 := Aside0.mk (below_step B2.out hb); clear hb))
      go_ret2
      exact ⟨rfl, B3.out⟩
    · have hE : calErr off week closed = weekErr week := by unfold calErr; rw [if_neg ho, if_neg hw]
      rw [hE] at he ⊢
      have HE := Aside0.mk he
      have hne : (weekErr week != 0) = true := bne_iff_ne.mpr he
      have hne' : (weekErr week == 0) = false := beq_eq_false_iff_ne.mpr he
      clear hE hw ho he
      go_enter Tryz.func35, Tryz.ntmps35
      go_wp2_with fail
      generalize (w.alloc (.cells #[.int .i64 off, .slice A1 week.length c1, .slice A2 closed.length c2] 24)) = w1 at B0 K0 H1 H2 ⊢
      have g0 : w1.cell? ⟨w.heap.size, 0, none⟩ = some (.int .i64 off) := (blk_cell K0.out 0).trans rfl
      have g1 : w1.cell? ⟨w.heap.size, 1, none⟩ = some (.slice A1 week.length c1) := (blk_cell K0.out 1).trans rfl
      go_wp2_with (go_at_call 81; refine (weeknew_no A1 c1 week _ H1.out hc1 HE.out).mono ?_; rintro e w2 ⟨rfl, hb⟩; have B2 := Aside0.mk (below_step B0.out hb); clear hb)
      go_ret2
      exact ⟨rfl, B2.out⟩
set_option maxHeartbeats 1600000 in
set_option maxRecDepth 100000 in
theorem calnew_yes (off : Int) (A1 A2 : Option Addr) (c1 c2 : Nat) (week closed : List S114) (w : World) (h1 : Kd.C k114 w A1 week.length week) (hc1 : week.length ≤ c1) (h2 : Kd.C k114 w A2 closed.length closed) (hc2 : closed.length ≤ c2) (he : calErr off week closed = 0) :
    Calls Tryz.prog 35 #[.agg #[.int .i64 off, .slice A1 week.length c1, .slice A2 closed.length c2]] w fun e w' => ∃ kb ab pb cb, e = .returned (.tuple #[.pointer (some ⟨kb, 0, none⟩), .int .i64 0]) ∧ ClkAt w' w.heap.size kb ab pb cb off week closed ∧ Below w.heap.size w w' := by
  have B0 : Aside0 (Below w.heap.size w (w.alloc (.cells #[.int .i64 off, .slice A1 week.length c1, .slice A2 closed.length c2] 24))) := ⟨below_alloc (Below.refl _ _) _⟩
  have K0 := Aside0.mk (blk_new w (.cells #[.int .i64 off, .slice A1 week.length c1, .slice A2 closed.length c2] 24))
  have H1 := Aside0.mk (Kd.C_below h1 B0.out)
  have H2 := Aside0.mk (Kd.C_below h2 B0.out)
  clear h1 h2
  have hpar : ¬ (off < 0 ∨ 604800 ≤ off) ∧ weekErr week = 0 ∧ rowErr closed = 0 := by
    unfold calErr at he
    split at he
    · omega
    · split at he
      · exact ⟨‹_›, ‹_›, he⟩
      · exact absurd he ‹_›
  obtain ⟨ho, hw, hr⟩ := hpar
  have hlo : ¬ off < 0 := by omega
  have hhi : ¬ 604800 ≤ off := by omega
  have hlo2 : 0 ≤ off := by omega
  have hhi2 : off < 604800 := by omega
  have hd : decide (off < 0) = false := decide_eq_false hlo
  have hd2 : decide (604800 ≤ off) = false := decide_eq_false hhi
  have HWE := Aside0.mk hw
  have HE := Aside0.mk hr
  have HSZ := Aside0.mk (show (w.alloc (.cells #[.int .i64 off, .slice A1 week.length c1, .slice A2 closed.length c2] 24)).heap.size = w.heap.size + 1 by simp)
  clear hw ho he hr hlo hhi
  go_enter Tryz.func35, Tryz.ntmps35
  go_wp2_with fail
  generalize (w.alloc (.cells #[.int .i64 off, .slice A1 week.length c1, .slice A2 closed.length c2] 24)) = w1 at B0 K0 H1 H2 HSZ ⊢
  have g0 : w1.cell? ⟨w.heap.size, 0, none⟩ = some (.int .i64 off) := (blk_cell K0.out 0).trans rfl
  have g1 : w1.cell? ⟨w.heap.size, 1, none⟩ = some (.slice A1 week.length c1) := (blk_cell K0.out 1).trans rfl
  go_wp2_with (first | (go_at_call 81; refine (weeknew_yes A1 c1 week _ H1.out hc1 HWE.out).mono ?_; rintro e w2 ⟨pb, cb, rfl, P2', hb⟩; have P2 := Aside0.mk P2'; have B2 := Aside0.mk (below_step B0.out hb); have K2 := Aside0.mk (blk_below K0.out hb); have H22 := Aside0.mk (Kd.C_below H2.out hb); clear P2' hb; have e0 : w2.cell? ⟨w.heap.size, 0, none⟩ = some (.int .i64 off) := (blk_cell K2.out 0).trans rfl; have e2 : w2.cell? ⟨w.heap.size, 2, none⟩ = some (.slice A2 closed.length c2) := (blk_cell K2.out 2).trans rfl) | (go_at_call 82; refine (almnew_yes A2 c2 closed _ H22.out hc2 HE.out).mono ?_; rintro e w3 ⟨ab, A3, c3, rfl, K3', hc3, R3', hge, hb⟩; have K3 := Aside0.mk K3'; have R3 := Aside0.mk R3'; have B3 := Aside0.mk (below_step B2.out hb); have P3 := Aside0.mk (P2.out.below hb); have K4 := Aside0.mk (blk_below K2.out hb); have HGE := Aside0.mk hge; clear hb K3' R3' hge; have i0 : w3.cell? ⟨w.heap.size, 0, none⟩ = some (.int .i64 off) := (blk_cell K4.out 0).trans rfl))
  go_ret2
  have hcb : cb < w2.heap.size := by
    obtain ⟨m, k, ⟨lv, hx⟩ | ⟨v, hx, _⟩⟩ := P2.out.cell
    · exact blk_lt hx
    · exact blk_lt hx
  have hsz2 := B2.out.size
  have hsz3 := B3.out.size
  have hk3 := blk_lt K3.out
  have hge := HGE.out
  have hcb3 : cb < w3.heap.size := by
    obtain ⟨m, k, ⟨lv, hx⟩ | ⟨v, hx, _⟩⟩ := P3.out.cell
    · exact blk_lt hx
    · exact blk_lt hx
  have hP : PlanAt w3 w.heap.size pb cb week := ⟨P3.out.ok, by have := P3.out.npb; have := HSZ.out; omega, by have := P3.out.ncb; have := HSZ.out; omega, P3.out.ne, (by obtain ⟨A, c, x1, x2, x3⟩ := P3.out.blk; exact ⟨A, c, x1, x2, Kd.R_lower x3 (by have := HSZ.out; omega)⟩), (by obtain ⟨m, k, hx | ⟨v, hx, hy⟩⟩ := P3.out.cell; exact ⟨m, k, .inl hx⟩; exact ⟨m, k, .inr ⟨v, hx, Kd.R_lower hy (by have := HSZ.out; omega)⟩⟩)⟩
  have hA : AlmAt w3 w.heap.size ab cb closed := ⟨rowErr_ok HE.out, by omega, by omega, ⟨A3, c3, K3.out, hc3, Kd.R_lower (Kd.R_mono (Kd.R_bound R3.out) (fun k hk => by have := hk.2.1; omega)) hsz2⟩⟩
  exact ⟨w3.heap.size, ab, pb, cb, rfl, ⟨hlo2, hhi2, hsz3, by omega, blk_new w3 _, hA.below (below_alloc (Below.refl _ _) _), hP.below (below_alloc (Below.refl _ _) _)⟩, below_alloc B3.out _⟩
end Go.Proofs.YtepldlnmeenlbaaGreat.Own
namespace Go.Proofs.YtepldlnmeenlbaaGreat.Own
open Go.RowKit Go.Proofs Go.Proofs.YtepldlnmeenlbaaGreatW.PrintWords Go.Proofs.YtepldlnmeenlbaaGreatW.PrintLast Go.Proofs.YtepldlnmeenlbaaGreatW.PrintMore Go.Proofs.YtepldlnmeenlbaaGreat.Base
attribute [local go_sem] max2_mx min2_mn max_two min_two
variable {w w' : World} {n kb ab pb cb : Nat} {off : Int} {week closed : List S114}
set_option maxHeartbeats 1600000 in
set_option maxRecDepth 100000 in
theorem calcheck_any (off : Int) (A1 A2 : Option Addr) (c1 c2 : Nat) (week closed : List S114) (w : World) (h1 : Kd.C k114 w A1 week.length week) (hc1 : week.length ≤ c1) (h2 : Kd.C k114 w A2 closed.length closed) (hc2 : closed.length ≤ c2) :
    Calls Tryz.prog 62 #[.agg #[.int .i64 off, .slice A1 week.length c1, .slice A2 closed.length c2]] w fun e w' => e = .returned (.int .i64 (calErr off week closed)) ∧ Below w.heap.size w w' := by
  have B0 : Aside0 (Below w.heap.size w (w.alloc (.cells #[.int .i64 off, .slice A1 week.length c1, .slice A2 closed.length c2] 24))) := ⟨below_alloc (Below.refl _ _) _⟩
  have H1 := Aside0.mk (Kd.C_below h1 B0.out)
  have H2 := Aside0.mk (Kd.C_below h2 B0.out)
  clear h1 h2
  by_cases he : calErr off week closed = 0
  · rw [he]
    have HE := Aside0.mk he
    clear he
    go_enter Tryz.func62, Tryz.ntmps62
    go_wp2_with (go_at_call 35; refine (calnew_yes off A1 A2 c1 c2 week closed _ H1.out hc1 H2.out hc2 HE.out).mono ?_; rintro e w2 ⟨kb, ab, pb, cb, rfl, _, hb⟩; have B1 := Aside0.mk (below_step B0.out hb); clear hb)
    go_ret
    exact ⟨rfl, B1.out⟩
  · have HE := Aside0.mk he
    clear he
    go_enter Tryz.func62, Tryz.ntmps62
    go_wp2_with (go_at_call 35; refine (calnew_no off A1 A2 c1 c2 week closed _ H1.out hc1 H2.out hc2 HE.out).mono ?_; rintro e w2 ⟨rfl, hb⟩; have B1 := Aside0.mk (below_step B0.out hb); clear hb)
    go_ret
    exact ⟨rfl, B1.out⟩
end Go.Proofs.YtepldlnmeenlbaaGreat.Own
namespace Go.Proofs.YtepldlnmeenlbaaGreat.Own
open Go.RowKit Go.Proofs Go.Proofs.YtepldlnmeenlbaaGreatW.PrintWords Go.Proofs.YtepldlnmeenlbaaGreatW.PrintLast Go.Proofs.YtepldlnmeenlbaaGreatW.PrintMore Go.Proofs.YtepldlnmeenlbaaGreat.Base
variable {w w' : World} {n kb ab pb cb : Nat} {off : Int} {week closed : List S114}
theorem R_one {base b : Nat} {ok : Nat → Prop} {v u : Value} {xs : List Int} {t : TypeId} (h : Kd.R (Kd.int .i64) 2 w base ok v xs) (hx : 2 ≤ xs.length) (hb : w.heap[b]? = some (.cells #[u] t (0, 0))) :
    Kd.R (Kd.int .i64) 2 w base (fun k => ok k ∧ k ≠ b) v xs := by
  have ho := Kd.R_own h
  refine ⟨fun k hk => ⟨h.1 k hk, ?_⟩, h.2⟩
  rintro rfl
  obtain ⟨inner, _, hr⟩ := ho
  rcases hr with ⟨rfl, _⟩ | ⟨g, cap, cur, rfl, hg, hh, r⟩
  · simp [Value.ownBlock] at hk
  · have : g = k := by simpa [Value.ownBlock] using hk
    subst this
    rw [hh] at hb
    injection hb with hb
    injection hb with hb
    subst hb
    have h1 : (Kd.int IntKind.i64).sz = 1 := rfl
    have h2 := r.2.2.1
    rw [h1] at h2
    have h3 := r.1
    simp at h2
    omega
theorem types1 {e t : Nat} {E : List Nat} (hE : E = []) (ht : t ≠ e) : ∀ q, q ∈ e :: E → q ≠ t := by
  subst hE
  intro q hq h
  have := List.mem_singleton.1 hq
  exact ht (by rw [← h, this])
def But (b : Nat) (w w' : World) : Prop := ∀ k, k < w.heap.size → k ≠ b → w'.heap[k]? = w.heap[k]?
theorem PlanAt.far (h : PlanAt w n pb cb week) {b : Nat} {t : TypeId} {u : Value} (hb : w.heap[b]? = some (.cells #[u] t (0, 0))) (ht : t ≠ 114) (hw : t = 2 → week ≠ []) (hm : But b w w') : PlanAt w' n pb cb week := by
  obtain ⟨A, c, hpb, hc, hr⟩ := h.blk
  have hne : pb ≠ b := by rintro rfl; rw [hpb] at hb; injection hb with hb; injection hb with hb; simp at hb
  refine ⟨h.ok, h.npb, h.ncb, h.ne, ⟨A, c, (hm pb (blk_lt hpb) hne).trans hpb, hc, ?_⟩, ?_⟩
  · have := Kd.R_types hr hb (types1 rfl ht)
    exact Kd.R_mono (Kd.R_step this (fun k hk hlt => hm k hlt hk.2)) (fun _ hk => hk.1)
  · obtain ⟨m, k, ⟨lv, hc⟩ | ⟨v, hc, hr⟩⟩ := h.cell
    · have hne : cb ≠ b := by rintro rfl; rw [hc] at hb; injection hb with hb; injection hb with hb; simp at hb
      exact ⟨m, k, .inl ⟨lv, (hm cb (blk_lt hc) hne).trans hc⟩⟩
    · have hne : cb ≠ b := by rintro rfl; rw [hc] at hb; injection hb with hb; injection hb with hb; simp at hb
      refine ⟨m, k, .inr ⟨v, (hm cb (blk_lt hc) hne).trans hc, ?_⟩⟩
      by_cases h2 : t = 2
      · have hl : 2 ≤ (psums week).length := by
          rw [psums_length]
          have := hw h2
          cases week with
          | nil => exact absurd rfl this
          | cons s r => simp
        exact Kd.R_mono (Kd.R_step (R_one hr hl hb) (fun k hk hlt => hm k hlt hk.2)) (fun _ hk => hk.1)
      · have := Kd.R_types hr hb (types1 rfl h2)
        exact Kd.R_mono (Kd.R_step this (fun k hk hlt => hm k hlt hk.2)) (fun _ hk => hk.1)
theorem AlmAt.far (h : AlmAt w n ab cb closed) {b : Nat} {t : TypeId} {u : Value} (hb : w.heap[b]? = some (.cells #[u] t (0, 0))) (ht : t ≠ 114) (ht2 : t ≠ 203) (hm : But b w w') : AlmAt w' n ab cb closed := by
  obtain ⟨A, c, hab, hc, hr⟩ := h.blk
  have hne : ab ≠ b := by
    rintro rfl
    rw [hab] at hb
    injection hb with hb
    injection hb with _ hb
    exact ht2 hb.symm
  refine ⟨h.ok, h.nab, h.ne, ⟨A, c, (hm ab (blk_lt hab) hne).trans hab, hc, ?_⟩⟩
  have := Kd.R_types hr hb (types1 rfl ht)
  exact Kd.R_mono (Kd.R_step this (fun k hk hlt => hm k hlt hk.2)) (fun _ hk => hk.1)
theorem ClkAt.far (h : ClkAt w n kb ab pb cb off week closed) {b : Nat} {t : TypeId} {u : Value} (hb : w.heap[b]? = some (.cells #[u] t (0, 0))) (ht : t ≠ 114) (ht2 : t ≠ 203) (hw : t = 2 → week ≠ []) (hm : But b w w') : ClkAt w' n kb ab pb cb off week closed := by
  have hne : kb ≠ b := by
    rintro rfl
    have hk := h.blk
    rw [hk] at hb
    injection hb with hb
    injection hb with hb
    simp at hb
  exact ⟨h.lo, h.hi, h.nkb, h.ne, (hm kb (blk_lt h.blk) hne).trans h.blk, h.alm.far hb ht ht2 hm, h.plan.far hb ht hw hm⟩
theorem But.set (w : World) (b : Nat) (v : Value) : But b w (w.setCell ⟨b, 0, none⟩ v) := fun k _ hk => Below.heap_setCell _ _ _ _ hk
theorem set_same {b : Nat} {t : TypeId} {u : Value} (hb : w.heap[b]? = some (.cells #[u] t (0, 0))) (k : Nat) : (w.setCell ⟨b, 0, none⟩ u).heap[k]? = w.heap[k]? := by
  by_cases hk : k = b
  · subst hk
    rw [hb]
    exact blk_put (cs := #[u]) hb 0 u rfl
  · exact Below.heap_setCell _ _ _ _ hk
end Go.Proofs.YtepldlnmeenlbaaGreat.Own
namespace Go.Proofs.YtepldlnmeenlbaaGreat.Own
open Go.RowKit Go.Proofs Go.Proofs.YtepldlnmeenlbaaGreatW.PrintWords Go.Proofs.YtepldlnmeenlbaaGreatW.PrintLast Go.Proofs.YtepldlnmeenlbaaGreatW.PrintMore Go.Proofs.YtepldlnmeenlbaaGreat.Base
def freeL : List S114 → Int → Int → List S114
  | [], a, e => if a < e then [⟨a, e⟩] else []
  | s :: r, a, e => if a < e then (if s.f1 ≤ a then freeL r a e else if a < mn s.f0 e then ⟨a, mn s.f0 e⟩ :: freeL r s.f1 e else freeL r s.f1 e) else []
theorem freeL_ge (l : List S114) {a e : Int} (h : ¬ a < e) : freeL l a e = [] := by
  cases l <;> simp only [freeL] <;> rw [if_neg h]
theorem freeL_drop (l : List S114) (a e : Int) : ∀ (j : Nat), (∀ s, s ∈ l.take j → s.f1 ≤ a) → freeL l a e = freeL (l.drop j) a e := by
  induction l with
  | nil => intro j _; simp
  | cons s r ih =>
    intro j hj
    cases j with
    | zero => rfl
    | succ j =>
      by_cases h : a < e
      · have h1 := hj s (by simp)
        rw [List.drop_succ_cons, ← ih j (fun t ht => hj t (by simp [ht]))]
        simp only [freeL]
        rw [if_pos h, if_pos h1]
      · rw [freeL_ge _ h, freeL_ge _ h]
theorem take_ends {l : List S114} {t : Int} : ∀ s, s ∈ l.take (atP l t) → s.f1 ≤ t := by
  intro s hs
  obtain ⟨j, hj, rfl⟩ := List.getElem_of_mem hs
  rw [List.getElem_take]
  have : j < atP l t := by simp at hj; omega
  exact atP_lt this _
theorem freeL_none {l : List S114} {a e : Int} (h : a < e) (hx : ¬ atP l a < l.length) : freeL l a e = [⟨a, e⟩] := by
  rw [freeL_drop l a e (atP l a) take_ends, List.drop_eq_nil_of_le (by omega)]
  simp only [freeL]
  rw [if_pos h]
theorem freeL_some {lo : Int} {l : List S114} (hr : RowFrom lo l) {a e : Int} (h : a < e) (hx : atP l a < l.length) :
    freeL l a e = if a < mn (rd_T114 l (atP l a)).f0 e then ⟨a, mn (rd_T114 l (atP l a)).f0 e⟩ :: freeL l (rd_T114 l (atP l a)).f1 e else freeL l (rd_T114 l (atP l a)).f1 e := by
  have h1 : a < (rd_T114 l (atP l a)).f1 := by rw [rd_at l _ hx]; exact atP_at hx
  have h2 : freeL l (rd_T114 l (atP l a)).f1 e = freeL (l.drop (atP l a + 1)) (rd_T114 l (atP l a)).f1 e := by
    refine freeL_drop l _ e _ (fun s hs => ?_)
    obtain ⟨j, hj, rfl⟩ := List.getElem_of_mem hs
    rw [List.getElem_take, rd_at l _ hx]
    exact hr.ends j (atP l a) (by simp at hj; omega) hx
  rw [h2, freeL_drop l a e (atP l a) take_ends, drop_at hx]
  conv => lhs; unfold freeL
  rw [if_pos h, if_neg (by omega)]
theorem atP_next {lo : Int} {l : List S114} (hr : RowFrom lo l) {a : Int} (hx : atP l a < l.length) : atP l a < atP l (rd_T114 l (atP l a)).f1 :=
  atP_gt hr hx (by rw [rd_at l _ hx]; exact Int.le_refl _)
abbrev GS : Type := { s : S114 // 0 ≤ s.f0 ∧ s.f0 < s.f1 ∧ s.f1 ≤ 1125899906842624 }
end Go.Proofs.YtepldlnmeenlbaaGreat.Own
namespace Go.Proofs.YtepldlnmeenlbaaGreat.Own
open Go.RowKit Go.Proofs Go.Proofs.YtepldlnmeenlbaaGreatW.PrintWords Go.Proofs.YtepldlnmeenlbaaGreatW.PrintLast Go.Proofs.YtepldlnmeenlbaaGreatW.PrintMore Go.Proofs.YtepldlnmeenlbaaGreat.Base
def one (b : Bool) : Int := if b then 1 else 0
theorem one_bound (b : Bool) : 0 ≤ one b ∧ one b ≤ 1 := by cases b <;> simp [one]
def Steps (f : Int → Int) (op : Int → Bool) (lo hi : Int) : Prop := ∀ t, lo ≤ t → t < hi → f (t + 1) = f t + one (op t)
theorem Steps.sub {f : Int → Int} {op : Int → Bool} {lo hi lo' hi' : Int} (h : Steps f op lo hi) (h1 : lo ≤ lo') (h2 : hi' ≤ hi) : Steps f op lo' hi' := fun t a b => h t (by omega) (by omega)
theorem Steps.mono {f : Int → Int} {op : Int → Bool} {lo hi : Int} (h : Steps f op lo hi) : ∀ (n : Nat) (a : Int), lo ≤ a → a + n ≤ hi → f a ≤ f (a + n) ∧ f (a + n) ≤ f a + n
  | 0, a, _, _ => by simp
  | n + 1, a, h1, h2 => by
    have ih := h.mono n a h1 (by omega)
    have hs := h (a + n) (by omega) (by omega)
    have hb := one_bound (op (a + n))
    rw [show a + ((n + 1 : Nat) : Int) = a + n + 1 by omega, hs]
    omega
theorem Steps.le {f : Int → Int} {op : Int → Bool} {lo hi a b : Int} (h : Steps f op lo hi) (h1 : lo ≤ a) (hab : a ≤ b) (h2 : b ≤ hi) : f a ≤ f b ∧ f b ≤ f a + (b - a) := by
  have := h.mono (b - a).toNat a h1 (by omega)
  rw [show a + ((b - a).toNat : Int) = b by omega] at this
  omega
theorem Steps.eq {f g : Int → Int} {op og : Int → Bool} {lo hi : Int} (h : Steps f op lo hi) (k : Steps g og lo hi) (e : ∀ t, lo ≤ t → t < hi → op t = og t) : ∀ (n : Nat), lo + n ≤ hi → f (lo + n) - f lo = g (lo + n) - g lo
  | 0, _ => by simp
  | n + 1, h2 => by
    have ih := h.eq k e n (by omega)
    have h3 := h (lo + n) (by omega) (by omega)
    have h4 := k (lo + n) (by omega) (by omega)
    rw [show lo + ((n + 1 : Nat) : Int) = lo + n + 1 by omega, h3, h4, e _ (by omega) (by omega)]
    omega
theorem Steps.same {f g : Int → Int} {op og : Int → Bool} {lo hi a b : Int} (h : Steps f op lo hi) (k : Steps g og lo hi) (h1 : lo ≤ a) (hab : a ≤ b) (h2 : b ≤ hi) (e : ∀ t, a ≤ t → t < b → op t = og t) : f b - f a = g b - g a := by
  have := (h.sub h1 h2).eq (k.sub h1 h2) e (b - a).toNat (by omega)
  rw [show a + ((b - a).toNat : Int) = b by omega] at this
  exact this
def inRow (l : List S114) (t : Int) : Bool := l.any fun s => decide (s.f0 ≤ t ∧ t < s.f1)
theorem inRow_cons (s : S114) (r : List S114) (t : Int) : inRow (s :: r) t = (decide (s.f0 ≤ t ∧ t < s.f1) || inRow r t) := by simp [inRow]
theorem inRow_lo {lo : Int} {l : List S114} (h : RowFrom lo l) {t : Int} (ht : t < lo) : inRow l t = false := by
  induction l generalizing lo with
  | nil => rfl
  | cons s r ih =>
    obtain ⟨h1, h2, h3⟩ := h
    rw [inRow_cons, ih h3 (by omega), decide_eq_false (by omega)]
    rfl
def ahead : List S114 → Int → Int
  | [], _ => 0
  | s :: r, x => mx (mn x s.f1 - s.f0) 0 + ahead r x
theorem ahead_lo {lo : Int} {l : List S114} (h : RowFrom lo l) {x : Int} (hx : x ≤ lo) : ahead l x = 0 := by
  induction l generalizing lo with
  | nil => rfl
  | cons s r ih =>
    obtain ⟨h1, h2, h3⟩ := h
    simp only [ahead]
    rw [ih h3 (by omega)]
    unfold mx mn
    (repeat' split) <;> omega
theorem ahead_hi {lo : Int} {l : List S114} (h : RowFrom lo l) {x : Int} (hx : ∀ s, s ∈ l → s.f1 ≤ x) : ahead l x = secs l := by
  induction l generalizing lo with
  | nil => rfl
  | cons s r ih =>
    obtain ⟨h1, h2, h3⟩ := h
    simp only [ahead, secs]
    rw [ih h3 (fun t ht => hx t (by simp [ht]))]
    have := hx s (by simp)
    unfold mx mn
    (repeat' split) <;> omega
theorem ahead_step {lo : Int} {l : List S114} (h : RowFrom lo l) (x : Int) : ahead l (x + 1) = ahead l x + one (inRow l x) := by
  induction l generalizing lo with
  | nil => rfl
  | cons s r ih =>
    obtain ⟨h1, h2, h3⟩ := h
    simp only [ahead]
    rw [inRow_cons]
    by_cases hx : s.f0 ≤ x ∧ x < s.f1
    · rw [ahead_lo h3 (x := x + 1) (by omega), ahead_lo h3 (x := x) (by omega), decide_eq_true hx]
      simp only [Bool.true_or, one, if_true]
      unfold mx mn
      (repeat' split) <;> omega
    · rw [ih h3, decide_eq_false hx, Bool.false_or]
      unfold mx mn
      (repeat' split) <;> omega
theorem atP_cons (s : S114) (r : List S114) (x : Int) : atP (s :: r) x = if x < s.f1 then 0 else atP r x + 1 := by
  unfold atP
  rw [List.findIdx_cons]
  by_cases h : x < s.f1 <;> simp [h]
theorem rd_cons0 (s : S114) (r : List S114) : rd_T114 (s :: r) (0 : Nat) = s := rd_at _ 0 (by simp)
theorem rd_consS (s : S114) (r : List S114) (i : Nat) (h : i < r.length) : rd_T114 (s :: r) (i + 1 : Nat) = rd_T114 r i := by
  rw [rd_at _ _ (by simpa using h), rd_at _ _ h]; rfl
theorem ahead_at {lo : Int} {l : List S114} (h : RowFrom lo l) (x : Int) :
    secs (l.take (atP l x)) + (if atP l x < l.length then mx (x - (rd_T114 l (atP l x)).f0) 0 else 0) = ahead l x := by
  induction l generalizing lo with
  | nil => rfl
  | cons s r ih =>
    obtain ⟨h1, h2, h3⟩ := h
    rw [atP_cons]
    simp only [ahead]
    by_cases hx : x < s.f1
    · rw [if_pos hx, ahead_lo h3 (x := x) (by omega), rd_cons0]
      simp only [List.take_zero, secs, List.length_cons, Nat.zero_lt_succ, if_true]
      unfold mx mn
      (repeat' split) <;> omega
    · rw [if_neg hx, ← ih h3]
      simp only [List.take_succ_cons, secs, List.length_cons]
      by_cases hi : atP r x < r.length
      · rw [if_pos (by omega), if_pos hi, rd_consS _ _ _ hi]
        unfold mx mn
        (repeat' split) <;> omega
      · rw [if_neg (by omega), if_neg hi]
        unfold mx mn
        (repeat' split) <;> omega
theorem open_at {lo : Int} {l : List S114} (h : RowFrom lo l) (x : Int) : decide (atP l x < l.length ∧ (rd_T114 l (atP l x)).f0 ≤ x) = inRow l x := by
  induction l generalizing lo with
  | nil => rfl
  | cons s r ih =>
    obtain ⟨h1, h2, h3⟩ := h
    rw [atP_cons, inRow_cons]
    by_cases hx : x < s.f1
    · rw [if_pos hx, rd_cons0, inRow_lo h3 hx, Bool.or_false]
      simp [hx]
    · rw [if_neg hx, ← ih h3, decide_eq_false (show ¬ (s.f0 ≤ x ∧ x < s.f1) by omega), Bool.false_or]
      by_cases hi : atP r x < r.length
      · rw [rd_consS _ _ _ hi]; simp [hi]
      · simp [hi]
theorem RowFrom.starts {lo : Int} {l : List S114} (h : RowFrom lo l) : ∀ (i j : Nat) (hi : i < j) (hj : j < l.length), (l[i]).f1 ≤ (l[j]).f0 := by
  induction l generalizing lo with
  | nil => intro i j _ hj; simp at hj
  | cons s r ih =>
    obtain ⟨h1, h2, h3⟩ := h
    intro i j hi hj
    cases j with
    | zero => omega
    | succ j =>
      cases i with
      | zero =>
        have key : ∀ (l : List S114) (lo : Int), RowFrom lo l → ∀ (j : Nat) (hj : j < l.length), lo ≤ (l[j]).f0 := by
          intro l
          induction l with
          | nil => intro lo _ j hj; simp at hj
          | cons t u iu =>
            intro lo hl j hj
            obtain ⟨a, b, c⟩ := hl
            cases j with
            | zero => exact a
            | succ j => have := iu t.f1 c j (by simpa using hj); simp only [List.getElem_cons_succ]; omega
        exact key r s.f1 h3 j (by simpa using hj)
      | succ i => exact ih h3 i j (by omega) (by simpa using hj)
def Uo (l : List S114) (t : Int) : Int := t / 604800 * secs l + ahead l (t % 604800)
theorem Uo_step {l : List S114} (h : RowOk 604800 l) (lo hi : Int) : Steps (Uo l) (fun t => inRow l (t % 604800)) lo hi := by
  intro t _ _
  show Uo l (t + 1) = Uo l t + one (inRow l (t % 604800))
  unfold Uo
  by_cases hm : t % 604800 = 604799
  · have e1 : (t + 1) / 604800 = t / 604800 + 1 := by omega
    have e2 : (t + 1) % 604800 = 0 := by omega
    have h1 := ahead_step h.row (604799 : Int)
    rw [show (604799 : Int) + 1 = 604800 by decide, ahead_hi h.row (x := 604800) h.top] at h1
    rw [e1, e2, ahead_lo h.row (x := 0) (by omega), hm, Int.add_mul]
    omega
  · have e1 : (t + 1) / 604800 = t / 604800 := by omega
    have e2 : (t + 1) % 604800 = t % 604800 + 1 := by omega
    rw [e1, e2, ahead_step h.row]
    omega
theorem until_Uo {l : List S114} (h : RowOk 604800 l) {t : Int} (h0 : 0 ≤ t) (h1 : t ≤ 2251799813685248) : untilP l t = Uo l t := by
  have e : mn (mx t 0) 2251799813685248 = t := by unfold mn mx; (repeat' split) <;> omega
  unfold untilP Uo
  rw [e, ← ahead_at h.row]
  omega
theorem between_Uo {l : List S114} (h : RowOk 604800 l) {a b : Int} (h0 : 0 ≤ a) (hab : a ≤ b) (h1 : b ≤ 2251799813685248) : betweenP l a b = Uo l b - Uo l a := by
  unfold betweenP
  rw [until_Uo h h0 (by omega), until_Uo h (by omega) h1]
  have := ((Uo_step h a b).le (Int.le_refl _) hab (Int.le_refl _)).1
  unfold mx
  (repeat' split) <;> omega
theorem nth_at {row : List S114} (h : RowOk 604800 row) (k : Int) (hs : 0 < secs row) (h0 : 0 ≤ k) : Uo row (nthP row k) = k ∧ inRow row (nthP row k % 604800) = true := by
  obtain ⟨i0, i1, i2, i3⟩ := nthI_spec h k hs h0
  have hmem := h.mem (rd_T114 row (nthI row k)) (by rw [rd_at row _ i0]; exact List.getElem_mem _)
  have ht := take_at i0
  rw [ht, secs_append] at i3
  simp only [secs, Int.add_zero] at i3
  unfold nthP
  generalize hi : nthI row k = i at *
  generalize hsd : rd_T114 row (i : Int) = s at *
  generalize hP : secs (row.take i) = p at *
  have hq : (k / secs row * 604800 + s.f0 + k % secs row - p) / 604800 = k / secs row := by omega
  have hr : (k / secs row * 604800 + s.f0 + k % secs row - p) % 604800 = s.f0 + k % secs row - p := by omega
  have hx0 : s.f0 ≤ s.f0 + k % secs row - p := by omega
  have hx1 : s.f0 + k % secs row - p < s.f1 := by omega
  have hat : atP row (s.f0 + k % secs row - p) = i := by
    have a1 : atP row (s.f0 + k % secs row - p) ≤ i := atP_ge i0 (by rw [← rd_at row i i0, hsd]; exact hx1)
    rcases Nat.lt_or_ge (atP row (s.f0 + k % secs row - p)) i with hlt | hge
    · exfalso
      have h2 := atP_at (l := row) (t := s.f0 + k % secs row - p) (by omega)
      have h3 := h.row.starts (atP row (s.f0 + k % secs row - p)) i hlt i0
      rw [← rd_at row i i0, hsd] at h3
      omega
    · omega
  constructor
  · unfold Uo
    rw [hq, hr, ← ahead_at h.row, hat, if_pos i0, hsd, hP]
    have hm : mx (s.f0 + k % secs row - p - s.f0) 0 = k % secs row - p := by unfold mx; (repeat' split) <;> omega
    rw [hm]
    have := Int.mul_ediv_add_emod k (secs row)
    rw [Int.mul_comm] at this
    omega
  · rw [hr, ← open_at h.row, hat, hsd]
    exact decide_eq_true ⟨i0, hx0⟩
theorem nth_in {row : List S114} (h : RowOk 604800 row) {k u v : Int} (hs : 0 < secs row) (hu : 0 ≤ u) (huv : u ≤ v) (hv : v ≤ 2251799813685248) (h1 : Uo row u ≤ k) (h2 : k < Uo row v) :
    0 ≤ k ∧ k / secs row ≤ 3723213977 ∧ u ≤ nthP row k ∧ nthP row k < v := by
  have hS := Uo_step h 0 2251799813685249
  have hU0 : Uo row 0 = 0 := by unfold Uo; rw [show (0 : Int) % 604800 = 0 by decide, ahead_lo h.row (Int.le_refl _)]; omega
  have hk : 0 ≤ k := by have := (hS.le (Int.le_refl _) hu (by omega)).1; omega
  obtain ⟨e, ho⟩ := nth_at h k hs hk
  have hstep := Uo_step h (nthP row k) (nthP row k + 1) (nthP row k) (Int.le_refl _) (by omega)
  have hstep' : Uo row (nthP row k + 1) = k + 1 := by rw [hstep, e]; simp only [ho, one, if_true]
  refine ⟨hk, ?_, ?_, ?_⟩
  · have hah : ahead row (v % 604800) ≤ secs row := by
      have h3 := (Uo_step h (v % 604800) 604799).le (a := v % 604800) (b := 604799) (Int.le_refl _) (by omega) (Int.le_refl _)
      have h4 := Uo_step h 604799 604800 604799 (Int.le_refl _) (by omega)
      have hb := one_bound (inRow row ((604799 : Int) % 604800))
      have e1 : Uo row (v % 604800) = ahead row (v % 604800) := by
        unfold Uo
        rw [show v % 604800 / 604800 = 0 by omega, show v % 604800 % 604800 = v % 604800 by omega]; omega
      have e2 : Uo row (604799 + 1) = secs row := by
        unfold Uo
        rw [show (604799 + 1 : Int) / 604800 = 1 by decide, show (604799 + 1 : Int) % 604800 = 0 by decide, ahead_lo h.row (Int.le_refl _)]; omega
      simp only at h4
      omega
    have h5 : k < (v / 604800 + 1) * secs row := by
      unfold Uo at h2
      rw [Int.add_mul]
      omega
    have := Int.ediv_lt_of_lt_mul hs h5
    omega
  · rcases Int.lt_or_le (nthP row k) u with hlt | hge
    · have := ((Uo_step h (nthP row k + 1) u).le (Int.le_refl _) (by omega) (Int.le_refl _)).1
      omega
    · exact hge
  · rcases Int.lt_or_le (nthP row k) v with hlt | hge
    · exact hlt
    · have := ((Uo_step h v (nthP row k)).le (Int.le_refl _) hge (Int.le_refl _)).1
      omega
end Go.Proofs.YtepldlnmeenlbaaGreat.Own
namespace Go.Proofs.YtepldlnmeenlbaaGreat.Own
open Go.RowKit Go.Proofs Go.Proofs.YtepldlnmeenlbaaGreatW.PrintWords Go.Proofs.YtepldlnmeenlbaaGreatW.PrintLast Go.Proofs.YtepldlnmeenlbaaGreatW.PrintMore Go.Proofs.YtepldlnmeenlbaaGreat.Base
def Wk (off : Int) (week : List S114) (t : Int) : Int := Uo week (t + (604800 - off))
def wop (off : Int) (week : List S114) (t : Int) : Bool := inRow week ((t + (604800 - off)) % 604800)
variable {off : Int} {week closed : List S114}
theorem weekly_Wk (h : RowOk 604800 week) (h0 : 0 ≤ off) (h1 : off < 604800) {a b : Int} (ha : 0 ≤ a) (hab : a ≤ b) (hb : b ≤ 1125899906842624) : weeklyP off week a b = Wk off week b - Wk off week a :=
  between_Uo h (by omega) (by omega) (by omega)
def dueL (off : Int) (week : List S114) : Int → List S114 → Option Int
  | _, [] => none
  | B, s :: r => if weeklyP off week s.f0 s.f1 < B then dueL off week (B - weeklyP off week s.f0 s.f1) r
    else some (nthP week (untilP week (s.f0 + (604800 - off)) + B - 1) - (604800 - off) + 1)
theorem due_hit (h : RowOk 604800 week) (h0 : 0 ≤ off) (h1 : off < 604800) (hs : 0 < secs week) {a z B : Int} (ha : 0 ≤ a) (haz : a ≤ z) (hz : z ≤ 1125899906842624) (hB : 1 ≤ B) (hw : B ≤ weeklyP off week a z) :
    (0 ≤ untilP week (a + (604800 - off)) + B - 1 ∧ untilP week (a + (604800 - off)) + B - 1 ≤ 2251799815500000) ∧ (untilP week (a + (604800 - off)) + B - 1) / secs week ≤ 3723213977 ∧
      a + (604800 - off) ≤ nthP week (untilP week (a + (604800 - off)) + B - 1) ∧ nthP week (untilP week (a + (604800 - off)) + B - 1) < z + (604800 - off) ∧
      Wk off week (nthP week (untilP week (a + (604800 - off)) + B - 1) - (604800 - off)) = Wk off week a + B - 1 ∧ wop off week (nthP week (untilP week (a + (604800 - off)) + B - 1) - (604800 - off)) = true := by
  rw [weekly_Wk h h0 h1 ha haz hz] at hw
  have hu := until_Uo h (t := a + (604800 - off)) (by omega) (by omega)
  have hv := (until_bound h (z + (604800 - off))).2
  rw [until_Uo h (by omega) (by omega)] at hv
  have hW : ∀ t, Wk off week t = Uo week (t + (604800 - off)) := fun _ => rfl
  rw [hW, hW] at hw
  rw [hu]
  generalize hk : Uo week (a + (604800 - off)) + B - 1 = k
  obtain ⟨n0, n1, n2, n3⟩ := nth_in h (k := k) (u := a + (604800 - off)) (v := z + (604800 - off)) hs (by omega) (by omega) (by omega) (by omega) (by omega)
  obtain ⟨m0, m1⟩ := nth_at h k hs n0
  refine ⟨⟨n0, by omega⟩, n1, n2, n3, ?_, ?_⟩
  · rw [hW, hW, show nthP week k - (604800 - off) + (604800 - off) = nthP week k by omega, m0]; omega
  · unfold wop; rw [show nthP week k - (604800 - off) + (604800 - off) = nthP week k by omega]; exact m1
end Go.Proofs.YtepldlnmeenlbaaGreat.Own
namespace Go.Proofs.YtepldlnmeenlbaaGreat.Own
open Go.RowKit Go.Proofs Go.Proofs.YtepldlnmeenlbaaGreatW.PrintWords Go.Proofs.YtepldlnmeenlbaaGreatW.PrintLast Go.Proofs.YtepldlnmeenlbaaGreatW.PrintMore
theorem opIn_of_op {P : Program} {o : Oper} {a : Act} {w : World} {K : Act → World → Prop} {Q : Exit → Act → World → Prop} {l n : Nat} (hnd : ∀ c, o.op ≠ .defer c)
    (h : o.wp P a w K Q) : o.wpIn (Fence.wide.inRound l) n P a w K Q := by
  refine ⟨fun _ _ => trivial, ?_⟩
  rw [Oper.semAt_eq _ _ _ hnd]
  unfold Oper.wp at h
  generalize (execOp a.eval o).run P w = r at h ⊢
  unfold Oper.upon at h
  unfold Oper.uponIn
  split at h
  · exact h
  · exact h
  · exact h
  · exact ⟨fun h => by simp [Fence.wide] at h, CallsIn.inRound l (callsIn_wide.2 h)⟩
  · rename_i row args w'
    refine ⟨fun h => by simp [Fence.wide] at h, ?_⟩
    intro c cs _
    obtain ⟨v, w'', hr, hs⟩ := h c cs
    exact ⟨v, w'', hr, stepsIn_wide.2 hs⟩
  · exact h
  · exact h.elim
theorem anyIn_of_any {P : Program} {md : Region.Mode} {ops : Array Oper} {Q : Exit → Act → World → Prop} {l n : Nat} (hnd : ∀ (i : Nat) (o : Oper), ops[i]? = some o → ∀ c, o.op ≠ .defer c) (hQ : ¬ LetsOut Q) :
    ∀ (fuel : Nat) (listed : Array Bool) (a : Act) (w : World), wpAny P md ops Q fuel listed a w → wpAnyIn (Fence.wide.inRound l) n P md ops Q fuel listed a w
  | 0, _, _, _, h => h
  | fuel + 1, listed, a, w, h => by
    refine ⟨h.1, fun i hi => ?_⟩
    have h1 := h.2 i hi
    unfold wpOp at h1
    unfold wpOpIn
    cases ho : ops[i]? with
    | none => rw [ho] at h1; exact anyIn_of_any hnd hQ fuel _ _ _ h1
    | some o =>
      rw [ho] at h1
      simp only at h1 ⊢
      split at h1
      · rw [if_pos ‹_›]
        rcases h1 with h1 | h1
        · exact Oper.wpIn_mono (fun a w h => anyIn_of_any hnd hQ fuel _ a w h) (opIn_of_op (hnd i o ho) h1)
        · exact absurd h1.2 hQ
      · rw [if_neg ‹_›]
        exact ⟨fun _ _ => trivial, anyIn_of_any hnd hQ fuel _ _ _ h1⟩
theorem startIn_ {P : Program} {ops : Array Oper} {Q : Exit → Act → World → Prop} {S : World → Prop} {ds : List Nat} {id n m r : Nat} {a : Act} {w : World} (hnd : ∀ (i : Nat) (o : Oper), ops[i]? = some o → ∀ c, o.op ≠ .defer c) (hQ : ¬ LetsOut Q)
    (l : Array Bool) (hm : P.follows .mixedOrders = true) (hn : ops.size = n) (hl : Array.replicate n false = l) (hS : S w.drew)
    (h : S w.drew → wpAnyLast P .any ops Q S ds n l a w.drew) : (Code.region id ops true).wpIn (Fence.wide.inRound r) m P Q a w := by
  subst hn
  subst hl
  exact wpIn_region_any hm (anyIn_of_any hnd hQ _ _ _ _ (wpAny_of_last _ _ _ _ (h hS)))
end Go.Proofs.YtepldlnmeenlbaaGreat.Own
namespace Go.Proofs.YtepldlnmeenlbaaGreat.Own
open Go.RowKit Go.Shelf Go.Proofs Go.Proofs.YtepldlnmeenlbaaGreatW.PrintWords Go.Proofs.YtepldlnmeenlbaaGreatW.PrintLast Go.Proofs.YtepldlnmeenlbaaGreatW.PrintMore Go.Proofs.YtepldlnmeenlbaaGreat.Base
attribute [local go_sem] Oper.semAt_some max2_mx min2_mn max_two min_two
theorem free_any (ab : Nat) (a b : Int) (w : World) :
    Calls Tryz.prog 106 #[.pointer (some ⟨ab, 0, none⟩), .int .i64 a, .int .i64 b] w fun e w' => e = .returned (.func (.func 138) #[] #[.pointer (some ⟨w.heap.size + 1, 0, none⟩), .pointer (some ⟨w.heap.size + 1 + 1, 0, none⟩), .pointer (some ⟨w.heap.size, 0, none⟩)]) ∧
      w' = ((w.alloc (.cells #[.pointer (some ⟨ab, 0, none⟩)] 145)).alloc (.cells #[.int .i64 a] 2)).alloc (.cells #[.int .i64 b] 2) := by
  have hmf : ∀ (fn : Fn) (first cap : Array Value) (w : World), (Instr.makeFunc fn first cap).run Tryz.prog w = .ok (.func fn first cap) w := fun _ _ _ _ => rfl
  go_enter Tryz.func106, Tryz.ntmps106
  go_wp2
  go_ret
  exact ⟨rfl, rfl⟩
structure AlmM (w : World) (m ab cb : Nat) (row : List S114) : Prop where
  ok : RowOk 1125899906842624 row
  lt : ab < m
  ne : ab ≠ cb
  blk : ∃ A c, w.heap[ab]? = some (.cells #[.slice A row.length c] 203 (0, 0)) ∧ row.length ≤ c ∧ Kd.R k114 114 w 0 (fun k => k ≠ cb ∧ k < m) (.slice A row.length c) row
theorem AlmM.of {w : World} {n ab cb : Nat} {row : List S114} (h : AlmAt w n ab cb row) : AlmM w w.heap.size ab cb row := by
  obtain ⟨A, c, hb, hc, hr⟩ := h.blk
  exact ⟨h.ok, blk_lt hb, h.ne, ⟨A, c, hb, hc, Kd.R_lower (Kd.R_mono (Kd.R_bound hr) (fun k hk => ⟨hk.1, hk.2.2.1⟩)) (Nat.zero_le _)⟩⟩
theorem AlmM.at {w : World} {m ab cb : Nat} {row : List S114} (h : AlmM w m ab cb row) : AlmAt w 0 ab cb row := by
  obtain ⟨A, c, hb, hc, hr⟩ := h.blk
  exact ⟨h.ok, Nat.zero_le _, h.ne, ⟨A, c, hb, hc, Kd.R_mono hr (fun _ hk => hk.1)⟩⟩
theorem AlmM.keep {w w' : World} {m ab cb : Nat} {row : List S114} (h : AlmM w m ab cb row) (hm : ∀ k, k < m → k ≠ cb → w'.heap[k]? = w.heap[k]?) : AlmM w' m ab cb row := by
  obtain ⟨A, c, hb, hc, hr⟩ := h.blk
  exact ⟨h.ok, h.lt, h.ne, ⟨A, c, (hm ab h.lt h.ne).trans hb, hc, Kd.R_step hr (fun k hk _ => hm k hk.2 hk.1)⟩⟩
structure KeepM (m cb fb : Nat) (W W' : World) : Prop where
  size : W.heap.size ≤ W'.heap.size
  low : ∀ k, k < m → k ≠ cb → W'.heap[k]? = W.heap[k]?
  box : ∀ k o, fb ≤ k → W.heap[k]? = some o → o.isCells = true → W'.heap[k]? = some o
theorem KeepM.trans {m cb fb : Nat} {A B C : World} (h : KeepM m cb fb A B) (k : KeepM m cb fb B C) : KeepM m cb fb A C :=
  ⟨Nat.le_trans h.size k.size, fun i a b => (k.low i a b).trans (h.low i a b), fun i o a b c => k.box i o a (h.box i o a b c) c⟩
theorem KeepM.of_below {m cb fb : Nat} {A B : World} (h : Below A.heap.size A B) (hm : m ≤ A.heap.size) : KeepM m cb fb A B :=
  ⟨h.size, fun k a _ => h.block k (by omega), fun k o _ b _ => (h.block k (blk_lt b)).trans b⟩
def freef_T0 : Bool × List (List Nat × List Nat) := (true, [([], []), ([0], [0]), ([], []), ([2], [2]), ([1, 0, 1], [1]), ([3, 4, 0, 1, 2, 3, 4], [3])])
def freef_B0 : List Nat := [0, 1, 0, 4, 3, 31]
theorem freef_tab0 : rtab .any (opsOf Tryz.f138 0) = freef_T0 := by kernel_rfl
theorem freef_bits0 : waitsOk freef_T0.2 freef_B0 = true := by kernel_rfl
set_option maxHeartbeats 4000000 in
set_option maxRecDepth 100000 in
theorem free_stops (m ab cb fb : Nat) (row : List S114) (a b : Int) (w : World) (hA : AlmM w m ab cb row) (hm : m ≤ w.heap.size) (hf : fb + 1 + 1 < w.heap.size) (ha : 0 ≤ a) (ha2 : a ≤ 1125899906842624) (hb : b ≤ 1125899906842624)
    (h0 : w.heap[fb]? = some (.cells #[.pointer (some ⟨ab, 0, none⟩)] 145 (0, 0))) (h1 : w.heap[fb + 1]? = some (.cells #[.int .i64 a] 2 (0, 0))) (h2 : w.heap[fb + 1 + 1]? = some (.cells #[.int .i64 b] 2 (0, 0))) (n : Nat) (hn : 1 ≤ n) :
    SeqStopsK Fence.wide n Tryz.prog 138 #[.pointer (some ⟨fb + 1, 0, none⟩), .pointer (some ⟨fb + 1 + 1, 0, none⟩), .pointer (some ⟨fb, 0, none⟩)] (fun x : GS => #[.agg #[.int .i64 x.1.f0, .int .i64 x.1.f1]]) (KeepM m cb fb)
      (fun xs => xs.map (·.1) = freeL row a b) (fun pre => pre.map (·.1) <+: freeL row a b) (freeL row a b).length w := by
  intro l J Jx W hW hJ hJx hY hJ0
  have k0 : W.heap[fb]? = some (.cells #[.pointer (some ⟨ab, 0, none⟩)] 145 (0, 0)) := blk_below h0 hW
  have k1 : W.heap[fb + 1]? = some (.cells #[.int .i64 a] 2 (0, 0)) := blk_below h1 hW
  have k2 : W.heap[fb + 1 + 1]? = some (.cells #[.int .i64 b] 2 (0, 0)) := blk_below h2 hW
  have HA := Aside0.mk (hA.keep (w' := W) (fun k hk _ => hW.block k (by omega)))
  have HSZ : Aside0 (m ≤ W.heap.size ∧ fb + 1 + 1 < W.heap.size) := ⟨by have := hW.size; omega⟩
  have HK0 := Aside0.mk k0
  have HJ := Aside0.mk hJ
  have HJX := Aside0.mk hJx
  have HY := Aside0.mk hY
  have HJ0 := Aside0.mk hJ0
  have c1 : W.drew.cell? ⟨fb + 1, 0, none⟩ = some (.int .i64 a) := (blk_cell k1 0).trans rfl
  have c2 : W.drew.cell? ⟨fb + 1 + 1, 0, none⟩ = some (.int .i64 b) := (blk_cell k2 0).trans rfl
  have hd1 : Below W.heap.size W W.drew := below_drew1 (Below.refl _ _)
  have HA2 := Aside0.mk (HA.out.keep (w' := W.drew) (fun k hk _ => hd1.block k (by have := HSZ.out; omega)))
  have HK2 := Aside0.mk (blk_below HK0.out hd1)
  have HJ2 : Aside0 (J [] W.drew) := ⟨hJ _ _ _ none hJ0 (grown_of_below hd1 none) (fun _ e => by cases e)⟩
  have HSZ2 : Aside0 (m ≤ W.drew.heap.size ∧ fb + 1 + 1 < W.drew.heap.size ∧ W.heap.size ≤ W.drew.heap.size) := ⟨by have := hd1.size; have := HSZ.out; omega⟩
  have hfn : ∀ g, Fence.wide.fn g := fun _ => trivial
  have ea : mx a 0 = a := by unfold mx; split <;> omega
  have eb : mn b 1125899906842624 = b := by unfold mn; split <;> omega
  clear hA hW hJ hJx hY hJ0 k0 k1 k2 h0 h1 h2 hd1 HA HK0 HJ0
  refine callsIn_of_wp Tryz.func138 rfl trivial ?_ rfl
  simp only [Tryz.ntmps138, List.size_toArray, List.length_cons, List.length_nil, Nat.reduceAdd, Nat.reduceSub, Array.replicate_succ, Array.replicate_zero, List.push_toArray, List.append_toArray, List.nil_append, List.cons_append]
  gi_wp2
  refine wpIn_wide.2 ?_
  refine start_ (n := 6) (S := fun w' => w'.cell? ⟨fb + 1, 0, none⟩ = some (.int .i64 a) ∧ w'.cell? ⟨fb + 1 + 1, 0, none⟩ = some (.int .i64 b)) (ds := []) #[false, false, false, false, false, false] (by kernel_rfl) rfl rfl ⟨c1, c2⟩ (fun hHeld => ?_); refine with_tabW freef_tab0 freef_bits0 (fun HT_ HW_ => ?_)
  clear c1 c2
  generalize W.drew = w2 at HA2 HK2 HJ2 HSZ2 hHeld ⊢
  refine take_ (i := 0) (N := some 10) (v := ?_) (a' := ?_) #[true, false, false, false, false, false] rfl rfl (take_ofW HT_.out HW_.out (by kernel_rfl)) (fun _ _ _ h => h) (Or.inl ⟨by rfl, ?_⟩) hHeld ?_ ?_
  rotate_left
  · rintro w' ⟨s0, s1⟩
    go_simp
    with_reducible rfl
  rotate_left
  · simp only [Act.put, List.setIfInBounds_toArray, List.set_cons_zero, List.set_cons_succ, i64_w, i32_w]
    rfl
  refine pure_ (i := 1) (N := some 11) (v := ?_) (a' := ?_) #[true, true, false, false, false, false] rfl rfl (any_of HT_.out (by kernel_rfl)) (fun _ _ _ h => h) (Or.inl ⟨by rfl, ?_⟩) ?_ ?_
  rotate_left
  · intro w'
    go_simp
    with_reducible rfl
  rotate_left
  · simp only [Act.put, List.setIfInBounds_toArray, List.set_cons_zero, List.set_cons_succ, i64_w, i32_w]
    rfl
  refine pure_ (i := 4) (N := some 5) (v := ?_) (a' := ?_) #[true, true, false, false, true, false] rfl rfl (any_of HT_.out (by kernel_rfl)) (fun _ _ _ h => h) (Or.inl ⟨by rfl, ?_⟩) ?_ ?_
  rotate_left
  · intro w'
    go_simp
    with_reducible rfl
  rotate_left
  · simp only [Act.put, List.setIfInBounds_toArray, List.set_cons_zero, List.set_cons_succ, i64_w, i32_w]
    rfl
  refine take_ (i := 2) (N := some 12) (v := ?_) (a' := ?_) #[true, true, true, false, true, false] rfl rfl (take_ofW HT_.out HW_.out (by kernel_rfl)) (fun _ _ _ h => h) (Or.inl ⟨by rfl, ?_⟩) hHeld ?_ ?_
  rotate_left
  · rintro w' ⟨s0, s1⟩
    go_simp
    with_reducible rfl
  rotate_left
  · simp only [Act.put, List.setIfInBounds_toArray, List.set_cons_zero, List.set_cons_succ, i64_w, i32_w]
    rfl
  refine pure_ (i := 3) (N := some 13) (v := ?_) (a' := ?_) #[true, true, true, true, true, false] rfl rfl (any_of HT_.out (by kernel_rfl)) (fun _ _ _ h => h) (Or.inl ⟨by rfl, ?_⟩) ?_ ?_
  rotate_left
  · intro w'
    go_simp
    with_reducible rfl
  rotate_left
  · simp only [Act.put, List.setIfInBounds_toArray, List.set_cons_zero, List.set_cons_succ, i64_w, i32_w]
    rfl
  refine pure_ (i := 5) (N := some 6) (v := ?_) (a' := ?_) #[true, true, true, true, true, true] rfl rfl (any_of HT_.out (by kernel_rfl)) (fun _ _ _ h => h) (Or.inl ⟨by rfl, ?_⟩) ?_ ?_
  rotate_left
  · intro w'
    go_simp
    with_reducible rfl
  rotate_left
  · simp only [Act.put, List.setIfInBounds_toArray, List.set_cons_zero, List.set_cons_succ, i64_w, i32_w]
    rfl
  refine done_ (done_of HT_.out (by kernel_rfl)) ?_
  gi_wp2
  clear HT_ HW_ hHeld ea eb HSZ
  gi_loopw [5] (fun v5 wr => ∃ (pre : List GS) (at' : Int), v5 = .int .i64 at' ∧ Aside0 (freeL row a b = pre.map (·.1) ++ freeL row at' b ∧ 0 ≤ at' ∧ at' ≤ 1125899906842624) ∧ Aside0 (J pre wr) ∧ Aside0 (AlmM wr m ab cb row) ∧ Aside0 (wr.heap[fb]? = some (.cells #[.pointer (some ⟨ab, 0, none⟩)] 145 (0, 0))) ∧ Aside0 (m ≤ wr.heap.size ∧ fb + 1 + 1 < wr.heap.size ∧ W.heap.size ≤ wr.heap.size)) (fun p wr => match p with | .int _ x => (b - x).toNat | _ => 0)
  case atStart => exact ⟨[], a, rfl, ⟨rfl, ha, ha2⟩, HJ2, HA2, HK2, HSZ2⟩
  case round =>
    clear HA2 HJ2 HK2 HSZ2
    obtain ⟨pre, at', rfl, HF, HJs, HAs, HKs, HSs⟩ := hrel
    have c0 : wr.cell? ⟨fb, 0, none⟩ = some (.pointer (some ⟨ab, 0, none⟩)) := (blk_cell HKs.out 0).trans rfl
    by_cases hlt : at' < b
    · have hp : 0 ≤ at' ∧ at' < b ∧ b ≤ 1125899906842624 := ⟨HF.out.2.1, hlt, hb⟩
      by_cases hi : atP row at' < row.length
      · have hd : decide (atP row at' < row.length) = true := decide_eq_true hi
        have HN := Aside0.mk (next_any 0 ab cb row at' wr HAs.out.at)
        rw [hd] at HN
        have hnx : nxtP row at' = rd_T114 row (atP row at') := if_pos hi
        have HFR := Aside0.mk (freeL_some HAs.out.ok.row hlt hi)
        have HAT := Aside0.mk (atP_next HAs.out.ok.row hi)
        have hin : 0 ≤ (rd_T114 row (atP row at')).f0 ∧ (rd_T114 row (atP row at')).f0 < (rd_T114 row (atP row at')).f1 ∧ (rd_T114 row (atP row at')).f1 ≤ 1125899906842624 := by
          rw [rd_at row _ hi]; exact HAs.out.ok.mem _ (List.getElem_mem _)
        rw [← hnx] at HFR HAT hin
        have hgt : at' < (nxtP row at').f1 := by rw [hnx, rd_at row _ hi]; exact atP_at hi
        clear hnx
        generalize nxtP row at' = s at *
        obtain ⟨s0, s1⟩ := s
        simp only at hin HFR HAT hgt
        have hi0 := hin.1
        have hi1 := hin.2.1
        have hi2 := hin.2.2
        have HH := Aside0.mk (show (0 ≤ s0 ∧ s0 < s1 ∧ s1 ≤ 1125899906842624) ∧ at' < s1 from ⟨hin, hgt⟩)
        have hmin : ∃ z, mn s0 b = z := ⟨_, rfl⟩
        obtain ⟨z, hz⟩ := hmin
        have hz1 : z ≤ s0 ∧ z ≤ b := by subst hz; unfold mn; split <;> omega
        have HZ := Aside0.mk hz1
        rw [hz] at HFR
        by_cases hfr : at' < z
        · rw [if_pos hfr] at HFR
          have hq : 0 ≤ at' ∧ at' < z ∧ z ≤ 1125899906842624 := ⟨hp.1, hfr, by omega⟩
          gi_wp2_with (gi_at_call 139; refine (callsIn_wide.2 HN.out).mono ?_; rintro e w3 ⟨rfl, hb3⟩; have HB3 := Aside0.mk hb3; clear hb3; obtain ⟨fn, tmps, assign, body, hy, hR⟩ := HY.out pre ⟨⟨at', z⟩, hq⟩ ((w3.alloc (.cells #[.int .i64 s0, .int .i64 s1] 114)).alloc (.cells #[.int .i64 at', .int .i64 z] 114)) (HJ.out _ _ _ none HJs.out (grown_of_below (below_alloc (below_alloc HB3.out _) _) none) (fun _ e => by cases e)) (by rw [HF.out.1, HFR.out]; simp))
          refine hR.mono ?_
          rintro e W' (⟨rfl, hJ', hk⟩ | ⟨rfl, hJx'⟩)
          · have hB := Aside0.mk (below_alloc (below_alloc HB3.out (.cells #[.int .i64 s0, .int .i64 s1] 114)) (.cells #[.int .i64 at', .int .i64 z] 114))
            have hK := Aside0.mk ((KeepM.of_below (m := m) (cb := cb) (fb := fb) hB.out HSs.out.1).trans hk)
            have hblk := hk.box w3.heap.size _ (by have := HSs.out; have := HB3.out.size; omega) (blk_alloc (blk_new w3 (.cells #[.int .i64 s0, .int .i64 s1] 114)) (.cells #[.int .i64 at', .int .i64 z] 114)) rfl
            have hc1 : W'.cell? ⟨w3.heap.size, 1, none⟩ = some (.int .i64 s1) := (blk_cell hblk 1).trans rfl
            have HJ' := Aside0.mk hJ'
            clear hk hJ' hR hy hblk hB HB3
            gi_wp2
            go_roundw
            case measure => show (b - s1).toNat < (b - at').toNat; omega
            case rel => exact ⟨pre ++ [⟨⟨at', z⟩, hq⟩], s1, rfl, ⟨by rw [HF.out.1, HFR.out]; simp, by omega, by omega⟩, HJ', ⟨HAs.out.keep (fun k hk1 hk2 => hK.out.low k hk1 hk2)⟩, ⟨hK.out.box _ _ (Nat.le_refl _) HKs.out rfl⟩, ⟨by have := HSs.out; have := hK.out.size; omega⟩⟩
          · gi_wp2
            refine bodyPost_ret (results_none rfl _ _ _) rfl ?_
            exact ⟨⟨_, rfl⟩, .inr ⟨pre ++ [⟨⟨at', z⟩, hq⟩], by rw [HF.out.1, HFR.out]; simp, hJx'⟩⟩
        · rw [if_neg hfr] at HFR
          gi_wp2_with (gi_at_call 139; refine (callsIn_wide.2 HN.out).mono ?_; rintro e w3 ⟨rfl, hb3⟩; have HB3 := Aside0.mk hb3; clear hb3)
          go_roundw
          case measure => show (b - s1).toNat < (b - at').toNat; omega
          case rel =>
            have hB := below_alloc (below_alloc HB3.out (.cells #[.int .i64 s0, .int .i64 s1] 114)) (.cells #[.int .i64 at', .int .i64 z] 114)
            have hK := KeepM.of_below (m := m) (cb := cb) (fb := fb) hB HSs.out.1
            exact ⟨pre, s1, rfl, ⟨by rw [HF.out.1, HFR.out], by omega, by omega⟩, ⟨HJ.out _ _ _ none HJs.out (grown_of_below hB none) (fun _ e => by cases e)⟩, ⟨HAs.out.keep (fun k hk1 hk2 => hK.low k hk1 hk2)⟩, ⟨hK.box _ _ (Nat.le_refl _) HKs.out rfl⟩, ⟨by have := HSs.out; have := hK.size; omega⟩⟩
      · have hd : decide (atP row at' < row.length) = false := decide_eq_false hi
        gi_wp2_with (gi_at_call 139; refine (callsIn_wide.2 (next_any 0 ab cb row at' _ HAs.out.at)).mono ?_; rintro e w3 ⟨rfl, hb3⟩; rw [hd]; have HB3 := Aside0.mk hb3; clear hb3; obtain ⟨fn, tmps, assign, body, hy, hR⟩ := HY.out pre ⟨⟨at', b⟩, hp⟩ (w3.alloc (.cells #[.int .i64 (nxtP row at').f0, .int .i64 (nxtP row at').f1] 114)) (HJ.out _ _ _ none HJs.out (grown_of_below (below_alloc HB3.out _) none) (fun _ e => by cases e)) (by rw [HF.out.1, freeL_none hlt hi]; simp))
        refine hR.mono ?_
        rintro e W' (⟨rfl, hJ', hk⟩ | ⟨rfl, hJx'⟩)
        · gi_wp2
          refine bodyPost_ret (results_none rfl _ _ _) rfl ?_
          exact ⟨⟨_, rfl⟩, .inl ⟨pre ++ [⟨⟨at', b⟩, hp⟩], by rw [HF.out.1, freeL_none hlt hi]; simp, hJ'⟩⟩
        · gi_wp2
          refine bodyPost_ret (results_none rfl _ _ _) rfl ?_
          exact ⟨⟨_, rfl⟩, .inr ⟨pre ++ [⟨⟨at', b⟩, hp⟩], by rw [HF.out.1, freeL_none hlt hi]; simp, hJx'⟩⟩
    · gi_wp2
      go_end0
      exact ⟨⟨_, rfl⟩, .inl ⟨pre, by rw [HF.out.1, freeL_ge _ (Int.not_lt.2 hlt)]; simp, HJs.out⟩⟩
end Go.Proofs.YtepldlnmeenlbaaGreat.Own
namespace Go.Proofs.YtepldlnmeenlbaaGreat.Own
open Go.RowKit Go.Proofs Go.Proofs.YtepldlnmeenlbaaGreatW.PrintWords Go.Proofs.YtepldlnmeenlbaaGreatW.PrintLast Go.Proofs.YtepldlnmeenlbaaGreatW.PrintMore Go.Proofs.YtepldlnmeenlbaaGreat.Base
variable {w w' : World} {n kb ab pb cb : Nat} {off : Int} {week closed : List S114}
structure DueB (m : Nat) (w4 : World) (kv : Value) (B : Int) (r2 r3 : Int) : Prop where
  b0 : w4.heap[m]? = some (.cells #[kv] 61 (0, 0))
  b1 : w4.heap[m + 1]? = some (.cells #[.int .i64 B] 2 (0, 0))
  b2 : w4.heap[m + 1 + 1]? = some (.cells #[.int .i64 r2] 2 (0, 0))
  b3 : w4.heap[m + 1 + 1 + 1]? = some (.cells #[.int .i64 r3] 49 (0, 0))
theorem DueB.new (w : World) (kv : Value) (B : Int) : DueB w.heap.size ((((w.alloc (.cells #[kv] 61)).alloc (.cells #[.int .i64 B] 2)).alloc (.cells #[.int .i64 0] 2)).alloc (.cells #[.int .i64 0] 49)) kv B 0 0 :=
  ⟨blk_alloc (blk_alloc (blk_alloc (blk_new w _) _) _) _, blk_alloc (blk_alloc (by simpa using blk_new (w.alloc (.cells #[kv] 61)) (.cells #[.int .i64 B] 2)) _) _,
    blk_alloc (by simpa using blk_new ((w.alloc (.cells #[kv] 61)).alloc (.cells #[.int .i64 B] 2)) (.cells #[.int .i64 0] 2)) _, by simpa using blk_new (((w.alloc (.cells #[kv] 61)).alloc (.cells #[.int .i64 B] 2)).alloc (.cells #[.int .i64 0] 2)) (.cells #[.int .i64 0] 49)⟩
theorem DueB.upd {m : Nat} {w4 w5 : World} {kv : Value} {B r2 r3 : Int} (h : DueB m w4 kv B r2 r3) (hu : Upd cb w4 w5) (hc : cb < m) : DueB m w5 kv B r2 r3 :=
  ⟨hu.blk h.b0 (by omega), hu.blk h.b1 (by omega), hu.blk h.b2 (by omega), hu.blk h.b3 (by omega)⟩
theorem DueB.below {m : Nat} {w4 w5 : World} {kv : Value} {B r2 r3 : Int} (h : DueB m w4 kv B r2 r3) (hb : Below w4.heap.size w4 w5) : DueB m w5 kv B r2 r3 :=
  ⟨blk_below h.b0 hb, blk_below h.b1 hb, blk_below h.b2 hb, blk_below h.b3 hb⟩
theorem DueB.set1 {m : Nat} {w4 : World} {kv : Value} {B r2 r3 : Int} (h : DueB m w4 kv B r2 r3) (x : Int) : DueB m (w4.setCell ⟨m + 1, 0, none⟩ (.int .i64 x)) kv x r2 r3 :=
  ⟨(Below.heap_setCell _ _ _ _ (by simp <;> omega)).trans h.b0, blk_put (cs := #[.int .i64 B]) h.b1 0 _ rfl, (Below.heap_setCell _ _ _ _ (by simp <;> omega)).trans h.b2, (Below.heap_setCell _ _ _ _ (by simp <;> omega)).trans h.b3⟩
theorem DueB.set2 {m : Nat} {w4 : World} {kv : Value} {B r2 r3 : Int} (h : DueB m w4 kv B r2 r3) (x : Int) : DueB m (w4.setCell ⟨m + 1 + 1, 0, none⟩ (.int .i64 x)) kv B x r3 :=
  ⟨(Below.heap_setCell _ _ _ _ (by simp <;> omega)).trans h.b0, (Below.heap_setCell _ _ _ _ (by simp <;> omega)).trans h.b1, blk_put (cs := #[.int .i64 r2]) h.b2 0 _ rfl, (Below.heap_setCell _ _ _ _ (by simp <;> omega)).trans h.b3⟩
theorem DueB.set3 {m : Nat} {w4 : World} {kv : Value} {B r2 r3 : Int} (h : DueB m w4 kv B r2 r3) (x : Int) : DueB m (w4.setCell ⟨m + 1 + 1 + 1, 0, none⟩ (.int .i64 x)) kv B r2 x :=
  ⟨(Below.heap_setCell _ _ _ _ (by simp <;> omega)).trans h.b0, (Below.heap_setCell _ _ _ _ (by simp <;> omega)).trans h.b1, (Below.heap_setCell _ _ _ _ (by simp <;> omega)).trans h.b2, blk_put (cs := #[.int .i64 r3]) h.b3 0 _ rfl⟩
theorem ClkAt.lt (h : ClkAt w n kb ab pb cb off week closed) : cb < w.heap.size := by
  obtain ⟨m, k, ⟨lv, hc⟩ | ⟨v, hc, hr⟩⟩ := h.plan.cell
  · exact blk_lt hc
  · exact blk_lt hc
theorem due_left {w4 : World} {B x y r2 r3 : Int} {kv : Value} (D : DueB w.heap.size w4 kv B r2 r3) (hc : cb < w.heap.size) (HC : ClkAt w4 n kb ab pb cb off week closed) (HU : Upd cb w w4) (hx : week ≠ [] ∨ x = r2) :
    ClkAt ((w4.setCell ⟨w.heap.size + 1 + 1, 0, none⟩ (.int .i64 x)).setCell ⟨w.heap.size + 1 + 1 + 1, 0, none⟩ (.int .i64 y)) n kb ab pb cb off week closed ∧ Upd cb w ((w4.setCell ⟨w.heap.size + 1 + 1, 0, none⟩ (.int .i64 x)).setCell ⟨w.heap.size + 1 + 1 + 1, 0, none⟩ (.int .i64 y)) := by
  constructor
  · have h1 : ClkAt (w4.setCell ⟨w.heap.size + 1 + 1, 0, none⟩ (.int .i64 x)) n kb ab pb cb off week closed := by
      rcases hx with h | rfl
      · exact HC.far D.b2 (by decide) (by decide) (fun _ => h) (But.set _ _ _)
      · have hs := set_same D.b2
        exact ⟨HC.lo, HC.hi, HC.nkb, HC.ne, (hs _).trans HC.blk, HC.alm.keep (fun k _ _ _ => hs k), HC.plan.keep (fun k _ _ => hs k)⟩
    exact h1.far (D.set2 x).b3 (by decide) (by decide) (fun h => by cases h) (But.set _ _ _)
  · refine ⟨HU.os, HU.tape, HU.output, by simpa using HU.size, fun k hk hne => ?_⟩
    rw [Below.heap_setCell _ _ _ _ (by show k ≠ w.heap.size + 1 + 1 + 1; omega), Below.heap_setCell _ _ _ _ (by show k ≠ w.heap.size + 1 + 1; omega)]
    exact HU.block k hk hne
set_option maxHeartbeats 1600000 in
set_option maxRecDepth 100000 in
theorem due_arg1 (a B : Int) (w : World) (h : ClkAt w n kb ab pb cb off week closed) (hn : n ≤ w.heap.size) (hx : ¬ (0 ≤ a ∧ a ≤ 1125899906842624)) :
    Calls Tryz.prog 53 #[.pointer (some ⟨kb, 0, none⟩), .int .i64 a, .int .i64 B] w fun e w' => e = .returned (.tuple #[.int .i64 0, .int .i64 2]) ∧ ClkAt w' n kb ab pb cb off week closed ∧ Upd cb w w' := by
  have D4 := Aside0.mk (DueB.new w (.pointer (some ⟨kb, 0, none⟩)) B)
  have HB : Aside0 (Below w.heap.size w ((((w.alloc (.cells #[.pointer (some ⟨kb, 0, none⟩)] 61)).alloc (.cells #[.int .i64 B] 2)).alloc (.cells #[.int .i64 0] 2)).alloc (.cells #[.int .i64 0] 49))) := ⟨below_alloc (below_alloc (below_alloc (below_alloc (Below.refl w.heap.size w) _) _) _) _⟩
  have HC4 := Aside0.mk (h.below HB.out)
  have HU4 := Aside0.mk (Upd.of_below (b := cb) HB.out)
  have hcb := h.lt
  have HH := Aside0.mk h
  have hnot : ∀ (x : Bool) (w : World), (Op.unary .not (.bool x)).run Tryz.prog w = .ok (.bool (!x)) w := fun _ _ => rfl
  have HI : Aside0 (instB a = false) := ⟨decide_eq_false hx⟩
  clear hx
  clear h
  go_enter Tryz.func53, Tryz.ntmps53
  go_wp2_with fail
  generalize ((((w.alloc (.cells #[.pointer (some ⟨kb, 0, none⟩)] 61)).alloc (.cells #[.int .i64 B] 2)).alloc (.cells #[.int .i64 0] 2)).alloc (.cells #[.int .i64 0] 49)) = w4 at D4 HC4 HU4 HB ⊢
  have c0 : w4.cell? ⟨w.heap.size, 0, none⟩ = some (.pointer (some ⟨kb, 0, none⟩)) := (blk_cell D4.out.b0 0).trans rfl
  have d1 : w4.cell? ⟨w.heap.size + 1, 0, none⟩ = some (.int .i64 B) := (blk_cell D4.out.b1 0).trans rfl
  have d2 : w4.cell? ⟨w.heap.size + 1 + 1, 0, none⟩ = some (.int .i64 0) := (blk_cell D4.out.b2 0).trans rfl
  have d3 : w4.cell? ⟨w.heap.size + 1 + 1 + 1, 0, none⟩ = some (.int .i64 0) := (blk_cell D4.out.b3 0).trans rfl
  have f2 : w4.frozen? ⟨w.heap.size + 1 + 1, 0, none⟩ = false := blk_frozen D4.out.b2 0
  have f3 : w4.frozen? ⟨w.heap.size + 1 + 1 + 1, 0, none⟩ = false := blk_frozen D4.out.b3 0
  go_wp2_with (first | (go_at_call 86; refine (clknone_any _ HC4.out).mono ?_; rintro e w5 ⟨rfl, rfl⟩) | (go_at_call 87; refine (instant_any a _).mono ?_; rintro e w5 ⟨rfl, hb⟩; rw [HI.out]; have D5 := Aside0.mk (D4.out.below hb); have HC5 := Aside0.mk (HC4.out.below hb); have HU5 := Aside0.mk (HU4.out.then hb); have HB5 := Aside0.mk (below_step HB.out hb); clear hb; have c0 : w5.cell? ⟨w.heap.size, 0, none⟩ = some (.pointer (some ⟨kb, 0, none⟩)) := (blk_cell D5.out.b0 0).trans rfl; have d1 : w5.cell? ⟨w.heap.size + 1, 0, none⟩ = some (.int .i64 B) := (blk_cell D5.out.b1 0).trans rfl; have d2 : w5.cell? ⟨w.heap.size + 1 + 1, 0, none⟩ = some (.int .i64 0) := (blk_cell D5.out.b2 0).trans rfl; have d3 : w5.cell? ⟨w.heap.size + 1 + 1 + 1, 0, none⟩ = some (.int .i64 0) := (blk_cell D5.out.b3 0).trans rfl; have f2 : w5.frozen? ⟨w.heap.size + 1 + 1, 0, none⟩ = false := blk_frozen D5.out.b2 0; have f3 : w5.frozen? ⟨w.heap.size + 1 + 1 + 1, 0, none⟩ = false := blk_frozen D5.out.b3 0))
  have HB9 : Below w.heap.size w ((w5.setCell ⟨w.heap.size + 1 + 1, 0, none⟩ (.int .i64 (0))).setCell ⟨w.heap.size + 1 + 1 + 1, 0, none⟩ (.int .i64 2)) := below_set (below_set HB5.out (by omega)) (by omega)
  have D9 := (D5.out.set2 0).set3 2
  have e2 := (blk_cell D9.b2 0).trans (rfl : _ = some (Value.int .i64 0))
  have e3 := (blk_cell D9.b3 0).trans (rfl : _ = some (Value.int .i64 2))
  refine bodyPost_ret (v := .tuple #[.int .i64 0, .int .i64 2]) (by simp [results, Tryz.results53, go_sem, e2, e3]) rfl ⟨rfl, HH.out.below HB9, Upd.of_below HB9⟩
set_option maxHeartbeats 1600000 in
set_option maxRecDepth 100000 in
theorem due_arg2 (a B : Int) (w : World) (h : ClkAt w n kb ab pb cb off week closed) (hn : n ≤ w.heap.size) (hx : 0 ≤ a ∧ a ≤ 1125899906842624) (hB : B < 0) :
    Calls Tryz.prog 53 #[.pointer (some ⟨kb, 0, none⟩), .int .i64 a, .int .i64 B] w fun e w' => e = .returned (.tuple #[.int .i64 0, .int .i64 2]) ∧ ClkAt w' n kb ab pb cb off week closed ∧ Upd cb w w' := by
  have D4 := Aside0.mk (DueB.new w (.pointer (some ⟨kb, 0, none⟩)) B)
  have HB : Aside0 (Below w.heap.size w ((((w.alloc (.cells #[.pointer (some ⟨kb, 0, none⟩)] 61)).alloc (.cells #[.int .i64 B] 2)).alloc (.cells #[.int .i64 0] 2)).alloc (.cells #[.int .i64 0] 49))) := ⟨below_alloc (below_alloc (below_alloc (below_alloc (Below.refl w.heap.size w) _) _) _) _⟩
  have HC4 := Aside0.mk (h.below HB.out)
  have HU4 := Aside0.mk (Upd.of_below (b := cb) HB.out)
  have hcb := h.lt
  have HH := Aside0.mk h
  have hnot : ∀ (x : Bool) (w : World), (Op.unary .not (.bool x)).run Tryz.prog w = .ok (.bool (!x)) w := fun _ _ => rfl
  have HI : Aside0 (instB a = true) := ⟨decide_eq_true hx⟩
  clear hx
  clear h
  go_enter Tryz.func53, Tryz.ntmps53
  go_wp2_with fail
  generalize ((((w.alloc (.cells #[.pointer (some ⟨kb, 0, none⟩)] 61)).alloc (.cells #[.int .i64 B] 2)).alloc (.cells #[.int .i64 0] 2)).alloc (.cells #[.int .i64 0] 49)) = w4 at D4 HC4 HU4 HB ⊢
  have c0 : w4.cell? ⟨w.heap.size, 0, none⟩ = some (.pointer (some ⟨kb, 0, none⟩)) := (blk_cell D4.out.b0 0).trans rfl
  have d1 : w4.cell? ⟨w.heap.size + 1, 0, none⟩ = some (.int .i64 B) := (blk_cell D4.out.b1 0).trans rfl
  have d2 : w4.cell? ⟨w.heap.size + 1 + 1, 0, none⟩ = some (.int .i64 0) := (blk_cell D4.out.b2 0).trans rfl
  have d3 : w4.cell? ⟨w.heap.size + 1 + 1 + 1, 0, none⟩ = some (.int .i64 0) := (blk_cell D4.out.b3 0).trans rfl
  have f2 : w4.frozen? ⟨w.heap.size + 1 + 1, 0, none⟩ = false := blk_frozen D4.out.b2 0
  have f3 : w4.frozen? ⟨w.heap.size + 1 + 1 + 1, 0, none⟩ = false := blk_frozen D4.out.b3 0
  go_wp2_with (first | (go_at_call 86; refine (clknone_any _ HC4.out).mono ?_; rintro e w5 ⟨rfl, rfl⟩) | (go_at_call 87; refine (instant_any a _).mono ?_; rintro e w5 ⟨rfl, hb⟩; rw [HI.out]; have D5 := Aside0.mk (D4.out.below hb); have HC5 := Aside0.mk (HC4.out.below hb); have HU5 := Aside0.mk (HU4.out.then hb); have HB5 := Aside0.mk (below_step HB.out hb); clear hb; have c0 : w5.cell? ⟨w.heap.size, 0, none⟩ = some (.pointer (some ⟨kb, 0, none⟩)) := (blk_cell D5.out.b0 0).trans rfl; have d1 : w5.cell? ⟨w.heap.size + 1, 0, none⟩ = some (.int .i64 B) := (blk_cell D5.out.b1 0).trans rfl; have d2 : w5.cell? ⟨w.heap.size + 1 + 1, 0, none⟩ = some (.int .i64 0) := (blk_cell D5.out.b2 0).trans rfl; have d3 : w5.cell? ⟨w.heap.size + 1 + 1 + 1, 0, none⟩ = some (.int .i64 0) := (blk_cell D5.out.b3 0).trans rfl; have f2 : w5.frozen? ⟨w.heap.size + 1 + 1, 0, none⟩ = false := blk_frozen D5.out.b2 0; have f3 : w5.frozen? ⟨w.heap.size + 1 + 1 + 1, 0, none⟩ = false := blk_frozen D5.out.b3 0))
  have HB9 : Below w.heap.size w ((w5.setCell ⟨w.heap.size + 1 + 1, 0, none⟩ (.int .i64 (0))).setCell ⟨w.heap.size + 1 + 1 + 1, 0, none⟩ (.int .i64 2)) := below_set (below_set HB5.out (by omega)) (by omega)
  have D9 := (D5.out.set2 0).set3 2
  have e2 := (blk_cell D9.b2 0).trans (rfl : _ = some (Value.int .i64 0))
  have e3 := (blk_cell D9.b3 0).trans (rfl : _ = some (Value.int .i64 2))
  refine bodyPost_ret (v := .tuple #[.int .i64 0, .int .i64 2]) (by simp [results, Tryz.results53, go_sem, e2, e3]) rfl ⟨rfl, HH.out.below HB9, Upd.of_below HB9⟩
set_option maxHeartbeats 1600000 in
set_option maxRecDepth 100000 in
theorem due_zero (a B : Int) (w : World) (h : ClkAt w n kb ab pb cb off week closed) (hn : n ≤ w.heap.size) (hx : 0 ≤ a ∧ a ≤ 1125899906842624) (hB : B = 0) :
    Calls Tryz.prog 53 #[.pointer (some ⟨kb, 0, none⟩), .int .i64 a, .int .i64 B] w fun e w' => e = .returned (.tuple #[.int .i64 a, .int .i64 0]) ∧ ClkAt w' n kb ab pb cb off week closed ∧ Upd cb w w' := by
  have D4 := Aside0.mk (DueB.new w (.pointer (some ⟨kb, 0, none⟩)) 0)
  have HB : Aside0 (Below w.heap.size w ((((w.alloc (.cells #[.pointer (some ⟨kb, 0, none⟩)] 61)).alloc (.cells #[.int .i64 0] 2)).alloc (.cells #[.int .i64 0] 2)).alloc (.cells #[.int .i64 0] 49))) := ⟨below_alloc (below_alloc (below_alloc (below_alloc (Below.refl w.heap.size w) _) _) _) _⟩
  have HC4 := Aside0.mk (h.below HB.out)
  have HU4 := Aside0.mk (Upd.of_below (b := cb) HB.out)
  have hcb := h.lt
  have HH := Aside0.mk h
  have hnot : ∀ (x : Bool) (w : World), (Op.unary .not (.bool x)).run Tryz.prog w = .ok (.bool (!x)) w := fun _ _ => rfl
  have HI : Aside0 (instB a = true) := ⟨decide_eq_true hx⟩
  clear hx
  subst hB
  clear h
  go_enter Tryz.func53, Tryz.ntmps53
  go_wp2_with fail
  generalize ((((w.alloc (.cells #[.pointer (some ⟨kb, 0, none⟩)] 61)).alloc (.cells #[.int .i64 0] 2)).alloc (.cells #[.int .i64 0] 2)).alloc (.cells #[.int .i64 0] 49)) = w4 at D4 HC4 HU4 HB ⊢
  have c0 : w4.cell? ⟨w.heap.size, 0, none⟩ = some (.pointer (some ⟨kb, 0, none⟩)) := (blk_cell D4.out.b0 0).trans rfl
  have d1 : w4.cell? ⟨w.heap.size + 1, 0, none⟩ = some (.int .i64 0) := (blk_cell D4.out.b1 0).trans rfl
  have d2 : w4.cell? ⟨w.heap.size + 1 + 1, 0, none⟩ = some (.int .i64 0) := (blk_cell D4.out.b2 0).trans rfl
  have d3 : w4.cell? ⟨w.heap.size + 1 + 1 + 1, 0, none⟩ = some (.int .i64 0) := (blk_cell D4.out.b3 0).trans rfl
  have f2 : w4.frozen? ⟨w.heap.size + 1 + 1, 0, none⟩ = false := blk_frozen D4.out.b2 0
  have f3 : w4.frozen? ⟨w.heap.size + 1 + 1 + 1, 0, none⟩ = false := blk_frozen D4.out.b3 0
  go_wp2_with (first | (go_at_call 86; refine (clknone_any _ HC4.out).mono ?_; rintro e w5 ⟨rfl, rfl⟩) | (go_at_call 87; refine (instant_any a _).mono ?_; rintro e w5 ⟨rfl, hb⟩; rw [HI.out]; have D5 := Aside0.mk (D4.out.below hb); have HC5 := Aside0.mk (HC4.out.below hb); have HU5 := Aside0.mk (HU4.out.then hb); have HB5 := Aside0.mk (below_step HB.out hb); clear hb; have c0 : w5.cell? ⟨w.heap.size, 0, none⟩ = some (.pointer (some ⟨kb, 0, none⟩)) := (blk_cell D5.out.b0 0).trans rfl; have d1 : w5.cell? ⟨w.heap.size + 1, 0, none⟩ = some (.int .i64 0) := (blk_cell D5.out.b1 0).trans rfl; have d2 : w5.cell? ⟨w.heap.size + 1 + 1, 0, none⟩ = some (.int .i64 0) := (blk_cell D5.out.b2 0).trans rfl; have d3 : w5.cell? ⟨w.heap.size + 1 + 1 + 1, 0, none⟩ = some (.int .i64 0) := (blk_cell D5.out.b3 0).trans rfl; have f2 : w5.frozen? ⟨w.heap.size + 1 + 1, 0, none⟩ = false := blk_frozen D5.out.b2 0; have f3 : w5.frozen? ⟨w.heap.size + 1 + 1 + 1, 0, none⟩ = false := blk_frozen D5.out.b3 0))
  have HB9 : Below w.heap.size w ((w5.setCell ⟨w.heap.size + 1 + 1, 0, none⟩ (.int .i64 (a))).setCell ⟨w.heap.size + 1 + 1 + 1, 0, none⟩ (.int .i64 0)) := below_set (below_set HB5.out (by omega)) (by omega)
  have D9 := (D5.out.set2 a).set3 0
  have e2 := (blk_cell D9.b2 0).trans (rfl : _ = some (Value.int .i64 a))
  have e3 := (blk_cell D9.b3 0).trans (rfl : _ = some (Value.int .i64 0))
  refine bodyPost_ret (v := .tuple #[.int .i64 a, .int .i64 0]) (by simp [results, Tryz.results53, go_sem, e2, e3]) rfl ⟨rfl, HH.out.below HB9, Upd.of_below HB9⟩
set_option maxHeartbeats 1600000 in
set_option maxRecDepth 100000 in
theorem due_closed (a B : Int) (w : World) (h : ClkAt w n kb ab pb cb off week closed) (hn : n ≤ w.heap.size) (hx : 0 ≤ a ∧ a ≤ 1125899906842624) (hB : 0 < B) (hs : secs week = 0) :
    Calls Tryz.prog 53 #[.pointer (some ⟨kb, 0, none⟩), .int .i64 a, .int .i64 B] w fun e w' => e = .returned (.tuple #[.int .i64 0, .int .i64 40]) ∧ ClkAt w' n kb ab pb cb off week closed ∧ Upd cb w w' := by
  have D4 := Aside0.mk (DueB.new w (.pointer (some ⟨kb, 0, none⟩)) B)
  have HB : Aside0 (Below w.heap.size w ((((w.alloc (.cells #[.pointer (some ⟨kb, 0, none⟩)] 61)).alloc (.cells #[.int .i64 B] 2)).alloc (.cells #[.int .i64 0] 2)).alloc (.cells #[.int .i64 0] 49))) := ⟨below_alloc (below_alloc (below_alloc (below_alloc (Below.refl w.heap.size w) _) _) _) _⟩
  have HC4 := Aside0.mk (h.below HB.out)
  have HU4 := Aside0.mk (Upd.of_below (b := cb) HB.out)
  have hcb := h.lt
  have HH := Aside0.mk h
  have hnot : ∀ (x : Bool) (w : World), (Op.unary .not (.bool x)).run Tryz.prog w = .ok (.bool (!x)) w := fun _ _ => rfl
  have HI : Aside0 (instB a = true) := ⟨decide_eq_true hx⟩
  have HS := Aside0.mk hs
  have hB0 : (B == 0) = false := beq_eq_false_iff_ne.mpr (by omega)
  clear hx hs
  clear h
  go_enter Tryz.func53, Tryz.ntmps53
  go_wp2_with fail
  generalize ((((w.alloc (.cells #[.pointer (some ⟨kb, 0, none⟩)] 61)).alloc (.cells #[.int .i64 B] 2)).alloc (.cells #[.int .i64 0] 2)).alloc (.cells #[.int .i64 0] 49)) = w4 at D4 HC4 HU4 HB ⊢
  have c0 : w4.cell? ⟨w.heap.size, 0, none⟩ = some (.pointer (some ⟨kb, 0, none⟩)) := (blk_cell D4.out.b0 0).trans rfl
  have d1 : w4.cell? ⟨w.heap.size + 1, 0, none⟩ = some (.int .i64 B) := (blk_cell D4.out.b1 0).trans rfl
  have d2 : w4.cell? ⟨w.heap.size + 1 + 1, 0, none⟩ = some (.int .i64 0) := (blk_cell D4.out.b2 0).trans rfl
  have d3 : w4.cell? ⟨w.heap.size + 1 + 1 + 1, 0, none⟩ = some (.int .i64 0) := (blk_cell D4.out.b3 0).trans rfl
  have f2 : w4.frozen? ⟨w.heap.size + 1 + 1, 0, none⟩ = false := blk_frozen D4.out.b2 0
  have f3 : w4.frozen? ⟨w.heap.size + 1 + 1 + 1, 0, none⟩ = false := blk_frozen D4.out.b3 0
  go_wp2_with (first | (go_at_call 86; refine (clknone_any _ HC4.out).mono ?_; rintro e w5 ⟨rfl, rfl⟩) | (go_at_call 87; refine (instant_any a _).mono ?_; rintro e w5 ⟨rfl, hb⟩; rw [HI.out]; have D5 := Aside0.mk (D4.out.below hb); have HC5 := Aside0.mk (HC4.out.below hb); have HU5 := Aside0.mk (HU4.out.then hb); have HB5 := Aside0.mk (below_step HB.out hb); clear hb; have c0 : w5.cell? ⟨w.heap.size, 0, none⟩ = some (.pointer (some ⟨kb, 0, none⟩)) := (blk_cell D5.out.b0 0).trans rfl; have d1 : w5.cell? ⟨w.heap.size + 1, 0, none⟩ = some (.int .i64 B) := (blk_cell D5.out.b1 0).trans rfl; have d2 : w5.cell? ⟨w.heap.size + 1 + 1, 0, none⟩ = some (.int .i64 0) := (blk_cell D5.out.b2 0).trans rfl; have d3 : w5.cell? ⟨w.heap.size + 1 + 1 + 1, 0, none⟩ = some (.int .i64 0) := (blk_cell D5.out.b3 0).trans rfl; have f2 : w5.frozen? ⟨w.heap.size + 1 + 1, 0, none⟩ = false := blk_frozen D5.out.b2 0; have f3 : w5.frozen? ⟨w.heap.size + 1 + 1 + 1, 0, none⟩ = false := blk_frozen D5.out.b3 0; have k1 : w5.cell? ⟨kb, 1, none⟩ = some (.pointer (some ⟨pb, 0, none⟩)) := (blk_cell HC5.out.blk 1).trans rfl) | (go_at_call 105; refine (total_any n pb cb week _ HC5.out.plan (Nat.le_trans hn HU5.out.size)).mono ?_; rintro e w6 ⟨rfl, hp, hu⟩; rw [HS.out]; have D6 := Aside0.mk (D5.out.upd hu hcb); have HC6 := Aside0.mk (HC5.out.upd hu hp); have HU6 := Aside0.mk (HU5.out.trans hu); clear hp hu; have e0 : w6.cell? ⟨w.heap.size, 0, none⟩ = some (.pointer (some ⟨kb, 0, none⟩)) := (blk_cell D6.out.b0 0).trans rfl; have d1 : w6.cell? ⟨w.heap.size + 1, 0, none⟩ = some (.int .i64 B) := (blk_cell D6.out.b1 0).trans rfl; have d2 : w6.cell? ⟨w.heap.size + 1 + 1, 0, none⟩ = some (.int .i64 0) := (blk_cell D6.out.b2 0).trans rfl; have d3 : w6.cell? ⟨w.heap.size + 1 + 1 + 1, 0, none⟩ = some (.int .i64 0) := (blk_cell D6.out.b3 0).trans rfl; have f2 : w6.frozen? ⟨w.heap.size + 1 + 1, 0, none⟩ = false := blk_frozen D6.out.b2 0; have f3 : w6.frozen? ⟨w.heap.size + 1 + 1 + 1, 0, none⟩ = false := blk_frozen D6.out.b3 0))
  have L := due_left D6.out (x := 0) (y := 40) hcb HC6.out HU6.out (.inr rfl)
  have D9 := (D6.out.set2 0).set3 40
  have e2 := (blk_cell D9.b2 0).trans (rfl : _ = some (Value.int .i64 0))
  have e3 := (blk_cell D9.b3 0).trans (rfl : _ = some (Value.int .i64 40))
  refine bodyPost_ret (v := .tuple #[.int .i64 0, .int .i64 40]) (by simp [results, Tryz.results53, go_sem, e2, e3]) rfl ⟨rfl, L⟩
end Go.Proofs.YtepldlnmeenlbaaGreat.Own
namespace Go.Proofs.YtepldlnmeenlbaaGreat.Own
open Go.RowKit Go.Shelf Go.Proofs Go.Proofs.YtepldlnmeenlbaaGreatW.PrintWords Go.Proofs.YtepldlnmeenlbaaGreatW.PrintLast Go.Proofs.YtepldlnmeenlbaaGreatW.PrintMore Go.Proofs.YtepldlnmeenlbaaGreat.Base
attribute [local go_sem] Oper.semAt_some max2_mx min2_mn max_two min_two
variable {w w' : World} {n kb ab pb cb : Nat} {off : Int} {week closed : List S114}
theorem R_cells {α : Type} {d : Kd α} {e : Nat} {base : Nat} {ok : Nat → Prop} {v : Value} {xs : List α} (h : d.R e w base ok v xs) (hm : ∀ (k : Nat) (o : Obj), w.heap[k]? = some o → o.isCells = true → w'.heap[k]? = some o) : d.R e w' base ok v xs :=
  Kd.R_mono (Kd.R_move (Kd.R_bound h) (fun k hk => by
    obtain ⟨_, _, _, q, hq, cells', hc⟩ := hk
    rw [hc]
    exact hm k _ hc rfl)) (fun _ hk => hk.1)
theorem ClkAt.cells (h : ClkAt w n kb ab pb cb off week closed) (hm : ∀ (k : Nat) (o : Obj), w.heap[k]? = some o → o.isCells = true → w'.heap[k]? = some o) : ClkAt w' n kb ab pb cb off week closed := by
  obtain ⟨A, c, hpb, hc, hr⟩ := h.plan.blk
  obtain ⟨A2, c2, hab, hc2, hr2⟩ := h.alm.blk
  refine ⟨h.lo, h.hi, h.nkb, h.ne, hm _ _ h.blk rfl, ⟨h.alm.ok, h.alm.nab, h.alm.ne, A2, c2, hm _ _ hab rfl, hc2, R_cells hr2 hm⟩, h.plan.ok, h.plan.npb, h.plan.ncb, h.plan.ne, ⟨A, c, hm _ _ hpb rfl, hc, R_cells hr hm⟩, ?_⟩
  obtain ⟨m, k, ⟨lv, hc⟩ | ⟨v, hc, hr⟩⟩ := h.plan.cell
  · exact ⟨m, k, .inl ⟨lv, hm _ _ hc rfl⟩⟩
  · exact ⟨m, k, .inr ⟨v, hm _ _ hc rfl, R_cells hr hm⟩⟩
theorem DueB.cells {m : Nat} {kv : Value} {B r2 r3 : Int} (h : DueB m w kv B r2 r3) (hm : ∀ (k : Nat) (o : Obj), w.heap[k]? = some o → o.isCells = true → w'.heap[k]? = some o) : DueB m w' kv B r2 r3 :=
  ⟨hm _ _ h.b0 rfl, hm _ _ h.b1 rfl, hm _ _ h.b2 rfl, hm _ _ h.b3 rfl⟩
theorem cells_kept {row : Option Nat} (hg : w.grownBy w' row) {B : Nat} (hr : ∀ r, row = some r → B ≤ r ∧ ∃ o : Obj, w.heap[r]? = some o ∧ o.isCells = false) : ∀ (k : Nat) (o : Obj), w.heap[k]? = some o → o.isCells = true → w'.heap[k]? = some o := fun k o h hc =>
  (hg.block k (blk_lt h) (fun e => by obtain ⟨_, o', h', hc'⟩ := hr k e.symm; rw [h'] at h; injection h with h; subst h; rw [hc] at hc'; cases hc')).trans h
theorem Upd.kept {W W' : World} {row : Option Nat} (hu : Upd cb w W) (hg : W.grownBy W' row) {B : Nat} (hB : w.heap.size ≤ B) (hr : ∀ r, row = some r → B ≤ r ∧ ∃ o : Obj, W.heap[r]? = some o ∧ o.isCells = false) : Upd cb w W' :=
  ⟨hg.os.trans hu.os, hg.tape.trans hu.tape, hg.output.trans hu.output, Nat.le_trans hu.size hg.size, fun k hk hne => (hg.block k (Nat.lt_of_lt_of_le hk hu.size) (fun e => by have := (hr k e.symm).1; omega)).trans (hu.block k hk hne)⟩
theorem nodefer_of {ops : Array Oper} (h : (ops.toList.all fun o => match o.op with | .defer _ => false | _ => true) = true) : ∀ (i : Nat) (o : Oper), ops[i]? = some o → ∀ c, o.op ≠ .defer c := by
  intro i o hi c e
  have h1 := List.all_eq_true.1 h o (by
    obtain ⟨hlt, rfl⟩ := Array.getElem?_eq_some_iff.1 hi
    exact Array.getElem_mem_toList hlt)
  rw [e] at h1
  cases h1
theorem Upd.box {W : World} (hu : Upd cb w W) {b : Nat} (hb : w.heap.size ≤ b) (v : Value) : Upd cb w (W.setCell ⟨b, 0, none⟩ v) :=
  ⟨hu.os, hu.tape, hu.output, by simpa using hu.size, fun k hk hne => (Below.heap_setCell _ _ _ _ (by show k ≠ b; omega)).trans (hu.block k hk hne)⟩
theorem KeepM.box1 {m fb b : Nat} {W W' : World} (hu : Upd cb W W') (hm : m ≤ W.heap.size) (hc : cb < m) (h1 : m ≤ b) (h2 : b < fb) (v : Value) : KeepM m cb fb W (W'.setCell ⟨b, 0, none⟩ v) :=
  ⟨by simpa using hu.size, fun k hk hne => (Below.heap_setCell _ _ _ _ (by show k ≠ b; omega)).trans (hu.block k (by omega) (fun e => hne (by injection e))),
    fun k o hk h3 _ => (Below.heap_setCell _ _ _ _ (by show k ≠ b; omega)).trans (hu.blk h3 (by omega))⟩
theorem KeepsFrom.box1 {B b : Nat} {W W' : World} (hu : KeepsFrom B W W') (h2 : b < B) (v : Value) : KeepsFrom B W (W'.setCell ⟨b, 0, none⟩ v) :=
  hu.trans (KeepsFrom.of_grownBy (grownBy_setCell' W' b v) (fun j e => by injection e with e; omega))
theorem ClkAt.ne_span {b : Nat} {cs : Array Value} (h : ClkAt w n kb ab pb cb off week closed) (hb : w.heap[b]? = some (.cells cs 114 (0, 0))) : b ≠ cb := by
  rintro rfl
  obtain ⟨m, k, ⟨lv, hc⟩ | ⟨v, hc, hr⟩⟩ := h.plan.cell
  · rw [hc] at hb; injection hb with hb; injection hb with _ hb; cases hb
  · rw [hc] at hb; injection hb with hb; injection hb with _ hb; cases hb
theorem due_end {W : World} {L m : Nat} {kv : Value} {B r2 r3 : Int} (o' : Obj) (hL : w.heap.size ≤ L) (hK : W.heap[L]? = some (.deferred (some []))) (D : DueB m W kv B r2 r3) (C : ClkAt W n kb ab pb cb off week closed) (U : Upd cb w W) :
    DueB m (W.putObj L o') kv B r2 r3 ∧ ClkAt (W.putObj L o') n kb ab pb cb off week closed ∧ Upd cb w (W.putObj L o') := by
  have hg := grownBy_putObj' W L o'
  have hr : ∀ r, some L = some r → L ≤ r ∧ ∃ o : Obj, W.heap[r]? = some o ∧ o.isCells = false := fun r e => by cases e; exact ⟨Nat.le_refl _, _, hK, rfl⟩
  have hk := cells_kept hg hr
  exact ⟨D.cells hk, C.cells hk, U.kept hg hL hr⟩
def DueI (w : World) (n kb ab pb cb : Nat) (off : Int) (week closed : List S114) (B : Int) (pre : List GS) (W : World) : Prop :=
  ∃ Bc, (1 ≤ Bc ∧ Bc ≤ B ∧ ∀ r, dueL off week B (pre.map (·.1) ++ r) = dueL off week Bc r) ∧ DueB w.heap.size W (.pointer (some ⟨kb, 0, none⟩)) Bc 0 0 ∧ ClkAt W n kb ab pb cb off week closed ∧ Upd cb w W
def DueX (w : World) (n kb ab pb cb : Nat) (off : Int) (week closed : List S114) (B : Int) (c : Code) (pre : List GS) (W : World) : Prop :=
  c = .ret ∧ ∃ d Bc, (∀ r, dueL off week B (pre.map (·.1) ++ r) = some d) ∧ DueB w.heap.size W (.pointer (some ⟨kb, 0, none⟩)) Bc d 0 ∧ ClkAt W n kb ab pb cb off week closed ∧ Upd cb w W
theorem DueI.own {B : Int} {m : Nat} (hm : w.heap.size ≤ m) : OwnFrom m (DueI w n kb ab pb cb off week closed B) := fun s W W' row hs hg hr => by
  obtain ⟨Bc, h1, h2, h3, h4⟩ := hs
  have hk := cells_kept hg hr
  exact ⟨Bc, h1, h2.cells hk, h3.cells hk, h4.kept hg hm hr⟩
theorem DueX.own {B : Int} {m : Nat} (hm : w.heap.size ≤ m) (c : Code) : OwnFrom m (DueX w n kb ab pb cb off week closed B c) := fun s W W' row hs hg hr => by
  obtain ⟨h0, d, Bc, h1, h2, h3, h4⟩ := hs
  have hk := cells_kept hg hr
  exact ⟨h0, d, Bc, h1, h2.cells hk, h3.cells hk, h4.kept hg hm hr⟩
def dueR : Option Int → Int × Int
  | none => (0, 10)
  | some d => (d, 0)
def due_T14 : Bool × List (List Nat × List Nat) := (true, [([], []), ([0], [0]), ([1], [1]), ([2], [2]), ([], []), ([4], [4]), ([5], [5]), ([6], [6]), ([], []), ([8], [8]), ([], []), ([10], [10]), ([11], [11]), ([12], [12]), ([9, 13], [9, 13]), ([7, 14], [7, 14]), ([], []), ([15, 16], [15, 16]), ([17], [17]), ([3, 18, 15], [3, 18]), ([19], [19]), ([20], [20]), ([20], [20]), ([21, 19, 0, 1, 2, 3, 4, 5, 6, 7, 8, 9, 10, 11, 12, 13, 14, 15, 16, 17, 18, 19, 20, 21], [21]), ([22, 23, 0, 1, 2, 3, 4, 5, 6, 7, 8, 9, 10, 11, 12, 13, 14, 15, 16, 17, 18, 19, 20, 21, 22, 23], [22])])
def due_B14 : List Nat := [0, 1, 3, 7, 0, 16, 48, 112, 0, 256, 0, 1024, 3072, 7168, 16128, 32752, 0, 131056, 262128, 524287, 1048575, 2097151, 2097151, 4194303, 16777215]
theorem due_tab14 : rtab .any (opsOf Tryz.f53 14) = due_T14 := by kernel_rfl
theorem due_bits14 : waitsOk due_T14.2 due_B14 = true := by kernel_rfl
set_option maxHeartbeats 8000000 in
set_option maxRecDepth 100000 in
theorem due_main (a B : Int) (w : World) (h : ClkAt w n kb ab pb cb off week closed) (hn : n ≤ w.heap.size) (hx : 0 ≤ a ∧ a ≤ 1125899906842624) (hB : 0 < B) (hB2 : B ≤ 9223372036854775807) (hs : 0 < secs week) :
    Calls Tryz.prog 53 #[.pointer (some ⟨kb, 0, none⟩), .int .i64 a, .int .i64 B] w fun e w' => e = .returned (.tuple #[.int .i64 (dueR (dueL off week B (freeL closed a 1125899906842624))).1, .int .i64 (dueR (dueL off week B (freeL closed a 1125899906842624))).2]) ∧ ClkAt w' n kb ab pb cb off week closed ∧ Upd cb w w' := by
  refine (callsIn_wide (n := 10)).1 ?_
  have D4 := Aside0.mk (DueB.new w (.pointer (some ⟨kb, 0, none⟩)) B)
  have HB : Aside0 (Below w.heap.size w ((((w.alloc (.cells #[.pointer (some ⟨kb, 0, none⟩)] 61)).alloc (.cells #[.int .i64 B] 2)).alloc (.cells #[.int .i64 0] 2)).alloc (.cells #[.int .i64 0] 49))) := ⟨below_alloc (below_alloc (below_alloc (below_alloc (Below.refl w.heap.size w) _) _) _) _⟩
  have HC4 := Aside0.mk (h.below HB.out)
  have HU4 := Aside0.mk (Upd.of_below (b := cb) HB.out)
  have hcb := h.lt
  have HA0 := Aside0.mk (AlmM.of h.alm)
  have hnot : ∀ (x : Bool) (w : World), (Op.unary .not (.bool x)).run Tryz.prog w = .ok (.bool (!x)) w := fun _ _ => rfl
  have hfn : ∀ g, Fence.wide.fn g := fun _ => trivial
  have HI : Aside0 (instB a = true) := ⟨decide_eq_true hx⟩
  have hB0 : (B == 0) = false := beq_eq_false_iff_ne.mpr (by omega)
  have hS0 : (secs week == 0) = false := beq_eq_false_iff_ne.mpr (by omega)
  have HSZ : Aside0 (w.heap.size + 4 ≤ ((((w.alloc (.cells #[.pointer (some ⟨kb, 0, none⟩)] 61)).alloc (.cells #[.int .i64 B] 2)).alloc (.cells #[.int .i64 0] 2)).alloc (.cells #[.int .i64 0] 49)).heap.size) := ⟨by simp⟩
  clear HB h
  refine callsIn_of_wp_marks Tryz.func53 rfl trivial ?_ rfl
  simp only [Tryz.ntmps53, List.size_toArray, List.length_cons, List.length_nil, Nat.reduceAdd, Nat.reduceSub, Array.replicate_succ, Array.replicate_zero, List.push_toArray, List.append_toArray, List.nil_append, List.cons_append]
  gi_wp2_with fail
  generalize ((((w.alloc (.cells #[.pointer (some ⟨kb, 0, none⟩)] 61)).alloc (.cells #[.int .i64 B] 2)).alloc (.cells #[.int .i64 0] 2)).alloc (.cells #[.int .i64 0] 49)) = w4 at D4 HC4 HU4 HSZ ⊢
  have c0 : w4.cell? ⟨w.heap.size, 0, none⟩ = some (.pointer (some ⟨kb, 0, none⟩)) := (blk_cell D4.out.b0 0).trans rfl
  have d1 : w4.cell? ⟨w.heap.size + 1, 0, none⟩ = some (.int .i64 B) := (blk_cell D4.out.b1 0).trans rfl
  have k0 : w4.cell? ⟨kb, 0, none⟩ = some (.pointer (some ⟨ab, 0, none⟩)) := (blk_cell HC4.out.blk 0).trans rfl
  have k1 : w4.cell? ⟨kb, 1, none⟩ = some (.pointer (some ⟨pb, 0, none⟩)) := (blk_cell HC4.out.blk 1).trans rfl
  gi_wp2_with (first | (gi_at_call 86; refine (callsIn_wide.2 (clknone_any _ HC4.out)).mono ?_; rintro e w5 ⟨rfl, rfl⟩) | (gi_at_call 87; refine (callsIn_wide.2 (instant_any a _)).mono ?_; rintro e w5 ⟨rfl, hb⟩; rw [HI.out]; have D5 := Aside0.mk (D4.out.below hb); have HC5 := Aside0.mk (HC4.out.below hb); have HU5 := Aside0.mk (HU4.out.then hb); have HSZ5 : Aside0 (w.heap.size + 4 ≤ w5.heap.size) := ⟨Nat.le_trans HSZ.out hb.size⟩; clear hb D4 HC4 HU4 HSZ; have c0 : w5.cell? ⟨w.heap.size, 0, none⟩ = some (.pointer (some ⟨kb, 0, none⟩)) := (blk_cell D5.out.b0 0).trans rfl; have d1 : w5.cell? ⟨w.heap.size + 1, 0, none⟩ = some (.int .i64 B) := (blk_cell D5.out.b1 0).trans rfl; have k0 : w5.cell? ⟨kb, 0, none⟩ = some (.pointer (some ⟨ab, 0, none⟩)) := (blk_cell HC5.out.blk 0).trans rfl; have k1 : w5.cell? ⟨kb, 1, none⟩ = some (.pointer (some ⟨pb, 0, none⟩)) := (blk_cell HC5.out.blk 1).trans rfl) | (gi_at_call 105; refine (callsIn_wide.2 (total_any n pb cb week _ HC5.out.plan (Nat.le_trans hn HU5.out.size))).mono ?_; rintro e w6 ⟨rfl, hp, hu⟩; have D6 := Aside0.mk (D5.out.upd hu hcb); have HC6 := Aside0.mk (HC5.out.upd hu hp); have HU6 := Aside0.mk (HU5.out.trans hu); have HSZ6 : Aside0 (w.heap.size + 4 ≤ w6.heap.size) := ⟨Nat.le_trans HSZ5.out hu.size⟩; clear hp hu D5 HC5 HU5 HSZ5; have c0 : w6.cell? ⟨w.heap.size, 0, none⟩ = some (.pointer (some ⟨kb, 0, none⟩)) := (blk_cell D6.out.b0 0).trans rfl; have d1 : w6.cell? ⟨w.heap.size + 1, 0, none⟩ = some (.int .i64 B) := (blk_cell D6.out.b1 0).trans rfl; have k0 : w6.cell? ⟨kb, 0, none⟩ = some (.pointer (some ⟨ab, 0, none⟩)) := (blk_cell HC6.out.blk 0).trans rfl; have k1 : w6.cell? ⟨kb, 1, none⟩ = some (.pointer (some ⟨pb, 0, none⟩)) := (blk_cell HC6.out.blk 1).trans rfl) | (gi_at_call 106; refine (callsIn_wide.2 (free_any ab a _ _)).mono ?_; rintro e w7 ⟨rfl, rfl⟩))
  obtain ⟨w7, hw7⟩ : ∃ w7, w7 = ((w6.alloc (Obj.cells #[Value.pointer (some { block := ab, off := 0 })] 145)).alloc (Obj.cells #[Value.int IntKind.i64 a] 2)).alloc (Obj.cells #[Value.int IntKind.i64 1125899906842624] 2) := ⟨_, rfl⟩
  have hb7 : Below w6.heap.size w6 w7 := by rw [hw7]; exact below_alloc (below_alloc (below_alloc (Below.refl _ _) _) _) _
  have B0 : w7.heap[w6.heap.size]? = some (.cells #[.pointer (some ⟨ab, 0, none⟩)] 145 (0, 0)) := by rw [hw7]; exact blk_alloc (blk_alloc (blk_new w6 _) _) _
  have B1 : w7.heap[w6.heap.size + 1]? = some (.cells #[.int .i64 a] 2 (0, 0)) := by
    rw [hw7]; exact blk_alloc (by simpa using blk_new (w6.alloc (Obj.cells #[Value.pointer (some { block := ab, off := 0 })] 145)) (Obj.cells #[Value.int IntKind.i64 a] 2)) _
  have B2 : w7.heap[w6.heap.size + 1 + 1]? = some (.cells #[.int .i64 1125899906842624] 2 (0, 0)) := by
    rw [hw7]; simpa using blk_new ((w6.alloc (Obj.cells #[Value.pointer (some { block := ab, off := 0 })] 145)).alloc (Obj.cells #[Value.int IntKind.i64 a] 2)) (Obj.cells #[Value.int IntKind.i64 1125899906842624] 2)
  have S7 : w7.heap.size = w6.heap.size + 3 := by rw [hw7]; simp
  rw [← hw7]
  have HU7 := HU6.out.then hb7
  have HS6 := HSZ6.out
  have I0 : DueI w n kb ab pb cb off week closed B [] w7 := ⟨B, ⟨by omega, Int.le_refl _, fun r => by simp⟩, D6.out.below hb7, HC6.out.below hb7, HU7⟩
  have HAM : AlmM w7 w.heap.size ab cb closed := HA0.out.keep (fun k hk hne => HU7.block k hk (fun e => hne (by injection e)))
  have HROW := HA0.out.ok
  clear hw7 D6 HC6 HU6 HSZ6 HA0 c0 d1 k0 k1 hB0 hS0 HI
  refine wpIn_rangeFunc_ownH (a := { tmps := ?T, defers := [] }) rfl (by omega) (gf := 138) (lb := #[.pointer (some ⟨w6.heap.size + 1, 0, none⟩), .pointer (some ⟨w6.heap.size + 1 + 1, 0, none⟩), .pointer (some ⟨w6.heap.size, 0, none⟩)]) ?hg trivial (enters_of Tryz.func138 (by kernel_rfl) rfl)
    (free_stops w.heap.size ab cb w6.heap.size closed a 1125899906842624 w7 HAM (by omega) (by omega) hx.1 hx.2 (Int.le_refl _) B0 B1 B2 (10 - 1) (by omega)) (fun h k => h.trans k) ?hkb (Below.refl _ _) ?hps
    (DueI w n kb ab pb cb off week closed B) (DueX w n kb ab pb cb off week closed B) (DueI.own (by omega)) (DueX.own (by omega)) I0
    (fun x a' W => ∃ sb, a' = { tmps := (Array.setIfInBounds ?T 40 (Value.agg #[.int .i64 x.1.f0, .int .i64 x.1.f1])).setIfInBounds 8 (.pointer (some ⟨sb, 0, none⟩)), defers := [] } ∧ W.heap[sb]? = some (.cells #[.int .i64 x.1.f0, .int .i64 x.1.f1] 114 (0, 0)))
    ?hax ?assign ?body ?done ?stop
  case hkb =>
    intro W l o o' hl ho hnc _
    have hg := grownBy_putObj' W l o'
    have hlt := blk_lt ho
    refine ⟨hg.size, fun k hk _ => hg.block k (by omega) (fun e => by injection e with e; omega), fun k oo hk h2 hc => (hg.block k (blk_lt h2) (fun e => ?_)).trans h2⟩
    injection e with e
    subst e
    rw [ho] at h2
    injection h2 with h2
    subst h2
    rw [hnc] at hc
    cases hc
  case hps => intro x; rfl
  case hg => rfl
  case hax =>
    intro x a' s W W' row hs hg hr
    obtain ⟨sb, e, hb⟩ := hs
    exact ⟨sb, e, cells_kept hg hr _ _ hb rfl⟩
  case assign =>
    intro l pre x W K hI hK
    have hsz : w.heap.size ≤ W.heap.size := by obtain ⟨_, _, _, _, U⟩ := hI; exact U.size
    gi_wp2
    refine hK _ _ (KeepsFrom.of_grownBy (World.grownBy_alloc W _ none) (fun _ e => by cases e)) (KeepM.of_below (below_alloc (Below.refl _ _) _) hsz) (DueI.own (Nat.le_refl _) _ _ _ none hI (World.grownBy_alloc W _ none) (fun _ e => by cases e)) ⟨W.heap.size, ?_, blk_new _ _⟩
    simp only [List.setIfInBounds_toArray, List.set_cons_zero, List.set_cons_succ]
  case body =>
    intro l pre x a' W hl hlr hI hAx hlen
    obtain ⟨sb, rfl, hsb⟩ := hAx
    obtain ⟨Bc, ⟨b1, b2, b3⟩, D, C, U⟩ := hI
    clear HAM B0 B1 B2 hb7 I0 HU7
    simp only [List.setIfInBounds_toArray, List.set_cons_zero, List.set_cons_succ]
    obtain ⟨⟨x0, x1⟩, hq⟩ := x
    have hx0 : 0 ≤ x0 := hq.1
    have hx1 : x0 < x1 := hq.2.1
    have hx2 : x1 ≤ 1125899906842624 := hq.2.2
    simp only at hsb b3 ⊢
    have hfl : ∀ g, (Fence.wide.inRound l).fn g := fun _ => trivial
    have hnW : n ≤ W.heap.size := Nat.le_trans hn U.size
    have c0 : W.cell? ⟨w.heap.size, 0, none⟩ = some (.pointer (some ⟨kb, 0, none⟩)) := (blk_cell D.b0 0).trans rfl
    have s0 : W.cell? ⟨sb, 0, none⟩ = some (.int .i64 x0) := (blk_cell hsb 0).trans rfl
    have s1 : W.cell? ⟨sb, 1, none⟩ = some (.int .i64 x1) := (blk_cell hsb 1).trans rfl
    have HWK := Aside0.mk (weekly_any x0 x1 W C hnW hx0 (by omega) (by omega) hx2)
    have hwb := between_bound C.plan.ok (x0 + (604800 - off)) (x1 + (604800 - off))
    have HE : Aside0 (weeklyP off week x0 x1 = weeklyP off week x0 x1) := ⟨rfl⟩
    have HHIT := Aside0.mk (fun h => due_hit C.plan.ok C.lo C.hi hs (a := x0) (z := x1) (B := Bc) hx0 (by omega) hx2 b1 h)
    change 0 ≤ weeklyP off week x0 x1 ∧ weeklyP off week x0 x1 ≤ _ at hwb
    have hsne : sb ≠ cb := C.ne_span hsb
    have hneq : week ≠ [] := fun e => by rw [e] at hs; simp [secs] at hs
    have HD := Aside0.mk D
    have HU := Aside0.mk U
    have HB3 := Aside0.mk b3
    have HSB := Aside0.mk hsb
    clear C D U hsb b3
    by_cases hlt : weeklyP off week x0 x1 < Bc
    · have hle : Bc > weeklyP off week x0 x1 := hlt
      gi_wp2_with (gi_at_call 88; refine (CallsIn.inRound l (callsIn_wide.2 HWK.out)).mono ?_; rintro e w8 ⟨rfl, C8, U8⟩; have HC8 := Aside0.mk C8; have HU8 := Aside0.mk U8; have HD8 := Aside0.mk (HD.out.upd U8 hcb); have d1 : w8.cell? ⟨w.heap.size + 1, 0, none⟩ = some (.int .i64 Bc) := (blk_cell HD8.out.b1 0).trans rfl; have f1 : w8.frozen? ⟨w.heap.size + 1, 0, none⟩ = false := blk_frozen HD8.out.b1 0; clear C8 U8)
      refine ⟨KeepsFrom.box1 (KeepsFrom.of_grownBy HU8.out (fun j e => by injection e with e; omega)) (by omega) _, KeepM.box1 HU8.out HU.out.size hcb (by omega) (by omega) _, Bc - weeklyP off week x0 x1, ⟨by omega, by omega, fun r => ?_⟩, HD8.out.set1 _, HC8.out.far HD8.out.b1 (by decide) (by decide) (fun _ => hneq) (But.set _ _ _), (HU.out.trans HU8.out).box (by omega) _⟩
      have := HB3.out (⟨x0, x1⟩ :: r)
      simp only [List.map_append, List.map_cons, List.map_nil, List.append_assoc, List.cons_append, List.nil_append]
      rw [this]
      simp only [dueL]
      rw [if_pos hlt]
    · have hle : ¬ Bc > weeklyP off week x0 x1 := hlt
      gi_wp2_with (gi_at_call 88; refine (CallsIn.inRound l (callsIn_wide.2 HWK.out)).mono ?_; rintro e w8 ⟨rfl, C8, U8⟩; have HC8 := Aside0.mk C8; have HU8 := Aside0.mk U8; have HD8 := Aside0.mk (HD.out.upd U8 hcb); have d1 : w8.cell? ⟨w.heap.size + 1, 0, none⟩ = some (.int .i64 Bc) := (blk_cell HD8.out.b1 0).trans rfl; have f1 : w8.frozen? ⟨w.heap.size + 1, 0, none⟩ = false := blk_frozen HD8.out.b1 0; clear C8 U8)
      obtain ⟨⟨p0, p1⟩, p2, p3, p4, _, _⟩ := HHIT.out (by omega)
      have HDUE : Aside0 (∀ r, dueL off week B ((pre ++ [(⟨⟨x0, x1⟩, hq⟩ : GS)]).map (·.1) ++ r) = some (nthP week (untilP week (x0 + (604800 - off)) + Bc - 1) - (604800 - off) + 1)) := ⟨fun r => by
        have := HB3.out (⟨x0, x1⟩ :: r)
        simp only [List.map_append, List.map_cons, List.map_nil, List.append_assoc, List.cons_append, List.nil_append]
        rw [this]
        simp only [dueL]
        rw [if_neg (by omega)]⟩
      have q0 := HC8.out.lo
      have q1 := HC8.out.hi
      have hu0 := (until_bound HC8.out.plan.ok (x0 + (604800 - off))).1
      have hw1 : wrap64 (x0 + (604800 - off)) = x0 + (604800 - off) := wrap_id (by omega) (by omega)
      have HUN := Aside0.mk (fun w2 h1 h2 => until_any n pb cb week (wrap64 (x0 + (604800 - off))) w2 h1 h2)
      rw [show untilP week (wrap64 (x0 + (604800 - off))) = untilP week (x0 + (604800 - off)) by rw [hw1]] at HUN
      have HNT := Aside0.mk (fun w2 h1 h2 => nth_any n pb cb week (untilP week (x0 + (604800 - off)) + Bc - 1) w2 h1 h2 hs p0 p2 (by omega) (by omega))
      generalize nthP week (untilP week (x0 + (604800 - off)) + Bc - 1) = q at HDUE HNT p3 p4
      generalize untilP week (x0 + (604800 - off)) = U at HNT HUN p0 p1 hu0
      have hw2 : wrap64 (U + Bc) = U + Bc := wrap_id (by omega) (by omega)
      have hw3 : wrap64 (U + Bc - 1) = U + Bc - 1 := wrap_id (by omega) (by omega)
      rw [← hw3] at HNT
      have hw4 : wrap64 (q - (604800 - off)) = q - (604800 - off) := wrap_id (by omega) (by omega)
      have hw5 : wrap64 (q - (604800 - off) + 1) = q - (604800 - off) + 1 := wrap_id (by omega) (by omega)
      have hb9 : Below w8.heap.size w8 w8.drew := below_drew1 (Below.refl _ _)
      have HC9 := Aside0.mk (HC8.out.below hb9)
      have HU9 := Aside0.mk (HU8.out.then hb9)
      have HD9 := Aside0.mk (HD8.out.below hb9)
      have HS9 := Aside0.mk (blk_below (HU8.out.blk HSB.out hsne) hb9)
      have HN9 : Aside0 (n ≤ w8.drew.heap.size) := ⟨Nat.le_trans hnW HU9.out.size⟩
      have z0 : w8.drew.cell? ⟨w.heap.size, 0, none⟩ = some (.pointer (some ⟨kb, 0, none⟩)) := (blk_cell HD9.out.b0 0).trans rfl
      have z1 : w8.drew.cell? ⟨w.heap.size + 1, 0, none⟩ = some (.int .i64 Bc) := (blk_cell HD9.out.b1 0).trans rfl
      have z2 : w8.drew.cell? ⟨sb, 0, none⟩ = some (.int .i64 x0) := (blk_cell HS9.out 0).trans rfl
      have z3 : w8.drew.cell? ⟨kb, 1, none⟩ = some (.pointer (some ⟨pb, 0, none⟩)) := (blk_cell HC9.out.blk 1).trans rfl
      have z4 : w8.drew.cell? ⟨kb, 2, none⟩ = some (.int .i64 (604800 - off)) := (blk_cell HC9.out.blk 2).trans rfl
      clear hb9 HC8 HU8 HD8 HB3 s0 s1 c0 d1 f1 HHIT HWK
      have hnd := nodefer_of (ops := opsOf Tryz.f53 14) (by kernel_rfl)
      refine startIn_ (n := 25) (S := fun w' => w'.cell? ⟨w.heap.size, 0, none⟩ = some (.pointer (some ⟨kb, 0, none⟩)) ∧ w'.cell? ⟨w.heap.size + 1, 0, none⟩ = some (.int .i64 Bc) ∧ w'.cell? ⟨sb, 0, none⟩ = some (.int .i64 x0) ∧ w'.cell? ⟨kb, 1, none⟩ = some (.pointer (some ⟨pb, 0, none⟩)) ∧ w'.cell? ⟨kb, 2, none⟩ = some (.int .i64 (604800 - off))) (ds := []) hnd (fun ⟨_, _, h⟩ => h) #[false, false, false, false, false, false, false, false, false, false, false, false, false, false, false, false, false, false, false, false, false, false, false, false, false] (by kernel_rfl) rfl rfl ⟨z0, z1, z2, z3, z4⟩ (fun hHeld => ?_); refine with_tabW due_tab14 due_bits14 (fun HT_ HW_ => ?_)
      clear z0 z1 z2 z3 z4
      generalize w8.drew = w9 at HC9 HU9 HD9 HS9 HN9 hHeld ⊢
      refine pure_ (i := 8) (N := some 62) (v := ?_) (a' := ?_) #[false, false, false, false, false, false, false, false, true, false, false, false, false, false, false, false, false, false, false, false, false, false, false, false, false] rfl rfl (any_of HT_.out (by kernel_rfl)) (fun _ _ _ h => h) (Or.inl ⟨by rfl, ?_⟩) ?_ ?_
      rotate_left
      · intro w'
        go_simp
        with_reducible rfl
      rotate_left
      · simp only [Act.put, List.setIfInBounds_toArray, List.set_cons_zero, List.set_cons_succ, i64_w, i32_w]
        rfl
      refine take_ (i := 0) (N := some 54) (v := ?_) (a' := ?_) #[true, false, false, false, false, false, false, false, true, false, false, false, false, false, false, false, false, false, false, false, false, false, false, false, false] rfl rfl (take_ofW HT_.out HW_.out (by kernel_rfl)) (fun _ _ _ h => h) (Or.inl ⟨by rfl, ?_⟩) hHeld ?_ ?_
      rotate_left
      · rintro w' ⟨s0, s1, s2, s3, s4⟩
        go_simp
        with_reducible rfl
      rotate_left
      · simp only [Act.put, List.setIfInBounds_toArray, List.set_cons_zero, List.set_cons_succ, i64_w, i32_w]
        rfl
      refine pure_ (i := 1) (N := some 55) (v := ?_) (a' := ?_) #[true, true, false, false, false, false, false, false, true, false, false, false, false, false, false, false, false, false, false, false, false, false, false, false, false] rfl rfl (any_of HT_.out (by kernel_rfl)) (fun _ _ _ h => h) (Or.inl ⟨by rfl, ?_⟩) ?_ ?_
      rotate_left
      · intro w'
        go_simp
        with_reducible rfl
      rotate_left
      · simp only [Act.put, List.setIfInBounds_toArray, List.set_cons_zero, List.set_cons_succ, i64_w, i32_w]
        rfl
      refine pure_ (i := 2) (N := some 56) (v := ?_) (a' := ?_) #[true, true, true, false, false, false, false, false, true, false, false, false, false, false, false, false, false, false, false, false, false, false, false, false, false] rfl rfl (any_of HT_.out (by kernel_rfl)) (fun _ _ _ h => h) (Or.inl ⟨by rfl, ?_⟩) ?_ ?_
      rotate_left
      · intro w'
        go_simp
        with_reducible rfl
      rotate_left
      · simp only [Act.put, List.setIfInBounds_toArray, List.set_cons_zero, List.set_cons_succ, i64_w, i32_w]
        rfl
      refine take_ (i := 3) (N := some 57) (v := ?_) (a' := ?_) #[true, true, true, true, false, false, false, false, true, false, false, false, false, false, false, false, false, false, false, false, false, false, false, false, false] rfl rfl (take_ofW HT_.out HW_.out (by kernel_rfl)) (fun _ _ _ h => h) (Or.inl ⟨by rfl, ?_⟩) hHeld ?_ ?_
      rotate_left
      · rintro w' ⟨s0, s1, s2, s3, s4⟩
        go_simp
        with_reducible rfl
      rotate_left
      · simp only [Act.put, List.setIfInBounds_toArray, List.set_cons_zero, List.set_cons_succ, i64_w, i32_w]
        rfl
      refine take_ (i := 4) (N := some 58) (v := ?_) (a' := ?_) #[true, true, true, true, true, false, false, false, true, false, false, false, false, false, false, false, false, false, false, false, false, false, false, false, false] rfl rfl (take_ofW HT_.out HW_.out (by kernel_rfl)) (fun _ _ _ h => h) (Or.inl ⟨by rfl, ?_⟩) hHeld ?_ ?_
      rotate_left
      · rintro w' ⟨s0, s1, s2, s3, s4⟩
        go_simp
        with_reducible rfl
      rotate_left
      · simp only [Act.put, List.setIfInBounds_toArray, List.set_cons_zero, List.set_cons_succ, i64_w, i32_w]
        rfl
      refine pure_ (i := 5) (N := some 59) (v := ?_) (a' := ?_) #[true, true, true, true, true, true, false, false, true, false, false, false, false, false, false, false, false, false, false, false, false, false, false, false, false] rfl rfl (any_of HT_.out (by kernel_rfl)) (fun _ _ _ h => h) (Or.inl ⟨by rfl, ?_⟩) ?_ ?_
      rotate_left
      · intro w'
        go_simp
        with_reducible rfl
      rotate_left
      · simp only [Act.put, List.setIfInBounds_toArray, List.set_cons_zero, List.set_cons_succ, i64_w, i32_w]
        rfl
      refine pure_ (i := 6) (N := some 60) (v := ?_) (a' := ?_) #[true, true, true, true, true, true, true, false, true, false, false, false, false, false, false, false, false, false, false, false, false, false, false, false, false] rfl rfl (any_of HT_.out (by kernel_rfl)) (fun _ _ _ h => h) (Or.inl ⟨by rfl, ?_⟩) ?_ ?_
      rotate_left
      · intro w'
        go_simp
        with_reducible rfl
      rotate_left
      · simp only [Act.put, List.setIfInBounds_toArray, List.set_cons_zero, List.set_cons_succ, i64_w, i32_w]
        rfl
      refine take_ (i := 7) (N := some 61) (v := ?_) (a' := ?_) #[true, true, true, true, true, true, true, true, true, false, false, false, false, false, false, false, false, false, false, false, false, false, false, false, false] rfl rfl (take_ofW HT_.out HW_.out (by kernel_rfl)) (fun _ _ _ h => h) (Or.inl ⟨by rfl, ?_⟩) hHeld ?_ ?_
      rotate_left
      · rintro w' ⟨s0, s1, s2, s3, s4⟩
        go_simp
        with_reducible rfl
      rotate_left
      · simp only [Act.put, List.setIfInBounds_toArray, List.set_cons_zero, List.set_cons_succ, i64_w, i32_w]
        rfl
      refine take_ (i := 9) (N := some 63) (v := ?_) (a' := ?_) #[true, true, true, true, true, true, true, true, true, true, false, false, false, false, false, false, false, false, false, false, false, false, false, false, false] rfl rfl (take_ofW HT_.out HW_.out (by kernel_rfl)) (fun _ _ _ h => h) (Or.inl ⟨by rfl, ?_⟩) hHeld ?_ ?_
      rotate_left
      · rintro w' ⟨s0, s1, s2, s3, s4⟩
        go_simp
        with_reducible rfl
      rotate_left
      · simp only [Act.put, List.setIfInBounds_toArray, List.set_cons_zero, List.set_cons_succ, i64_w, i32_w]
        rfl
      refine take_ (i := 10) (N := some 64) (v := ?_) (a' := ?_) #[true, true, true, true, true, true, true, true, true, true, true, false, false, false, false, false, false, false, false, false, false, false, false, false, false] rfl rfl (take_ofW HT_.out HW_.out (by kernel_rfl)) (fun _ _ _ h => h) (Or.inl ⟨by rfl, ?_⟩) hHeld ?_ ?_
      rotate_left
      · rintro w' ⟨s0, s1, s2, s3, s4⟩
        go_simp
        with_reducible rfl
      rotate_left
      · simp only [Act.put, List.setIfInBounds_toArray, List.set_cons_zero, List.set_cons_succ, i64_w, i32_w]
        rfl
      refine pure_ (i := 11) (N := some 65) (v := ?_) (a' := ?_) #[true, true, true, true, true, true, true, true, true, true, true, true, false, false, false, false, false, false, false, false, false, false, false, false, false] rfl rfl (any_of HT_.out (by kernel_rfl)) (fun _ _ _ h => h) (Or.inl ⟨by rfl, ?_⟩) ?_ ?_
      rotate_left
      · intro w'
        go_simp
        with_reducible rfl
      rotate_left
      · simp only [Act.put, List.setIfInBounds_toArray, List.set_cons_zero, List.set_cons_succ, i64_w, i32_w]
        rfl
      refine pure_ (i := 12) (N := some 66) (v := ?_) (a' := ?_) #[true, true, true, true, true, true, true, true, true, true, true, true, true, false, false, false, false, false, false, false, false, false, false, false, false] rfl rfl (any_of HT_.out (by kernel_rfl)) (fun _ _ _ h => h) (Or.inl ⟨by rfl, ?_⟩) ?_ ?_
      rotate_left
      · intro w'
        go_simp
        with_reducible rfl
      rotate_left
      · simp only [Act.put, List.setIfInBounds_toArray, List.set_cons_zero, List.set_cons_succ, i64_w, i32_w]
        rfl
      refine take_ (i := 13) (N := some 67) (v := ?_) (a' := ?_) #[true, true, true, true, true, true, true, true, true, true, true, true, true, true, false, false, false, false, false, false, false, false, false, false, false] rfl rfl (take_ofW HT_.out HW_.out (by kernel_rfl)) (fun _ _ _ h => h) (Or.inl ⟨by rfl, ?_⟩) hHeld ?_ ?_
      rotate_left
      · rintro w' ⟨s0, s1, s2, s3, s4⟩
        go_simp
        with_reducible rfl
      rotate_left
      · simp only [Act.put, List.setIfInBounds_toArray, List.set_cons_zero, List.set_cons_succ, i64_w, i32_w]
        rfl
      refine pure_ (i := 14) (N := some 68) (v := ?_) (a' := ?_) #[true, true, true, true, true, true, true, true, true, true, true, true, true, true, true, false, false, false, false, false, false, false, false, false, false] rfl rfl (any_of HT_.out (by kernel_rfl)) (fun _ _ _ h => h) (Or.inl ⟨by rfl, ?_⟩) ?_ ?_
      rotate_left
      · intro w'
        go_simp
        with_reducible rfl
      rotate_left
      · simp only [Act.put, List.setIfInBounds_toArray, List.set_cons_zero, List.set_cons_succ, i64_w, i32_w]
        rfl
      refine take_ (i := 16) (N := some 70) (v := ?_) (a' := ?_) #[true, true, true, true, true, true, true, true, true, true, true, true, true, true, true, false, true, false, false, false, false, false, false, false, false] rfl rfl (take_ofW HT_.out HW_.out (by kernel_rfl)) (fun _ _ _ h => h) (Or.inl ⟨by rfl, ?_⟩) hHeld ?_ ?_
      rotate_left
      · rintro w' ⟨s0, s1, s2, s3, s4⟩
        go_simp
        with_reducible rfl
      rotate_left
      · simp only [Act.put, List.setIfInBounds_toArray, List.set_cons_zero, List.set_cons_succ, i64_w, i32_w]
        rfl
      refine one_ (i := 15) (N := some 69) #[true, true, true, true, true, true, true, true, true, true, true, true, true, true, true, true, true, false, false, false, false, false, false, false, false] rfl rfl (one_of HT_.out (by kernel_rfl)) (by decide) (fun K hK => ?_)
      refine goes_ Tryz.func108 (by kernel_rfl) rfl #[.pointer (some ⟨pb, 0, none⟩), .int .i64 (wrap64 (x0 + (604800 - off)))] (by rfl) rfl rfl (by (try simp only [List.map_toArray, List.map_cons, List.map_nil]); first | done | rfl) ?_
      refine (HUN.out _ HC9.out.plan HN9.out).mono ?_
      rintro e w10 ⟨rfl, pp, uu⟩
      refine ⟨_, rfl, ?_⟩
      have HC10 := Aside0.mk (HC9.out.upd uu pp)
      have HU10 := Aside0.mk (HU9.out.trans uu)
      have HD10 := Aside0.mk (HD9.out.upd uu hcb)
      have HS10 := Aside0.mk (uu.blk HS9.out hsne)
      have HN10 : Aside0 (n ≤ w10.heap.size) := ⟨Nat.le_trans HN9.out uu.size⟩
      have e0 : w10.cell? ⟨w.heap.size, 0, none⟩ = some (.pointer (some ⟨kb, 0, none⟩)) := (blk_cell HD10.out.b0 0).trans rfl
      have e1 : w10.cell? ⟨w.heap.size + 1, 0, none⟩ = some (.int .i64 Bc) := (blk_cell HD10.out.b1 0).trans rfl
      have e2 : w10.cell? ⟨sb, 0, none⟩ = some (.int .i64 x0) := (blk_cell HS10.out 0).trans rfl
      have e3 : w10.cell? ⟨kb, 1, none⟩ = some (.pointer (some ⟨pb, 0, none⟩)) := (blk_cell HC10.out.blk 1).trans rfl
      have e4 : w10.cell? ⟨kb, 2, none⟩ = some (.int .i64 (604800 - off)) := (blk_cell HC10.out.blk 2).trans rfl
      clear uu pp
      refine hK.out _ _ ⟨e0, e1, e2, e3, e4⟩ (fun hHeld => ?_)
      clear hK K
      refine norm_ (a' := ?_) ?_ ?_
      rotate_left
      · show Act.put _ (some 69) _ = _
        simp only [Act.put, List.setIfInBounds_toArray, List.set_cons_zero, List.set_cons_succ, i64_w, i32_w]
        rfl
      refine pure_ (i := 17) (N := some 71) (v := ?_) (a' := ?_) #[true, true, true, true, true, true, true, true, true, true, true, true, true, true, true, true, true, true, false, false, false, false, false, false, false] rfl rfl (any_of HT_.out (by kernel_rfl)) (fun _ _ _ h => h) (Or.inl ⟨by rfl, ?_⟩) ?_ ?_
      rotate_left
      · intro w'
        go_simp
        with_reducible rfl
      rotate_left
      · simp only [Act.put, List.setIfInBounds_toArray, List.set_cons_zero, List.set_cons_succ, i64_w, i32_w]
        rfl
      refine pure_ (i := 18) (N := some 72) (v := ?_) (a' := ?_) #[true, true, true, true, true, true, true, true, true, true, true, true, true, true, true, true, true, true, true, false, false, false, false, false, false] rfl rfl (any_of HT_.out (by kernel_rfl)) (fun _ _ _ h => h) (Or.inl ⟨by rfl, ?_⟩) ?_ ?_
      rotate_left
      · intro w'
        go_simp
        with_reducible rfl
      rotate_left
      · simp only [Act.put, List.setIfInBounds_toArray, List.set_cons_zero, List.set_cons_succ, i64_w, i32_w]
        rfl
      refine one_ (i := 19) (N := some 73) #[true, true, true, true, true, true, true, true, true, true, true, true, true, true, true, true, true, true, true, true, false, false, false, false, false] rfl rfl (one_of HT_.out (by kernel_rfl)) (by decide) (fun K hK => ?_)
      refine goes_ Tryz.func107 (by kernel_rfl) rfl #[.pointer (some ⟨pb, 0, none⟩), .int .i64 (wrap64 (U + Bc - 1))] (by rfl) rfl rfl (by (try simp only [List.map_toArray, List.map_cons, List.map_nil]); first | done | rfl) ?_
      refine (HNT.out _ HC10.out.plan HN10.out).mono ?_
      rintro e w11 ⟨rfl, pp, uu⟩
      refine ⟨_, rfl, ?_⟩
      have HC11 := Aside0.mk (HC10.out.upd uu pp)
      have HU11 := Aside0.mk (HU10.out.trans uu)
      have HD11 := Aside0.mk (HD10.out.upd uu hcb)
      have HS11 := Aside0.mk (uu.blk HS10.out hsne)
      have HN11 : Aside0 (n ≤ w11.heap.size) := ⟨Nat.le_trans HN10.out uu.size⟩
      have e0 : w11.cell? ⟨w.heap.size, 0, none⟩ = some (.pointer (some ⟨kb, 0, none⟩)) := (blk_cell HD11.out.b0 0).trans rfl
      have e1 : w11.cell? ⟨w.heap.size + 1, 0, none⟩ = some (.int .i64 Bc) := (blk_cell HD11.out.b1 0).trans rfl
      have e2 : w11.cell? ⟨sb, 0, none⟩ = some (.int .i64 x0) := (blk_cell HS11.out 0).trans rfl
      have e3 : w11.cell? ⟨kb, 1, none⟩ = some (.pointer (some ⟨pb, 0, none⟩)) := (blk_cell HC11.out.blk 1).trans rfl
      have e4 : w11.cell? ⟨kb, 2, none⟩ = some (.int .i64 (604800 - off)) := (blk_cell HC11.out.blk 2).trans rfl
      clear uu pp
      refine hK.out _ _ ⟨e0, e1, e2, e3, e4⟩ (fun hHeld => ?_)
      clear hK K
      refine norm_ (a' := ?_) ?_ ?_
      rotate_left
      · show Act.put _ (some 73) _ = _
        simp only [Act.put, List.setIfInBounds_toArray, List.set_cons_zero, List.set_cons_succ, i64_w, i32_w]
        rfl
      refine pure_ (i := 20) (N := some 53) (v := ?_) (a' := ?_) #[true, true, true, true, true, true, true, true, true, true, true, true, true, true, true, true, true, true, true, true, true, false, false, false, false] rfl rfl (any_of HT_.out (by kernel_rfl)) (fun _ _ _ h => h) (Or.inl ⟨by rfl, ?_⟩) ?_ ?_
      rotate_left
      · intro w'
        go_simp
        with_reducible rfl
      rotate_left
      · simp only [Act.put, List.setIfInBounds_toArray, List.set_cons_zero, List.set_cons_succ, i64_w, i32_w]
        rfl
      refine pure_ (i := 21) (N := some 74) (v := ?_) (a' := ?_) #[true, true, true, true, true, true, true, true, true, true, true, true, true, true, true, true, true, true, true, true, true, true, false, false, false] rfl rfl (any_of HT_.out (by kernel_rfl)) (fun _ _ _ h => h) (Or.inl ⟨by rfl, ?_⟩) ?_ ?_
      rotate_left
      · intro w'
        go_simp
        with_reducible rfl
      rotate_left
      · simp only [Act.put, List.setIfInBounds_toArray, List.set_cons_zero, List.set_cons_succ, i64_w, i32_w]
        rfl
      refine pure_ (i := 22) (N := some 75) (v := ?_) (a' := ?_) #[true, true, true, true, true, true, true, true, true, true, true, true, true, true, true, true, true, true, true, true, true, true, true, false, false] rfl rfl (any_of HT_.out (by kernel_rfl)) (fun _ _ _ h => h) (Or.inl ⟨by rfl, ?_⟩) ?_ ?_
      rotate_left
      · intro w'
        go_simp
        with_reducible rfl
      rotate_left
      · simp only [Act.put, List.setIfInBounds_toArray, List.set_cons_zero, List.set_cons_succ, i64_w, i32_w]
        rfl
      refine pure_ (i := 23) (N := some 10) (v := ?_) (a' := ?_) #[true, true, true, true, true, true, true, true, true, true, true, true, true, true, true, true, true, true, true, true, true, true, true, true, false] rfl rfl (any_of HT_.out (by kernel_rfl)) (fun _ _ _ h => h) (Or.inl ⟨by rfl, ?_⟩) ?_ ?_
      rotate_left
      · intro w'
        go_simp
        with_reducible rfl
      rotate_left
      · simp only [Act.put, List.setIfInBounds_toArray, List.set_cons_zero, List.set_cons_succ, i64_w, i32_w]
        rfl
      refine pure_ (i := 24) (N := some 11) (v := ?_) (a' := ?_) #[true, true, true, true, true, true, true, true, true, true, true, true, true, true, true, true, true, true, true, true, true, true, true, true, true] rfl rfl (any_of HT_.out (by kernel_rfl)) (fun _ _ _ h => h) (Or.inl ⟨by rfl, ?_⟩) ?_ ?_
      rotate_left
      · intro w'
        go_simp
        with_reducible rfl
      rotate_left
      · simp only [Act.put, List.setIfInBounds_toArray, List.set_cons_zero, List.set_cons_succ, i64_w, i32_w]
        rfl
      refine done_ (done_of HT_.out (by kernel_rfl)) ?_
      clear HT_ HW_ hHeld
      have c0 : w11.cell? ⟨w.heap.size, 0, none⟩ = some (.pointer (some ⟨kb, 0, none⟩)) := (blk_cell HD11.out.b0 0).trans rfl
      have k2 : w11.cell? ⟨kb, 2, none⟩ = some (.int .i64 (604800 - off)) := (blk_cell HC11.out.blk 2).trans rfl
      have d2 : w11.cell? ⟨w.heap.size + 1 + 1, 0, none⟩ = some (.int .i64 0) := (blk_cell HD11.out.b2 0).trans rfl
      have d3 : w11.cell? ⟨w.heap.size + 1 + 1 + 1, 0, none⟩ = some (.int .i64 0) := (blk_cell HD11.out.b3 0).trans rfl
      have f2 : w11.frozen? ⟨w.heap.size + 1 + 1, 0, none⟩ = false := blk_frozen HD11.out.b2 0
      have f3 : w11.frozen? ⟨w.heap.size + 1 + 1 + 1, 0, none⟩ = false := blk_frozen HD11.out.b3 0
      gi_wp2
      exact ⟨KeepsFrom.box1 (KeepsFrom.box1 (KeepsFrom.of_grownBy HU11.out (fun j e => by injection e with e; omega)) (by omega) _) (by omega) _, rfl, q - (604800 - off) + 1, Bc, HDUE.out, (HD11.out.set2 _).set3 _, (HC11.out.far HD11.out.b2 (by decide) (by decide) (fun _ => hneq) (But.set _ _ _)).far (HD11.out.set2 _).b3 (by decide) (by decide) (fun _ => hneq) (But.set _ _ _), ((HU.out.trans HU11.out).box (by omega) _).box (by omega) _⟩
  case done =>
    rintro L xs W hL hS ⟨Bc, ⟨b1, b2, b3⟩, D, C, U⟩ hK
    have hdue : dueL off week B (freeL closed a 1125899906842624) = none := by
      have := b3 []
      rw [List.append_nil, hS] at this
      exact this
    have hneq : week ≠ [] := fun e => by rw [e] at hs; simp [secs] at hs
    have d2 : W.cell? ⟨w.heap.size + 1 + 1, 0, none⟩ = some (.int .i64 0) := (blk_cell D.b2 0).trans rfl
    have d3 : W.cell? ⟨w.heap.size + 1 + 1 + 1, 0, none⟩ = some (.int .i64 0) := (blk_cell D.b3 0).trans rfl
    have f2 : W.frozen? ⟨w.heap.size + 1 + 1, 0, none⟩ = false := blk_frozen D.b2 0
    have f3 : W.frozen? ⟨w.heap.size + 1 + 1 + 1, 0, none⟩ = false := blk_frozen D.b3 0
    have HL := due_left D (x := 0) (y := 10) hcb C U (.inl hneq)
    have hK3 := ((KeepsFrom.refl w7.heap.size W).trans ((KeepsFrom.box1 (KeepsFrom.refl w7.heap.size W) (b := w.heap.size + 1 + 1) (by omega) (.int .i64 0)))).same L _ hL hK rfl
    have hK4 := (KeepsFrom.box1 (KeepsFrom.refl w7.heap.size (W.setCell ⟨w.heap.size + 1 + 1, 0, none⟩ (.int .i64 0))) (b := w.heap.size + 1 + 1 + 1) (by omega) (.int .i64 10)).same L _ hL hK3 rfl
    obtain ⟨D9, C9, U9⟩ := due_end (.deferred none) (by omega) hK4 ((D.set2 0).set3 10) HL.1 HL.2
    have e2 := (blk_cell D9.b2 0).trans (rfl : _ = some (Value.int .i64 0))
    have e3 := (blk_cell D9.b3 0).trans (rfl : _ = some (Value.int .i64 10))
    clear HAM B0 B1 B2 hb7 I0 HU7 C U b3 D hK3 HL D9
    gi_wp2
    refine ⟨by simp, .inl ⟨_, _, rfl, run_takeDeferred hK4, ?_⟩⟩
    refine ⟨.tuple #[.int .i64 0, .int .i64 10], by simp [results, Tryz.results53, go_sem, e2, e3], ?_⟩
    rw [hdue]
    exact ⟨rfl, C9, U9⟩
  case stop =>
    rintro L c pre W hL ⟨rest, hS⟩ ⟨rfl, d, Bc, b3, D, C, U⟩ hK
    have hdue : dueL off week B (freeL closed a 1125899906842624) = some d := by rw [← hS]; exact b3 rest
    obtain ⟨D9, C9, U9⟩ := due_end (.deferred none) (by omega) hK D C U
    have e2 := (blk_cell D9.b2 0).trans (rfl : _ = some (Value.int .i64 d))
    have e3 := (blk_cell D9.b3 0).trans (rfl : _ = some (Value.int .i64 0))
    clear HAM B0 B1 B2 hb7 I0 HU7 C U b3 D D9
    gi_wp2
    refine ⟨by simp, .inl ⟨_, _, rfl, run_takeDeferred hK, ?_⟩⟩
    refine ⟨.tuple #[.int .i64 d, .int .i64 0], by simp [results, Tryz.results53, go_sem, e2, e3], ?_⟩
    rw [hdue]
    exact ⟨rfl, C9, U9⟩
def dueP (off : Int) (week closed : List S114) (a B : Int) : Int × Int :=
  if ¬ (0 ≤ a ∧ a ≤ 1125899906842624) ∨ B < 0 then (0, 2) else if B = 0 then (a, 0) else if secs week = 0 then (0, 40) else dueR (dueL off week B (freeL closed a 1125899906842624))
theorem due_any (a B : Int) (w : World) (h : ClkAt w n kb ab pb cb off week closed) (hn : n ≤ w.heap.size) (hB2 : B ≤ 9223372036854775807) :
    Calls Tryz.prog 53 #[.pointer (some ⟨kb, 0, none⟩), .int .i64 a, .int .i64 B] w fun e w' => e = .returned (.tuple #[.int .i64 (dueP off week closed a B).1, .int .i64 (dueP off week closed a B).2]) ∧ ClkAt w' n kb ab pb cb off week closed ∧ Upd cb w w' := by
  unfold dueP
  by_cases h1 : 0 ≤ a ∧ a ≤ 1125899906842624
  · by_cases h2 : B < 0
    · rw [if_pos (.inr h2)]; exact due_arg2 a B w h hn h1 h2
    · rw [if_neg (by omega)]
      by_cases h3 : B = 0
      · rw [if_pos h3]; exact due_zero a B w h hn h1 h3
      · rw [if_neg h3]
        have h5 := (h.plan.ok.secs (by omega)).1
        by_cases h4 : secs week = 0
        · rw [if_pos h4]; exact due_closed a B w h hn h1 (by omega) h4
        · rw [if_neg h4]; exact due_main a B w h hn h1 (by omega) hB2 (by omega)
  · rw [if_pos (.inl h1)]; exact due_arg1 a B w h hn h1
end Go.Proofs.YtepldlnmeenlbaaGreat.Own
namespace Go.Proofs.YtepldlnmeenlbaaGreat.Own
open Go.RowKit Go.Proofs Go.Proofs.YtepldlnmeenlbaaGreatW.PrintWords Go.Proofs.YtepldlnmeenlbaaGreatW.PrintLast Go.Proofs.YtepldlnmeenlbaaGreatW.PrintMore Go.Proofs.YtepldlnmeenlbaaGreat.Base
variable {off : Int} {week closed : List S114}
structure CalOk (off : Int) (week closed : List S114) : Prop where
  lo : 0 ≤ off
  hi : off < 604800
  week : RowOk 604800 week
  closed : RowOk 1125899906842624 closed
theorem calErr_ok (h : calErr off week closed = 0) : CalOk off week closed := by
  unfold calErr at h
  by_cases h1 : off < 0 ∨ 604800 ≤ off
  · rw [if_pos h1] at h; cases h
  · rw [if_neg h1] at h
    by_cases h2 : weekErr week = 0
    · rw [if_pos h2] at h
      exact ⟨by omega, by omega, weekErr_ok h2, rowErr_ok h⟩
    · rw [if_neg h2] at h; exact absurd h h2
end Go.Proofs.YtepldlnmeenlbaaGreat.Own
namespace Go.Proofs.YtepldlnmeenlbaaGreat.Own
open Go.RowKit Go.Proofs Go.Proofs.YtepldlnmeenlbaaGreatW.PrintWords Go.Proofs.YtepldlnmeenlbaaGreatW.PrintLast Go.Proofs.YtepldlnmeenlbaaGreatW.PrintMore Go.Proofs.YtepldlnmeenlbaaGreat.Base
def twoB (a b : Int) : List Int := numsB [a, b]
theorem twoB_eq (a b : Int) : twoB a b = numB 0 a ++ numB 0 b := by simp [twoB, numsB]
def rdPairs (ma mb : Int) : Nat → List Int × Bool → List (Int × Int) × (List Int × Bool)
  | 0, s => ([], s)
  | k + 1, s => ((rdPairs ma mb k s).1 ++ [((rdNum ma (rdPairs ma mb k s).2).1, (rdNum mb (rdNum ma (rdPairs ma mb k s).2).2).1)], (rdNum mb (rdNum ma (rdPairs ma mb k s).2).2).2)
theorem rdPairs_len (ma mb : Int) (k : Nat) (s : List Int × Bool) : (rdPairs ma mb k s).1.length = k := by
  induction k with
  | zero => rfl
  | succ k ih => simp [rdPairs, ih]
theorem rdNum_rng {most : Int} {s : List Int × Bool} (hb : ∀ x, x ∈ s.1 → 0 ≤ x ∧ x ≤ 255) (m0 : 0 ≤ most) : (0 ≤ (rdNum most s).1 ∧ (rdNum most s).1 ≤ most) ∧ ∀ x, x ∈ (rdNum most s).2.1 → 0 ≤ x ∧ x ≤ 255 := rdNum_range hb m0 rfl
theorem rdPairs_rng {ma mb : Int} (a0 : 0 ≤ ma) (b0 : 0 ≤ mb) (k : Nat) (s : List Int × Bool) (hb : ∀ x, x ∈ s.1 → 0 ≤ x ∧ x ≤ 255) : (∀ p, p ∈ (rdPairs ma mb k s).1 → (0 ≤ p.1 ∧ p.1 ≤ ma) ∧ (0 ≤ p.2 ∧ p.2 ≤ mb)) ∧ ∀ x, x ∈ (rdPairs ma mb k s).2.1 → 0 ≤ x ∧ x ≤ 255 := by
  induction k with
  | zero => exact ⟨fun p hp => (by cases hp), hb⟩
  | succ k ih =>
    obtain ⟨h1, h2⟩ := ih
    obtain ⟨q1, h3⟩ := rdNum_rng h2 a0
    obtain ⟨q2, h4⟩ := rdNum_rng h3 b0
    refine ⟨fun p hp => ?_, h4⟩
    simp only [rdPairs, List.mem_append, List.mem_singleton] at hp
    rcases hp with hp | rfl
    · exact h1 p hp
    · exact ⟨q1, q2⟩
theorem rdPairs_put (ma mb : Int) (l : List (Int × Int)) (hl : ∀ p, p ∈ l → (0 ≤ p.1 ∧ p.1 < 18446744073709551616 ∧ p.1 ≤ ma) ∧ (0 ≤ p.2 ∧ p.2 < 18446744073709551616 ∧ p.2 ≤ mb)) (rest : List Int) (b : Bool) (k : Nat) (hk : k ≤ l.length) :
    rdPairs ma mb k (l.flatMap (fun p => twoB p.1 p.2) ++ rest, b) = (l.take k, ((l.drop k).flatMap (fun p => twoB p.1 p.2) ++ rest, b)) := by
  induction k with
  | zero => simp [rdPairs]
  | succ k ih =>
    have hlt : k < l.length := by omega
    have hm := hl l[k] (List.getElem_mem _)
    have e : rdNum ma ((l.drop k).flatMap (fun p => twoB p.1 p.2) ++ rest, b) = (l[k].1, (numB 0 l[k].2 ++ ((l.drop (k + 1)).flatMap (fun p => twoB p.1 p.2) ++ rest), b)) := by
      rw [List.drop_eq_getElem_cons hlt, List.flatMap_cons, twoB_eq, List.append_assoc, List.append_assoc]
      exact rdNum_put _ _ _ _ hm.1.1 hm.1.2.1 hm.1.2.2
    have e2 : rdNum mb (numB 0 l[k].2 ++ ((l.drop (k + 1)).flatMap (fun p => twoB p.1 p.2) ++ rest), b) = (l[k].2, ((l.drop (k + 1)).flatMap (fun p => twoB p.1 p.2) ++ rest, b)) := rdNum_put _ _ _ _ hm.2.1 hm.2.2.1 hm.2.2.2
    simp only [rdPairs, ih (by omega), e, e2]
    rw [List.take_add_one, List.getElem?_eq_getElem hlt]
    rfl
def spP (s : S114) : Int × Int := (s.f0, s.f1)
def pSp (p : Int × Int) : S114 := ⟨p.1, p.2⟩
def spansB (l : List S114) : List Int := l.flatMap fun s => twoB s.f0 s.f1
def rowB (l : List S114) : List Int := numB 0 l.length ++ spansB l
def calB (off : Int) (week closed : List S114) : List Int := intB off ++ (rowB week ++ rowB closed)
theorem spansB_take (l : List S114) (i : Nat) (h : i < l.length) : spansB (l.take (i + 1)) = spansB (l.take i) ++ twoB (rd_T114 l i).f0 (rd_T114 l i).f1 := by
  unfold spansB
  rw [List.take_add_one, List.getElem?_eq_getElem h, List.flatMap_append, rd_at l i h]
  simp
def rdSps (k : Nat) (s : List Int × Bool) : List S114 × (List Int × Bool) := ((rdPairs 1125899906842624 1125899906842624 k s).1.map pSp, (rdPairs 1125899906842624 1125899906842624 k s).2)
def rdRow (s : List Int × Bool) : List S114 × (List Int × Bool) := rdSps (rdNum 32 s).1.toNat (rdNum 32 s).2
theorem rdSps_len (k : Nat) (s : List Int × Bool) : (rdSps k s).1.length = k := by simp [rdSps, rdPairs_len]
theorem rdSps_succ (k : Nat) (s : List Int × Bool) : rdSps (k + 1) s = ((rdSps k s).1 ++ [⟨(rdNum 1125899906842624 (rdSps k s).2).1, (rdNum 1125899906842624 (rdNum 1125899906842624 (rdSps k s).2).2).1⟩], (rdNum 1125899906842624 (rdNum 1125899906842624 (rdSps k s).2).2).2) := by
  simp [rdSps, rdPairs, pSp]
theorem rdSps_byte (k : Nat) (s : List Int × Bool) (hb : ∀ x, x ∈ s.1 → 0 ≤ x ∧ x ≤ 255) : ∀ x, x ∈ (rdSps k s).2.1 → 0 ≤ x ∧ x ≤ 255 := (rdPairs_rng (by omega) (by omega) k s hb).2
theorem rdSps_put (l : List S114) (hl : ∀ s, s ∈ l → (0 ≤ s.f0 ∧ s.f0 ≤ 1125899906842624) ∧ (0 ≤ s.f1 ∧ s.f1 ≤ 1125899906842624)) (rest : List Int) (b : Bool) : rdSps l.length (spansB l ++ rest, b) = (l, (rest, b)) := by
  have h := rdPairs_put 1125899906842624 1125899906842624 (l.map spP) (fun p hp => by
    obtain ⟨s, hs, rfl⟩ := List.mem_map.1 hp
    have := hl s hs
    exact ⟨⟨this.1.1, by have := this.1.2; show s.f0 < _; omega, this.1.2⟩, ⟨this.2.1, by have := this.2.2; show s.f1 < _; omega, this.2.2⟩⟩) rest b l.length (by simp)
  have e : (l.map spP).flatMap (fun p => twoB p.1 p.2) = spansB l := by simp [spansB, List.flatMap_map, spP]
  rw [e] at h
  unfold rdSps
  rw [h]
  have e2 : ((l.map spP).take l.length).map pSp = l := by
    rw [List.take_of_length_le (by simp), List.map_map]
    exact List.map_id _
  have e3 : (l.map spP).drop l.length = [] := List.drop_eq_nil_of_le (by simp)
  rw [e2, e3]
  rfl
theorem rdRow_put (l : List S114) (hl : ∀ s, s ∈ l → (0 ≤ s.f0 ∧ s.f0 ≤ 1125899906842624) ∧ (0 ≤ s.f1 ∧ s.f1 ≤ 1125899906842624)) (hn : l.length ≤ 32) (rest : List Int) (b : Bool) : rdRow (rowB l ++ rest, b) = (l, (rest, b)) := by
  have e : rdNum 32 (rowB l ++ rest, b) = ((l.length : Int), (spansB l ++ rest, b)) := by
    unfold rowB
    rw [List.append_assoc]
    exact rdNum_put _ _ _ _ (by omega) (by omega) (by omega)
  unfold rdRow
  rw [e]
  exact rdSps_put l hl rest b
structure Cal where
  off : Int
  week : List S114
  closed : List S114
def calRd (s : List Int × Bool) : Cal × (List Int × Bool) :=
  let a := rdInt s
  let b := rdRow a.2
  let c := rdRow b.2
  (⟨a.1, b.1, c.1⟩, c.2)
def calZ : Cal := ⟨0, [], []⟩
def calRead (s : List Int × Bool) : (Cal × Bool) × (List Int × Bool) := if (calRd s).2.2 = false ∧ calErr (calRd s).1.off (calRd s).1.week (calRd s).1.closed = 0 then (((calRd s).1, true), (calRd s).2) else ((calZ, false), ([], true))
theorem calOk_spans {off : Int} {week closed : List S114} (h : calErr off week closed = 0) : (0 ≤ off ∧ off < 604800) ∧ (week.length ≤ 32 ∧ ∀ s, s ∈ week → (0 ≤ s.f0 ∧ s.f0 ≤ 1125899906842624) ∧ (0 ≤ s.f1 ∧ s.f1 ≤ 1125899906842624)) ∧ (closed.length ≤ 32 ∧ ∀ s, s ∈ closed → (0 ≤ s.f0 ∧ s.f0 ≤ 1125899906842624) ∧ (0 ≤ s.f1 ∧ s.f1 ≤ 1125899906842624)) := by
  have hk := calErr_ok h
  refine ⟨⟨hk.lo, hk.hi⟩, ⟨hk.week.len, fun s hs => ?_⟩, ⟨hk.closed.len, fun s hs => ?_⟩⟩
  · have := hk.week.mem s hs; omega
  · have := hk.closed.mem s hs; omega
theorem calRead_put {off : Int} {week closed : List S114} (h : calErr off week closed = 0) (rest : List Int) : calRead (calB off week closed ++ rest, false) = ((⟨off, week, closed⟩, true), (rest, false)) := by
  obtain ⟨⟨h0, h1⟩, ⟨n1, w1⟩, ⟨n2, w2⟩⟩ := calOk_spans h
  have e : calRd (calB off week closed ++ rest, false) = (⟨off, week, closed⟩, (rest, false)) := by
    unfold calRd calB
    rw [List.append_assoc, List.append_assoc, rdInt_put _ _ _ (by omega) (by omega)]
    simp only [rdRow_put week w1 n1, rdRow_put closed w2 n2]
  unfold calRead
  rw [e, if_pos ⟨rfl, h⟩]
theorem numB_byte {n : Int} (h0 : 0 ≤ n) (h1 : n < 18446744073709551616) : ∀ x, x ∈ numB 0 n → 0 ≤ x ∧ x ≤ 255 := by
  intro x hx
  have hl : (digs n.toNat).length ≤ 8 := digs_le 8 n.toNat (by omega)
  unfold numB at hx
  rcases List.mem_cons.1 hx with rfl | hx
  · omega
  · exact digs_byte _ x hx
theorem spansB_byte {l : List S114} (hl : ∀ s, s ∈ l → (0 ≤ s.f0 ∧ s.f0 ≤ 1125899906842624) ∧ (0 ≤ s.f1 ∧ s.f1 ≤ 1125899906842624)) : ∀ x, x ∈ spansB l → 0 ≤ x ∧ x ≤ 255 := by
  intro x hx
  obtain ⟨s, hs, hx⟩ := List.mem_flatMap.1 hx
  have := hl s hs
  rw [twoB_eq] at hx
  rcases List.mem_append.1 hx with hx | hx
  · exact numB_byte (by omega) (by omega) x hx
  · exact numB_byte (by omega) (by omega) x hx
theorem spansB_len {l : List S114} (hl : ∀ s, s ∈ l → (0 ≤ s.f0 ∧ s.f0 ≤ 1125899906842624) ∧ (0 ≤ s.f1 ∧ s.f1 ≤ 1125899906842624)) : (spansB l).length ≤ 18 * l.length := by
  induction l with
  | nil => simp [spansB]
  | cons s r ih =>
    have h1 := ih (fun y hy => hl y (List.mem_cons_of_mem _ hy))
    have h2 := hl s (by simp)
    have h3 := numB_len 0 s.f0 (by omega) (by omega)
    have h4 := numB_len 0 s.f1 (by omega) (by omega)
    unfold spansB at h1 ⊢
    rw [List.flatMap_cons, List.length_append, twoB_eq, List.length_append, List.length_cons]
    omega
theorem intB_byte {n : Int} (h0 : -9223372036854775808 ≤ n) (h1 : n ≤ 9223372036854775807) : ∀ x, x ∈ intB n → 0 ≤ x ∧ x ≤ 255 := by
  intro x hx
  unfold intB at hx
  split at hx
  · have hl : (digs (-1 - n).toNat).length ≤ 8 := digs_le 8 (-1 - n).toNat (by omega)
    unfold numB at hx
    rcases List.mem_cons.1 hx with rfl | hx
    · omega
    · exact digs_byte _ x hx
  · exact numB_byte (by omega) (by omega) x hx
theorem intB_len {n : Int} (h0 : -9223372036854775808 ≤ n) (h1 : n ≤ 9223372036854775807) : (intB n).length ≤ 9 := by
  unfold intB
  split
  · exact numB_len _ _ (by omega) (by omega)
  · exact numB_len _ _ (by omega) (by omega)
theorem rowB_byte {l : List S114} (hl : ∀ s, s ∈ l → (0 ≤ s.f0 ∧ s.f0 ≤ 1125899906842624) ∧ (0 ≤ s.f1 ∧ s.f1 ≤ 1125899906842624)) (hn : l.length ≤ 32) : ∀ x, x ∈ rowB l → 0 ≤ x ∧ x ≤ 255 := by
  intro x hx
  rcases List.mem_append.1 hx with hx | hx
  · exact numB_byte (by omega) (by omega) x hx
  · exact spansB_byte hl x hx
theorem calB_byte {off : Int} {week closed : List S114} (h : calErr off week closed = 0) : ∀ x, x ∈ calB off week closed → 0 ≤ x ∧ x ≤ 255 := by
  obtain ⟨⟨h0, h1⟩, ⟨n1, w1⟩, ⟨n2, w2⟩⟩ := calOk_spans h
  intro x hx
  rcases List.mem_append.1 hx with hx | hx
  · exact intB_byte (by omega) (by omega) x hx
  · rcases List.mem_append.1 hx with hx | hx
    · exact rowB_byte w1 n1 x hx
    · exact rowB_byte w2 n2 x hx
theorem rowB_len {l : List S114} (hl : ∀ s, s ∈ l → (0 ≤ s.f0 ∧ s.f0 ≤ 1125899906842624) ∧ (0 ≤ s.f1 ∧ s.f1 ≤ 1125899906842624)) (hn : l.length ≤ 32) : (rowB l).length ≤ 585 := by
  have h1 := spansB_len hl
  have h2 := numB_len 0 (l.length : Int) (by omega) (by omega)
  unfold rowB
  rw [List.length_append]
  omega
theorem calB_len {off : Int} {week closed : List S114} (h : calErr off week closed = 0) : (calB off week closed).length ≤ 1179 := by
  obtain ⟨⟨h0, h1⟩, ⟨n1, w1⟩, ⟨n2, w2⟩⟩ := calOk_spans h
  have a1 := rowB_len w1 n1
  have a2 := rowB_len w2 n2
  have a3 := intB_len (n := off) (by omega) (by omega)
  unfold calB
  rw [List.length_append, List.length_append]
  omega
theorem calB_pos (off : Int) (week closed : List S114) : 0 < (calB off week closed).length := by
  unfold calB intB
  split <;> simp [numB]
end Go.Proofs.YtepldlnmeenlbaaGreat.Own
namespace Go.Proofs.YtepldlnmeenlbaaGreat.Own
open Go.RowKit Go.Proofs Go.Proofs.YtepldlnmeenlbaaGreatW.PrintWords Go.Proofs.YtepldlnmeenlbaaGreatW.PrintLast Go.Proofs.YtepldlnmeenlbaaGreatW.PrintMore Go.Proofs.YtepldlnmeenlbaaGreat.Base
theorem WUpd.below2 {m n wb : Nat} {u v : World} (h : WUpd n wb u v) (h1 : m ≤ n) (h2 : m ≤ wb) (h3 : m ≤ u.heap.size) : Below m u v :=
  ⟨h.os, h.tape, h.output, h.size, fun k hk => by
    have hlt : k < u.heap.size := by omega
    rw [Array.getElem?_eq_getElem hlt]
    exact h.block k _ (Array.getElem?_eq_getElem hlt) (by omega) (.inl (by omega))⟩
def CFoot {α : Type} (d : Kd α) (n wb : Nat) (w : World) (A : Option Addr) (c : Nat) (l : List α) : Prop := ∀ W', WUpd n wb w W' → d.C W' A l.length l ∧ l.length ≤ c
theorem CFoot.of {α : Type} {d : Kd α} {n wb c : Nat} {w0 w : World} {A : Option Addr} {l : List α} (h : d.C w0 A l.length l ∧ l.length ≤ c) (hb : Below w0.heap.size w0 w) (h1 : w0.heap.size ≤ n) (h2 : w0.heap.size ≤ wb) : CFoot d n wb w A c l :=
  fun W' hu => ⟨Kd.C_below h.1 (hb.trans (hu.below2 h1 h2 hb.size)), h.2⟩
set_option maxHeartbeats 4000000 in
set_option maxRecDepth 100000 in
theorem calput_any (n wb : Nat) (bs : List Int) (off : Int) (week closed : List S114) (A1 A2 : Option Addr) (c1 c2 : Nat) (w : World) (h : WrAt w n wb bs) (h1 : CFoot k114 n wb w A1 c1 week) (h2 : CFoot k114 n wb w A2 c2 closed) (he : calErr off week closed = 0) (hl : bs.length + 2000 ≤ 140737488355328) :
    Calls Tryz.prog 15 #[.pointer (some ⟨wb, 0, none⟩), .agg #[.int .i64 off, .slice A1 week.length c1, .slice A2 closed.length c2]] w fun e w' => e = .returned (.tuple #[]) ∧ WrAt w' n wb (bs ++ calB off week closed) ∧ WUpd n wb w w' := by
  obtain ⟨⟨o0, o1⟩, ⟨n1, s1⟩, ⟨n2, s2⟩⟩ := calOk_spans he
  have S1 := Aside0.mk s1
  have S2 := Aside0.mk s2
  have hr1 := rowB_len s1 n1
  have hr2 := rowB_len s2 n2
  have hi0 := intB_len (n := off) (by omega) (by omega)
  have hbx := below_alloc (Below.refl w.heap.size w) (.cells #[.int .i64 off, .slice A1 week.length c1, .slice A2 closed.length c2] 24)
  have HA := Aside0.mk (h.below hbx)
  have HU : Aside0 (WUpd n wb w _) := ⟨WUpd.of_below hbx⟩
  have HK := Aside0.mk (blk_new w (.cells #[.int .i64 off, .slice A1 week.length c1, .slice A2 closed.length c2] 24))
  have hwb := h.lt
  have F1 := Aside0.mk h1
  have F2 := Aside0.mk h2
  have HFIN : Aside0 (bs ++ calB off week closed = bs ++ intB off ++ numB 0 week.length ++ spansB week ++ numB 0 closed.length ++ spansB closed) := ⟨by simp [calB, rowB]⟩
  have hq1 : numB 0 (week.length : Int) ++ spansB week = rowB week := rfl
  have hq2 : numB 0 (closed.length : Int) ++ spansB closed = rowB closed := rfl
  have hw1 := numB_len 0 (week.length : Int) (by omega) (by omega)
  have hw2 := numB_len 0 (closed.length : Int) (by omega) (by omega)
  have hs1 : (spansB week).length ≤ 585 := by rw [← hq1, List.length_append] at hr1; omega
  clear h h1 h2 he s1 s2 hbx hq1 hq2 hr1 hr2
  have L0 : Aside0 ((bs ++ intB off).length + 9 ≤ 140737488355328) := ⟨by rw [List.length_append]; omega⟩
  have L1 : (bs ++ intB off ++ numB 0 week.length).length + 600 ≤ 140737488355328 := by rw [List.length_append, List.length_append]; omega
  have L2 : Aside0 ((bs ++ intB off ++ numB 0 week.length ++ spansB week).length + 9 ≤ 140737488355328) := ⟨by rw [List.length_append, List.length_append, List.length_append]; omega⟩
  have L3 : (bs ++ intB off ++ numB 0 week.length ++ spansB week ++ numB 0 closed.length).length + 600 ≤ 140737488355328 := by rw [List.length_append, List.length_append, List.length_append, List.length_append]; omega
  have HLb : Aside0 (bs.length + 9 ≤ 140737488355328) := ⟨by omega⟩
  clear hl hi0 hw1 hw2 hs1
  go_enter Tryz.func15, Tryz.ntmps15
  go_upto_region 1 with fail
  generalize (w.alloc (.cells #[.int .i64 off, .slice A1 week.length c1, .slice A2 closed.length c2] 24)) = w1 at HA HU HK ⊢
  have d0 : w1.cell? ⟨w.heap.size, 0, none⟩ = some (.int .i64 off) := (blk_cell HK.out 0).trans rfl
  go_upto_region 2 with (go_at_call 58; refine (wint_any n wb _ off w1 HA.out (by omega) (by omega) HLb.out).mono ?_; rintro e w2 ⟨rfl, q1, q2⟩; have HA2 := Aside0.mk q1; have HU2 := Aside0.mk (HU.out.trans q2); have HK2 := Aside0.mk (q2.blk HK.out (by omega) (by decide)); clear q1 q2 d0; have d1 : w2.cell? ⟨w.heap.size, 1, none⟩ = some (.slice A1 week.length c1) := (blk_cell HK2.out 1).trans rfl; have d2 : w2.cell? ⟨w.heap.size, 2, none⟩ = some (.slice A2 closed.length c2) := (blk_cell HK2.out 2).trans rfl)
  have i0 : ∀ w, (Instr.index 118 (.agg #[.slice A1 week.length c1, .slice A2 closed.length c2]) (.int .i64 0)).run Tryz.prog w = .ok (.slice A1 week.length c1) w := fun _ => by kernel_rfl
  have i1 : ∀ w, (Instr.index 118 (.agg #[.slice A1 week.length c1, .slice A2 closed.length c2]) (.int .i64 1)).run Tryz.prog w = .ok (.slice A2 closed.length c2) w := fun _ => by kernel_rfl
  go_wp2
  clear d1 d2 HA HU HK HK2
  go_loopw [18] (fun y wr => (y = .int .i64 0 ∧ Aside0 (WrAt wr n wb (bs ++ intB off)) ∧ Aside0 (WUpd n wb w wr)) ∨ (y = .int .i64 1 ∧ Aside0 (WrAt wr n wb (bs ++ intB off ++ numB 0 week.length ++ spansB week)) ∧ Aside0 (WUpd n wb w wr)) ∨ (y = .int .i64 2 ∧ Aside0 (WrAt wr n wb (bs ++ intB off ++ numB 0 week.length ++ spansB week ++ numB 0 closed.length ++ spansB closed)) ∧ Aside0 (WUpd n wb w wr))) (fun y _ => 2 - (intOf y).toNat)
  case atStart => exact .inl ⟨rfl, HA2, HU2⟩
  case round =>
    clear HA2 HU2
    obtain ⟨wo, rfl⟩ : ∃ wo : World, wo = wr := ⟨_, rfl⟩
    rcases hrel with ⟨rfl, HA3, HU3⟩ | ⟨rfl, HA3, HU3⟩ | ⟨rfl, HA3, HU3⟩
    · have HRN : Aside0 (∀ x, x ∈ [(week.length : Int)] → 0 ≤ x ∧ x < 18446744073709551616) := ⟨by simp only [List.forall_mem_cons]; refine ⟨by omega, by simp⟩⟩
      go_upto_region 6 with (go_at_call 59; refine (wnum1 n wb _ (week.length : Int) _ _ HA3.out (by simp) HRN.out L0.out).mono ?_; rintro e w4 ⟨rfl, q1, q2⟩; have HA4 : Aside0 (WrAt w4 n wb (bs ++ intB off ++ numB 0 week.length)) := ⟨by have := q1; simpa [numsB] using this⟩; have HU4 := Aside0.mk (HU3.out.trans q2); clear q1 q2)
      clear HA3 HU3 HRN
      go_wp2
      go_loopw [29] (fun y wr => ∃ i : Nat, y = .int .i64 i ∧ i ≤ week.length ∧ Aside0 (WrAt wr n wb (bs ++ intB off ++ numB 0 week.length ++ spansB (week.take i))) ∧ Aside0 (WUpd n wb w wr)) (fun y _ => week.length - (intOf y).toNat)
      case atStart => exact ⟨0, rfl, by omega, ⟨by simpa [spansB] using HA4.out⟩, HU4⟩
      case round =>
        clear HA4 HU4
        obtain ⟨i, rfl, hi, HA, HU⟩ := hrel
        by_cases hlt : i < week.length
        · have hC := (F1.out wr HU.out).1
          obtain ⟨ad, e, hx0, hx1⟩ := at_T114 hC i (by omega) (by omega)
          cases e
          rw [Int.toNat_natCast] at hx0 hx1
          have hm := S1.out (rd_T114 week i) (by rw [rd_at week i hlt]; exact List.getElem_mem _)
          have HT := Aside0.mk (spansB_take week i hlt)
          have hlen := spansB_len (l := week.take i) (fun y hy => S1.out y (List.mem_of_mem_take hy))
          rw [List.length_take] at hlen
          have HLL : Aside0 ((bs ++ intB off ++ numB 0 week.length ++ spansB (week.take i)).length + 18 ≤ 140737488355328) := ⟨by rw [List.length_append]; omega⟩
          clear hlen hC
          generalize rd_T114 week i = s at hx0 hx1 hm HT
          obtain ⟨a, b⟩ := s
          simp only at hx0 hx1 hm HT
          obtain ⟨⟨a0, a1⟩, ⟨b0, b1⟩⟩ := hm
          have HRR : Aside0 (∀ x, x ∈ [a, b] → 0 ≤ x ∧ x < 18446744073709551616) := ⟨by simp only [List.forall_mem_cons]; refine ⟨by omega, by omega, by simp⟩⟩
          have hbx := below_alloc (Below.refl wr.heap.size wr) (.cells #[.int .i64 a, .int .i64 b] 114)
          have HA5 := Aside0.mk (HA.out.below hbx)
          have HU5 := Aside0.mk (HU.out.trans (WUpd.of_below hbx))
          have p0 : (0 : Int) ≤ i := by omega
          have p1 : (i : Int) < week.length := by omega
          clear hbx HA HU
          go_wp2_with (go_at_call 59; refine (wnum2 n wb _ a b _ _ HA5.out (by simp) HRR.out HLL.out).mono ?_; rintro e w6 ⟨rfl, q1, q2⟩; have HA6 := Aside0.mk q1; have HU6 := Aside0.mk (HU5.out.trans q2); clear q1 q2)
          exact ⟨⟨i + 1, by go_num, by omega, ⟨by rw [HT.out, ← List.append_assoc]; exact HA6.out⟩, HU6⟩, by simp [intOf]; omega⟩
        · have hi2 : i = week.length := by omega
          have HA8 : Aside0 (WrAt wr n wb (bs ++ intB off ++ numB 0 week.length ++ spansB week)) := ⟨by have := HA.out; rw [hi2, List.take_length] at this; exact this⟩
          have HU8 := HU
          clear HA HU hi2
          go_wp2
          exact ⟨.inr (.inl ⟨rfl, HA8, HU8⟩), by simp [intOf]⟩
    · have HRN : Aside0 (∀ x, x ∈ [(closed.length : Int)] → 0 ≤ x ∧ x < 18446744073709551616) := ⟨by simp only [List.forall_mem_cons]; refine ⟨by omega, by simp⟩⟩
      go_upto_region 6 with (go_at_call 59; refine (wnum1 n wb _ (closed.length : Int) _ _ HA3.out (by simp) HRN.out L2.out).mono ?_; rintro e w4 ⟨rfl, q1, q2⟩; have HA4 : Aside0 (WrAt w4 n wb (bs ++ intB off ++ numB 0 week.length ++ spansB week ++ numB 0 closed.length)) := ⟨by have := q1; simpa [numsB] using this⟩; have HU4 := Aside0.mk (HU3.out.trans q2); clear q1 q2)
      clear HA3 HU3 HRN
      go_wp2
      go_loopw [29] (fun y wr => ∃ i : Nat, y = .int .i64 i ∧ i ≤ closed.length ∧ Aside0 (WrAt wr n wb (bs ++ intB off ++ numB 0 week.length ++ spansB week ++ numB 0 closed.length ++ spansB (closed.take i))) ∧ Aside0 (WUpd n wb w wr)) (fun y _ => closed.length - (intOf y).toNat)
      case atStart => exact ⟨0, rfl, by omega, ⟨by simpa [spansB] using HA4.out⟩, HU4⟩
      case round =>
        clear HA4 HU4
        obtain ⟨i, rfl, hi, HA, HU⟩ := hrel
        by_cases hlt : i < closed.length
        · have hC := (F2.out wr HU.out).1
          obtain ⟨ad, e, hx0, hx1⟩ := at_T114 hC i (by omega) (by omega)
          cases e
          rw [Int.toNat_natCast] at hx0 hx1
          have hm := S2.out (rd_T114 closed i) (by rw [rd_at closed i hlt]; exact List.getElem_mem _)
          have HT := Aside0.mk (spansB_take closed i hlt)
          have hlen := spansB_len (l := closed.take i) (fun y hy => S2.out y (List.mem_of_mem_take hy))
          rw [List.length_take] at hlen
          have HLL : Aside0 ((bs ++ intB off ++ numB 0 week.length ++ spansB week ++ numB 0 closed.length ++ spansB (closed.take i)).length + 18 ≤ 140737488355328) := ⟨by rw [List.length_append]; omega⟩
          clear hlen hC
          generalize rd_T114 closed i = s at hx0 hx1 hm HT
          obtain ⟨a, b⟩ := s
          simp only at hx0 hx1 hm HT
          obtain ⟨⟨a0, a1⟩, ⟨b0, b1⟩⟩ := hm
          have HRR : Aside0 (∀ x, x ∈ [a, b] → 0 ≤ x ∧ x < 18446744073709551616) := ⟨by simp only [List.forall_mem_cons]; refine ⟨by omega, by omega, by simp⟩⟩
          have hbx := below_alloc (Below.refl wr.heap.size wr) (.cells #[.int .i64 a, .int .i64 b] 114)
          have HA5 := Aside0.mk (HA.out.below hbx)
          have HU5 := Aside0.mk (HU.out.trans (WUpd.of_below hbx))
          have p0 : (0 : Int) ≤ i := by omega
          have p1 : (i : Int) < closed.length := by omega
          clear hbx HA HU
          go_wp2_with (go_at_call 59; refine (wnum2 n wb _ a b _ _ HA5.out (by simp) HRR.out HLL.out).mono ?_; rintro e w6 ⟨rfl, q1, q2⟩; have HA6 := Aside0.mk q1; have HU6 := Aside0.mk (HU5.out.trans q2); clear q1 q2)
          exact ⟨⟨i + 1, by go_num, by omega, ⟨by rw [HT.out, ← List.append_assoc]; exact HA6.out⟩, HU6⟩, by simp [intOf]; omega⟩
        · have hi2 : i = closed.length := by omega
          have HA8 : Aside0 (WrAt wr n wb (bs ++ intB off ++ numB 0 week.length ++ spansB week ++ numB 0 closed.length ++ spansB closed)) := ⟨by have := HA.out; rw [hi2, List.take_length] at this; exact this⟩
          have HU8 := HU
          clear HA HU hi2
          go_wp2
          exact ⟨.inr (.inr ⟨rfl, HA8, HU8⟩), by simp [intOf]⟩
    · go_wp2
      go_end0
      exact ⟨rfl, by rw [HFIN.out]; exact HA3.out, HU3.out⟩
end Go.Proofs.YtepldlnmeenlbaaGreat.Own
namespace Go.Proofs.YtepldlnmeenlbaaGreat.Own
open Go.RowKit Go.Proofs Go.Proofs.YtepldlnmeenlbaaGreatW.PrintWords Go.Proofs.YtepldlnmeenlbaaGreatW.PrintLast Go.Proofs.YtepldlnmeenlbaaGreatW.PrintMore Go.Proofs.YtepldlnmeenlbaaGreat.Base
theorem rright_eq (a b : Int) : curfewref07_Right.f a b = some (decide (0 ≤ a ∧ a < b ∧ b ≤ 1125899906842624)) := by
  unfold curfewref07_Right.f
  by_cases h1 : 0 ≤ a
  · rw [if_pos h1]
    by_cases h2 : a < b
    · rw [if_pos h2]; simp [h1, h2]
    · rw [if_neg h2]; simp [h2]
  · rw [if_neg h1]; simp [h1]
theorem rrow_l0 (l : List S114) (hl : l.length ≤ 1000000) : ∀ (d k i : Nat) (lo : Int), i + d = l.length → d < k → (i = 0 ∧ lo = 0 ∨ 0 < i ∧ lo = (rd_T114 l ((i : Int) - 1)).f1) → curfewref07_Row.l0 k l (i : Int) = some (if okRow lo (l.drop i) then 0 else 2) := by
  intro d
  induction d with
  | zero =>
    intro k i lo hi hk _
    obtain ⟨k, rfl⟩ : ∃ m, k = m + 1 := ⟨k - 1, by omega⟩
    rw [List.drop_eq_nil_of_le (by omega)]
    simp only [curfewref07_Row.l0]
    rw [if_neg (by omega)]
    rfl
  | succ d ih =>
    intro k i lo hi hk hlo
    obtain ⟨k, rfl⟩ : ∃ m, k = m + 1 := ⟨k - 1, by omega⟩
    have hlt : i < l.length := by omega
    rw [drop_at hlt]
    simp only [curfewref07_Row.l0]
    rw [if_pos (by omega), if_pos (by omega), rright_eq, wrap_id (x := (i : Int) + 1) (by omega) (by omega), wrap_id (x := (i : Int) - 1) (by omega) (by omega)]
    simp only [Option.bind_some, decide_eq_true_eq]
    have ih' := ih k (i + 1) (rd_T114 l i).f1 (by omega) (by omega) (.inr ⟨by omega, by rw [show ((i + 1 : Nat) : Int) - 1 = (i : Int) by omega]⟩)
    rw [show ((i + 1 : Nat) : Int) = (i : Int) + 1 by omega] at ih'
    by_cases h : 0 ≤ (rd_T114 l i).f0 ∧ (rd_T114 l i).f0 < (rd_T114 l i).f1 ∧ (rd_T114 l i).f1 ≤ 1125899906842624
    · rw [if_pos h]
      have e0 : okRow lo (rd_T114 l i :: l.drop (i + 1)) = (decide (lo ≤ (rd_T114 l i).f0) && okRow (rd_T114 l i).f1 (l.drop (i + 1))) := by
        conv => lhs; unfold okRow
        congr 1
        simp [h.1, h.2.1, h.2.2]
      rw [e0]
      rcases hlo with ⟨rfl, rfl⟩ | ⟨h0, rfl⟩
      · rw [if_neg (by omega), ih', decide_eq_true h.1, Bool.true_and]
      · rw [if_pos (by omega), if_pos (by omega), if_pos (by omega)]
        by_cases h2 : (rd_T114 l i).f0 < (rd_T114 l ((i : Int) - 1)).f1
        · rw [if_pos h2, decide_eq_false (by omega)]; rfl
        · rw [if_neg h2, ih', decide_eq_true (by omega), Bool.true_and]
    · rw [if_neg h]
      have e : okRow lo (rd_T114 l i :: l.drop (i + 1)) = false := by unfold okRow; rw [decide_eq_false (by omega)]; rfl
      rw [e]; rfl
theorem rrow_eq (l : List S114) (k : Nat) (hk : 33 < k) : curfewref07_Row.f k l = some (rowErr l) := by
  unfold curfewref07_Row.f rowErr
  by_cases h : 32 < l.length
  · rw [if_pos (by omega), if_pos h]
  · rw [if_neg (by omega), if_neg h]
    exact rrow_l0 l (by omega) l.length k 0 0 (by omega) (by omega) (.inl ⟨rfl, rfl⟩)
theorem wrong_l0 (l : List S114) (hl : l.length ≤ 1000000) : ∀ (d k i : Nat), i + d = l.length → d < k → curfewref08_Wrong.l0 k l (i : Int) = some (if ∃ s, s ∈ l.drop i ∧ 604800 < s.f1 then 2 else 0) := by
  intro d
  induction d with
  | zero =>
    intro k i hi hk
    obtain ⟨k, rfl⟩ : ∃ m, k = m + 1 := ⟨k - 1, by omega⟩
    rw [List.drop_eq_nil_of_le (by omega)]
    simp only [curfewref08_Wrong.l0]
    rw [if_neg (by omega), if_neg (by simp)]
  | succ d ih =>
    intro k i hi hk
    obtain ⟨k, rfl⟩ : ∃ m, k = m + 1 := ⟨k - 1, by omega⟩
    have hlt : i < l.length := by omega
    rw [drop_at hlt]
    simp only [curfewref08_Wrong.l0]
    rw [if_pos (by omega), if_pos (by omega), wrap_id (x := (i : Int) + 1) (by omega) (by omega)]
    have ih' := ih k (i + 1) (by omega) (by omega)
    rw [show ((i + 1 : Nat) : Int) = (i : Int) + 1 by omega] at ih'
    by_cases h : (rd_T114 l i).f1 > 604800
    · rw [if_pos h, if_pos ⟨_, List.mem_cons_self, h⟩]
    · rw [if_neg h, ih']
      congr 1
      by_cases h2 : ∃ s, s ∈ l.drop (i + 1) ∧ 604800 < s.f1
      · obtain ⟨s, a, b⟩ := h2
        rw [if_pos ⟨s, a, b⟩, if_pos ⟨s, List.mem_cons_of_mem _ a, b⟩]
      · rw [if_neg h2, if_neg]
        rintro ⟨s, a, b⟩
        rcases List.mem_cons.1 a with rfl | a
        · omega
        · exact h2 ⟨s, a, b⟩
theorem wrong_eq (l : List S114) (k : Nat) (hk : 33 < k) : curfewref08_Wrong.f k l = some (weekErr l) := by
  unfold curfewref08_Wrong.f weekErr
  rw [rrow_eq l k hk, Option.bind_some]
  by_cases h : rowErr l = 0
  · rw [if_pos h, if_pos h]
    have hok := rowErr_ok h
    rw [show (0 : Int) = ((0 : Nat) : Int) from rfl, wrong_l0 l (by have := hok.len; omega) l.length k 0 (by omega) (by have := hok.len; omega), List.drop_zero]
    congr 1
    by_cases h2 : 604800 < lastEnd l
    · have hex : ∃ s, s ∈ l ∧ 604800 < s.f1 := by
        cases hl : l.getLast? with
        | none => unfold lastEnd at h2; rw [hl] at h2; simp only at h2; omega
        | some s => unfold lastEnd at h2; rw [hl] at h2; exact ⟨s, List.mem_of_getLast? hl, h2⟩
      rw [if_pos h2, if_pos hex]
    · have hex : ¬ ∃ s, s ∈ l ∧ 604800 < s.f1 := by
        rintro ⟨s, a, b⟩
        have := hok.row.le_last s a
        omega
      rw [if_neg h2, if_neg hex]; rfl
  · rw [if_neg h, if_neg h]
theorem check_eq (off : Int) (week closed : List S114) (k : Nat) (hk : 34 < k) : curfewref10_Check.f k off week closed = some (calErr off week closed) := by
  obtain ⟨k, rfl⟩ : ∃ m, k = m + 1 := ⟨k - 1, by omega⟩
  unfold curfewref10_Check.f calErr
  by_cases h1 : off < 0
  · rw [if_pos h1, if_pos (.inl h1)]
    simp only [curfewref10_Check.j0, if_true]
  · rw [if_neg h1]
    simp only [curfewref10_Check.j0, decide_eq_true_eq]
    by_cases h2 : off ≥ 604800
    · rw [if_pos h2, if_pos (.inr h2)]
    · rw [if_neg h2, if_neg (by omega), wrong_eq week k (by omega), Option.bind_some]
      by_cases h3 : weekErr week = 0
      · rw [if_pos h3, if_pos h3, rrow_eq closed k (by omega), Option.bind_some]
      · rw [if_neg h3, if_neg h3]
end Go.Proofs.YtepldlnmeenlbaaGreat.Own
namespace Go.Proofs.YtepldlnmeenlbaaGreat.Own
open Go.RowKit Go.Proofs Go.Proofs.YtepldlnmeenlbaaGreatW.PrintWords Go.Proofs.YtepldlnmeenlbaaGreatW.PrintLast Go.Proofs.YtepldlnmeenlbaaGreatW.PrintMore Go.Proofs.YtepldlnmeenlbaaGreat.Base
theorem infoSpan : (Tryz.prog.info? 114).map (fun i => (i.zero, i.size, i.bytes)) = some (some (.agg #[.int .i64 0, .int .i64 0]), 2, 16) := by kernel_rfl
section
variable {α : Type} {d : Kd α} {e : Nat} {w w' : World} {base : Nat} {ok : Nat → Prop} {v : Value} {xs : List α} {t m rb c : Nat} {s : List Int × Bool}
theorem R_upd (h : d.R e w base ok v xs) {b : Nat} (hu : Upd b w w') (hb : b < base) : d.R e w' base ok v xs :=
  Kd.R_mono (Kd.R_step (Kd.R_mono (Kd.R_bound h) (fun k hk => (⟨hk.1, hk.2.1⟩ : ok k ∧ base ≤ k))) (fun k hk hlt => hu.block k hlt (fun e => by have := Option.some.inj e; omega))) (fun _ hk => hk.1)
theorem RdAt.grown (h : RdAt t m w rb s) {row : Option Nat} (hg : w.grownBy w' row) (hne : some rb ≠ row) (hlo : ∀ k, row = some k → m ≤ k) : RdAt t m w' rb s := by
  obtain ⟨A, c, h⟩ := h
  exact ⟨A, c, blk_grown h.blk hg hne, h.cap, C_blocks h.row (fun ad e => by
    have h1 := h.far ad e
    have h2 := blk_lt h.blk
    have h3 := h.mrb
    exact hg.block ad.block (by omega) (fun e' => by have := hlo _ e'.symm; omega)), h.far, h.mrb, h.byte⟩
theorem Upd.grownR {b : Nat} {u : World} (hu : Upd b w u) {row : Option Nat} (hg : u.grownBy w' row) (hlo : ∀ k, row = some k → w.heap.size ≤ k) : Upd b w w' :=
  ⟨hg.os.trans hu.os, hg.tape.trans hu.tape, hg.output.trans hu.output, Nat.le_trans hu.size hg.size, fun k hk hne => (hg.block k (by have := hu.size; omega) (fun e => by have := hlo k e.symm; omega)).trans (hu.block k hk hne)⟩
theorem R_row_ge (h : d.R e w base ok v xs) : ∀ k, v.ownBlock = some k → base ≤ k := fun k hk => (Kd.R_bound h).1 k hk |>.2.1
theorem R_elderT (h : d.R e w base ok v xs) (N : Nat) (hN : w.heap.size ≤ N) : d.R e w base (fun k => k < N) v xs := Kd.R_mono (Kd.R_bound h) (fun k hk => by omega)
theorem R_grownT {N : Nat} (h : d.R e w base (fun k => k < N) v xs) {row : Option Nat} (hg : w.grownBy w' row) (hlo : ∀ k, row = some k → N ≤ k) : d.R e w' base (fun k => k < N) v xs :=
  Kd.R_grown h hg (fun k hk e => by have := hlo k e.symm; omega)
theorem R_C {A : Option Addr} {c : Nat} (h : d.R e w base ok (.slice A xs.length c) xs) : d.C w A xs.length xs ∧ xs.length ≤ c := by
  obtain ⟨A', c', e, hl, hc⟩ := Kd.R_reads h
  cases e
  exact ⟨hc, hl⟩
end
theorem calcheck_q {off : Int} {A1 A2 : Option Addr} {c1 c2 : Nat} {week closed : List S114} (w : World) (h1 : Kd.C k114 w A1 week.length week ∧ week.length ≤ c1) (h2 : Kd.C k114 w A2 closed.length closed ∧ closed.length ≤ c2) :
    Calls Tryz.prog 62 #[.agg #[.int .i64 off, .slice A1 week.length c1, .slice A2 closed.length c2]] w fun e w' => e = .returned (.int .i64 (calErr off week closed)) ∧ Below w.heap.size w w' := calcheck_any off A1 A2 c1 c2 week closed w h1.1 h1.2 h2.1 h2.2
theorem refcheck_q {off : Int} {A1 A2 : Option Addr} {c1 c2 : Nat} {week closed : List S114} (w : World) (h1 : Kd.C k114 w A1 week.length week ∧ week.length ≤ c1) (h2 : Kd.C k114 w A2 closed.length closed ∧ closed.length ≤ c2) :
    Calls Tryz.prog 14 #[.agg #[.int .i64 off, .slice A1 week.length c1, .slice A2 closed.length c2]] w fun e w' => e = .returned (.int .i64 (calErr off week closed)) ∧ Below w.heap.size w w' :=
  curfewref10_Check.calls 40 off A1 c1 week A2 c2 closed _ w h1.1 h1.2 h2.1 h2.2 (check_eq off week closed 40 (by omega))
variable {t m rb c : Nat} {w w' : World} {A : Option Addr} {s : List Int × Bool}
theorem rdInt_byte {s s' : List Int × Bool} {x : Int} (hb : ∀ x, x ∈ s.1 → 0 ≤ x ∧ x ≤ 255) (h : rdInt s = (x, s')) : ∀ x, x ∈ s'.1 → 0 ≤ x ∧ x ≤ 255 := by
  have h2 : (rdN true 9223372036854775807 s).2 = s' := congrArg Prod.snd h
  rw [← h2]
  unfold rdN
  cases hn : numR true 9223372036854775807 s.1 with
  | none => intro x hx; cases hx
  | some r =>
    obtain ⟨k, hk⟩ := numR_rest hn
    obtain ⟨y, b, l⟩ := r
    intro x hx
    simp only at hk hx
    rw [hk] at hx
    exact hb x (List.mem_of_mem_drop hx)
set_option maxHeartbeats 8000000 in
set_option maxRecDepth 100000 in
theorem calr_all (off : Int) (week closed : List S114) (m1 m2 : Int) (s1 s2 s3 s4 : List Int × Bool) (lst : List Int) (g : Bool) (P : Ending → World → Prop) (w : World) (h : RdAt 127 m w rb s) (e1 : rdInt s = (off, s1)) (e2 : rdNum 32 s1 = (m1, s2)) (e3 : rdSps m1.toNat s2 = (week, s3)) (e4 : rdNum 32 s3 = (m2, s4)) (e5 : rdSps m2.toNat s4 = (closed, (lst, g)))
    (hP1 : g = true ∨ calErr off week closed ≠ 0 → ∀ w', RdAt 127 m w' rb ([], true) → Upd rb w w' → P (.returned (.tuple #[.agg #[.int .i64 0, .slice none 0 0, .slice none 0 0], .bool false])) w')
    (hP2 : g = false → calErr off week closed = 0 → ∀ w' v1 v2, Kd.R k114 114 w' w.heap.size (fun _ => True) v1 week → Kd.R k114 114 w' w.heap.size (fun _ => True) v2 closed → RdAt 127 m w' rb (lst, g) → Upd rb w w' → P (.returned (.tuple #[.agg #[.int .i64 off, v1, v2], .bool true])) w') :
    Calls Tryz.prog 16 #[.pointer (some ⟨rb, 0, none⟩)] w P := by
  have P1 := Aside0.mk hP1
  have P2 := Aside0.mk hP2
  have E1 := Aside0.mk e1
  have E2 := Aside0.mk e2
  have E3 := Aside0.mk e3
  have E4 := Aside0.mk e4
  have E5 := Aside0.mk e5
  have hby := h.byte
  have hby1 : ∀ x, x ∈ s1.1 → 0 ≤ x ∧ x ≤ 255 := rdInt_byte hby e1
  obtain ⟨⟨m10, m11⟩, hby2⟩ := rdNum_range hby1 (by omega) e2
  have hby3 := rdSps_byte m1.toNat s2 hby2
  rw [e3] at hby3
  obtain ⟨⟨m20, m21⟩, _⟩ := rdNum_range hby3 (by omega) e4
  clear hby hby1 hby2 hby3 hP1 hP2 e1 e2 e3 e4 e5
  have hnot : ∀ (x : Bool) (w : World), (Op.unary .not (.bool x)).run Tryz.prog w = .ok (.bool (!x)) w := fun _ _ => rfl
  have HB0 : Below w.heap.size w ((w.alloc (.cells #[.int .i64 0, .slice none 0 0, .slice none 0 0] 24)).alloc (.cells #[.int .i64 0, .slice none 0 0, .slice none 0 0] 24)) := (below_alloc (below_alloc (Below.refl w.heap.size w) (.cells #[.int .i64 0, .slice none 0 0, .slice none 0 0] 24)) (.cells #[.int .i64 0, .slice none 0 0, .slice none 0 0] 24))
  have HR_1 := Aside0.mk (h.below HB0)
  have HU_1 := Aside0.mk (Upd.of_below (b := rb) HB0)
  have hs_1 : w.heap.size ≤ ((w.alloc (.cells #[.int .i64 0, .slice none 0 0, .slice none 0 0] 24)).alloc (.cells #[.int .i64 0, .slice none 0 0, .slice none 0 0] 24)).heap.size := HB0.size
  have Bz_1 : Aside0 (((w.alloc (.cells #[.int .i64 0, .slice none 0 0, .slice none 0 0] 24)).alloc (.cells #[.int .i64 0, .slice none 0 0, .slice none 0 0] 24)).heap[w.heap.size]? = some (.cells #[.int .i64 0, .slice none 0 0, .slice none 0 0] 24 (0, 0))) := ⟨(blk_alloc (blk_new w _) _)⟩
  have Bt_1 : Aside0 (((w.alloc (.cells #[.int .i64 0, .slice none 0 0, .slice none 0 0] 24)).alloc (.cells #[.int .i64 0, .slice none 0 0, .slice none 0 0] 24)).heap[w.heap.size + 1]? = some (.cells #[.int .i64 0, .slice none 0 0, .slice none 0 0] 24 (0, 0))) := ⟨(by simpa using blk_new (w.alloc (.cells #[.int .i64 0, .slice none 0 0, .slice none 0 0] 24)) (.cells #[.int .i64 0, .slice none 0 0, .slice none 0 0] 24))⟩
  have hz_1 : w.heap.size + 1 < ((w.alloc (.cells #[.int .i64 0, .slice none 0 0, .slice none 0 0] 24)).alloc (.cells #[.int .i64 0, .slice none 0 0, .slice none 0 0] 24)).heap.size := blk_lt Bt_1.out
  have hrb := h.lt
  have hmr := h.mle
  clear h HB0
  go_enter Tryz.func16, Tryz.ntmps16
  go_upto_region 2 with fail
  generalize ((w.alloc (.cells #[.int .i64 0, .slice none 0 0, .slice none 0 0] 24)).alloc (.cells #[.int .i64 0, .slice none 0 0, .slice none 0 0] 24)) = w1 at HR_1 HU_1 hs_1 Bz_1 Bt_1 hz_1 ⊢
  have dt0 : w1.cell? ⟨w.heap.size + 1, 0, none⟩ = some (.int .i64 0) := (blk_cell Bt_1.out 0).trans rfl
  have ft0 : w1.frozen? ⟨w.heap.size + 1, 0, none⟩ = false := blk_frozen Bt_1.out 0
  go_upto_region 3 with (go_at_call 60; with_reducible refine (rint_any w1 HR_1.out).mono ?_; rintro e w2 ⟨rfl, q1, q2⟩; rw [E1.out] at q1; rw [E1.out]; clear dt0 ft0; have HR_2 := Aside0.mk q1; have HU_2 := Aside0.mk (HU_1.out.trans q2); have hs_2 : w1.heap.size ≤ w2.heap.size := q2.size; have Bz_2 := Aside0.mk (q2.blk Bz_1.out (by omega)); have Bt_2 := Aside0.mk (q2.blk Bt_1.out (by omega)); clear q1 q2; have dt0 : w2.cell? ⟨w.heap.size + 1, 0, none⟩ = some (.int .i64 0) := (blk_cell Bt_2.out 0).trans rfl; have ft0 : w2.frozen? ⟨w.heap.size + 1, 0, none⟩ = false := blk_frozen Bt_2.out 0)
  clear dt0 ft0
  have Bt_3 := Aside0.mk (blk_put (cs' := #[.int .i64 off, .slice none 0 0, .slice none 0 0]) Bt_2.out 0 (.int .i64 off) rfl)
  have HR_3 := Aside0.mk (RdAt.seti HR_2.out (b := w.heap.size + 1) 0 (.int .i64 off) (by omega) (by omega))
  have HU_3 := Aside0.mk (Upd.seti HU_2.out (b := w.heap.size + 1) (by omega) 0 (.int .i64 off))
  have hs_3 : w2.heap.size ≤ (w2.setCell ⟨w.heap.size + 1, 0, none⟩ (.int .i64 off)).heap.size := by simp
  have Bz_3 : Aside0 ((w2.setCell ⟨w.heap.size + 1, 0, none⟩ (.int .i64 off)).heap[w.heap.size]? = _) := ⟨((Below.heap_setCell _ _ _ _ (by show w.heap.size ≠ w.heap.size + 1; omega)).trans Bz_2.out)⟩
  generalize (w2.setCell ⟨w.heap.size + 1, 0, none⟩ (.int .i64 off)) = w3 at Bt_3 HR_3 HU_3 hs_3 Bz_3  ⊢
  have dt0 : w3.cell? ⟨w.heap.size + 1, 0, none⟩ = some (.int .i64 off) := (blk_cell Bt_3.out 0).trans rfl
  have ft0 : w3.frozen? ⟨w.heap.size + 1, 0, none⟩ = false := blk_frozen Bt_3.out 0
  clear dt0 ft0
  have i0 : ∀ w0, (Instr.index 123 (.agg #[.pointer (some ⟨w.heap.size + 1, 1, none⟩), .pointer (some ⟨w.heap.size + 1, 2, none⟩)]) (.int .i64 0)).run Tryz.prog w0 = .ok (.pointer (some ⟨w.heap.size + 1, 1, none⟩)) w0 := fun _ => by kernel_rfl
  have i1 : ∀ w0, (Instr.index 123 (.agg #[.pointer (some ⟨w.heap.size + 1, 1, none⟩), .pointer (some ⟨w.heap.size + 1, 2, none⟩)]) (.int .i64 1)).run Tryz.prog w0 = .ok (.pointer (some ⟨w.heap.size + 1, 2, none⟩)) w0 := fun _ => by kernel_rfl
  go_wp2
  go_loopw [15] (fun y wr => (y = .int .i64 0 ∧ Aside0 (RdAt 127 m wr rb s1) ∧ Aside0 (Upd rb w wr) ∧ Aside0 (wr.heap[w.heap.size]? = some (.cells #[.int .i64 0, .slice none 0 0, .slice none 0 0] 24 (0, 0))) ∧ Aside0 (wr.heap[w.heap.size + 1]? = some (.cells #[.int .i64 off, .slice none 0 0, .slice none 0 0] 24 (0, 0)))) ∨ (∃ v1, y = .int .i64 1 ∧ Aside0 (RdAt 127 m wr rb s3) ∧ Aside0 (Upd rb w wr) ∧ Aside0 (wr.heap[w.heap.size]? = some (.cells #[.int .i64 0, .slice none 0 0, .slice none 0 0] 24 (0, 0))) ∧ Aside0 (wr.heap[w.heap.size + 1]? = some (.cells #[.int .i64 off, v1, .slice none 0 0] 24 (0, 0))) ∧ Aside0 (Kd.R k114 114 wr w.heap.size (fun _ => True) v1 week)) ∨ (∃ v1 v2, y = .int .i64 2 ∧ Aside0 (RdAt 127 m wr rb (lst, g)) ∧ Aside0 (Upd rb w wr) ∧ Aside0 (wr.heap[w.heap.size]? = some (.cells #[.int .i64 0, .slice none 0 0, .slice none 0 0] 24 (0, 0))) ∧ Aside0 (wr.heap[w.heap.size + 1]? = some (.cells #[.int .i64 off, v1, v2] 24 (0, 0))) ∧ Aside0 (Kd.R k114 114 wr w.heap.size (fun _ => True) v1 week) ∧ Aside0 (Kd.R k114 114 wr w.heap.size (fun _ => True) v2 closed))) (fun y _ => 2 - (intOf y).toNat)
  case atStart => exact .inl ⟨rfl, HR_3, HU_3, Bz_3, Bt_3⟩
  case round =>
    clear HR_3 HU_3 Bz_3 Bt_3 hs_3
    obtain ⟨wo, rfl⟩ : ∃ wo : World, wo = wr := ⟨_, rfl⟩
    rcases hrel with ⟨rfl, HR3, HU3, Bz3, Bt3⟩ | ⟨v1, rfl, HR3, HU3, Bz3, Bt3, HW3⟩ | ⟨v1, v2, rfl, HR_40, HU_40, Bz_40, Bt_40, Va_40, Vb_40⟩
    · go_wp2_with (go_at_call 61; with_reducible refine (rnum_any 32 wo HR3.out (by omega) (by omega)).mono ?_; rintro e w5 ⟨rfl, q1, q2⟩; rw [E2.out] at q1; rw [E2.out]; have HR5 := Aside0.mk q1; have HU5 := Aside0.mk (HU3.out.trans q2); have Bz5 := Aside0.mk (q2.blk Bz3.out (by omega)); have Bt5 := Aside0.mk (q2.blk Bt3.out (by omega)); clear q1 q2)
      clear HR3 HU3 Bz3 Bt3
      have hs5 : w.heap.size ≤ w5.heap.size := HU5.out.size
      go_loopw [20] (fun y wr => ∃ (i : Nat) (v : Value), y = .int .u64 i ∧ (i : Int) ≤ m1 ∧ Aside0 (RdAt 127 m wr rb (rdSps i s2).2) ∧ Aside0 (Upd rb w wr) ∧ Aside0 (w.heap.size ≤ wr.heap.size) ∧ Aside0 (wr.heap[w.heap.size]? = some (.cells #[.int .i64 0, .slice none 0 0, .slice none 0 0] 24 (0, 0))) ∧ Aside0 (wr.heap[w.heap.size + 1]? = some (.cells #[.int .i64 off, v, .slice none 0 0] 24 (0, 0))) ∧ Aside0 (Kd.R k114 114 wr w.heap.size (fun _ => True) v (rdSps i s2).1)) (fun y _ => m1.toNat - (intOf y).toNat)
      case atStart => exact ⟨0, .slice none 0 0, rfl, by omega, HR5, HU5, ⟨by omega⟩, Bz5, Bt5, ⟨Kd.R_nil _ _ _ _ _⟩⟩
      case round =>
        clear HR5 HU5 Bz5 Bt5
        obtain ⟨i, v, rfl, hi, HR, HU, HS, Bz, Bt, HV⟩ := hrel
        by_cases hlt : (i : Int) < m1
        · have hsucc := rdSps_succ i s2
          have hlen := rdSps_len i s2
          obtain ⟨A, c, rfl⟩ := Kd.R_slice HV.out
          generalize rdSps i s2 = q at HR HV hsucc hlen Bz Bt ⊢
          obtain ⟨l, s⟩ := q
          simp only at HR HV hsucc hlen Bz Bt
          obtain ⟨⟨x, sa⟩, ex⟩ : ∃ p, rdNum 1125899906842624 s = p := ⟨_, rfl⟩
          obtain ⟨⟨x0, x1⟩, hba⟩ := rdNum_range HR.out.byte (by omega) ex
          obtain ⟨⟨y, sb⟩, ey⟩ : ∃ p, rdNum 1125899906842624 sa = p := ⟨_, rfl⟩
          obtain ⟨⟨y0, y1⟩, hbb⟩ := rdNum_range hba (by omega) ey
          have HNX : Aside0 (rdSps (i + 1) s2 = (l ++ [⟨x, y⟩], sb)) := ⟨by rw [hsucc]; simp only [ex, ey]⟩
          have EX := Aside0.mk ex
          have EY := Aside0.mk ey
          have hl63 : (l.length + 1) * 16 ≤ 140737488355328 := by omega
          have HLN := Aside0.mk hlen
          clear hsucc hba hbb ex ey hlen
          have d9 : wr.cell? ⟨w.heap.size + 1, 1, none⟩ = some (.slice A l.length c) := (blk_cell Bt.out 1).trans rfl
          have f9 : wr.frozen? ⟨w.heap.size + 1, 1, none⟩ = false := blk_frozen Bt.out 1
          go_upto_region 10 with (first | (go_at_call 61; with_reducible refine (rnum_any 1125899906842624 wr HR.out (by omega) (by omega)).mono ?_; rintro e w6 ⟨rfl, q1, q2⟩; rw [EX.out] at q1; rw [EX.out]; have HR6 := Aside0.mk q1; have HU6 := Aside0.mk (HU.out.trans q2); have HS6 := Aside0.mk (Nat.le_trans HS.out q2.size); have Bz6 := Aside0.mk (q2.blk Bz.out (by omega)); have Bt6 := Aside0.mk (q2.blk Bt.out (by omega)); have HV6 := Aside0.mk (R_upd HV.out q2 (by omega)); clear q1 q2; clear d9 f9; have d9 : w6.cell? ⟨w.heap.size + 1, 1, none⟩ = some (.slice A l.length c) := (blk_cell Bt6.out 1).trans rfl; have f9 : w6.frozen? ⟨w.heap.size + 1, 1, none⟩ = false := blk_frozen Bt6.out 1) | (go_at_call 61; with_reducible refine (rnum_any 1125899906842624 w6 HR6.out (by omega) (by omega)).mono ?_; rintro e w7 ⟨rfl, q1, q2⟩; rw [EY.out] at q1; rw [EY.out]; have HR7 := Aside0.mk q1; have HU7 := Aside0.mk (HU6.out.trans q2); have HS7 := Aside0.mk (Nat.le_trans HS6.out q2.size); have Bz7 := Aside0.mk (q2.blk Bz6.out (by omega)); have Bt7 := Aside0.mk (q2.blk Bt6.out (by omega)); have HV7 := Aside0.mk (R_upd HV6.out q2 (by omega)); clear q1 q2; clear d9 f9; have d9 : w7.cell? ⟨w.heap.size + 1, 1, none⟩ = some (.slice A l.length c) := (blk_cell Bt7.out 1).trans rfl; have f9 : w7.frozen? ⟨w.heap.size + 1, 1, none⟩ = false := blk_frozen Bt7.out 1) | (at_builtin; refine Kd.R_append k114 (w0 := w7) (w.heap.size) rfl (.tmp 29) (.tmp 35) 22 114 (.agg #[.int .i64 0, .int .i64 0]) 16 rfl Tryz.underlying22 infoSpan rfl (by decide) (by omega) (.slice A l.length c) l (⟨x, y⟩ : S114) [.int .i64 x, .int .i64 y] (fun _ => True) (fun _ => False) rfl (by first | (go_simp; done) | (go_simp; rfl)) ?aP (fun _ hk => hk.elim) (fun _ _ => trivial) HV7.out (Below.refl _ _) HS7.out hl63 ?_; (case aP => exact k114_mkM _ _ _ (⟨x, y⟩ : S114)); intro v8 w8 ho hb8 hg hat8; obtain ⟨A8, c8, e8⟩ := Kd.R_slice ho; rw [List.length_append, List.length_singleton] at e8; subst e8; have HG := Aside0.mk hg; have HV8 := Aside0.mk ho; have HLO := Aside0.mk (R_row_ge HV7.out); clear ho hb8 hg hat8; have HR8 := Aside0.mk (HR7.out.grown HG.out (fun e => by have := HLO.out _ e.symm; omega) (fun k hk => by have := HLO.out k hk; omega)); have HU8 := Aside0.mk (HU7.out.grownR HG.out (fun k hk => by have := HLO.out k hk; omega)); have HS8 := Aside0.mk (Nat.le_trans HS7.out HG.out.size); have Bz8 := Aside0.mk (blk_grown Bz7.out HG.out (Kd.R_ne HV7.out Bz7.out (by decide))); have Bt8 := Aside0.mk (blk_grown Bt7.out HG.out (Kd.R_ne HV7.out Bt7.out (by decide))); clear d9 f9; have d9 : w8.cell? ⟨w.heap.size + 1, 1, none⟩ = some (.slice A l.length c) := (blk_cell Bt8.out 1).trans rfl; have f9 : w8.frozen? ⟨w.heap.size + 1, 1, none⟩ = false := blk_frozen Bt8.out 1))
          clear d9 f9
          have HR9 := Aside0.mk (HR8.out.seti (b := w.heap.size + 1) 1 (.slice A8 (l.length + 1) c8) (by omega) (by omega))
          have HU9 := Aside0.mk (HU8.out.seti (b := w.heap.size + 1) (by omega) 1 (.slice A8 (l.length + 1) c8))
          have HS9 : Aside0 (w.heap.size ≤ (w8.setCell ⟨w.heap.size + 1, 1, none⟩ (.slice A8 (l.length + 1) c8)).heap.size) := ⟨by simpa using HS8.out⟩
          have Bz9 := Aside0.mk ((Below.heap_setCell w8 ⟨w.heap.size + 1, 1, none⟩ (.slice A8 (l.length + 1) c8) _ (by show w.heap.size ≠ w.heap.size + 1; omega)).trans Bz8.out)
          have Bt9 := Aside0.mk (blk_put (cs' := #[.int .i64 off, .slice A8 (l.length + 1) c8, .slice none 0 0]) Bt8.out 1 (.slice A8 (l.length + 1) c8) rfl)
          have HV9 := Aside0.mk (Kd.R_set HV8.out Bt8.out (types1 rfl (by decide)) 1 (.slice A8 (l.length + 1) c8))
          generalize (w8.setCell ⟨w.heap.size + 1, 1, none⟩ (.slice A8 (l.length + 1) c8)) = w9 at HR9 HU9 HS9 HV9 Bz9 Bt9 ⊢
          go_wp2
          exact ⟨⟨i + 1, .slice A8 (l.length + 1) c8, by go_num, by omega, ⟨by rw [HNX.out]; exact HR9.out⟩, HU9, HS9, Bz9, Bt9, ⟨by rw [HNX.out]; exact HV9.out⟩⟩, by simp [intOf]; omega⟩
        · obtain rfl : i = m1.toNat := by omega
          have HR8 : Aside0 (RdAt 127 m wr rb s3) := ⟨by have := HR.out; rw [E3.out] at this; exact this⟩
          have HV8 : Aside0 (Kd.R k114 114 wr w.heap.size (fun _ => True) v week) := ⟨by have := HV.out; rw [E3.out] at this; exact this⟩
          clear HR HV hi
          go_wp2
          exact ⟨.inr (.inl ⟨v, rfl, HR8, HU, Bz, Bt, HV8⟩), by simp [intOf]⟩
    · go_wp2_with (go_at_call 61; with_reducible refine (rnum_any 32 wo HR3.out (by omega) (by omega)).mono ?_; rintro e w5 ⟨rfl, q1, q2⟩; rw [E4.out] at q1; rw [E4.out]; have HR5 := Aside0.mk q1; have HU5 := Aside0.mk (HU3.out.trans q2); have Bz5 := Aside0.mk (q2.blk Bz3.out (by omega)); have Bt5 := Aside0.mk (q2.blk Bt3.out (by omega)); have HW5 := Aside0.mk (R_upd HW3.out q2 (by omega)); have HW5T := Aside0.mk (R_elderT HW5.out w5.heap.size (Nat.le_refl _)); clear HW5; clear q1 q2)
      clear HR3 HU3 Bz3 Bt3 HW3
      have hs5 : w.heap.size ≤ w5.heap.size := HU5.out.size
      go_loopw [20] (fun y wr => ∃ (i : Nat) (v : Value), y = .int .u64 i ∧ (i : Int) ≤ m2 ∧ Aside0 (RdAt 127 m wr rb (rdSps i s4).2) ∧ Aside0 (Upd rb w wr) ∧ Aside0 (w5.heap.size ≤ wr.heap.size) ∧ Aside0 (wr.heap[w.heap.size]? = some (.cells #[.int .i64 0, .slice none 0 0, .slice none 0 0] 24 (0, 0))) ∧ Aside0 (wr.heap[w.heap.size + 1]? = some (.cells #[.int .i64 off, v1, v] 24 (0, 0))) ∧ Aside0 (Kd.R k114 114 wr w5.heap.size (fun _ => True) v (rdSps i s4).1) ∧ Aside0 (Kd.R k114 114 wr w.heap.size (fun k => k < w5.heap.size) v1 week)) (fun y _ => m2.toNat - (intOf y).toNat)
      case atStart => exact ⟨0, .slice none 0 0, rfl, by omega, HR5, HU5, ⟨by omega⟩, Bz5, Bt5, ⟨Kd.R_nil _ _ _ _ _⟩, HW5T⟩
      case round =>
        clear HR5 HU5 Bz5 Bt5 HW5T
        obtain ⟨i, v, rfl, hi, HR, HU, HS, Bz, Bt, HV, HW⟩ := hrel
        by_cases hlt : (i : Int) < m2
        · have hsucc := rdSps_succ i s4
          have hlen := rdSps_len i s4
          obtain ⟨A, c, rfl⟩ := Kd.R_slice HV.out
          generalize rdSps i s4 = q at HR HV hsucc hlen Bz Bt ⊢
          obtain ⟨l, s⟩ := q
          simp only at HR HV hsucc hlen Bz Bt
          obtain ⟨⟨x, sa⟩, ex⟩ : ∃ p, rdNum 1125899906842624 s = p := ⟨_, rfl⟩
          obtain ⟨⟨x0, x1⟩, hba⟩ := rdNum_range HR.out.byte (by omega) ex
          obtain ⟨⟨y, sb⟩, ey⟩ : ∃ p, rdNum 1125899906842624 sa = p := ⟨_, rfl⟩
          obtain ⟨⟨y0, y1⟩, hbb⟩ := rdNum_range hba (by omega) ey
          have HNX : Aside0 (rdSps (i + 1) s4 = (l ++ [⟨x, y⟩], sb)) := ⟨by rw [hsucc]; simp only [ex, ey]⟩
          have EX := Aside0.mk ex
          have EY := Aside0.mk ey
          have hl63 : (l.length + 1) * 16 ≤ 140737488355328 := by omega
          have HLN := Aside0.mk hlen
          clear hsucc hba hbb ex ey hlen
          have d9 : wr.cell? ⟨w.heap.size + 1, 2, none⟩ = some (.slice A l.length c) := (blk_cell Bt.out 2).trans rfl
          have f9 : wr.frozen? ⟨w.heap.size + 1, 2, none⟩ = false := blk_frozen Bt.out 2
          go_upto_region 10 with (first | (go_at_call 61; with_reducible refine (rnum_any 1125899906842624 wr HR.out (by omega) (by omega)).mono ?_; rintro e w6 ⟨rfl, q1, q2⟩; rw [EX.out] at q1; rw [EX.out]; have HR6 := Aside0.mk q1; have HU6 := Aside0.mk (HU.out.trans q2); have HS6 := Aside0.mk (Nat.le_trans HS.out q2.size); have Bz6 := Aside0.mk (q2.blk Bz.out (by omega)); have Bt6 := Aside0.mk (q2.blk Bt.out (by omega)); have HV6 := Aside0.mk (R_upd HV.out q2 (by omega)); have HW6 := Aside0.mk (R_upd HW.out q2 (by omega)); clear q1 q2; clear d9 f9; have d9 : w6.cell? ⟨w.heap.size + 1, 2, none⟩ = some (.slice A l.length c) := (blk_cell Bt6.out 2).trans rfl; have f9 : w6.frozen? ⟨w.heap.size + 1, 2, none⟩ = false := blk_frozen Bt6.out 2) | (go_at_call 61; with_reducible refine (rnum_any 1125899906842624 w6 HR6.out (by omega) (by omega)).mono ?_; rintro e w7 ⟨rfl, q1, q2⟩; rw [EY.out] at q1; rw [EY.out]; have HR7 := Aside0.mk q1; have HU7 := Aside0.mk (HU6.out.trans q2); have HS7 := Aside0.mk (Nat.le_trans HS6.out q2.size); have Bz7 := Aside0.mk (q2.blk Bz6.out (by omega)); have Bt7 := Aside0.mk (q2.blk Bt6.out (by omega)); have HV7 := Aside0.mk (R_upd HV6.out q2 (by omega)); have HW7 := Aside0.mk (R_upd HW6.out q2 (by omega)); clear q1 q2; clear d9 f9; have d9 : w7.cell? ⟨w.heap.size + 1, 2, none⟩ = some (.slice A l.length c) := (blk_cell Bt7.out 2).trans rfl; have f9 : w7.frozen? ⟨w.heap.size + 1, 2, none⟩ = false := blk_frozen Bt7.out 2) | (at_builtin; refine Kd.R_append k114 (w0 := w7) (w5.heap.size) rfl (.tmp 29) (.tmp 35) 22 114 (.agg #[.int .i64 0, .int .i64 0]) 16 rfl Tryz.underlying22 infoSpan rfl (by decide) (by omega) (.slice A l.length c) l (⟨x, y⟩ : S114) [.int .i64 x, .int .i64 y] (fun _ => True) (fun _ => False) rfl (by first | (go_simp; done) | (go_simp; rfl)) ?aP (fun _ hk => hk.elim) (fun _ _ => trivial) HV7.out (Below.refl _ _) HS7.out hl63 ?_; (case aP => exact k114_mkM _ _ _ (⟨x, y⟩ : S114)); intro v8 w8 ho hb8 hg hat8; obtain ⟨A8, c8, e8⟩ := Kd.R_slice ho; rw [List.length_append, List.length_singleton] at e8; subst e8; have HG := Aside0.mk hg; have HV8 := Aside0.mk ho; have HLO := Aside0.mk (R_row_ge HV7.out); clear ho hb8 hg hat8; have HR8 := Aside0.mk (HR7.out.grown HG.out (fun e => by have := HLO.out _ e.symm; omega) (fun k hk => by have := HLO.out k hk; omega)); have HU8 := Aside0.mk (HU7.out.grownR HG.out (fun k hk => by have := HLO.out k hk; omega)); have HS8 := Aside0.mk (Nat.le_trans HS7.out HG.out.size); have Bz8 := Aside0.mk (blk_grown Bz7.out HG.out (Kd.R_ne HV7.out Bz7.out (by decide))); have Bt8 := Aside0.mk (blk_grown Bt7.out HG.out (Kd.R_ne HV7.out Bt7.out (by decide))); have HW8 := Aside0.mk (R_grownT HW7.out HG.out (fun k hk => HLO.out k hk)); clear d9 f9; have d9 : w8.cell? ⟨w.heap.size + 1, 2, none⟩ = some (.slice A l.length c) := (blk_cell Bt8.out 2).trans rfl; have f9 : w8.frozen? ⟨w.heap.size + 1, 2, none⟩ = false := blk_frozen Bt8.out 2))
          clear d9 f9
          have HR9 := Aside0.mk (HR8.out.seti (b := w.heap.size + 1) 2 (.slice A8 (l.length + 1) c8) (by omega) (by omega))
          have HU9 := Aside0.mk (HU8.out.seti (b := w.heap.size + 1) (by omega) 2 (.slice A8 (l.length + 1) c8))
          have HS9 : Aside0 (w5.heap.size ≤ (w8.setCell ⟨w.heap.size + 1, 2, none⟩ (.slice A8 (l.length + 1) c8)).heap.size) := ⟨by simpa using HS8.out⟩
          have Bz9 := Aside0.mk ((Below.heap_setCell w8 ⟨w.heap.size + 1, 2, none⟩ (.slice A8 (l.length + 1) c8) _ (by show w.heap.size ≠ w.heap.size + 1; omega)).trans Bz8.out)
          have Bt9 := Aside0.mk (blk_put (cs' := #[.int .i64 off, v1, .slice A8 (l.length + 1) c8]) Bt8.out 2 (.slice A8 (l.length + 1) c8) rfl)
          have HV9 := Aside0.mk (Kd.R_set HV8.out Bt8.out (types1 rfl (by decide)) 2 (.slice A8 (l.length + 1) c8))
          have HW9 := Aside0.mk (Kd.R_set HW8.out Bt8.out (types1 rfl (by decide)) 2 (.slice A8 (l.length + 1) c8))
          generalize (w8.setCell ⟨w.heap.size + 1, 2, none⟩ (.slice A8 (l.length + 1) c8)) = w9 at HR9 HU9 HS9 HV9 Bz9 Bt9 HW9 ⊢
          go_wp2
          exact ⟨⟨i + 1, .slice A8 (l.length + 1) c8, by go_num, by omega, ⟨by rw [HNX.out]; exact HR9.out⟩, HU9, HS9, Bz9, Bt9, ⟨by rw [HNX.out]; exact HV9.out⟩, HW9⟩, by simp [intOf]; omega⟩
        · obtain rfl : i = m2.toNat := by omega
          have HR8 : Aside0 (RdAt 127 m wr rb (lst, g)) := ⟨by have := HR.out; rw [E5.out] at this; exact this⟩
          have HV8 : Aside0 (Kd.R k114 114 wr w5.heap.size (fun _ => True) v closed) := ⟨by have := HV.out; rw [E5.out] at this; exact this⟩
          clear HR HV hi
          go_wp2
          exact ⟨.inr (.inr ⟨v1, v, rfl, HR8, HU, Bz, Bt, ⟨Kd.R_mono HW.out (fun _ _ => trivial)⟩, ⟨Kd.R_lower HV8.out (by omega)⟩⟩), by simp [intOf]⟩
    · obtain ⟨A1, c1, rfl⟩ := Kd.R_slice Va_40.out
      obtain ⟨A2, c2, rfl⟩ := Kd.R_slice Vb_40.out
      obtain ⟨w40, rfl⟩ : ∃ w40 : World, w40 = wo := ⟨_, rfl⟩
      have hs_40 : w.heap.size ≤ w40.heap.size := HU_40.out.size
      have dz0 : w40.cell? ⟨w.heap.size, 0, none⟩ = some (.int .i64 0) := (blk_cell Bz_40.out 0).trans rfl
      have fz0 : w40.frozen? ⟨w.heap.size, 0, none⟩ = false := blk_frozen Bz_40.out 0
      have dz1 : w40.cell? ⟨w.heap.size, 1, none⟩ = some (.slice none 0 0) := (blk_cell Bz_40.out 1).trans rfl
      have fz1 : w40.frozen? ⟨w.heap.size, 1, none⟩ = false := blk_frozen Bz_40.out 1
      have dz2 : w40.cell? ⟨w.heap.size, 2, none⟩ = some (.slice none 0 0) := (blk_cell Bz_40.out 2).trans rfl
      have fz2 : w40.frozen? ⟨w.heap.size, 2, none⟩ = false := blk_frozen Bz_40.out 2
      have dt0 : w40.cell? ⟨w.heap.size + 1, 0, none⟩ = some (.int .i64 off) := (blk_cell Bt_40.out 0).trans rfl
      have ft0 : w40.frozen? ⟨w.heap.size + 1, 0, none⟩ = false := blk_frozen Bt_40.out 0
      have dt1 : w40.cell? ⟨w.heap.size + 1, 1, none⟩ = some (.slice A1 week.length c1) := (blk_cell Bt_40.out 1).trans rfl
      have ft1 : w40.frozen? ⟨w.heap.size + 1, 1, none⟩ = false := blk_frozen Bt_40.out 1
      have dt2 : w40.cell? ⟨w.heap.size + 1, 2, none⟩ = some (.slice A2 closed.length c2) := (blk_cell Bt_40.out 2).trans rfl
      have ft2 : w40.frozen? ⟨w.heap.size + 1, 2, none⟩ = false := blk_frozen Bt_40.out 2
      cases g with
      | true =>
        go_wp2_with (first | (go_at_call 22; refine (rbad_any w40 HR_40.out).mono ?_; rintro e wx ⟨rfl, rfl⟩) | (go_at_call 63; with_reducible refine (rfail_any w40 HR_40.out).mono ?_; rintro e w41 ⟨rfl, q1, q2⟩; clear dz0 fz0 dz1 fz1 dz2 fz2 dt0 ft0 dt1 ft1 dt2 ft2; have HR_41 := Aside0.mk q1; have HU_41 := Aside0.mk (HU_40.out.trans q2); have hs_41 : w40.heap.size ≤ w41.heap.size := q2.size; have Va_41 := Aside0.mk (R_upd Va_40.out q2 (by omega)); have Vb_41 := Aside0.mk (R_upd Vb_40.out q2 (by omega)); have Bz_41 := Aside0.mk (q2.blk Bz_40.out (by omega)); have Bt_41 := Aside0.mk (q2.blk Bt_40.out (by omega)); clear q1 q2; have dz0 : w41.cell? ⟨w.heap.size, 0, none⟩ = some (.int .i64 0) := (blk_cell Bz_41.out 0).trans rfl; have fz0 : w41.frozen? ⟨w.heap.size, 0, none⟩ = false := blk_frozen Bz_41.out 0; have dz1 : w41.cell? ⟨w.heap.size, 1, none⟩ = some (.slice none 0 0) := (blk_cell Bz_41.out 1).trans rfl; have fz1 : w41.frozen? ⟨w.heap.size, 1, none⟩ = false := blk_frozen Bz_41.out 1; have dz2 : w41.cell? ⟨w.heap.size, 2, none⟩ = some (.slice none 0 0) := (blk_cell Bz_41.out 2).trans rfl; have fz2 : w41.frozen? ⟨w.heap.size, 2, none⟩ = false := blk_frozen Bz_41.out 2; have dt0 : w41.cell? ⟨w.heap.size + 1, 0, none⟩ = some (.int .i64 off) := (blk_cell Bt_41.out 0).trans rfl; have ft0 : w41.frozen? ⟨w.heap.size + 1, 0, none⟩ = false := blk_frozen Bt_41.out 0; have dt1 : w41.cell? ⟨w.heap.size + 1, 1, none⟩ = some (.slice A1 week.length c1) := (blk_cell Bt_41.out 1).trans rfl; have ft1 : w41.frozen? ⟨w.heap.size + 1, 1, none⟩ = false := blk_frozen Bt_41.out 1; have dt2 : w41.cell? ⟨w.heap.size + 1, 2, none⟩ = some (.slice A2 closed.length c2) := (blk_cell Bt_41.out 2).trans rfl; have ft2 : w41.frozen? ⟨w.heap.size + 1, 2, none⟩ = false := blk_frozen Bt_41.out 2))
        clear dz0 fz0 dz1 fz1 dz2 fz2 dt0 ft0 dt1 ft1 dt2 ft2
        have Bz_42 := Aside0.mk (blk_put (cs' := #[.int .i64 0, .slice none 0 0, .slice none 0 0]) (blk_put (cs' := #[.int .i64 0, .slice none 0 0, .slice none 0 0]) (blk_put (cs' := #[.int .i64 0, .slice none 0 0, .slice none 0 0]) Bz_41.out 0 (.int .i64 0) rfl) 1 (.slice none 0 0) rfl) 2 (.slice none 0 0) rfl)
        have HR_42 := Aside0.mk (RdAt.seti (RdAt.seti (RdAt.seti HR_41.out (b := w.heap.size) 0 (.int .i64 0) (by omega) (by omega)) (b := w.heap.size) 1 (.slice none 0 0) (by omega) (by omega)) (b := w.heap.size) 2 (.slice none 0 0) (by omega) (by omega))
        have HU_42 := Aside0.mk (Upd.seti (Upd.seti (Upd.seti HU_41.out (b := w.heap.size) (by omega) 0 (.int .i64 0)) (b := w.heap.size) (by omega) 1 (.slice none 0 0)) (b := w.heap.size) (by omega) 2 (.slice none 0 0))
        have hs_42 : w41.heap.size ≤ (((w41.setCell ⟨w.heap.size, 0, none⟩ (.int .i64 0)).setCell ⟨w.heap.size, 1, none⟩ (.slice none 0 0)).setCell ⟨w.heap.size, 2, none⟩ (.slice none 0 0)).heap.size := by simp
        have Bt_42 : Aside0 ((((w41.setCell ⟨w.heap.size, 0, none⟩ (.int .i64 0)).setCell ⟨w.heap.size, 1, none⟩ (.slice none 0 0)).setCell ⟨w.heap.size, 2, none⟩ (.slice none 0 0)).heap[w.heap.size + 1]? = _) := ⟨((Below.heap_setCell _ _ _ _ (by show w.heap.size + 1 ≠ w.heap.size; omega)).trans ((Below.heap_setCell _ _ _ _ (by show w.heap.size + 1 ≠ w.heap.size; omega)).trans ((Below.heap_setCell _ _ _ _ (by show w.heap.size + 1 ≠ w.heap.size; omega)).trans Bt_41.out)))⟩
        have Va_42 := Aside0.mk (Kd.R_set (Kd.R_set (Kd.R_set Va_41.out Bz_41.out (types1 rfl (by decide)) 0 (.int .i64 0)) (blk_put (cs' := #[.int .i64 0, .slice none 0 0, .slice none 0 0]) Bz_41.out 0 (.int .i64 0) rfl) (types1 rfl (by decide)) 1 (.slice none 0 0)) (blk_put (cs' := #[.int .i64 0, .slice none 0 0, .slice none 0 0]) (blk_put (cs' := #[.int .i64 0, .slice none 0 0, .slice none 0 0]) Bz_41.out 0 (.int .i64 0) rfl) 1 (.slice none 0 0) rfl) (types1 rfl (by decide)) 2 (.slice none 0 0))
        have Vb_42 := Aside0.mk (Kd.R_set (Kd.R_set (Kd.R_set Vb_41.out Bz_41.out (types1 rfl (by decide)) 0 (.int .i64 0)) (blk_put (cs' := #[.int .i64 0, .slice none 0 0, .slice none 0 0]) Bz_41.out 0 (.int .i64 0) rfl) (types1 rfl (by decide)) 1 (.slice none 0 0)) (blk_put (cs' := #[.int .i64 0, .slice none 0 0, .slice none 0 0]) (blk_put (cs' := #[.int .i64 0, .slice none 0 0, .slice none 0 0]) Bz_41.out 0 (.int .i64 0) rfl) 1 (.slice none 0 0) rfl) (types1 rfl (by decide)) 2 (.slice none 0 0))
        generalize (((w41.setCell ⟨w.heap.size, 0, none⟩ (.int .i64 0)).setCell ⟨w.heap.size, 1, none⟩ (.slice none 0 0)).setCell ⟨w.heap.size, 2, none⟩ (.slice none 0 0)) = w42 at Bz_42 HR_42 HU_42 hs_42 Bt_42 Va_42 Vb_42 ⊢
        have dz0 : w42.cell? ⟨w.heap.size, 0, none⟩ = some (.int .i64 0) := (blk_cell Bz_42.out 0).trans rfl
        have fz0 : w42.frozen? ⟨w.heap.size, 0, none⟩ = false := blk_frozen Bz_42.out 0
        have dz1 : w42.cell? ⟨w.heap.size, 1, none⟩ = some (.slice none 0 0) := (blk_cell Bz_42.out 1).trans rfl
        have fz1 : w42.frozen? ⟨w.heap.size, 1, none⟩ = false := blk_frozen Bz_42.out 1
        have dz2 : w42.cell? ⟨w.heap.size, 2, none⟩ = some (.slice none 0 0) := (blk_cell Bz_42.out 2).trans rfl
        have fz2 : w42.frozen? ⟨w.heap.size, 2, none⟩ = false := blk_frozen Bz_42.out 2
        have dt0 : w42.cell? ⟨w.heap.size + 1, 0, none⟩ = some (.int .i64 off) := (blk_cell Bt_42.out 0).trans rfl
        have ft0 : w42.frozen? ⟨w.heap.size + 1, 0, none⟩ = false := blk_frozen Bt_42.out 0
        have dt1 : w42.cell? ⟨w.heap.size + 1, 1, none⟩ = some (.slice A1 week.length c1) := (blk_cell Bt_42.out 1).trans rfl
        have ft1 : w42.frozen? ⟨w.heap.size + 1, 1, none⟩ = false := blk_frozen Bt_42.out 1
        have dt2 : w42.cell? ⟨w.heap.size + 1, 2, none⟩ = some (.slice A2 closed.length c2) := (blk_cell Bt_42.out 2).trans rfl
        have ft2 : w42.frozen? ⟨w.heap.size + 1, 2, none⟩ = false := blk_frozen Bt_42.out 2
        refine bodyPost_ret (v := .tuple #[.agg #[.int .i64 0, .slice none 0 0, .slice none 0 0], .bool false]) (by simp [results, Tryz.results16, go_sem, dz0, dz1, dz2]) rfl (P1.out (.inl (by first | rfl | trivial)) _ HR_42.out HU_42.out)
      | false =>
        by_cases he : calErr off week closed = 0
        · have HE := Aside0.mk he
          clear he
          go_wp2_with (first | (go_at_call 22; refine (rbad_any w40 HR_40.out).mono ?_; rintro e wx ⟨rfl, rfl⟩) | (go_at_call 62; with_reducible refine (calcheck_q w40 (R_C Va_40.out) (R_C Vb_40.out)).mono ?_; rintro e w41 ⟨rfl, q1⟩; rw [HE.out]; clear dz0 fz0 dz1 fz1 dz2 fz2 dt0 ft0 dt1 ft1 dt2 ft2; have HR_41 := Aside0.mk (HR_40.out.below q1); have HU_41 := Aside0.mk (HU_40.out.then q1); have hs_41 : w40.heap.size ≤ w41.heap.size := q1.size; have Va_41 := Aside0.mk (Kd.R_below Va_40.out q1); have Vb_41 := Aside0.mk (Kd.R_below Vb_40.out q1); have Bz_41 := Aside0.mk (blk_below Bz_40.out q1); have Bt_41 := Aside0.mk (blk_below Bt_40.out q1); clear q1; have dz0 : w41.cell? ⟨w.heap.size, 0, none⟩ = some (.int .i64 0) := (blk_cell Bz_41.out 0).trans rfl; have fz0 : w41.frozen? ⟨w.heap.size, 0, none⟩ = false := blk_frozen Bz_41.out 0; have dz1 : w41.cell? ⟨w.heap.size, 1, none⟩ = some (.slice none 0 0) := (blk_cell Bz_41.out 1).trans rfl; have fz1 : w41.frozen? ⟨w.heap.size, 1, none⟩ = false := blk_frozen Bz_41.out 1; have dz2 : w41.cell? ⟨w.heap.size, 2, none⟩ = some (.slice none 0 0) := (blk_cell Bz_41.out 2).trans rfl; have fz2 : w41.frozen? ⟨w.heap.size, 2, none⟩ = false := blk_frozen Bz_41.out 2; have dt0 : w41.cell? ⟨w.heap.size + 1, 0, none⟩ = some (.int .i64 off) := (blk_cell Bt_41.out 0).trans rfl; have ft0 : w41.frozen? ⟨w.heap.size + 1, 0, none⟩ = false := blk_frozen Bt_41.out 0; have dt1 : w41.cell? ⟨w.heap.size + 1, 1, none⟩ = some (.slice A1 week.length c1) := (blk_cell Bt_41.out 1).trans rfl; have ft1 : w41.frozen? ⟨w.heap.size + 1, 1, none⟩ = false := blk_frozen Bt_41.out 1; have dt2 : w41.cell? ⟨w.heap.size + 1, 2, none⟩ = some (.slice A2 closed.length c2) := (blk_cell Bt_41.out 2).trans rfl; have ft2 : w41.frozen? ⟨w.heap.size + 1, 2, none⟩ = false := blk_frozen Bt_41.out 2))
          clear dz0 fz0 dz1 fz1 dz2 fz2 dt0 ft0 dt1 ft1 dt2 ft2
          have Bz_42 := Aside0.mk (blk_put (cs' := #[.int .i64 off, .slice A1 week.length c1, .slice A2 closed.length c2]) (blk_put (cs' := #[.int .i64 off, .slice A1 week.length c1, .slice none 0 0]) (blk_put (cs' := #[.int .i64 off, .slice none 0 0, .slice none 0 0]) Bz_41.out 0 (.int .i64 off) rfl) 1 (.slice A1 week.length c1) rfl) 2 (.slice A2 closed.length c2) rfl)
          have HR_42 := Aside0.mk (RdAt.seti (RdAt.seti (RdAt.seti HR_41.out (b := w.heap.size) 0 (.int .i64 off) (by omega) (by omega)) (b := w.heap.size) 1 (.slice A1 week.length c1) (by omega) (by omega)) (b := w.heap.size) 2 (.slice A2 closed.length c2) (by omega) (by omega))
          have HU_42 := Aside0.mk (Upd.seti (Upd.seti (Upd.seti HU_41.out (b := w.heap.size) (by omega) 0 (.int .i64 off)) (b := w.heap.size) (by omega) 1 (.slice A1 week.length c1)) (b := w.heap.size) (by omega) 2 (.slice A2 closed.length c2))
          have hs_42 : w41.heap.size ≤ (((w41.setCell ⟨w.heap.size, 0, none⟩ (.int .i64 off)).setCell ⟨w.heap.size, 1, none⟩ (.slice A1 week.length c1)).setCell ⟨w.heap.size, 2, none⟩ (.slice A2 closed.length c2)).heap.size := by simp
          have Bt_42 : Aside0 ((((w41.setCell ⟨w.heap.size, 0, none⟩ (.int .i64 off)).setCell ⟨w.heap.size, 1, none⟩ (.slice A1 week.length c1)).setCell ⟨w.heap.size, 2, none⟩ (.slice A2 closed.length c2)).heap[w.heap.size + 1]? = _) := ⟨((Below.heap_setCell _ _ _ _ (by show w.heap.size + 1 ≠ w.heap.size; omega)).trans ((Below.heap_setCell _ _ _ _ (by show w.heap.size + 1 ≠ w.heap.size; omega)).trans ((Below.heap_setCell _ _ _ _ (by show w.heap.size + 1 ≠ w.heap.size; omega)).trans Bt_41.out)))⟩
          have Va_42 := Aside0.mk (Kd.R_set (Kd.R_set (Kd.R_set Va_41.out Bz_41.out (types1 rfl (by decide)) 0 (.int .i64 off)) (blk_put (cs' := #[.int .i64 off, .slice none 0 0, .slice none 0 0]) Bz_41.out 0 (.int .i64 off) rfl) (types1 rfl (by decide)) 1 (.slice A1 week.length c1)) (blk_put (cs' := #[.int .i64 off, .slice A1 week.length c1, .slice none 0 0]) (blk_put (cs' := #[.int .i64 off, .slice none 0 0, .slice none 0 0]) Bz_41.out 0 (.int .i64 off) rfl) 1 (.slice A1 week.length c1) rfl) (types1 rfl (by decide)) 2 (.slice A2 closed.length c2))
          have Vb_42 := Aside0.mk (Kd.R_set (Kd.R_set (Kd.R_set Vb_41.out Bz_41.out (types1 rfl (by decide)) 0 (.int .i64 off)) (blk_put (cs' := #[.int .i64 off, .slice none 0 0, .slice none 0 0]) Bz_41.out 0 (.int .i64 off) rfl) (types1 rfl (by decide)) 1 (.slice A1 week.length c1)) (blk_put (cs' := #[.int .i64 off, .slice A1 week.length c1, .slice none 0 0]) (blk_put (cs' := #[.int .i64 off, .slice none 0 0, .slice none 0 0]) Bz_41.out 0 (.int .i64 off) rfl) 1 (.slice A1 week.length c1) rfl) (types1 rfl (by decide)) 2 (.slice A2 closed.length c2))
          generalize (((w41.setCell ⟨w.heap.size, 0, none⟩ (.int .i64 off)).setCell ⟨w.heap.size, 1, none⟩ (.slice A1 week.length c1)).setCell ⟨w.heap.size, 2, none⟩ (.slice A2 closed.length c2)) = w42 at Bz_42 HR_42 HU_42 hs_42 Bt_42 Va_42 Vb_42 ⊢
          have dz0 : w42.cell? ⟨w.heap.size, 0, none⟩ = some (.int .i64 off) := (blk_cell Bz_42.out 0).trans rfl
          have fz0 : w42.frozen? ⟨w.heap.size, 0, none⟩ = false := blk_frozen Bz_42.out 0
          have dz1 : w42.cell? ⟨w.heap.size, 1, none⟩ = some (.slice A1 week.length c1) := (blk_cell Bz_42.out 1).trans rfl
          have fz1 : w42.frozen? ⟨w.heap.size, 1, none⟩ = false := blk_frozen Bz_42.out 1
          have dz2 : w42.cell? ⟨w.heap.size, 2, none⟩ = some (.slice A2 closed.length c2) := (blk_cell Bz_42.out 2).trans rfl
          have fz2 : w42.frozen? ⟨w.heap.size, 2, none⟩ = false := blk_frozen Bz_42.out 2
          have dt0 : w42.cell? ⟨w.heap.size + 1, 0, none⟩ = some (.int .i64 off) := (blk_cell Bt_42.out 0).trans rfl
          have ft0 : w42.frozen? ⟨w.heap.size + 1, 0, none⟩ = false := blk_frozen Bt_42.out 0
          have dt1 : w42.cell? ⟨w.heap.size + 1, 1, none⟩ = some (.slice A1 week.length c1) := (blk_cell Bt_42.out 1).trans rfl
          have ft1 : w42.frozen? ⟨w.heap.size + 1, 1, none⟩ = false := blk_frozen Bt_42.out 1
          have dt2 : w42.cell? ⟨w.heap.size + 1, 2, none⟩ = some (.slice A2 closed.length c2) := (blk_cell Bt_42.out 2).trans rfl
          have ft2 : w42.frozen? ⟨w.heap.size + 1, 2, none⟩ = false := blk_frozen Bt_42.out 2
          refine bodyPost_ret (v := .tuple #[.agg #[.int .i64 off, .slice A1 week.length c1, .slice A2 closed.length c2], .bool true]) (by simp [results, Tryz.results16, go_sem, dz0, dz1, dz2]) rfl (P2.out (by first | rfl | trivial) HE.out _ _ _ Va_42.out Vb_42.out HR_42.out HU_42.out)
        · have HE0 := Aside0.mk he
          obtain ⟨ce, hce⟩ : ∃ x, calErr off week closed = x := ⟨_, rfl⟩
          have hne : (ce != 0) = true := bne_iff_ne.mpr (by rw [← hce]; exact he)
          have HE := Aside0.mk hce
          clear he hce
          go_wp2_with (first | (go_at_call 22; refine (rbad_any w40 HR_40.out).mono ?_; rintro e wx ⟨rfl, rfl⟩) | (go_at_call 62; with_reducible refine (calcheck_q w40 (R_C Va_40.out) (R_C Vb_40.out)).mono ?_; rintro e w41 ⟨rfl, q1⟩; rw [HE.out]; clear dz0 fz0 dz1 fz1 dz2 fz2 dt0 ft0 dt1 ft1 dt2 ft2; have HR_41 := Aside0.mk (HR_40.out.below q1); have HU_41 := Aside0.mk (HU_40.out.then q1); have hs_41 : w40.heap.size ≤ w41.heap.size := q1.size; have Va_41 := Aside0.mk (Kd.R_below Va_40.out q1); have Vb_41 := Aside0.mk (Kd.R_below Vb_40.out q1); have Bz_41 := Aside0.mk (blk_below Bz_40.out q1); have Bt_41 := Aside0.mk (blk_below Bt_40.out q1); clear q1; have dz0 : w41.cell? ⟨w.heap.size, 0, none⟩ = some (.int .i64 0) := (blk_cell Bz_41.out 0).trans rfl; have fz0 : w41.frozen? ⟨w.heap.size, 0, none⟩ = false := blk_frozen Bz_41.out 0; have dz1 : w41.cell? ⟨w.heap.size, 1, none⟩ = some (.slice none 0 0) := (blk_cell Bz_41.out 1).trans rfl; have fz1 : w41.frozen? ⟨w.heap.size, 1, none⟩ = false := blk_frozen Bz_41.out 1; have dz2 : w41.cell? ⟨w.heap.size, 2, none⟩ = some (.slice none 0 0) := (blk_cell Bz_41.out 2).trans rfl; have fz2 : w41.frozen? ⟨w.heap.size, 2, none⟩ = false := blk_frozen Bz_41.out 2; have dt0 : w41.cell? ⟨w.heap.size + 1, 0, none⟩ = some (.int .i64 off) := (blk_cell Bt_41.out 0).trans rfl; have ft0 : w41.frozen? ⟨w.heap.size + 1, 0, none⟩ = false := blk_frozen Bt_41.out 0; have dt1 : w41.cell? ⟨w.heap.size + 1, 1, none⟩ = some (.slice A1 week.length c1) := (blk_cell Bt_41.out 1).trans rfl; have ft1 : w41.frozen? ⟨w.heap.size + 1, 1, none⟩ = false := blk_frozen Bt_41.out 1; have dt2 : w41.cell? ⟨w.heap.size + 1, 2, none⟩ = some (.slice A2 closed.length c2) := (blk_cell Bt_41.out 2).trans rfl; have ft2 : w41.frozen? ⟨w.heap.size + 1, 2, none⟩ = false := blk_frozen Bt_41.out 2) | (go_at_call 63; with_reducible refine (rfail_any w41 HR_41.out).mono ?_; rintro e w42 ⟨rfl, q1, q2⟩; clear dz0 fz0 dz1 fz1 dz2 fz2 dt0 ft0 dt1 ft1 dt2 ft2; have HR_42 := Aside0.mk q1; have HU_42 := Aside0.mk (HU_41.out.trans q2); have hs_42 : w41.heap.size ≤ w42.heap.size := q2.size; have Va_42 := Aside0.mk (R_upd Va_41.out q2 (by omega)); have Vb_42 := Aside0.mk (R_upd Vb_41.out q2 (by omega)); have Bz_42 := Aside0.mk (q2.blk Bz_41.out (by omega)); have Bt_42 := Aside0.mk (q2.blk Bt_41.out (by omega)); clear q1 q2; have dz0 : w42.cell? ⟨w.heap.size, 0, none⟩ = some (.int .i64 0) := (blk_cell Bz_42.out 0).trans rfl; have fz0 : w42.frozen? ⟨w.heap.size, 0, none⟩ = false := blk_frozen Bz_42.out 0; have dz1 : w42.cell? ⟨w.heap.size, 1, none⟩ = some (.slice none 0 0) := (blk_cell Bz_42.out 1).trans rfl; have fz1 : w42.frozen? ⟨w.heap.size, 1, none⟩ = false := blk_frozen Bz_42.out 1; have dz2 : w42.cell? ⟨w.heap.size, 2, none⟩ = some (.slice none 0 0) := (blk_cell Bz_42.out 2).trans rfl; have fz2 : w42.frozen? ⟨w.heap.size, 2, none⟩ = false := blk_frozen Bz_42.out 2; have dt0 : w42.cell? ⟨w.heap.size + 1, 0, none⟩ = some (.int .i64 off) := (blk_cell Bt_42.out 0).trans rfl; have ft0 : w42.frozen? ⟨w.heap.size + 1, 0, none⟩ = false := blk_frozen Bt_42.out 0; have dt1 : w42.cell? ⟨w.heap.size + 1, 1, none⟩ = some (.slice A1 week.length c1) := (blk_cell Bt_42.out 1).trans rfl; have ft1 : w42.frozen? ⟨w.heap.size + 1, 1, none⟩ = false := blk_frozen Bt_42.out 1; have dt2 : w42.cell? ⟨w.heap.size + 1, 2, none⟩ = some (.slice A2 closed.length c2) := (blk_cell Bt_42.out 2).trans rfl; have ft2 : w42.frozen? ⟨w.heap.size + 1, 2, none⟩ = false := blk_frozen Bt_42.out 2))
          clear dz0 fz0 dz1 fz1 dz2 fz2 dt0 ft0 dt1 ft1 dt2 ft2
          have Bz_43 := Aside0.mk (blk_put (cs' := #[.int .i64 0, .slice none 0 0, .slice none 0 0]) (blk_put (cs' := #[.int .i64 0, .slice none 0 0, .slice none 0 0]) (blk_put (cs' := #[.int .i64 0, .slice none 0 0, .slice none 0 0]) Bz_42.out 0 (.int .i64 0) rfl) 1 (.slice none 0 0) rfl) 2 (.slice none 0 0) rfl)
          have HR_43 := Aside0.mk (RdAt.seti (RdAt.seti (RdAt.seti HR_42.out (b := w.heap.size) 0 (.int .i64 0) (by omega) (by omega)) (b := w.heap.size) 1 (.slice none 0 0) (by omega) (by omega)) (b := w.heap.size) 2 (.slice none 0 0) (by omega) (by omega))
          have HU_43 := Aside0.mk (Upd.seti (Upd.seti (Upd.seti HU_42.out (b := w.heap.size) (by omega) 0 (.int .i64 0)) (b := w.heap.size) (by omega) 1 (.slice none 0 0)) (b := w.heap.size) (by omega) 2 (.slice none 0 0))
          have hs_43 : w42.heap.size ≤ (((w42.setCell ⟨w.heap.size, 0, none⟩ (.int .i64 0)).setCell ⟨w.heap.size, 1, none⟩ (.slice none 0 0)).setCell ⟨w.heap.size, 2, none⟩ (.slice none 0 0)).heap.size := by simp
          have Bt_43 : Aside0 ((((w42.setCell ⟨w.heap.size, 0, none⟩ (.int .i64 0)).setCell ⟨w.heap.size, 1, none⟩ (.slice none 0 0)).setCell ⟨w.heap.size, 2, none⟩ (.slice none 0 0)).heap[w.heap.size + 1]? = _) := ⟨((Below.heap_setCell _ _ _ _ (by show w.heap.size + 1 ≠ w.heap.size; omega)).trans ((Below.heap_setCell _ _ _ _ (by show w.heap.size + 1 ≠ w.heap.size; omega)).trans ((Below.heap_setCell _ _ _ _ (by show w.heap.size + 1 ≠ w.heap.size; omega)).trans Bt_42.out)))⟩
          have Va_43 := Aside0.mk (Kd.R_set (Kd.R_set (Kd.R_set Va_42.out Bz_42.out (types1 rfl (by decide)) 0 (.int .i64 0)) (blk_put (cs' := #[.int .i64 0, .slice none 0 0, .slice none 0 0]) Bz_42.out 0 (.int .i64 0) rfl) (types1 rfl (by decide)) 1 (.slice none 0 0)) (blk_put (cs' := #[.int .i64 0, .slice none 0 0, .slice none 0 0]) (blk_put (cs' := #[.int .i64 0, .slice none 0 0, .slice none 0 0]) Bz_42.out 0 (.int .i64 0) rfl) 1 (.slice none 0 0) rfl) (types1 rfl (by decide)) 2 (.slice none 0 0))
          have Vb_43 := Aside0.mk (Kd.R_set (Kd.R_set (Kd.R_set Vb_42.out Bz_42.out (types1 rfl (by decide)) 0 (.int .i64 0)) (blk_put (cs' := #[.int .i64 0, .slice none 0 0, .slice none 0 0]) Bz_42.out 0 (.int .i64 0) rfl) (types1 rfl (by decide)) 1 (.slice none 0 0)) (blk_put (cs' := #[.int .i64 0, .slice none 0 0, .slice none 0 0]) (blk_put (cs' := #[.int .i64 0, .slice none 0 0, .slice none 0 0]) Bz_42.out 0 (.int .i64 0) rfl) 1 (.slice none 0 0) rfl) (types1 rfl (by decide)) 2 (.slice none 0 0))
          generalize (((w42.setCell ⟨w.heap.size, 0, none⟩ (.int .i64 0)).setCell ⟨w.heap.size, 1, none⟩ (.slice none 0 0)).setCell ⟨w.heap.size, 2, none⟩ (.slice none 0 0)) = w43 at Bz_43 HR_43 HU_43 hs_43 Bt_43 Va_43 Vb_43 ⊢
          have dz0 : w43.cell? ⟨w.heap.size, 0, none⟩ = some (.int .i64 0) := (blk_cell Bz_43.out 0).trans rfl
          have fz0 : w43.frozen? ⟨w.heap.size, 0, none⟩ = false := blk_frozen Bz_43.out 0
          have dz1 : w43.cell? ⟨w.heap.size, 1, none⟩ = some (.slice none 0 0) := (blk_cell Bz_43.out 1).trans rfl
          have fz1 : w43.frozen? ⟨w.heap.size, 1, none⟩ = false := blk_frozen Bz_43.out 1
          have dz2 : w43.cell? ⟨w.heap.size, 2, none⟩ = some (.slice none 0 0) := (blk_cell Bz_43.out 2).trans rfl
          have fz2 : w43.frozen? ⟨w.heap.size, 2, none⟩ = false := blk_frozen Bz_43.out 2
          have dt0 : w43.cell? ⟨w.heap.size + 1, 0, none⟩ = some (.int .i64 off) := (blk_cell Bt_43.out 0).trans rfl
          have ft0 : w43.frozen? ⟨w.heap.size + 1, 0, none⟩ = false := blk_frozen Bt_43.out 0
          have dt1 : w43.cell? ⟨w.heap.size + 1, 1, none⟩ = some (.slice A1 week.length c1) := (blk_cell Bt_43.out 1).trans rfl
          have ft1 : w43.frozen? ⟨w.heap.size + 1, 1, none⟩ = false := blk_frozen Bt_43.out 1
          have dt2 : w43.cell? ⟨w.heap.size + 1, 2, none⟩ = some (.slice A2 closed.length c2) := (blk_cell Bt_43.out 2).trans rfl
          have ft2 : w43.frozen? ⟨w.heap.size + 1, 2, none⟩ = false := blk_frozen Bt_43.out 2
          refine bodyPost_ret (v := .tuple #[.agg #[.int .i64 0, .slice none 0 0, .slice none 0 0], .bool false]) (by simp [results, Tryz.results16, go_sem, dz0, dz1, dz2]) rfl (P1.out (.inr HE0.out) _ HR_43.out HU_43.out)
set_option maxHeartbeats 8000000 in
set_option maxRecDepth 100000 in
theorem spans_any (w : World) (h : RdAt 42 m w rb s) :
    Calls Tryz.prog 68 #[.pointer (some ⟨rb, 0, none⟩)] w fun e w' => ∃ v, e = .returned v ∧ Kd.R k114 114 w' w.heap.size (fun _ => True) v (rdRow s).1 ∧ RdAt 42 m w' rb (rdRow s).2 ∧ Upd rb w w' := by
  obtain ⟨⟨m1, s2⟩, e2⟩ : ∃ p, rdNum 32 s = p := ⟨_, rfl⟩
  obtain ⟨⟨m10, m11⟩, hby2⟩ := rdNum_range h.byte (by omega) e2
  have hrow : rdRow s = rdSps m1.toNat s2 := by unfold rdRow; rw [e2]
  rw [hrow]
  have HR0 := Aside0.mk h
  have E2 := Aside0.mk e2
  have hrb := h.lt
  have hmr := h.mle
  clear h e2 hrow hby2
  go_enter Tryz.func68, Tryz.ntmps68
  go_wp2_with (go_at_call 76; with_reducible refine (dNum_any 32 w HR0.out (by omega) (by omega)).mono ?_; rintro e w5 ⟨rfl, q1, q2⟩; rw [E2.out] at q1; rw [E2.out]; have HR5 := Aside0.mk q1; have HU5 := Aside0.mk q2; clear q1 q2)
  go_loopw [3, 5] (fun z y wr => ∃ (i : Nat) (v : Value), z = v ∧ y = .int .u64 i ∧ (i : Int) ≤ m1 ∧ Aside0 (RdAt 42 m wr rb (rdSps i s2).2) ∧ Aside0 (Upd rb w wr) ∧ Aside0 (w.heap.size ≤ wr.heap.size) ∧ Aside0 (Kd.R k114 114 wr w.heap.size (fun _ => True) v (rdSps i s2).1)) (fun _ y _ => m1.toNat - (intOf y).toNat)
  case atStart => exact ⟨0, .slice none 0 0, rfl, rfl, by omega, HR5, HU5, ⟨HU5.out.size⟩, ⟨Kd.R_nil _ _ _ _ _⟩⟩
  case round =>
    clear HR5 HU5
    obtain ⟨i, v, rfl, rfl, hi, HR, HU, HS, HV⟩ := hrel
    by_cases hlt : (i : Int) < m1
    · have hsucc := rdSps_succ i s2
      have hlen := rdSps_len i s2
      obtain ⟨A, c, rfl⟩ := Kd.R_slice HV.out
      generalize rdSps i s2 = q at HR HV hsucc hlen  ⊢
      obtain ⟨l, s⟩ := q
      simp only at HR HV hsucc hlen 
      obtain ⟨⟨x, sa⟩, ex⟩ : ∃ p, rdNum 1125899906842624 s = p := ⟨_, rfl⟩
      obtain ⟨⟨x0, x1⟩, hba⟩ := rdNum_range HR.out.byte (by omega) ex
      obtain ⟨⟨y, sb⟩, ey⟩ : ∃ p, rdNum 1125899906842624 sa = p := ⟨_, rfl⟩
      obtain ⟨⟨y0, y1⟩, hbb⟩ := rdNum_range hba (by omega) ey
      have HNX : Aside0 (rdSps (i + 1) s2 = (l ++ [⟨x, y⟩], sb)) := ⟨by rw [hsucc]; simp only [ex, ey]⟩
      have EX := Aside0.mk ex
      have EY := Aside0.mk ey
      have hl63 : (l.length + 1) * 16 ≤ 140737488355328 := by omega
      have HLN := Aside0.mk hlen
      clear hsucc hba hbb ex ey hlen
      go_upto_region 5 with (first | (go_at_call 76; with_reducible refine (dNum_any 1125899906842624 wr HR.out (by omega) (by omega)).mono ?_; rintro e w6 ⟨rfl, q1, q2⟩; rw [EX.out] at q1; rw [EX.out]; have HR6 := Aside0.mk q1; have HU6 := Aside0.mk (HU.out.trans q2); have HS6 := Aside0.mk (Nat.le_trans HS.out q2.size); have HV6 := Aside0.mk (R_upd HV.out q2 (by omega)); clear q1 q2) | (go_at_call 76; with_reducible refine (dNum_any 1125899906842624 w6 HR6.out (by omega) (by omega)).mono ?_; rintro e w7 ⟨rfl, q1, q2⟩; rw [EY.out] at q1; rw [EY.out]; have HR7 := Aside0.mk q1; have HU7 := Aside0.mk (HU6.out.trans q2); have HS7 := Aside0.mk (Nat.le_trans HS6.out q2.size); have HV7 := Aside0.mk (R_upd HV6.out q2 (by omega)); clear q1 q2) | (at_builtin; refine Kd.R_append k114 (w0 := w7) (w.heap.size) rfl (.tmp 19) (.tmp 25) 22 114 (.agg #[.int .i64 0, .int .i64 0]) 16 rfl Tryz.underlying22 infoSpan rfl (by decide) (by omega) (.slice A l.length c) l (⟨x, y⟩ : S114) [.int .i64 x, .int .i64 y] (fun _ => True) (fun _ => False) rfl (by first | (go_simp; done) | (go_simp; rfl)) ?aP (fun _ hk => hk.elim) (fun _ _ => trivial) HV7.out (Below.refl _ _) HS7.out hl63 ?_; (case aP => exact k114_mkM _ _ _ (⟨x, y⟩ : S114)); intro v8 w8 ho hb8 hg hat8; obtain ⟨A8, c8, e8⟩ := Kd.R_slice ho; rw [List.length_append, List.length_singleton] at e8; subst e8; have HG := Aside0.mk hg; have HV8 := Aside0.mk ho; have HLO := Aside0.mk (R_row_ge HV7.out); clear ho hb8 hg hat8; have HR8 := Aside0.mk (HR7.out.grown HG.out (fun e => by have := HLO.out _ e.symm; omega) (fun k hk => by have := HLO.out k hk; omega)); have HU8 := Aside0.mk (HU7.out.grownR HG.out (fun k hk => by have := HLO.out k hk; omega)); have HS8 := Aside0.mk (Nat.le_trans HS7.out HG.out.size)))
      go_wp2
      exact ⟨⟨i + 1, .slice A8 (l.length + 1) c8, rfl, by go_num, by omega, ⟨by rw [HNX.out]; exact HR8.out⟩, HU8, HS8, ⟨by rw [HNX.out]; exact HV8.out⟩⟩, by simp [intOf]; omega⟩
    · obtain rfl : i = m1.toNat := by omega
      go_wp2
      go_ret
      exact ⟨_, rfl, HV.out, HR.out, HU.out⟩
set_option maxHeartbeats 8000000 in
set_option maxRecDepth 100000 in
theorem calrd_all (off : Int) (week closed : List S114) (m1 m2 : Int) (s1 s2 s3 s4 : List Int × Bool) (lst : List Int) (g : Bool) (P : Ending → World → Prop) (w : World) (h : RdAt 42 m w rb s) (e1 : rdInt s = (off, s1)) (e2 : rdNum 32 s1 = (m1, s2)) (e3 : rdSps m1.toNat s2 = (week, s3)) (e4 : rdNum 32 s3 = (m2, s4)) (e5 : rdSps m2.toNat s4 = (closed, (lst, g)))
    (hP1 : g = true ∨ calErr off week closed ≠ 0 → ∀ w', RdAt 42 m w' rb ([], true) → Upd rb w w' → P (.returned (.tuple #[.agg #[.int .i64 0, .slice none 0 0, .slice none 0 0], .bool false])) w')
    (hP2 : g = false → calErr off week closed = 0 → ∀ w' v1 v2, Kd.R k114 114 w' w.heap.size (fun _ => True) v1 week → Kd.R k114 114 w' w.heap.size (fun _ => True) v2 closed → RdAt 42 m w' rb (lst, g) → Upd rb w w' → P (.returned (.tuple #[.agg #[.int .i64 off, v1, v2], .bool true])) w') :
    Calls Tryz.prog 20 #[.pointer (some ⟨rb, 0, none⟩)] w P := by
  have P1 := Aside0.mk hP1
  have P2 := Aside0.mk hP2
  have E1 := Aside0.mk e1
  have E3 : Aside0 (rdRow s1 = (week, s3)) := ⟨by unfold rdRow; rw [e2, e3]⟩
  have E5 : Aside0 (rdRow s3 = (closed, (lst, g))) := ⟨by unfold rdRow; rw [e4, e5]⟩
  clear hP1 hP2 e1 e2 e3 e4 e5
  have hnot : ∀ (x : Bool) (w : World), (Op.unary .not (.bool x)).run Tryz.prog w = .ok (.bool (!x)) w := fun _ _ => rfl
  have HB0 : Below w.heap.size w (w.alloc (.cells #[.int .i64 0, .slice none 0 0, .slice none 0 0] 24)) := (below_alloc (Below.refl w.heap.size w) (.cells #[.int .i64 0, .slice none 0 0, .slice none 0 0] 24))
  have HR_1 := Aside0.mk (h.below HB0)
  have HU_1 := Aside0.mk (Upd.of_below (b := rb) HB0)
  have hs_1 : w.heap.size ≤ (w.alloc (.cells #[.int .i64 0, .slice none 0 0, .slice none 0 0] 24)).heap.size := HB0.size
  have Bz_1 : Aside0 ((w.alloc (.cells #[.int .i64 0, .slice none 0 0, .slice none 0 0] 24)).heap[w.heap.size]? = some (.cells #[.int .i64 0, .slice none 0 0, .slice none 0 0] 24 (0, 0))) := ⟨(blk_new w _)⟩
  have hz_1 : w.heap.size < (w.alloc (.cells #[.int .i64 0, .slice none 0 0, .slice none 0 0] 24)).heap.size := blk_lt Bz_1.out
  have hrb := h.lt
  have hmr := h.mle
  clear h HB0
  go_enter Tryz.func20, Tryz.ntmps20
  go_upto_region 1 with fail
  generalize (w.alloc (.cells #[.int .i64 0, .slice none 0 0, .slice none 0 0] 24)) = w1 at HR_1 HU_1 hs_1 Bz_1 hz_1 ⊢
  go_upto_region 2 with (go_at_call 67; with_reducible refine (dInt_any w1 HR_1.out).mono ?_; rintro e w2 ⟨rfl, q1, q2⟩; rw [E1.out] at q1; rw [E1.out]; have HR_2 := Aside0.mk q1; have HU_2 := Aside0.mk (HU_1.out.trans q2); have hs_2 : w1.heap.size ≤ w2.heap.size := q2.size; have Bz_2 := Aside0.mk (q2.blk Bz_1.out (by omega)); clear q1 q2)
  have hb : Below w2.heap.size w2 (w2.alloc (.cells #[.int .i64 off, .slice none 0 0, .slice none 0 0] 24)) := below_alloc (Below.refl _ _) _
  have Bt_3 := Aside0.mk (blk_new w2 (.cells #[.int .i64 off, .slice none 0 0, .slice none 0 0] 24))
  have Bz_3 := Aside0.mk (blk_below Bz_2.out hb)
  have HR_3 := Aside0.mk (HR_2.out.below hb)
  have HU_3 := Aside0.mk (HU_2.out.then hb)
  have hs_3 : w2.heap.size ≤ (w2.alloc (.cells #[.int .i64 off, .slice none 0 0, .slice none 0 0] 24)).heap.size := hb.size
  have hz_3 : w2.heap.size < (w2.alloc (.cells #[.int .i64 off, .slice none 0 0, .slice none 0 0] 24)).heap.size := blk_lt Bt_3.out
  clear hb
  generalize (w2.alloc (.cells #[.int .i64 off, .slice none 0 0, .slice none 0 0] 24)) = w3 at Bt_3 Bz_3 HR_3 HU_3 hs_3 hz_3  ⊢
  have dt1 : w3.cell? ⟨w2.heap.size, 1, none⟩ = some (.slice none 0 0) := (blk_cell Bt_3.out 1).trans rfl
  have ft1 : w3.frozen? ⟨w2.heap.size, 1, none⟩ = false := blk_frozen Bt_3.out 1
  go_upto_region 3 with (go_at_call 68; with_reducible refine (spans_any w3 HR_3.out).mono ?_; rintro e w4 ⟨va, rfl, q3, q1, q2⟩; rw [E3.out] at q1 q3; have Va0 := Aside0.mk (Kd.R_lower q3 (by omega : w.heap.size ≤ w3.heap.size)); obtain ⟨A1, c1, rfl⟩ := Kd.R_slice Va0.out; clear q3; clear dt1 ft1; have HR_4 := Aside0.mk q1; have HU_4 := Aside0.mk (HU_3.out.trans q2); have hs_4 : w3.heap.size ≤ w4.heap.size := q2.size; have Bz_4 := Aside0.mk (q2.blk Bz_3.out (by omega)); have Bt_4 := Aside0.mk (q2.blk Bt_3.out (by omega)); clear q1 q2; have dt1 : w4.cell? ⟨w2.heap.size, 1, none⟩ = some (.slice none 0 0) := (blk_cell Bt_4.out 1).trans rfl; have ft1 : w4.frozen? ⟨w2.heap.size, 1, none⟩ = false := blk_frozen Bt_4.out 1)
  have Va_4 := Va0
  clear dt1 ft1
  have Bt_5 := Aside0.mk (blk_put (cs' := #[.int .i64 off, .slice A1 week.length c1, .slice none 0 0]) Bt_4.out 1 (.slice A1 week.length c1) rfl)
  have HR_5 := Aside0.mk (RdAt.seti HR_4.out (b := w2.heap.size) 1 (.slice A1 week.length c1) (by omega) (by omega))
  have HU_5 := Aside0.mk (Upd.seti HU_4.out (b := w2.heap.size) (by omega) 1 (.slice A1 week.length c1))
  have hs_5 : w4.heap.size ≤ (w4.setCell ⟨w2.heap.size, 1, none⟩ (.slice A1 week.length c1)).heap.size := by simp
  have Bz_5 : Aside0 ((w4.setCell ⟨w2.heap.size, 1, none⟩ (.slice A1 week.length c1)).heap[w.heap.size]? = _) := ⟨((Below.heap_setCell _ _ _ _ (by show w.heap.size ≠ w2.heap.size; omega)).trans Bz_4.out)⟩
  have Va_5 := Aside0.mk (Kd.R_set Va_4.out Bt_4.out (types1 rfl (by decide)) 1 (.slice A1 week.length c1))
  generalize (w4.setCell ⟨w2.heap.size, 1, none⟩ (.slice A1 week.length c1)) = w5 at Bt_5 HR_5 HU_5 hs_5 Bz_5 Va_5 ⊢
  have dt1 : w5.cell? ⟨w2.heap.size, 1, none⟩ = some (.slice A1 week.length c1) := (blk_cell Bt_5.out 1).trans rfl
  have ft1 : w5.frozen? ⟨w2.heap.size, 1, none⟩ = false := blk_frozen Bt_5.out 1
  clear dt1 ft1
  have dt2 : w5.cell? ⟨w2.heap.size, 2, none⟩ = some (.slice none 0 0) := (blk_cell Bt_5.out 2).trans rfl
  have ft2 : w5.frozen? ⟨w2.heap.size, 2, none⟩ = false := blk_frozen Bt_5.out 2
  go_upto_region 4 with (go_at_call 68; with_reducible refine (spans_any w5 HR_5.out).mono ?_; rintro e w6 ⟨vb, rfl, q3, q1, q2⟩; rw [E5.out] at q1 q3; have Vb0 := Aside0.mk (Kd.R_lower q3 (by omega : w.heap.size ≤ w5.heap.size)); obtain ⟨A2, c2, rfl⟩ := Kd.R_slice Vb0.out; clear q3; clear dt2 ft2; have HR_6 := Aside0.mk q1; have HU_6 := Aside0.mk (HU_5.out.trans q2); have hs_6 : w5.heap.size ≤ w6.heap.size := q2.size; have Va_6 := Aside0.mk (R_upd Va_5.out q2 (by omega)); have Bz_6 := Aside0.mk (q2.blk Bz_5.out (by omega)); have Bt_6 := Aside0.mk (q2.blk Bt_5.out (by omega)); clear q1 q2; have dt2 : w6.cell? ⟨w2.heap.size, 2, none⟩ = some (.slice none 0 0) := (blk_cell Bt_6.out 2).trans rfl; have ft2 : w6.frozen? ⟨w2.heap.size, 2, none⟩ = false := blk_frozen Bt_6.out 2)
  have Vb_6 := Vb0
  clear dt2 ft2
  have Bt_7 := Aside0.mk (blk_put (cs' := #[.int .i64 off, .slice A1 week.length c1, .slice A2 closed.length c2]) Bt_6.out 2 (.slice A2 closed.length c2) rfl)
  have HR_7 := Aside0.mk (RdAt.seti HR_6.out (b := w2.heap.size) 2 (.slice A2 closed.length c2) (by omega) (by omega))
  have HU_7 := Aside0.mk (Upd.seti HU_6.out (b := w2.heap.size) (by omega) 2 (.slice A2 closed.length c2))
  have hs_7 : w6.heap.size ≤ (w6.setCell ⟨w2.heap.size, 2, none⟩ (.slice A2 closed.length c2)).heap.size := by simp
  have Bz_7 : Aside0 ((w6.setCell ⟨w2.heap.size, 2, none⟩ (.slice A2 closed.length c2)).heap[w.heap.size]? = _) := ⟨((Below.heap_setCell _ _ _ _ (by show w.heap.size ≠ w2.heap.size; omega)).trans Bz_6.out)⟩
  have Va_7 := Aside0.mk (Kd.R_set Va_6.out Bt_6.out (types1 rfl (by decide)) 2 (.slice A2 closed.length c2))
  have Vb_7 := Aside0.mk (Kd.R_set Vb_6.out Bt_6.out (types1 rfl (by decide)) 2 (.slice A2 closed.length c2))
  generalize (w6.setCell ⟨w2.heap.size, 2, none⟩ (.slice A2 closed.length c2)) = w7 at Bt_7 HR_7 HU_7 hs_7 Bz_7 Va_7 Vb_7 ⊢
  have dt2 : w7.cell? ⟨w2.heap.size, 2, none⟩ = some (.slice A2 closed.length c2) := (blk_cell Bt_7.out 2).trans rfl
  have ft2 : w7.frozen? ⟨w2.heap.size, 2, none⟩ = false := blk_frozen Bt_7.out 2
  have HR_40 := HR_7
  have HU_40 := HU_7
  have Bz_40 := Bz_7
  have Bt_40 := Bt_7
  have Va_40 := Va_7
  have Vb_40 := Vb_7
  clear dt2 ft2
  obtain ⟨w40, rfl⟩ : ∃ w40 : World, w40 = w7 := ⟨_, rfl⟩
  have hs_40 : w.heap.size ≤ w40.heap.size := HU_40.out.size
  have dz0 : w40.cell? ⟨w.heap.size, 0, none⟩ = some (.int .i64 0) := (blk_cell Bz_40.out 0).trans rfl
  have fz0 : w40.frozen? ⟨w.heap.size, 0, none⟩ = false := blk_frozen Bz_40.out 0
  have dz1 : w40.cell? ⟨w.heap.size, 1, none⟩ = some (.slice none 0 0) := (blk_cell Bz_40.out 1).trans rfl
  have fz1 : w40.frozen? ⟨w.heap.size, 1, none⟩ = false := blk_frozen Bz_40.out 1
  have dz2 : w40.cell? ⟨w.heap.size, 2, none⟩ = some (.slice none 0 0) := (blk_cell Bz_40.out 2).trans rfl
  have fz2 : w40.frozen? ⟨w.heap.size, 2, none⟩ = false := blk_frozen Bz_40.out 2
  have dt0 : w40.cell? ⟨w2.heap.size, 0, none⟩ = some (.int .i64 off) := (blk_cell Bt_40.out 0).trans rfl
  have ft0 : w40.frozen? ⟨w2.heap.size, 0, none⟩ = false := blk_frozen Bt_40.out 0
  have dt1 : w40.cell? ⟨w2.heap.size, 1, none⟩ = some (.slice A1 week.length c1) := (blk_cell Bt_40.out 1).trans rfl
  have ft1 : w40.frozen? ⟨w2.heap.size, 1, none⟩ = false := blk_frozen Bt_40.out 1
  have dt2 : w40.cell? ⟨w2.heap.size, 2, none⟩ = some (.slice A2 closed.length c2) := (blk_cell Bt_40.out 2).trans rfl
  have ft2 : w40.frozen? ⟨w2.heap.size, 2, none⟩ = false := blk_frozen Bt_40.out 2
  have g1 : w40.cell? ⟨rb, 1, none⟩ = some (.bool g) := by obtain ⟨Ar, cr, hv⟩ := HR_40.out; exact hv.g1
  cases g with
  | true =>
    go_wp2_with (first | (go_at_call 69; with_reducible refine (dfail_any w40 HR_40.out).mono ?_; rintro e w41 ⟨rfl, q1, q2⟩; clear dz0 fz0 dz1 fz1 dz2 fz2 dt0 ft0 dt1 ft1 dt2 ft2; have HR_41 := Aside0.mk q1; have HU_41 := Aside0.mk (HU_40.out.trans q2); have hs_41 : w40.heap.size ≤ w41.heap.size := q2.size; have Va_41 := Aside0.mk (R_upd Va_40.out q2 (by omega)); have Vb_41 := Aside0.mk (R_upd Vb_40.out q2 (by omega)); have Bz_41 := Aside0.mk (q2.blk Bz_40.out (by omega)); have Bt_41 := Aside0.mk (q2.blk Bt_40.out (by omega)); clear q1 q2; have dz0 : w41.cell? ⟨w.heap.size, 0, none⟩ = some (.int .i64 0) := (blk_cell Bz_41.out 0).trans rfl; have fz0 : w41.frozen? ⟨w.heap.size, 0, none⟩ = false := blk_frozen Bz_41.out 0; have dz1 : w41.cell? ⟨w.heap.size, 1, none⟩ = some (.slice none 0 0) := (blk_cell Bz_41.out 1).trans rfl; have fz1 : w41.frozen? ⟨w.heap.size, 1, none⟩ = false := blk_frozen Bz_41.out 1; have dz2 : w41.cell? ⟨w.heap.size, 2, none⟩ = some (.slice none 0 0) := (blk_cell Bz_41.out 2).trans rfl; have fz2 : w41.frozen? ⟨w.heap.size, 2, none⟩ = false := blk_frozen Bz_41.out 2; have dt0 : w41.cell? ⟨w2.heap.size, 0, none⟩ = some (.int .i64 off) := (blk_cell Bt_41.out 0).trans rfl; have ft0 : w41.frozen? ⟨w2.heap.size, 0, none⟩ = false := blk_frozen Bt_41.out 0; have dt1 : w41.cell? ⟨w2.heap.size, 1, none⟩ = some (.slice A1 week.length c1) := (blk_cell Bt_41.out 1).trans rfl; have ft1 : w41.frozen? ⟨w2.heap.size, 1, none⟩ = false := blk_frozen Bt_41.out 1; have dt2 : w41.cell? ⟨w2.heap.size, 2, none⟩ = some (.slice A2 closed.length c2) := (blk_cell Bt_41.out 2).trans rfl; have ft2 : w41.frozen? ⟨w2.heap.size, 2, none⟩ = false := blk_frozen Bt_41.out 2))
    clear dz0 fz0 dz1 fz1 dz2 fz2 dt0 ft0 dt1 ft1 dt2 ft2
    have Bz_42 := Aside0.mk (blk_put (cs' := #[.int .i64 0, .slice none 0 0, .slice none 0 0]) (blk_put (cs' := #[.int .i64 0, .slice none 0 0, .slice none 0 0]) (blk_put (cs' := #[.int .i64 0, .slice none 0 0, .slice none 0 0]) Bz_41.out 0 (.int .i64 0) rfl) 1 (.slice none 0 0) rfl) 2 (.slice none 0 0) rfl)
    have HR_42 := Aside0.mk (RdAt.seti (RdAt.seti (RdAt.seti HR_41.out (b := w.heap.size) 0 (.int .i64 0) (by omega) (by omega)) (b := w.heap.size) 1 (.slice none 0 0) (by omega) (by omega)) (b := w.heap.size) 2 (.slice none 0 0) (by omega) (by omega))
    have HU_42 := Aside0.mk (Upd.seti (Upd.seti (Upd.seti HU_41.out (b := w.heap.size) (by omega) 0 (.int .i64 0)) (b := w.heap.size) (by omega) 1 (.slice none 0 0)) (b := w.heap.size) (by omega) 2 (.slice none 0 0))
    have hs_42 : w41.heap.size ≤ (((w41.setCell ⟨w.heap.size, 0, none⟩ (.int .i64 0)).setCell ⟨w.heap.size, 1, none⟩ (.slice none 0 0)).setCell ⟨w.heap.size, 2, none⟩ (.slice none 0 0)).heap.size := by simp
    have Bt_42 : Aside0 ((((w41.setCell ⟨w.heap.size, 0, none⟩ (.int .i64 0)).setCell ⟨w.heap.size, 1, none⟩ (.slice none 0 0)).setCell ⟨w.heap.size, 2, none⟩ (.slice none 0 0)).heap[w2.heap.size]? = _) := ⟨((Below.heap_setCell _ _ _ _ (by show w2.heap.size ≠ w.heap.size; omega)).trans ((Below.heap_setCell _ _ _ _ (by show w2.heap.size ≠ w.heap.size; omega)).trans ((Below.heap_setCell _ _ _ _ (by show w2.heap.size ≠ w.heap.size; omega)).trans Bt_41.out)))⟩
    have Va_42 := Aside0.mk (Kd.R_set (Kd.R_set (Kd.R_set Va_41.out Bz_41.out (types1 rfl (by decide)) 0 (.int .i64 0)) (blk_put (cs' := #[.int .i64 0, .slice none 0 0, .slice none 0 0]) Bz_41.out 0 (.int .i64 0) rfl) (types1 rfl (by decide)) 1 (.slice none 0 0)) (blk_put (cs' := #[.int .i64 0, .slice none 0 0, .slice none 0 0]) (blk_put (cs' := #[.int .i64 0, .slice none 0 0, .slice none 0 0]) Bz_41.out 0 (.int .i64 0) rfl) 1 (.slice none 0 0) rfl) (types1 rfl (by decide)) 2 (.slice none 0 0))
    have Vb_42 := Aside0.mk (Kd.R_set (Kd.R_set (Kd.R_set Vb_41.out Bz_41.out (types1 rfl (by decide)) 0 (.int .i64 0)) (blk_put (cs' := #[.int .i64 0, .slice none 0 0, .slice none 0 0]) Bz_41.out 0 (.int .i64 0) rfl) (types1 rfl (by decide)) 1 (.slice none 0 0)) (blk_put (cs' := #[.int .i64 0, .slice none 0 0, .slice none 0 0]) (blk_put (cs' := #[.int .i64 0, .slice none 0 0, .slice none 0 0]) Bz_41.out 0 (.int .i64 0) rfl) 1 (.slice none 0 0) rfl) (types1 rfl (by decide)) 2 (.slice none 0 0))
    generalize (((w41.setCell ⟨w.heap.size, 0, none⟩ (.int .i64 0)).setCell ⟨w.heap.size, 1, none⟩ (.slice none 0 0)).setCell ⟨w.heap.size, 2, none⟩ (.slice none 0 0)) = w42 at Bz_42 HR_42 HU_42 hs_42 Bt_42 Va_42 Vb_42 ⊢
    have dz0 : w42.cell? ⟨w.heap.size, 0, none⟩ = some (.int .i64 0) := (blk_cell Bz_42.out 0).trans rfl
    have fz0 : w42.frozen? ⟨w.heap.size, 0, none⟩ = false := blk_frozen Bz_42.out 0
    have dz1 : w42.cell? ⟨w.heap.size, 1, none⟩ = some (.slice none 0 0) := (blk_cell Bz_42.out 1).trans rfl
    have fz1 : w42.frozen? ⟨w.heap.size, 1, none⟩ = false := blk_frozen Bz_42.out 1
    have dz2 : w42.cell? ⟨w.heap.size, 2, none⟩ = some (.slice none 0 0) := (blk_cell Bz_42.out 2).trans rfl
    have fz2 : w42.frozen? ⟨w.heap.size, 2, none⟩ = false := blk_frozen Bz_42.out 2
    have dt0 : w42.cell? ⟨w2.heap.size, 0, none⟩ = some (.int .i64 off) := (blk_cell Bt_42.out 0).trans rfl
    have ft0 : w42.frozen? ⟨w2.heap.size, 0, none⟩ = false := blk_frozen Bt_42.out 0
    have dt1 : w42.cell? ⟨w2.heap.size, 1, none⟩ = some (.slice A1 week.length c1) := (blk_cell Bt_42.out 1).trans rfl
    have ft1 : w42.frozen? ⟨w2.heap.size, 1, none⟩ = false := blk_frozen Bt_42.out 1
    have dt2 : w42.cell? ⟨w2.heap.size, 2, none⟩ = some (.slice A2 closed.length c2) := (blk_cell Bt_42.out 2).trans rfl
    have ft2 : w42.frozen? ⟨w2.heap.size, 2, none⟩ = false := blk_frozen Bt_42.out 2
    refine bodyPost_ret (v := .tuple #[.agg #[.int .i64 0, .slice none 0 0, .slice none 0 0], .bool false]) (by simp [results, Tryz.results20, go_sem, dz0, dz1, dz2]) rfl (P1.out (.inl (by first | rfl | trivial)) _ HR_42.out HU_42.out)
  | false =>
    by_cases he : calErr off week closed = 0
    · have HE := Aside0.mk he
      clear he
      go_wp2_with (first | (go_at_call 14; with_reducible refine (refcheck_q w40 (R_C Va_40.out) (R_C Vb_40.out)).mono ?_; rintro e w41 ⟨rfl, q1⟩; rw [HE.out]; clear dz0 fz0 dz1 fz1 dz2 fz2 dt0 ft0 dt1 ft1 dt2 ft2; have HR_41 := Aside0.mk (HR_40.out.below q1); have HU_41 := Aside0.mk (HU_40.out.then q1); have hs_41 : w40.heap.size ≤ w41.heap.size := q1.size; have Va_41 := Aside0.mk (Kd.R_below Va_40.out q1); have Vb_41 := Aside0.mk (Kd.R_below Vb_40.out q1); have Bz_41 := Aside0.mk (blk_below Bz_40.out q1); have Bt_41 := Aside0.mk (blk_below Bt_40.out q1); clear q1; have dz0 : w41.cell? ⟨w.heap.size, 0, none⟩ = some (.int .i64 0) := (blk_cell Bz_41.out 0).trans rfl; have fz0 : w41.frozen? ⟨w.heap.size, 0, none⟩ = false := blk_frozen Bz_41.out 0; have dz1 : w41.cell? ⟨w.heap.size, 1, none⟩ = some (.slice none 0 0) := (blk_cell Bz_41.out 1).trans rfl; have fz1 : w41.frozen? ⟨w.heap.size, 1, none⟩ = false := blk_frozen Bz_41.out 1; have dz2 : w41.cell? ⟨w.heap.size, 2, none⟩ = some (.slice none 0 0) := (blk_cell Bz_41.out 2).trans rfl; have fz2 : w41.frozen? ⟨w.heap.size, 2, none⟩ = false := blk_frozen Bz_41.out 2; have dt0 : w41.cell? ⟨w2.heap.size, 0, none⟩ = some (.int .i64 off) := (blk_cell Bt_41.out 0).trans rfl; have ft0 : w41.frozen? ⟨w2.heap.size, 0, none⟩ = false := blk_frozen Bt_41.out 0; have dt1 : w41.cell? ⟨w2.heap.size, 1, none⟩ = some (.slice A1 week.length c1) := (blk_cell Bt_41.out 1).trans rfl; have ft1 : w41.frozen? ⟨w2.heap.size, 1, none⟩ = false := blk_frozen Bt_41.out 1; have dt2 : w41.cell? ⟨w2.heap.size, 2, none⟩ = some (.slice A2 closed.length c2) := (blk_cell Bt_41.out 2).trans rfl; have ft2 : w41.frozen? ⟨w2.heap.size, 2, none⟩ = false := blk_frozen Bt_41.out 2))
      clear dz0 fz0 dz1 fz1 dz2 fz2 dt0 ft0 dt1 ft1 dt2 ft2
      have Bz_42 := Aside0.mk (blk_put (cs' := #[.int .i64 off, .slice A1 week.length c1, .slice A2 closed.length c2]) (blk_put (cs' := #[.int .i64 off, .slice A1 week.length c1, .slice none 0 0]) (blk_put (cs' := #[.int .i64 off, .slice none 0 0, .slice none 0 0]) Bz_41.out 0 (.int .i64 off) rfl) 1 (.slice A1 week.length c1) rfl) 2 (.slice A2 closed.length c2) rfl)
      have HR_42 := Aside0.mk (RdAt.seti (RdAt.seti (RdAt.seti HR_41.out (b := w.heap.size) 0 (.int .i64 off) (by omega) (by omega)) (b := w.heap.size) 1 (.slice A1 week.length c1) (by omega) (by omega)) (b := w.heap.size) 2 (.slice A2 closed.length c2) (by omega) (by omega))
      have HU_42 := Aside0.mk (Upd.seti (Upd.seti (Upd.seti HU_41.out (b := w.heap.size) (by omega) 0 (.int .i64 off)) (b := w.heap.size) (by omega) 1 (.slice A1 week.length c1)) (b := w.heap.size) (by omega) 2 (.slice A2 closed.length c2))
      have hs_42 : w41.heap.size ≤ (((w41.setCell ⟨w.heap.size, 0, none⟩ (.int .i64 off)).setCell ⟨w.heap.size, 1, none⟩ (.slice A1 week.length c1)).setCell ⟨w.heap.size, 2, none⟩ (.slice A2 closed.length c2)).heap.size := by simp
      have Bt_42 : Aside0 ((((w41.setCell ⟨w.heap.size, 0, none⟩ (.int .i64 off)).setCell ⟨w.heap.size, 1, none⟩ (.slice A1 week.length c1)).setCell ⟨w.heap.size, 2, none⟩ (.slice A2 closed.length c2)).heap[w2.heap.size]? = _) := ⟨((Below.heap_setCell _ _ _ _ (by show w2.heap.size ≠ w.heap.size; omega)).trans ((Below.heap_setCell _ _ _ _ (by show w2.heap.size ≠ w.heap.size; omega)).trans ((Below.heap_setCell _ _ _ _ (by show w2.heap.size ≠ w.heap.size; omega)).trans Bt_41.out)))⟩
      have Va_42 := Aside0.mk (Kd.R_set (Kd.R_set (Kd.R_set Va_41.out Bz_41.out (types1 rfl (by decide)) 0 (.int .i64 off)) (blk_put (cs' := #[.int .i64 off, .slice none 0 0, .slice none 0 0]) Bz_41.out 0 (.int .i64 off) rfl) (types1 rfl (by decide)) 1 (.slice A1 week.length c1)) (blk_put (cs' := #[.int .i64 off, .slice A1 week.length c1, .slice none 0 0]) (blk_put (cs' := #[.int .i64 off, .slice none 0 0, .slice none 0 0]) Bz_41.out 0 (.int .i64 off) rfl) 1 (.slice A1 week.length c1) rfl) (types1 rfl (by decide)) 2 (.slice A2 closed.length c2))
      have Vb_42 := Aside0.mk (Kd.R_set (Kd.R_set (Kd.R_set Vb_41.out Bz_41.out (types1 rfl (by decide)) 0 (.int .i64 off)) (blk_put (cs' := #[.int .i64 off, .slice none 0 0, .slice none 0 0]) Bz_41.out 0 (.int .i64 off) rfl) (types1 rfl (by decide)) 1 (.slice A1 week.length c1)) (blk_put (cs' := #[.int .i64 off, .slice A1 week.length c1, .slice none 0 0]) (blk_put (cs' := #[.int .i64 off, .slice none 0 0, .slice none 0 0]) Bz_41.out 0 (.int .i64 off) rfl) 1 (.slice A1 week.length c1) rfl) (types1 rfl (by decide)) 2 (.slice A2 closed.length c2))
      generalize (((w41.setCell ⟨w.heap.size, 0, none⟩ (.int .i64 off)).setCell ⟨w.heap.size, 1, none⟩ (.slice A1 week.length c1)).setCell ⟨w.heap.size, 2, none⟩ (.slice A2 closed.length c2)) = w42 at Bz_42 HR_42 HU_42 hs_42 Bt_42 Va_42 Vb_42 ⊢
      have dz0 : w42.cell? ⟨w.heap.size, 0, none⟩ = some (.int .i64 off) := (blk_cell Bz_42.out 0).trans rfl
      have fz0 : w42.frozen? ⟨w.heap.size, 0, none⟩ = false := blk_frozen Bz_42.out 0
      have dz1 : w42.cell? ⟨w.heap.size, 1, none⟩ = some (.slice A1 week.length c1) := (blk_cell Bz_42.out 1).trans rfl
      have fz1 : w42.frozen? ⟨w.heap.size, 1, none⟩ = false := blk_frozen Bz_42.out 1
      have dz2 : w42.cell? ⟨w.heap.size, 2, none⟩ = some (.slice A2 closed.length c2) := (blk_cell Bz_42.out 2).trans rfl
      have fz2 : w42.frozen? ⟨w.heap.size, 2, none⟩ = false := blk_frozen Bz_42.out 2
      have dt0 : w42.cell? ⟨w2.heap.size, 0, none⟩ = some (.int .i64 off) := (blk_cell Bt_42.out 0).trans rfl
      have ft0 : w42.frozen? ⟨w2.heap.size, 0, none⟩ = false := blk_frozen Bt_42.out 0
      have dt1 : w42.cell? ⟨w2.heap.size, 1, none⟩ = some (.slice A1 week.length c1) := (blk_cell Bt_42.out 1).trans rfl
      have ft1 : w42.frozen? ⟨w2.heap.size, 1, none⟩ = false := blk_frozen Bt_42.out 1
      have dt2 : w42.cell? ⟨w2.heap.size, 2, none⟩ = some (.slice A2 closed.length c2) := (blk_cell Bt_42.out 2).trans rfl
      have ft2 : w42.frozen? ⟨w2.heap.size, 2, none⟩ = false := blk_frozen Bt_42.out 2
      refine bodyPost_ret (v := .tuple #[.agg #[.int .i64 off, .slice A1 week.length c1, .slice A2 closed.length c2], .bool true]) (by simp [results, Tryz.results20, go_sem, dz0, dz1, dz2]) rfl (P2.out (by first | rfl | trivial) HE.out _ _ _ Va_42.out Vb_42.out HR_42.out HU_42.out)
    · have HE0 := Aside0.mk he
      obtain ⟨ce, hce⟩ : ∃ x, calErr off week closed = x := ⟨_, rfl⟩
      have hne : (ce != 0) = true := bne_iff_ne.mpr (by rw [← hce]; exact he)
      have HE := Aside0.mk hce
      clear he hce
      go_wp2_with (first | (go_at_call 14; with_reducible refine (refcheck_q w40 (R_C Va_40.out) (R_C Vb_40.out)).mono ?_; rintro e w41 ⟨rfl, q1⟩; rw [HE.out]; clear dz0 fz0 dz1 fz1 dz2 fz2 dt0 ft0 dt1 ft1 dt2 ft2; have HR_41 := Aside0.mk (HR_40.out.below q1); have HU_41 := Aside0.mk (HU_40.out.then q1); have hs_41 : w40.heap.size ≤ w41.heap.size := q1.size; have Va_41 := Aside0.mk (Kd.R_below Va_40.out q1); have Vb_41 := Aside0.mk (Kd.R_below Vb_40.out q1); have Bz_41 := Aside0.mk (blk_below Bz_40.out q1); have Bt_41 := Aside0.mk (blk_below Bt_40.out q1); clear q1; have dz0 : w41.cell? ⟨w.heap.size, 0, none⟩ = some (.int .i64 0) := (blk_cell Bz_41.out 0).trans rfl; have fz0 : w41.frozen? ⟨w.heap.size, 0, none⟩ = false := blk_frozen Bz_41.out 0; have dz1 : w41.cell? ⟨w.heap.size, 1, none⟩ = some (.slice none 0 0) := (blk_cell Bz_41.out 1).trans rfl; have fz1 : w41.frozen? ⟨w.heap.size, 1, none⟩ = false := blk_frozen Bz_41.out 1; have dz2 : w41.cell? ⟨w.heap.size, 2, none⟩ = some (.slice none 0 0) := (blk_cell Bz_41.out 2).trans rfl; have fz2 : w41.frozen? ⟨w.heap.size, 2, none⟩ = false := blk_frozen Bz_41.out 2; have dt0 : w41.cell? ⟨w2.heap.size, 0, none⟩ = some (.int .i64 off) := (blk_cell Bt_41.out 0).trans rfl; have ft0 : w41.frozen? ⟨w2.heap.size, 0, none⟩ = false := blk_frozen Bt_41.out 0; have dt1 : w41.cell? ⟨w2.heap.size, 1, none⟩ = some (.slice A1 week.length c1) := (blk_cell Bt_41.out 1).trans rfl; have ft1 : w41.frozen? ⟨w2.heap.size, 1, none⟩ = false := blk_frozen Bt_41.out 1; have dt2 : w41.cell? ⟨w2.heap.size, 2, none⟩ = some (.slice A2 closed.length c2) := (blk_cell Bt_41.out 2).trans rfl; have ft2 : w41.frozen? ⟨w2.heap.size, 2, none⟩ = false := blk_frozen Bt_41.out 2) | (go_at_call 69; with_reducible refine (dfail_any w41 HR_41.out).mono ?_; rintro e w42 ⟨rfl, q1, q2⟩; clear dz0 fz0 dz1 fz1 dz2 fz2 dt0 ft0 dt1 ft1 dt2 ft2; have HR_42 := Aside0.mk q1; have HU_42 := Aside0.mk (HU_41.out.trans q2); have hs_42 : w41.heap.size ≤ w42.heap.size := q2.size; have Va_42 := Aside0.mk (R_upd Va_41.out q2 (by omega)); have Vb_42 := Aside0.mk (R_upd Vb_41.out q2 (by omega)); have Bz_42 := Aside0.mk (q2.blk Bz_41.out (by omega)); have Bt_42 := Aside0.mk (q2.blk Bt_41.out (by omega)); clear q1 q2; have dz0 : w42.cell? ⟨w.heap.size, 0, none⟩ = some (.int .i64 0) := (blk_cell Bz_42.out 0).trans rfl; have fz0 : w42.frozen? ⟨w.heap.size, 0, none⟩ = false := blk_frozen Bz_42.out 0; have dz1 : w42.cell? ⟨w.heap.size, 1, none⟩ = some (.slice none 0 0) := (blk_cell Bz_42.out 1).trans rfl; have fz1 : w42.frozen? ⟨w.heap.size, 1, none⟩ = false := blk_frozen Bz_42.out 1; have dz2 : w42.cell? ⟨w.heap.size, 2, none⟩ = some (.slice none 0 0) := (blk_cell Bz_42.out 2).trans rfl; have fz2 : w42.frozen? ⟨w.heap.size, 2, none⟩ = false := blk_frozen Bz_42.out 2; have dt0 : w42.cell? ⟨w2.heap.size, 0, none⟩ = some (.int .i64 off) := (blk_cell Bt_42.out 0).trans rfl; have ft0 : w42.frozen? ⟨w2.heap.size, 0, none⟩ = false := blk_frozen Bt_42.out 0; have dt1 : w42.cell? ⟨w2.heap.size, 1, none⟩ = some (.slice A1 week.length c1) := (blk_cell Bt_42.out 1).trans rfl; have ft1 : w42.frozen? ⟨w2.heap.size, 1, none⟩ = false := blk_frozen Bt_42.out 1; have dt2 : w42.cell? ⟨w2.heap.size, 2, none⟩ = some (.slice A2 closed.length c2) := (blk_cell Bt_42.out 2).trans rfl; have ft2 : w42.frozen? ⟨w2.heap.size, 2, none⟩ = false := blk_frozen Bt_42.out 2))
      clear dz0 fz0 dz1 fz1 dz2 fz2 dt0 ft0 dt1 ft1 dt2 ft2
      have Bz_43 := Aside0.mk (blk_put (cs' := #[.int .i64 0, .slice none 0 0, .slice none 0 0]) (blk_put (cs' := #[.int .i64 0, .slice none 0 0, .slice none 0 0]) (blk_put (cs' := #[.int .i64 0, .slice none 0 0, .slice none 0 0]) Bz_42.out 0 (.int .i64 0) rfl) 1 (.slice none 0 0) rfl) 2 (.slice none 0 0) rfl)
      have HR_43 := Aside0.mk (RdAt.seti (RdAt.seti (RdAt.seti HR_42.out (b := w.heap.size) 0 (.int .i64 0) (by omega) (by omega)) (b := w.heap.size) 1 (.slice none 0 0) (by omega) (by omega)) (b := w.heap.size) 2 (.slice none 0 0) (by omega) (by omega))
      have HU_43 := Aside0.mk (Upd.seti (Upd.seti (Upd.seti HU_42.out (b := w.heap.size) (by omega) 0 (.int .i64 0)) (b := w.heap.size) (by omega) 1 (.slice none 0 0)) (b := w.heap.size) (by omega) 2 (.slice none 0 0))
      have hs_43 : w42.heap.size ≤ (((w42.setCell ⟨w.heap.size, 0, none⟩ (.int .i64 0)).setCell ⟨w.heap.size, 1, none⟩ (.slice none 0 0)).setCell ⟨w.heap.size, 2, none⟩ (.slice none 0 0)).heap.size := by simp
      have Bt_43 : Aside0 ((((w42.setCell ⟨w.heap.size, 0, none⟩ (.int .i64 0)).setCell ⟨w.heap.size, 1, none⟩ (.slice none 0 0)).setCell ⟨w.heap.size, 2, none⟩ (.slice none 0 0)).heap[w2.heap.size]? = _) := ⟨((Below.heap_setCell _ _ _ _ (by show w2.heap.size ≠ w.heap.size; omega)).trans ((Below.heap_setCell _ _ _ _ (by show w2.heap.size ≠ w.heap.size; omega)).trans ((Below.heap_setCell _ _ _ _ (by show w2.heap.size ≠ w.heap.size; omega)).trans Bt_42.out)))⟩
      have Va_43 := Aside0.mk (Kd.R_set (Kd.R_set (Kd.R_set Va_42.out Bz_42.out (types1 rfl (by decide)) 0 (.int .i64 0)) (blk_put (cs' := #[.int .i64 0, .slice none 0 0, .slice none 0 0]) Bz_42.out 0 (.int .i64 0) rfl) (types1 rfl (by decide)) 1 (.slice none 0 0)) (blk_put (cs' := #[.int .i64 0, .slice none 0 0, .slice none 0 0]) (blk_put (cs' := #[.int .i64 0, .slice none 0 0, .slice none 0 0]) Bz_42.out 0 (.int .i64 0) rfl) 1 (.slice none 0 0) rfl) (types1 rfl (by decide)) 2 (.slice none 0 0))
      have Vb_43 := Aside0.mk (Kd.R_set (Kd.R_set (Kd.R_set Vb_42.out Bz_42.out (types1 rfl (by decide)) 0 (.int .i64 0)) (blk_put (cs' := #[.int .i64 0, .slice none 0 0, .slice none 0 0]) Bz_42.out 0 (.int .i64 0) rfl) (types1 rfl (by decide)) 1 (.slice none 0 0)) (blk_put (cs' := #[.int .i64 0, .slice none 0 0, .slice none 0 0]) (blk_put (cs' := #[.int .i64 0, .slice none 0 0, .slice none 0 0]) Bz_42.out 0 (.int .i64 0) rfl) 1 (.slice none 0 0) rfl) (types1 rfl (by decide)) 2 (.slice none 0 0))
      generalize (((w42.setCell ⟨w.heap.size, 0, none⟩ (.int .i64 0)).setCell ⟨w.heap.size, 1, none⟩ (.slice none 0 0)).setCell ⟨w.heap.size, 2, none⟩ (.slice none 0 0)) = w43 at Bz_43 HR_43 HU_43 hs_43 Bt_43 Va_43 Vb_43 ⊢
      have dz0 : w43.cell? ⟨w.heap.size, 0, none⟩ = some (.int .i64 0) := (blk_cell Bz_43.out 0).trans rfl
      have fz0 : w43.frozen? ⟨w.heap.size, 0, none⟩ = false := blk_frozen Bz_43.out 0
      have dz1 : w43.cell? ⟨w.heap.size, 1, none⟩ = some (.slice none 0 0) := (blk_cell Bz_43.out 1).trans rfl
      have fz1 : w43.frozen? ⟨w.heap.size, 1, none⟩ = false := blk_frozen Bz_43.out 1
      have dz2 : w43.cell? ⟨w.heap.size, 2, none⟩ = some (.slice none 0 0) := (blk_cell Bz_43.out 2).trans rfl
      have fz2 : w43.frozen? ⟨w.heap.size, 2, none⟩ = false := blk_frozen Bz_43.out 2
      have dt0 : w43.cell? ⟨w2.heap.size, 0, none⟩ = some (.int .i64 off) := (blk_cell Bt_43.out 0).trans rfl
      have ft0 : w43.frozen? ⟨w2.heap.size, 0, none⟩ = false := blk_frozen Bt_43.out 0
      have dt1 : w43.cell? ⟨w2.heap.size, 1, none⟩ = some (.slice A1 week.length c1) := (blk_cell Bt_43.out 1).trans rfl
      have ft1 : w43.frozen? ⟨w2.heap.size, 1, none⟩ = false := blk_frozen Bt_43.out 1
      have dt2 : w43.cell? ⟨w2.heap.size, 2, none⟩ = some (.slice A2 closed.length c2) := (blk_cell Bt_43.out 2).trans rfl
      have ft2 : w43.frozen? ⟨w2.heap.size, 2, none⟩ = false := blk_frozen Bt_43.out 2
      refine bodyPost_ret (v := .tuple #[.agg #[.int .i64 0, .slice none 0 0, .slice none 0 0], .bool false]) (by simp [results, Tryz.results20, go_sem, dz0, dz1, dz2]) rfl (P1.out (.inr HE0.out) _ HR_43.out HU_43.out)
end Go.Proofs.YtepldlnmeenlbaaGreat.Own
namespace Go.Proofs.YtepldlnmeenlbaaGreat.Own
open Go.RowKit Go.Proofs Go.Proofs.YtepldlnmeenlbaaGreatW.PrintWords Go.Proofs.YtepldlnmeenlbaaGreatW.PrintLast Go.Proofs.YtepldlnmeenlbaaGreatW.PrintMore Go.Proofs.YtepldlnmeenlbaaGreat.Base
variable {t : TypeId} {m rb pb c : Nat} {w w' : World} {A : Option Addr} {s : List Int × Bool}
theorem calread_any (off : Int) (week closed : List S114) (ok : Bool) (s' : List Int × Bool) (w : World) (h : RdAt 127 m w rb s) (hr : calRead s = ((⟨off, week, closed⟩, ok), s')) :
    Calls Tryz.prog 16 #[.pointer (some ⟨rb, 0, none⟩)] w fun e w' => ∃ A1 c1 A2 c2, e = .returned (.tuple #[.agg #[.int .i64 off, .slice A1 week.length c1, .slice A2 closed.length c2], .bool ok]) ∧ (Kd.R k114 114 w' w.heap.size (fun _ => True) (.slice A1 week.length c1) week ∧ Kd.R k114 114 w' w.heap.size (fun _ => True) (.slice A2 closed.length c2) closed) ∧ RdAt 127 m w' rb s' ∧ Upd rb w w' := by
  obtain ⟨⟨o1, s1⟩, e1⟩ : ∃ p, rdInt s = p := ⟨_, rfl⟩
  obtain ⟨⟨m1, s2⟩, e2⟩ : ∃ p, rdNum 32 s1 = p := ⟨_, rfl⟩
  obtain ⟨⟨wk, s3⟩, e3⟩ : ∃ p, rdSps m1.toNat s2 = p := ⟨_, rfl⟩
  obtain ⟨⟨m2, s4⟩, e4⟩ : ∃ p, rdNum 32 s3 = p := ⟨_, rfl⟩
  obtain ⟨⟨cl, l, g⟩, e5⟩ : ∃ p, rdSps m2.toNat s4 = p := ⟨_, rfl⟩
  have hrd : calRd s = (⟨o1, wk, cl⟩, (l, g)) := by simp only [calRd, rdRow, e1, e2, e3, e4, e5]
  unfold calRead at hr
  rw [hrd] at hr
  refine calr_all o1 wk cl m1 m2 s1 s2 s3 s4 l g _ w h e1 e2 e3 e4 e5 ?_ ?_
  · intro hc w' hR hU
    rw [if_neg (by rintro ⟨k1, k2⟩; rcases hc with hc | hc; · rw [hc] at k1; cases k1
                   · exact hc k2)] at hr
    cases hr
    exact ⟨none, 0, none, 0, rfl, ⟨Kd.R_nil _ _ _ _ _, Kd.R_nil _ _ _ _ _⟩, hR, hU⟩
  · intro hg hB w' v1 v2 r1 r2 hR hU
    rw [if_pos ⟨hg, hB⟩] at hr
    cases hr
    obtain ⟨A1, c1, rfl⟩ := Kd.R_slice r1
    obtain ⟨A2, c2, rfl⟩ := Kd.R_slice r2
    exact ⟨A1, c1, A2, c2, rfl, ⟨r1, r2⟩, hR, hU⟩
theorem caldread_any (off : Int) (week closed : List S114) (ok : Bool) (s' : List Int × Bool) (w : World) (h : RdAt 42 m w rb s) (hr : calRead s = ((⟨off, week, closed⟩, ok), s')) :
    Calls Tryz.prog 20 #[.pointer (some ⟨rb, 0, none⟩)] w fun e w' => ∃ A1 c1 A2 c2, e = .returned (.tuple #[.agg #[.int .i64 off, .slice A1 week.length c1, .slice A2 closed.length c2], .bool ok]) ∧ (Kd.R k114 114 w' w.heap.size (fun _ => True) (.slice A1 week.length c1) week ∧ Kd.R k114 114 w' w.heap.size (fun _ => True) (.slice A2 closed.length c2) closed) ∧ RdAt 42 m w' rb s' ∧ Upd rb w w' := by
  obtain ⟨⟨o1, s1⟩, e1⟩ : ∃ p, rdInt s = p := ⟨_, rfl⟩
  obtain ⟨⟨m1, s2⟩, e2⟩ : ∃ p, rdNum 32 s1 = p := ⟨_, rfl⟩
  obtain ⟨⟨wk, s3⟩, e3⟩ : ∃ p, rdSps m1.toNat s2 = p := ⟨_, rfl⟩
  obtain ⟨⟨m2, s4⟩, e4⟩ : ∃ p, rdNum 32 s3 = p := ⟨_, rfl⟩
  obtain ⟨⟨cl, l, g⟩, e5⟩ : ∃ p, rdSps m2.toNat s4 = p := ⟨_, rfl⟩
  have hrd : calRd s = (⟨o1, wk, cl⟩, (l, g)) := by simp only [calRd, rdRow, e1, e2, e3, e4, e5]
  unfold calRead at hr
  rw [hrd] at hr
  refine calrd_all o1 wk cl m1 m2 s1 s2 s3 s4 l g _ w h e1 e2 e3 e4 e5 ?_ ?_
  · intro hc w' hR hU
    rw [if_neg (by rintro ⟨k1, k2⟩; rcases hc with hc | hc; · rw [hc] at k1; cases k1
                   · exact hc k2)] at hr
    cases hr
    exact ⟨none, 0, none, 0, rfl, ⟨Kd.R_nil _ _ _ _ _, Kd.R_nil _ _ _ _ _⟩, hR, hU⟩
  · intro hg hB w' v1 v2 r1 r2 hR hU
    rw [if_pos ⟨hg, hB⟩] at hr
    cases hr
    obtain ⟨A1, c1, rfl⟩ := Kd.R_slice r1
    obtain ⟨A2, c2, rfl⟩ := Kd.R_slice r2
    exact ⟨A1, c1, A2, c2, rfl, ⟨r1, r2⟩, hR, hU⟩
theorem wrapU {x : Int} (h0 : 0 ≤ x) (h1 : x < 18446744073709551616) : IntKind.u64.wrap x = x := by
  unfold IntKind.wrap
  simp [IntKind.signed, IntKind.bits]
  omega
theorem rnumq_l0 (k n : Nat) (acc : List Int) (hk : (digs n).length < k) (hn : n < 18446744073709551616) (hl : acc.length + (digs n).length ≤ 100) : curfewref01_Num.l0 k (n : Int) acc = some (((acc.length + (digs n).length : Nat) : Int) :: (digs n ++ acc)) := by
  induction k generalizing n acc with
  | zero => omega
  | succ k ih =>
    unfold curfewref01_Num.l0
    by_cases h0 : n = 0
    · subst h0
      rw [if_neg (by simp)]
      simp only [Option.bind_some, List.length_cons, List.length_nil, digs_zero, List.nil_append, List.cons_append]
      rw [digs_zero] at hl
      simp only [List.length_nil] at hl
      rw [if_pos (by omega), Int.emod_eq_of_lt (by omega) (by omega)]
      simp
    · rw [if_pos (by omega)]
      have e1 : IntKind.u64.wrap (Int.tdiv (n : Int) 256) = ((n / 256 : Nat) : Int) := by
        rw [Int.tdiv_eq_ediv_of_nonneg (by omega), wrapU (by omega) (by omega)]; omega
      have e2 : Int.tmod (n : Int) 256 % 256 = ((n % 256 : Nat) : Int) := by
        rw [Int.tmod_eq_emod_of_nonneg (by omega)]; omega
      have hd := digs_len (n := n) (by omega)
      simp only [Option.bind_some, List.length_cons, List.length_nil]
      rw [if_pos (by omega), e1, e2, ih (n / 256) _ (by omega) (by omega) (by simp; omega), digs_pos (n := n) (by omega)]
      simp only [List.cons_append, List.nil_append, List.append_assoc, List.length_cons, List.length_append, List.length_nil]
      congr 2
      omega
theorem rnumq_eq {k : Nat} {n : Int} (hk : 9 ≤ k) (h0 : 0 ≤ n) (h1 : n < 18446744073709551616) : curfewref01_Num.f k n = some (numB 0 n) := by
  have hl : (digs n.toNat).length ≤ 8 := digs_le 8 n.toNat (by omega)
  unfold curfewref01_Num.f
  have := rnumq_l0 k n.toNat [] (by omega) (by omega) (by simp; omega)
  rw [show ((n.toNat : Nat) : Int) = n by omega] at this
  rw [this]
  simp [numB]
theorem rintq_eq {k : Nat} {n : Int} (hk : 9 ≤ k) (h0 : -9223372036854775808 ≤ n) (h1 : n ≤ 9223372036854775807) : curfewref01_Int.f k n = some (intB n) := by
  unfold curfewref01_Int.f intB
  by_cases h : 0 ≤ n
  · rw [if_pos h, if_neg (by omega), wrapU (by omega) (by omega), rnumq_eq hk (by omega) (by omega)]
    rfl
  · have hw : wrap64 (-1 - n) = -1 - n := wrap_id (by omega) (by omega)
    have hl : (digs (-1 - n).toNat).length ≤ 8 := digs_le 8 (-1 - n).toNat (by omega)
    rw [if_neg h, if_pos (by omega), hw, wrapU (by omega) (by omega), rnumq_eq hk (by omega) (by omega)]
    simp only [Option.bind_some]
    unfold numB
    rw [if_pos (by simp), rd_cons, show (0 : Int).toNat = 0 from rfl, List.set_cons_zero]
    congr 2
    omega
theorem rowq_l0 (l : List S114) (hl : ∀ s, s ∈ l → (0 ≤ s.f0 ∧ s.f0 ≤ 1125899906842624) ∧ (0 ≤ s.f1 ∧ s.f1 ≤ 1125899906842624)) (hn : l.length ≤ 100) (d : Nat) : ∀ (j k : Nat) (acc : List Int), d = l.length - j → j ≤ l.length → d + 12 ≤ k → acc.length + 18 * d ≤ 10000 → curfewref10_row.l0 k l acc (j : Int) = some (acc ++ spansB (l.drop j)) := by
  induction d with
  | zero =>
    intro j k acc hd hj hk ha
    obtain ⟨k, rfl⟩ : ∃ k', k = k' + 1 := ⟨k - 1, by omega⟩
    unfold curfewref10_row.l0
    rw [if_neg (by omega), List.drop_eq_nil_of_le (by omega)]
    simp [spansB]
  | succ d ih =>
    intro j k acc hd hj hk ha
    obtain ⟨k, rfl⟩ : ∃ k', k = k' + 1 := ⟨k - 1, by omega⟩
    have hd2 : d = l.length - (j + 1) := by clear hl ih ha hn; omega
    have hj2 : j + 1 ≤ l.length := by clear hl ih ha hn; omega
    have hk2 : d + 12 ≤ k := by clear hl ih ha hn; omega
    have c1 : (j : Int) < (l.length : Int) := by clear hl ih ha hn; omega
    have c2 : (0 : Int) ≤ (j : Int) := by omega
    have c0 : j < l.length := by omega
    have hk9 : 9 ≤ k := by omega
    have hi := ih (j + 1) k
    have hw : wrap64 ((j : Int) + 1) = ((j + 1 : Nat) : Int) := by rw [wrap_id (by omega) (by omega)]; omega
    have hm := hl (rd_T114 l (j : Int)) (by rw [rd_at l j c0]; exact List.getElem_mem _)
    have hd1 := drop_at (l := l) (i := j) c0
    generalize hs : rd_T114 l (j : Int) = s at hm hd1
    have hm1 := hm.1
    have hm2 := hm.2
    clear hl ih hm
    have e0 : curfewref01_Num.f k (IntKind.u64.wrap s.f0) = some (numB 0 s.f0) := by rw [wrapU (by omega) (by omega), rnumq_eq hk9 (by omega) (by omega)]
    have e1 : curfewref01_Num.f k (IntKind.u64.wrap s.f1) = some (numB 0 s.f1) := by rw [wrapU (by omega) (by omega), rnumq_eq hk9 (by omega) (by omega)]
    have n0 := numB_len 0 s.f0 (by omega) (by omega)
    have n1 := numB_len 0 s.f1 (by omega) (by omega)
    have hfl : spansB (s :: l.drop (j + 1)) = numB 0 s.f0 ++ (numB 0 s.f1 ++ spansB (l.drop (j + 1))) := by simp [spansB, List.flatMap_cons, twoB_eq]
    rw [hd1, hfl]
    clear hm1 hm2 hd1 hfl
    generalize numB 0 s.f0 = B0 at e0 n0 ⊢
    generalize numB 0 s.f1 = B1 at e1 n1 ⊢
    have l1 : acc.length + B0.length < 140737488355328 := by omega
    have l2 : (acc ++ B0).length + B1.length < 140737488355328 := by rw [List.length_append]; omega
    have hi2 := hi (acc ++ B0 ++ B1) hd2 hj2 hk2 (by rw [List.length_append, List.length_append]; omega)
    unfold curfewref10_row.l0
    rw [if_pos c1, if_pos c2]
    rw [hs]
    rw [e0]
    simp only [Option.bind_some, if_pos l1, e1, if_pos l2, hw, hi2]
    simp
theorem rowq_eq (l : List S114) (hl : ∀ s, s ∈ l → (0 ≤ s.f0 ∧ s.f0 ≤ 1125899906842624) ∧ (0 ≤ s.f1 ∧ s.f1 ≤ 1125899906842624)) (hn : l.length ≤ 32) : curfewref10_row.f 200 l = some (rowB l) := by
  have h1 := numB_len 0 (l.length : Int) (by omega) (by omega)
  unfold curfewref10_row.f
  rw [wrapU (by omega) (by omega), rnumq_eq (by omega) (by omega) (by omega)]
  simp only [Option.bind_some]
  have := rowq_l0 l hl (by omega) l.length 0 200 (numB 0 (l.length : Int)) (by omega) (by omega) (by omega) (by omega)
  simpa [rowB] using this
theorem calput_eq {off : Int} {week closed : List S114} (h : calErr off week closed = 0) : curfewref10_Put.f 200 off week closed = some (calB off week closed) := by
  obtain ⟨⟨h0, h1⟩, ⟨n1, w1⟩, ⟨n2, w2⟩⟩ := calOk_spans h
  have a1 := rowB_len w1 n1
  have a2 := rowB_len w2 n2
  have a3 := intB_len (n := off) (by omega) (by omega)
  unfold curfewref10_Put.f
  rw [rintq_eq (by omega) (by omega) (by omega), rowq_eq week w1 n1, rowq_eq closed w2 n2]
  simp only [Option.bind_some]
  rw [if_pos (by omega), if_pos (by rw [List.length_append]; omega)]
  simp [calB]
theorem span_iff (a b : S114) : (a.f0 = b.f0 ∧ a.f1 = b.f1) ↔ a = b := by
  obtain ⟨a0, a1⟩ := a
  obtain ⟨b0, b1⟩ := b
  exact ⟨fun ⟨h, k⟩ => by simp only at h k; rw [h, k], fun e => by rw [e]; exact ⟨rfl, rfl⟩⟩
instance decSpan : DecidableEq S114 := fun a b => decidable_of_iff _ (span_iff a b)
theorem level_iff (a b : S71) : (a.f0 = b.f0 ∧ a.f1 = b.f1) ↔ a = b := by
  obtain ⟨a0, a1⟩ := a
  obtain ⟨b0, b1⟩ := b
  exact ⟨fun ⟨h, k⟩ => by simp only at h k; rw [h, k], fun e => by rw [e]; exact ⟨rfl, rfl⟩⟩
instance decLevel : DecidableEq S71 := fun a b => decidable_of_iff _ (level_iff a b)
theorem pair_ne {a b c d : Int} : ((!(a == b)) || (!(c == d))) = true ↔ ¬ (a = b ∧ c = d) := by
  by_cases h1 : a = b <;> by_cases h2 : c = d <;> simp [h1, h2]
theorem samesp_l0 (a b : List S114) (he : a.length = b.length) (hn : a.length ≤ 1000000) : ∀ (d k i : Nat), i + d = a.length → d < k → curfewref07_Same.l0 k a b (i : Int) = some (decide (a.drop i = b.drop i)) := by
  intro d
  induction d with
  | zero =>
    intro k i hi hk
    obtain ⟨k, rfl⟩ : ∃ m, k = m + 1 := ⟨k - 1, by omega⟩
    simp only [curfewref07_Same.l0]
    rw [if_neg (by omega), List.drop_eq_nil_of_le (by omega), List.drop_eq_nil_of_le (by omega)]
    simp
  | succ d ih =>
    intro k i hi hk
    obtain ⟨k, rfl⟩ : ∃ m, k = m + 1 := ⟨k - 1, by omega⟩
    have ih' := ih k (i + 1) (by omega) (by omega)
    rw [show ((i + 1 : Nat) : Int) = (i : Int) + 1 by omega] at ih'
    simp only [curfewref07_Same.l0]
    rw [if_pos (by omega), if_pos (by omega), if_pos (by omega), wrap_id (by omega) (by omega), drop_at (l := a) (i := i) (by omega), drop_at (l := b) (i := i) (by omega), ih']
    by_cases h : (rd_T114 a (i : Int)).f0 = (rd_T114 b (i : Int)).f0 ∧ (rd_T114 a (i : Int)).f1 = (rd_T114 b (i : Int)).f1
    · have hx : rd_T114 a (i : Int) = rd_T114 b (i : Int) := by
        generalize rd_T114 a (i : Int) = x at h ⊢
        generalize rd_T114 b (i : Int) = y at h ⊢
        obtain ⟨x0, x1⟩ := x
        obtain ⟨y0, y1⟩ := y
        simp only at h
        rw [h.1, h.2]
      rw [if_neg (fun h' => (pair_ne.1 h') h), hx]
      simp
    · have hx : ¬ rd_T114 a (i : Int) = rd_T114 b (i : Int) := fun e => h (by rw [e]; exact ⟨rfl, rfl⟩)
      rw [if_pos (pair_ne.2 h)]
      simp [hx]
theorem samesp_eq (a b : List S114) (k : Nat) (hn : a.length < k) (hk : k ≤ 1000000) : curfewref07_Same.f k a b = some (decide (a = b)) := by
  unfold curfewref07_Same.f
  by_cases he : a.length = b.length
  · rw [if_pos (by omega)]
    have := samesp_l0 a b he (by omega) a.length k 0 (by omega) (by omega)
    simpa using this
  · rw [if_neg (by omega), decide_eq_false (fun e => he (by rw [e]))]
def calSame (o1 : Int) (w1 c1 : List S114) (o2 : Int) (w2 c2 : List S114) : Bool := decide (o1 = o2) && (decide (w1 = w2) && decide (c1 = c2))
theorem calsame_eq (o1 : Int) (w1 c1 : List S114) (o2 : Int) (w2 c2 : List S114) (h1 : w1.length ≤ 60) (h2 : c1.length ≤ 60) : curfewref10_Same.f 200 o1 w1 c1 o2 w2 c2 = some (calSame o1 w1 c1 o2 w2 c2) := by
  unfold curfewref10_Same.f calSame
  rw [samesp_eq w1 w2 200 (by omega) (by omega), samesp_eq c1 c2 200 (by omega) (by omega)]
  simp only [Option.bind_some, decide_eq_true_eq]
  by_cases a : o1 = o2
  · rw [if_pos a]
    by_cases b : w1 = w2
    · rw [if_pos b]; simp [a, b]
    · rw [if_neg b]; simp [b]
  · rw [if_neg a]; simp [a]
end Go.Proofs.YtepldlnmeenlbaaGreat.Own
namespace Go.Proofs.YtepldlnmeenlbaaGreat.Own
open Go.RowKit Go.Proofs Go.Proofs.YtepldlnmeenlbaaGreatW.PrintWords Go.Proofs.YtepldlnmeenlbaaGreatW.PrintLast Go.Proofs.YtepldlnmeenlbaaGreatW.PrintMore Go.Proofs.YtepldlnmeenlbaaGreat.Base
set_option maxHeartbeats 1600000 in
set_option maxRecDepth 100000 in
theorem spaneq_any (a b c d : Int) (w : World) : Calls Tryz.prog 110 #[.agg #[.int .i64 a, .int .i64 b], .agg #[.int .i64 c, .int .i64 d]] w fun e w' => e = .returned (.bool (decide (a = c ∧ b = d))) ∧ Below w.heap.size w w' := by
  by_cases h1 : a = c
  · by_cases h2 : b = d
    · subst h1 h2
      have HQ := Aside0.mk (show decide (a = a ∧ b = b) = true by simp)
      generalize decide (a = a ∧ b = b) = r at HQ ⊢
      go_enter Tryz.func110, Tryz.ntmps110
      go_wp2
      go_ret
      exact ⟨by rw [HQ.out]; simp, below_alloc (below_alloc (Below.refl _ _) _) _⟩
    · have HQ := Aside0.mk (show decide (a = c ∧ b = d) = false by simp [h2])
      generalize decide (a = c ∧ b = d) = r at HQ ⊢
      have g1 : (a == c) = true := by simpa using h1
      have g2 : (b == d) = false := by simpa using h2
      clear h1 h2
      go_enter Tryz.func110, Tryz.ntmps110
      go_wp2
      go_ret
      exact ⟨by rw [HQ.out]; first | rfl | simp, below_alloc (below_alloc (Below.refl _ _) _) _⟩
  · have HQ := Aside0.mk (show decide (a = c ∧ b = d) = false by simp [h1])
    generalize decide (a = c ∧ b = d) = r at HQ ⊢
    have g1 : (a == c) = false := by simpa using h1
    clear h1
    go_enter Tryz.func110, Tryz.ntmps110
    go_wp2
    go_ret
    exact ⟨by rw [HQ.out]; first | rfl | simp, below_alloc (below_alloc (Below.refl _ _) _) _⟩
set_option maxHeartbeats 4000000 in
set_option maxRecDepth 100000 in
theorem eqspans_any (A1 A2 : Option Addr) (c1 c2 : Nat) (l1 l2 : List S114) (w : World) (h1 : Kd.C k114 w A1 l1.length l1) (h2 : Kd.C k114 w A2 l2.length l2) :
    Calls Tryz.prog 109 #[.slice A1 l1.length c1, .slice A2 l2.length c2, .func (.func 110) #[] #[]] w fun e w' => e = .returned (.bool (decide (l1 = l2))) ∧ Below w.heap.size w w' := by
  have HR1 := Aside0.mk h1
  have HR2 := Aside0.mk h2
  clear h1 h2
  have hm1 : l1.length ≤ 9223372036854775807 := HR1.out.2.1
  have hm2 : l2.length ≤ 9223372036854775807 := HR2.out.2.1
  by_cases he : l1.length = l2.length
  rotate_left
  · have HE := Aside0.mk (show decide (l1 = l2) = false from decide_eq_false (fun e => he (by rw [e])))
    have t1 : ((l1.length : Int) != (l2.length : Int)) = true := bne_iff_ne.mpr (by omega)
    have t2 : (l1.length != l2.length) = true := bne_iff_ne.mpr he
    have t3 : (l1.length == l2.length) = false := beq_eq_false_iff_ne.mpr he
    generalize decide (l1 = l2) = r at HE ⊢
    clear he HR1 HR2
    go_enter Tryz.func109, Tryz.ntmps109
    go_wp2
    go_ret
    exact ⟨by rw [HE.out]; rfl, Below.refl _ _⟩
  have HE := Aside0.mk he
  have t1 : ((l1.length : Int) != (l2.length : Int)) = false := by simp [he]
  have t2 : (l1.length != l2.length) = false := by simp [he]
  clear he
  have HB0 := Aside0.mk (Below.refl w.heap.size w)
  go_enter Tryz.func109, Tryz.ntmps109
  go_wp2
  go_loopw [17] (fun y wr => ∃ i : Nat, y = .int .i64 i ∧ i ≤ l1.length ∧ Aside0 (l1.take i = l2.take i) ∧ Aside0 (Below w.heap.size w wr)) (fun y _ => l1.length - (intOf y).toNat)
  case atStart => exact ⟨0, rfl, by omega, ⟨rfl⟩, HB0⟩
  case round =>
    clear HB0
    obtain ⟨i, rfl, hi, HT, HB⟩ := hrel
    by_cases hlt : i < l1.length
    · have hi2 : i < l2.length := by have := HE.out; omega
      obtain ⟨ad1, e1, hx0, hx1⟩ := at_T114 (Kd.C_below HR1.out HB.out) i (by omega) (by omega)
      cases e1
      obtain ⟨ad2, e2, hy0, hy1⟩ := at_T114 (Kd.C_below HR2.out HB.out) i (by omega) (by omega)
      cases e2
      rw [Int.toNat_natCast] at hx0 hx1 hy0 hy1
      have p0 : (0 : Int) ≤ i := by omega
      have p1 : (i : Int) < l1.length := by omega
      have p2 : (i : Int) < l2.length := by omega
      have HD1 := Aside0.mk (drop_at hlt)
      have HD2 := Aside0.mk (drop_at hi2)
      have HN1 := Aside0.mk (show l1.take (i + 1) = l1.take i ++ [rd_T114 l1 i] by rw [rd_at l1 i hlt, List.take_succ_eq_append_getElem hlt])
      have HN2 := Aside0.mk (show l2.take (i + 1) = l2.take i ++ [rd_T114 l2 i] by rw [rd_at l2 i hi2, List.take_succ_eq_append_getElem hi2])
      generalize rd_T114 l1 i = x at hx0 hx1 HD1 HN1
      generalize rd_T114 l2 i = y at hy0 hy1 HD2 HN2
      obtain ⟨a, b⟩ := x
      obtain ⟨c, d⟩ := y
      simp only at hx0 hx1 hy0 hy1
      clear t1 t2
      go_upto_region 6 with fail
      have hb6 := below_alloc (Below.refl wr.heap.size wr) (.cells #[.int .i64 a, .int .i64 b] 114)
      have BX := Aside0.mk (blk_new wr (.cells #[.int .i64 a, .int .i64 b] 114))
      have HB6 := Aside0.mk (below_step HB.out hb6)
      replace hy0 := (hb6.cell (World.block_lt_of_cell? _ _ hy0)).trans hy0
      replace hy1 := (hb6.cell (World.block_lt_of_cell? _ _ hy1)).trans hy1
      clear hb6 hx0 hx1 HB
      generalize hbx : wr.heap.size = bx at BX ⊢
      clear hbx
      generalize wr.alloc (.cells #[.int .i64 a, .int .i64 b] 114) = w6 at BX HB6 hy0 hy1 ⊢
      go_upto_region 7 with fail
      have hb7 := below_alloc (Below.refl w6.heap.size w6) (.cells #[.int .i64 c, .int .i64 d] 114)
      have BY := Aside0.mk (blk_new w6 (.cells #[.int .i64 c, .int .i64 d] 114))
      have BX7 := Aside0.mk (blk_below BX.out hb7)
      have HB7 := Aside0.mk (below_step HB6.out hb7)
      clear hb7 hy0 hy1 HB6 BX
      generalize hby : w6.heap.size = by_ at BY ⊢
      clear hby
      generalize w6.alloc (.cells #[.int .i64 c, .int .i64 d] 114) = w7 at BX7 BY HB7 ⊢
      have x0 : w7.cell? ⟨bx, 0, none⟩ = some (.int .i64 a) := (blk_cell BX7.out 0).trans rfl
      have x1 : w7.cell? ⟨bx, 1, none⟩ = some (.int .i64 b) := (blk_cell BX7.out 1).trans rfl
      have y0 : w7.cell? ⟨by_, 0, none⟩ = some (.int .i64 c) := (blk_cell BY.out 0).trans rfl
      have y1 : w7.cell? ⟨by_, 1, none⟩ = some (.int .i64 d) := (blk_cell BY.out 1).trans rfl
      by_cases hq : a = c ∧ b = d
      · have HQ := Aside0.mk (decide_eq_true hq)
        have HA : Aside0 (l1.take (i + 1) = l2.take (i + 1)) := ⟨by rw [HN1.out, HN2.out, HT.out, hq.1, hq.2]⟩
        clear hq
        go_wp2_with (go_at_call 110; refine (spaneq_any a b c d _).mono ?_; rintro e w8 ⟨rfl, hb⟩; rw [HQ.out]; have HB8 := Aside0.mk (below_step HB7.out hb); clear hb x0 x1 y0 y1)
        exact ⟨⟨i + 1, by go_num, by omega, HA, HB8⟩, by simp [intOf]; omega⟩
      · have HQ := Aside0.mk (decide_eq_false hq)
        have HF := Aside0.mk (show decide (l1 = l2) = false from decide_eq_false (fun e => hq (by
          have h1 := HD1.out
          rw [e, HD2.out] at h1
          injection h1 with h1 _
          injection h1 with h1 h2
          exact ⟨h1.symm, h2.symm⟩)))
        clear hq
        go_wp2_with (go_at_call 110; refine (spaneq_any a b c d _).mono ?_; rintro e w8 ⟨rfl, hb⟩; rw [HQ.out]; have HB8 := Aside0.mk (below_step HB7.out hb); clear hb x0 x1 y0 y1)
        go_ret
        exact ⟨by rw [HF.out]; rfl, HB8.out⟩
    · have HF := Aside0.mk (show decide (l1 = l2) = true from decide_eq_true (by
        have h := HT.out
        rw [List.take_of_length_le (by omega), List.take_of_length_le (by have := HE.out; omega)] at h
        exact h))
      clear t1 t2
      go_wp2
      go_ret
      exact ⟨by rw [HF.out]; rfl, HB.out⟩
set_option maxHeartbeats 4000000 in
set_option maxRecDepth 100000 in
theorem spansame_any (A1 A2 : Option Addr) (c1 c2 : Nat) (l1 l2 : List S114) (w : World) (h1 : Kd.C k114 w A1 l1.length l1) (h2 : Kd.C k114 w A2 l2.length l2) :
    Calls Tryz.prog 54 #[.slice A1 l1.length c1, .slice A2 l2.length c2] w fun e w' => e = .returned (.bool (decide (l1 = l2))) ∧ Below w.heap.size w w' := by
  have HH := Aside0.mk (eqspans_any A1 A2 c1 c2 l1 l2 w h1 h2)
  clear h1 h2
  generalize decide (l1 = l2) = r at HH ⊢
  go_enter Tryz.func54, Tryz.ntmps54
  go_wp2_with (go_at_call 109; refine HH.out.mono ?_; rintro e w2 ⟨rfl, hb⟩; have HB := Aside0.mk hb; clear hb)
  go_ret
  exact ⟨rfl, HB.out⟩
theorem spansame_is (r : Bool) (A1 A2 : Option Addr) (c1 c2 : Nat) (l1 l2 : List S114) (w : World) (h1 : Kd.C k114 w A1 l1.length l1) (h2 : Kd.C k114 w A2 l2.length l2) (hr : decide (l1 = l2) = r) :
    Calls Tryz.prog 54 #[.slice A1 l1.length c1, .slice A2 l2.length c2] w fun e w' => e = .returned (.bool r) ∧ Below w.heap.size w w' := by rw [← hr]; exact spansame_any A1 A2 c1 c2 l1 l2 w h1 h2
set_option maxHeartbeats 4000000 in
set_option maxRecDepth 100000 in
theorem cs_0 (o1 o2 : Int) (w1 c1 w2 c2 : List S114) (A1 C1 A2 C2 : Option Addr) (b1 d1 b2 d2 : Nat) (w : World) (ha1 : Kd.C k114 w A1 w1.length w1 ∧ w1.length ≤ b1) (hc1 : Kd.C k114 w C1 c1.length c1 ∧ c1.length ≤ d1) (ha2 : Kd.C k114 w A2 w2.length w2 ∧ w2.length ≤ b2) (hc2 : Kd.C k114 w C2 c2.length c2 ∧ c2.length ≤ d2) (h1 : ¬ o1 = o2) :
    Calls Tryz.prog 12 #[.agg #[.int .i64 o1, .slice A1 w1.length b1, .slice C1 c1.length d1], .agg #[.int .i64 o2, .slice A2 w2.length b2, .slice C2 c2.length d2]] w fun e w' => e = .returned (.bool (false)) ∧ Below w.heap.size w w' := by
  have HB := Aside0.mk (below_alloc (below_alloc (Below.refl w.heap.size w) (.cells #[.int .i64 o1, .slice A1 w1.length b1, .slice C1 c1.length d1] 24)) (.cells #[.int .i64 o2, .slice A2 w2.length b2, .slice C2 c2.length d2] 24))
  have Ra1 := Aside0.mk (Kd.C_below ha1.1 HB.out)
  have Rc1 := Aside0.mk (Kd.C_below hc1.1 HB.out)
  have Ra2 := Aside0.mk (Kd.C_below ha2.1 HB.out)
  have Rc2 := Aside0.mk (Kd.C_below hc2.1 HB.out)
  have E1 : Aside0 (((w.alloc (.cells #[.int .i64 o1, .slice A1 w1.length b1, .slice C1 c1.length d1] 24)).alloc (.cells #[.int .i64 o2, .slice A2 w2.length b2, .slice C2 c2.length d2] 24)).heap[w.heap.size]? = some (.cells #[.int .i64 o1, .slice A1 w1.length b1, .slice C1 c1.length d1] 24 (0, 0))) := ⟨blk_alloc (blk_new w _) _⟩
  have E2 : Aside0 (((w.alloc (.cells #[.int .i64 o1, .slice A1 w1.length b1, .slice C1 c1.length d1] 24)).alloc (.cells #[.int .i64 o2, .slice A2 w2.length b2, .slice C2 c2.length d2] 24)).heap[w.heap.size + 1]? = some (.cells #[.int .i64 o2, .slice A2 w2.length b2, .slice C2 c2.length d2] 24 (0, 0))) := ⟨by simpa using blk_new (w.alloc (.cells #[.int .i64 o1, .slice A1 w1.length b1, .slice C1 c1.length d1] 24)) (.cells #[.int .i64 o2, .slice A2 w2.length b2, .slice C2 c2.length d2] 24)⟩
  clear ha1 hc1 ha2 hc2
  have g1 : (o1 == o2) = false := by simpa using h1
  clear h1
  go_enter Tryz.func12, Tryz.ntmps12
  go_upto_region 1 with fail
  generalize ((w.alloc (.cells #[.int .i64 o1, .slice A1 w1.length b1, .slice C1 c1.length d1] 24)).alloc (.cells #[.int .i64 o2, .slice A2 w2.length b2, .slice C2 c2.length d2] 24)) = v1 at HB Ra1 Rc1 Ra2 Rc2 E1 E2 ⊢
  have x10 : v1.cell? ⟨w.heap.size, 0, none⟩ = some (.int .i64 o1) := (blk_cell E1.out 0).trans rfl
  have x11 : v1.cell? ⟨w.heap.size, 1, none⟩ = some (.slice A1 w1.length b1) := (blk_cell E1.out 1).trans rfl
  have x12 : v1.cell? ⟨w.heap.size, 2, none⟩ = some (.slice C1 c1.length d1) := (blk_cell E1.out 2).trans rfl
  have x20 : v1.cell? ⟨w.heap.size + 1, 0, none⟩ = some (.int .i64 o2) := (blk_cell E2.out 0).trans rfl
  have x21 : v1.cell? ⟨w.heap.size + 1, 1, none⟩ = some (.slice A2 w2.length b2) := (blk_cell E2.out 1).trans rfl
  have x22 : v1.cell? ⟨w.heap.size + 1, 2, none⟩ = some (.slice C2 c2.length d2) := (blk_cell E2.out 2).trans rfl
  go_wp2
  go_ret
  exact ⟨rfl, HB.out⟩
set_option maxHeartbeats 4000000 in
set_option maxRecDepth 100000 in
theorem cs_1 (o1 o2 : Int) (w1 c1 w2 c2 : List S114) (A1 C1 A2 C2 : Option Addr) (b1 d1 b2 d2 : Nat) (w : World) (ha1 : Kd.C k114 w A1 w1.length w1 ∧ w1.length ≤ b1) (hc1 : Kd.C k114 w C1 c1.length c1 ∧ c1.length ≤ d1) (ha2 : Kd.C k114 w A2 w2.length w2 ∧ w2.length ≤ b2) (hc2 : Kd.C k114 w C2 c2.length c2 ∧ c2.length ≤ d2) (h1 : o1 = o2) (h2 : ¬ w1 = w2) :
    Calls Tryz.prog 12 #[.agg #[.int .i64 o1, .slice A1 w1.length b1, .slice C1 c1.length d1], .agg #[.int .i64 o2, .slice A2 w2.length b2, .slice C2 c2.length d2]] w fun e w' => e = .returned (.bool (false)) ∧ Below w.heap.size w w' := by
  have HB := Aside0.mk (below_alloc (below_alloc (Below.refl w.heap.size w) (.cells #[.int .i64 o1, .slice A1 w1.length b1, .slice C1 c1.length d1] 24)) (.cells #[.int .i64 o2, .slice A2 w2.length b2, .slice C2 c2.length d2] 24))
  have Ra1 := Aside0.mk (Kd.C_below ha1.1 HB.out)
  have Rc1 := Aside0.mk (Kd.C_below hc1.1 HB.out)
  have Ra2 := Aside0.mk (Kd.C_below ha2.1 HB.out)
  have Rc2 := Aside0.mk (Kd.C_below hc2.1 HB.out)
  have E1 : Aside0 (((w.alloc (.cells #[.int .i64 o1, .slice A1 w1.length b1, .slice C1 c1.length d1] 24)).alloc (.cells #[.int .i64 o2, .slice A2 w2.length b2, .slice C2 c2.length d2] 24)).heap[w.heap.size]? = some (.cells #[.int .i64 o1, .slice A1 w1.length b1, .slice C1 c1.length d1] 24 (0, 0))) := ⟨blk_alloc (blk_new w _) _⟩
  have E2 : Aside0 (((w.alloc (.cells #[.int .i64 o1, .slice A1 w1.length b1, .slice C1 c1.length d1] 24)).alloc (.cells #[.int .i64 o2, .slice A2 w2.length b2, .slice C2 c2.length d2] 24)).heap[w.heap.size + 1]? = some (.cells #[.int .i64 o2, .slice A2 w2.length b2, .slice C2 c2.length d2] 24 (0, 0))) := ⟨by simpa using blk_new (w.alloc (.cells #[.int .i64 o1, .slice A1 w1.length b1, .slice C1 c1.length d1] 24)) (.cells #[.int .i64 o2, .slice A2 w2.length b2, .slice C2 c2.length d2] 24)⟩
  clear ha1 hc1 ha2 hc2
  have g1 : (o1 == o2) = true := by simpa using h1
  have HQ1 := Aside0.mk (show decide (w1 = w2) = false from decide_eq_false h2)
  clear h1 h2
  go_enter Tryz.func12, Tryz.ntmps12
  go_upto_region 1 with fail
  generalize ((w.alloc (.cells #[.int .i64 o1, .slice A1 w1.length b1, .slice C1 c1.length d1] 24)).alloc (.cells #[.int .i64 o2, .slice A2 w2.length b2, .slice C2 c2.length d2] 24)) = v1 at HB Ra1 Rc1 Ra2 Rc2 E1 E2 ⊢
  have x10 : v1.cell? ⟨w.heap.size, 0, none⟩ = some (.int .i64 o1) := (blk_cell E1.out 0).trans rfl
  have x11 : v1.cell? ⟨w.heap.size, 1, none⟩ = some (.slice A1 w1.length b1) := (blk_cell E1.out 1).trans rfl
  have x12 : v1.cell? ⟨w.heap.size, 2, none⟩ = some (.slice C1 c1.length d1) := (blk_cell E1.out 2).trans rfl
  have x20 : v1.cell? ⟨w.heap.size + 1, 0, none⟩ = some (.int .i64 o2) := (blk_cell E2.out 0).trans rfl
  have x21 : v1.cell? ⟨w.heap.size + 1, 1, none⟩ = some (.slice A2 w2.length b2) := (blk_cell E2.out 1).trans rfl
  have x22 : v1.cell? ⟨w.heap.size + 1, 2, none⟩ = some (.slice C2 c2.length d2) := (blk_cell E2.out 2).trans rfl
  go_wp2_with (go_at_call 54; with_reducible refine (spansame_is false A1 A2 b1 b2 w1 w2 v1 Ra1.out Ra2.out HQ1.out).mono ?_; rintro e v2 ⟨rfl, hb⟩; have HB3 := Aside0.mk (below_step HB.out hb); clear hb)
  go_ret
  exact ⟨rfl, HB3.out⟩
set_option maxHeartbeats 4000000 in
set_option maxRecDepth 100000 in
theorem cs_2 (o1 o2 : Int) (w1 c1 w2 c2 : List S114) (A1 C1 A2 C2 : Option Addr) (b1 d1 b2 d2 : Nat) (w : World) (ha1 : Kd.C k114 w A1 w1.length w1 ∧ w1.length ≤ b1) (hc1 : Kd.C k114 w C1 c1.length c1 ∧ c1.length ≤ d1) (ha2 : Kd.C k114 w A2 w2.length w2 ∧ w2.length ≤ b2) (hc2 : Kd.C k114 w C2 c2.length c2 ∧ c2.length ≤ d2) (q : Bool) (h1 : o1 = o2) (h2 : w1 = w2) (h3 : decide (c1 = c2) = q) :
    Calls Tryz.prog 12 #[.agg #[.int .i64 o1, .slice A1 w1.length b1, .slice C1 c1.length d1], .agg #[.int .i64 o2, .slice A2 w2.length b2, .slice C2 c2.length d2]] w fun e w' => e = .returned (.bool (q)) ∧ Below w.heap.size w w' := by
  have HB := Aside0.mk (below_alloc (below_alloc (Below.refl w.heap.size w) (.cells #[.int .i64 o1, .slice A1 w1.length b1, .slice C1 c1.length d1] 24)) (.cells #[.int .i64 o2, .slice A2 w2.length b2, .slice C2 c2.length d2] 24))
  have Ra1 := Aside0.mk (Kd.C_below ha1.1 HB.out)
  have Rc1 := Aside0.mk (Kd.C_below hc1.1 HB.out)
  have Ra2 := Aside0.mk (Kd.C_below ha2.1 HB.out)
  have Rc2 := Aside0.mk (Kd.C_below hc2.1 HB.out)
  have E1 : Aside0 (((w.alloc (.cells #[.int .i64 o1, .slice A1 w1.length b1, .slice C1 c1.length d1] 24)).alloc (.cells #[.int .i64 o2, .slice A2 w2.length b2, .slice C2 c2.length d2] 24)).heap[w.heap.size]? = some (.cells #[.int .i64 o1, .slice A1 w1.length b1, .slice C1 c1.length d1] 24 (0, 0))) := ⟨blk_alloc (blk_new w _) _⟩
  have E2 : Aside0 (((w.alloc (.cells #[.int .i64 o1, .slice A1 w1.length b1, .slice C1 c1.length d1] 24)).alloc (.cells #[.int .i64 o2, .slice A2 w2.length b2, .slice C2 c2.length d2] 24)).heap[w.heap.size + 1]? = some (.cells #[.int .i64 o2, .slice A2 w2.length b2, .slice C2 c2.length d2] 24 (0, 0))) := ⟨by simpa using blk_new (w.alloc (.cells #[.int .i64 o1, .slice A1 w1.length b1, .slice C1 c1.length d1] 24)) (.cells #[.int .i64 o2, .slice A2 w2.length b2, .slice C2 c2.length d2] 24)⟩
  clear ha1 hc1 ha2 hc2
  have g1 : (o1 == o2) = true := by simpa using h1
  have HQ1 := Aside0.mk (show decide (w1 = w2) = true from decide_eq_true h2)
  have HQ2 := Aside0.mk h3
  clear h1 h2 h3
  go_enter Tryz.func12, Tryz.ntmps12
  go_upto_region 1 with fail
  generalize ((w.alloc (.cells #[.int .i64 o1, .slice A1 w1.length b1, .slice C1 c1.length d1] 24)).alloc (.cells #[.int .i64 o2, .slice A2 w2.length b2, .slice C2 c2.length d2] 24)) = v1 at HB Ra1 Rc1 Ra2 Rc2 E1 E2 ⊢
  have x10 : v1.cell? ⟨w.heap.size, 0, none⟩ = some (.int .i64 o1) := (blk_cell E1.out 0).trans rfl
  have x11 : v1.cell? ⟨w.heap.size, 1, none⟩ = some (.slice A1 w1.length b1) := (blk_cell E1.out 1).trans rfl
  have x12 : v1.cell? ⟨w.heap.size, 2, none⟩ = some (.slice C1 c1.length d1) := (blk_cell E1.out 2).trans rfl
  have x20 : v1.cell? ⟨w.heap.size + 1, 0, none⟩ = some (.int .i64 o2) := (blk_cell E2.out 0).trans rfl
  have x21 : v1.cell? ⟨w.heap.size + 1, 1, none⟩ = some (.slice A2 w2.length b2) := (blk_cell E2.out 1).trans rfl
  have x22 : v1.cell? ⟨w.heap.size + 1, 2, none⟩ = some (.slice C2 c2.length d2) := (blk_cell E2.out 2).trans rfl
  go_wp2_with (first | (go_at_call 54; with_reducible refine (spansame_is true A1 A2 b1 b2 w1 w2 v1 Ra1.out Ra2.out HQ1.out).mono ?_; rintro e v2 ⟨rfl, hb⟩; have HB2 := Aside0.mk (below_step HB.out hb); have Rc12 := Aside0.mk (Kd.C_below Rc1.out hb); have Rc22 := Aside0.mk (Kd.C_below Rc2.out hb); have E12 := Aside0.mk (blk_below E1.out hb); have E22 := Aside0.mk (blk_below E2.out hb); clear hb; clear x10 x11 x12 x20 x21 x22; have x10 : v2.cell? ⟨w.heap.size, 0, none⟩ = some (.int .i64 o1) := (blk_cell E12.out 0).trans rfl; have x11 : v2.cell? ⟨w.heap.size, 1, none⟩ = some (.slice A1 w1.length b1) := (blk_cell E12.out 1).trans rfl; have x12 : v2.cell? ⟨w.heap.size, 2, none⟩ = some (.slice C1 c1.length d1) := (blk_cell E12.out 2).trans rfl; have x20 : v2.cell? ⟨w.heap.size + 1, 0, none⟩ = some (.int .i64 o2) := (blk_cell E22.out 0).trans rfl; have x21 : v2.cell? ⟨w.heap.size + 1, 1, none⟩ = some (.slice A2 w2.length b2) := (blk_cell E22.out 1).trans rfl; have x22 : v2.cell? ⟨w.heap.size + 1, 2, none⟩ = some (.slice C2 c2.length d2) := (blk_cell E22.out 2).trans rfl) | (go_at_call 54; with_reducible refine (spansame_is q C1 C2 d1 d2 c1 c2 v2 Rc12.out Rc22.out HQ2.out).mono ?_; rintro e v3 ⟨rfl, hb⟩; have HB3 := Aside0.mk (below_step HB2.out hb); clear hb))
  go_ret
  exact ⟨rfl, HB3.out⟩
theorem csame_any (o1 o2 : Int) (w1 c1 w2 c2 : List S114) (A1 C1 A2 C2 : Option Addr) (b1 d1 b2 d2 : Nat) (w : World) (ha1 : Kd.C k114 w A1 w1.length w1 ∧ w1.length ≤ b1) (hc1 : Kd.C k114 w C1 c1.length c1 ∧ c1.length ≤ d1) (ha2 : Kd.C k114 w A2 w2.length w2 ∧ w2.length ≤ b2) (hc2 : Kd.C k114 w C2 c2.length c2 ∧ c2.length ≤ d2)  :
    Calls Tryz.prog 12 #[.agg #[.int .i64 o1, .slice A1 w1.length b1, .slice C1 c1.length d1], .agg #[.int .i64 o2, .slice A2 w2.length b2, .slice C2 c2.length d2]] w fun e w' => e = .returned (.bool (calSame o1 w1 c1 o2 w2 c2)) ∧ Below w.heap.size w w' := by
  by_cases h1 : o1 = o2
  · by_cases h2 : w1 = w2
    · have e : calSame o1 w1 c1 o2 w2 c2 = decide (c1 = c2) := by simp [calSame, h1, h2]
      rw [e]
      exact cs_2 o1 o2 w1 c1 w2 c2 A1 C1 A2 C2 b1 d1 b2 d2 w ha1 hc1 ha2 hc2 _ h1 h2 rfl
    · have e : calSame o1 w1 c1 o2 w2 c2 = false := by simp [calSame, h2]
      rw [e]
      exact cs_1 o1 o2 w1 c1 w2 c2 A1 C1 A2 C2 b1 d1 b2 d2 w ha1 hc1 ha2 hc2 h1 h2
  · have e : calSame o1 w1 c1 o2 w2 c2 = false := by simp [calSame, h1]
    rw [e]
    exact cs_0 o1 o2 w1 c1 w2 c2 A1 C1 A2 C2 b1 d1 b2 d2 w ha1 hc1 ha2 hc2 h1
theorem csame_is (r : Bool) (o1 o2 : Int) (w1 c1 w2 c2 : List S114) (A1 C1 A2 C2 : Option Addr) (b1 d1 b2 d2 : Nat) (w : World) (ha1 : Kd.C k114 w A1 w1.length w1 ∧ w1.length ≤ b1) (hc1 : Kd.C k114 w C1 c1.length c1 ∧ c1.length ≤ d1) (ha2 : Kd.C k114 w A2 w2.length w2 ∧ w2.length ≤ b2) (hc2 : Kd.C k114 w C2 c2.length c2 ∧ c2.length ≤ d2)  (hr : calSame o1 w1 c1 o2 w2 c2 = r) :
    Calls Tryz.prog 12 #[.agg #[.int .i64 o1, .slice A1 w1.length b1, .slice C1 c1.length d1], .agg #[.int .i64 o2, .slice A2 w2.length b2, .slice C2 c2.length d2]] w fun e w' => e = .returned (.bool r) ∧ Below w.heap.size w w' := by
  rw [← hr]; exact csame_any o1 o2 w1 c1 w2 c2 A1 C1 A2 C2 b1 d1 b2 d2 w ha1 hc1 ha2 hc2
end Go.Proofs.YtepldlnmeenlbaaGreat.Own
namespace Go.Proofs.YtepldlnmeenlbaaGreat.Own
open Go.RowKit Go.Proofs Go.Proofs.YtepldlnmeenlbaaGreatW.PrintWords Go.Proofs.YtepldlnmeenlbaaGreatW.PrintLast Go.Proofs.YtepldlnmeenlbaaGreatW.PrintMore Go.Proofs.YtepldlnmeenlbaaGreat.Base
attribute [local go_sem] max2_mx min2_mn max_two min_two
theorem lives_1 : dueP 0 [⟨10, 20⟩] [] 0 5 = (15, 0) := by kernel_rfl
theorem lives_2 : dueP 0 [⟨10, 20⟩] [] 15 6 = (604811, 0) := by kernel_rfl
theorem lives_0 : calErr 0 [⟨10, 20⟩] [] = 0 := by kernel_rfl
theorem one_span (w : World) : Kd.C k114 (w.alloc (.cells #[.int .i64 10, .int .i64 20] 114)) (some ⟨w.heap.size, 0, none⟩) [(⟨10, 20⟩ : S114)].length [⟨10, 20⟩] := by
  refine ⟨rfl, by decide, fun _ => ⟨_, rfl, fun j p hp => ?_⟩⟩
  cases j with
  | zero =>
    injection hp with hp
    subst hp
    refine ⟨[.int .i64 10, .int .i64 20], rfl, k114_mk _ _, fun i u hu => ?_⟩
    match i, hu with
    | 0, hu => injection hu with hu; subst hu; exact (blk_cell (blk_new w _) 0).trans rfl
    | 1, hu => injection hu with hu; subst hu; exact (blk_cell (blk_new w _) 1).trans rfl
    | (n + 2), hu => cases hu
  | succ j => cases hp
theorem no_span (w : World) : Kd.C k114 w none ([] : List S114).length [] := ⟨rfl, by decide, fun h => absurd h (by simp)⟩
variable {n kb ab pb cb : Nat}
theorem lives_due1 (w : World) (h : ClkAt w n kb ab pb cb 0 [⟨10, 20⟩] []) (hn : n ≤ w.heap.size) :
    Calls Tryz.prog 53 #[.pointer (some ⟨kb, 0, none⟩), .int .i64 0, .int .i64 5] w fun e w' => e = .returned (.tuple #[.int .i64 15, .int .i64 0]) ∧ ClkAt w' n kb ab pb cb 0 [⟨10, 20⟩] [] ∧ Upd cb w w' := by
  have := due_any 0 5 w h hn (by omega)
  rw [lives_1] at this
  exact this
theorem lives_due2 (w : World) (h : ClkAt w n kb ab pb cb 0 [⟨10, 20⟩] []) (hn : n ≤ w.heap.size) :
    Calls Tryz.prog 53 #[.pointer (some ⟨kb, 0, none⟩), .int .i64 15, .int .i64 6] w fun e w' => e = .returned (.tuple #[.int .i64 604811, .int .i64 0]) ∧ ClkAt w' n kb ab pb cb 0 [⟨10, 20⟩] [] ∧ Upd cb w w' := by
  have := due_any 15 6 w h hn (by omega)
  rw [lives_2] at this
  exact this
set_option maxHeartbeats 1000000 in
set_option maxRecDepth 100000 in
theorem lives_any (w : World) : Calls Tryz.prog 11 #[] w fun e w' => e = .returned (.bool true) ∧ Below w.heap.size w w' := by
  have HC := Aside0.mk (one_span w)
  have B0 := Aside0.mk (below_alloc (Below.refl w.heap.size w) (.cells #[.int .i64 10, .int .i64 20] 114))
  go_enter Tryz.func11, Tryz.ntmps11
  go_wp2_with fail
  generalize (w.alloc (.cells #[.int .i64 10, .int .i64 20] 114)) = w1 at HC B0 ⊢
  have HNEW := Aside0.mk (calnew_yes 0 _ none 1 0 [⟨10, 20⟩] [] w1 HC.out (Nat.le_refl _) (no_span w1) (Nat.le_refl _) lives_0)
  have HNW := HC
  clear HC
  go_wp2_with (first | (go_at_call 35; refine HNEW.out.mono ?_; rintro e w2 ⟨kb, ab, pb, cb, rfl, C2, hb⟩; have HC2 := Aside0.mk C2; have HB2 := Aside0.mk hb; clear C2 hb HNEW) | (go_at_call 53; with_reducible refine (lives_due1 w2 HC2.out HB2.out.size).mono ?_; rintro e w3 ⟨rfl, C3, U3⟩; have HC3 := Aside0.mk C3; have HU3 := Aside0.mk U3; clear C3 U3) | (go_at_call 53; with_reducible refine (lives_due2 w3 HC3.out (Nat.le_trans HB2.out.size HU3.out.size)).mono ?_; rintro e w4 ⟨rfl, C4, U4⟩; have HU4 := Aside0.mk U4; clear C4 U4))
  go_ret
  have hn : w1.heap.size ≤ cb := HC2.out.plan.ncb
  have hs := B0.out.size
  have hb := HB2.out
  exact ⟨rfl, below_step B0.out (hb.trans (Upd.below (HU3.out.trans HU4.out) hb.size hn))⟩
end Go.Proofs.YtepldlnmeenlbaaGreat.Own
namespace Go.Proofs.YtepldlnmeenlbaaGreat.Own
open Go.RowKit Go.Proofs Go.Proofs.YtepldlnmeenlbaaGreatW.PrintWords Go.Proofs.YtepldlnmeenlbaaGreatW.PrintLast Go.Proofs.YtepldlnmeenlbaaGreatW.PrintMore Go.Proofs.YtepldlnmeenlbaaGreat.Base
set_option maxHeartbeats 1600000 in
set_option maxRecDepth 100000 in
theorem bclone_any (A : Option Addr) (c : Nat) (l : List Int) (w : World) (hr : Kd.C (Kd.int .u8) w A l.length l) (hc : l.length ≤ c) (hl : l.length ≤ 140737488355328) :
    Calls Tryz.prog 64 #[.slice A l.length c] w fun e w' => ∃ A' c', e = .returned (.slice A' l.length c') ∧ l.length ≤ c' ∧ Kd.R (Kd.int .u8) 5 w' w.heap.size (fun _ => True) (.slice A' l.length c') l ∧ Below w.heap.size w w' := by
  have HR := Aside0.mk hr
  clear hr
  rcases A with _ | ad
  · have heq : ∀ W : World, (binOp .eql 25 (.slice none 0 c) (.slice none 0 0)).run Tryz.prog W = .ok (.bool true) W := fun W => Lib.run_eql_slice_nil W 25 5 none _ _ _ _ Tryz.underlying25
    have h0 : l = [] := by
      rcases l with _ | ⟨s, r⟩
      · rfl
      · obtain ⟨_, h, _⟩ := HR.out.2.2 (by simp)
        cases h
    subst h0
    simp only [List.length_nil]
    clear HR hc hl
    go_enter Tryz.func64, Tryz.ntmps64
    go_wp2
    go_ret
    exact ⟨none, 0, rfl, by simp, Kd.R_nil _ _ _ _ _, Below.refl _ _⟩
  · have heq : ∀ W : World, (binOp .eql 25 (.slice (some ad) l.length c) (.slice none 0 0)).run Tryz.prog W = .ok (.bool false) W := fun W => Lib.run_eql_slice_nil W 25 5 (some ad) _ _ _ _ Tryz.underlying25
    go_enter Tryz.func64, Tryz.ntmps64
    have HO : Aside0 (Kd.R (Kd.int .u8) 5 (w.alloc (.cells #[] 5)) w.heap.size (fun _ => True) (.slice (some ⟨w.heap.size, 0, none⟩) 0 0) ([] : List Int)) :=
      ⟨⟨fun _ _ => trivial, [], World.ownsRow_made w #[] 0 (Nat.le_refl _) (by unfold maxLen; omega) (by simp), by simp [Reps]⟩⟩
    have HR1 := Aside0.mk (Kd.C_below HR.out (below_alloc (Below.refl _ _) (.cells #[] 5)))
    have HB := Aside0.mk (below_alloc (Below.refl w.heap.size w) (.cells #[] 5))
    go_wp2_with (at_builtin; refine Kd.R_append_rows (Kd.int .u8) (Rr := (Kd.int .u8).K (w.alloc (.cells #[] 5))) w.heap.size rfl (.tmp 5) (.tmp 6) 25 5 (.int .u8 0) 1 rfl Tryz.underlying25 infoU8 rfl (by decide) (by omega) (.slice (some ⟨w.heap.size, 0, none⟩) 0 0) [] l (some ad) l.length c (fun _ => True) (fun _ => False) rfl rfl HO.out HR1.out ?hKM ?hokp ?hfr HB.out HB.out.size ?hl ?_; (case hKM => exact fun x cs h => h); (case hokp => exact fun _ h => h.elim); (case hfr => exact fun _ _ => trivial); (case hl => simp; omega); intro v1 w1 ho hb _ _; obtain ⟨A1, c1, rfl, hl1, _⟩ := Kd.R_reads ho; have HO1 := Aside0.mk ho; have HB1 := Aside0.mk hb; clear ho hb)
    go_ret
    exact ⟨A1, c1, rfl, hl1, HO1.out, HB1.out⟩
set_option maxHeartbeats 1600000 in
set_option maxRecDepth 100000 in
theorem wbytes_any (n wb : Nat) (bs : List Int) (w : World) (h : WrAt w n wb bs) (hl : bs.length ≤ 140737488355328) :
    Calls Tryz.prog 18 #[.pointer (some ⟨wb, 0, none⟩)] w fun e w' => ∃ A' c', e = .returned (.slice A' bs.length c') ∧ bs.length ≤ c' ∧ Kd.R (Kd.int .u8) 5 w' w.heap.size (fun _ => True) (.slice A' bs.length c') bs ∧ Below w.heap.size w w' := by
  obtain ⟨v, hv⟩ := h
  obtain ⟨A, c, rfl, hc, hr⟩ := Kd.R_reads hv.row
  have HR := Aside0.mk hr
  have c0 := hv.get
  clear hr hv
  go_enter Tryz.func18, Tryz.ntmps18
  go_wp2_with (go_at_call 64; refine (bclone_any A c bs w HR.out hc hl).mono ?_; rintro e w2 ⟨A2, c2, rfl, q1, q2, q3⟩; have H1 := Aside0.mk q1; have H2 := Aside0.mk q2; have H3 := Aside0.mk q3; clear q1 q2 q3)
  go_ret
  exact ⟨A2, c2, rfl, H1.out, H2.out, H3.out⟩
end Go.Proofs.YtepldlnmeenlbaaGreat.Own
namespace Go.Proofs.YtepldlnmeenlbaaGreat.Own
open Go.RowKit Go.Proofs Go.Proofs.YtepldlnmeenlbaaGreatW.PrintWords Go.Proofs.YtepldlnmeenlbaaGreatW.PrintLast Go.Proofs.YtepldlnmeenlbaaGreatW.PrintMore Go.Proofs.YtepldlnmeenlbaaGreat.Base
variable {t : TypeId} {m rb pb c : Nat} {w w' : World} {A : Option Addr} {s : List Int × Bool}
def RowX {α : Type} (d : Kd α) (e : Nat) (w : World) (n : Nat) (A : Option Addr) (c : Nat) (l : List α) : Prop := d.R e w n (fun _ => True) (.slice A l.length c) l
theorem RowX.mk {α : Type} {d : Kd α} {e n c : Nat} {A : Option Addr} {l : List α} (h : d.R e w n (fun _ => True) (.slice A l.length c) l) : RowX d e w n A c l := h
theorem RowX.below {α : Type} {d : Kd α} {e n c : Nat} {A : Option Addr} {l : List α} (h : RowX d e w n A c l) (hb : Below w.heap.size w w') : RowX d e w' n A c l := Kd.R_below h hb
theorem RowX.upd {α : Type} {d : Kd α} {e n c b : Nat} {A : Option Addr} {l : List α} (h : RowX d e w n A c l) (hu : Upd b w w') (hb : b < n) : RowX d e w' n A c l := R_upd h hu hb
theorem RowX.C {α : Type} {d : Kd α} {e n c : Nat} {A : Option Addr} {l : List α} (h : RowX d e w n A c l) : d.C w A l.length l ∧ l.length ≤ c := R_C h
theorem WrAt.upd {n wb b t : Nat} {bs : List Int} (h : WrAt w n wb bs) (hu : Upd b w w') (hg : ∃ cs, w.heap[b]? = some (.cells cs t (0, 0))) (ht : t ≠ 5) (hne : wb ≠ b) : WrAt w' n wb bs := by
  obtain ⟨v, hv⟩ := h
  obtain ⟨cs, hg⟩ := hg
  exact ⟨v, hu.blk hv.blk hne, Kd.R_mono (Kd.R_step (Kd.R_types hv.row hg (types1 rfl ht)) (fun k hk hlt => hu.block k hlt (fun e => hk.2 (Option.some.inj e)))) (fun _ hk => hk.1), Nat.le_trans hv.size hu.size⟩
theorem RdAt.of {rb c : Nat} (h : RdV t m w rb A c s) : RdAt t m w rb s := ⟨A, c, h⟩
theorem RdAt.blk2 {rb : Nat} (h : RdAt t m w rb s) : ∃ cs, w.heap[rb]? = some (.cells cs t (0, 0)) := by obtain ⟨A, c, h⟩ := h; exact ⟨_, h.blk⟩
def BytesAt (w : World) (A : Option Addr) (bs : List Int) : Prop := Kd.C (Kd.int .u8) w A bs.length bs
theorem BytesAt.below {bs : List Int} (h : BytesAt w A bs) (hb : Below w.heap.size w w') : BytesAt w' A bs := Kd.C_below h hb
theorem wbytesq (n wb : Nat) (bs : List Int) (w : World) (h : WrAt w n wb bs) (hl : bs.length ≤ 140737488355328) (hp : 0 < bs.length) :
    Calls Tryz.prog 18 #[.pointer (some ⟨wb, 0, none⟩)] w fun e w' => ∃ A' c', e = .returned (.slice A' bs.length c') ∧ (bs.length ≤ c' ∧ Kd.C (Kd.int .u8) w' A' bs.length bs ∧ ∀ ad, A' = some ad → ad.block < w'.heap.size) ∧ Below w.heap.size w w' :=
  (wbytes_any n wb bs w h hl).mono fun e w' ⟨A', c', he, hc, hr, hb⟩ => by
    obtain ⟨A2, c2, e2, _, hC⟩ := Kd.R_reads hr
    cases e2
    exact ⟨A', c', he, ⟨hc, hC, fun ad e => by subst e; exact Kd.C_lt hC hp (by decide)⟩, hb⟩
section
variable {off : Int} {week closed : List S114} {A1 A2 : Option Addr} {c1 c2 : Nat}
def lightQ (week closed : List S114) : Bool := decide (week.length ≤ 60) && decide (closed.length ≤ 60)
theorem lightQ_iff : lightQ week closed = true ↔ week.length ≤ 60 ∧ closed.length ≤ 60 := by simp [lightQ]
theorem light_is (v : Bool) (w : World) (h1 : Kd.C k114 w A1 week.length week ∧ week.length ≤ c1) (h2 : Kd.C k114 w A2 closed.length closed ∧ closed.length ≤ c2) (hv : lightQ week closed = v) :
    Calls Tryz.prog 10 #[.agg #[.int .i64 off, .slice A1 week.length c1, .slice A2 closed.length c2]] w fun e w' => e = .returned (.bool v) ∧ Below w.heap.size w w' :=
  curfewlaw10_Light.calls off A1 c1 week A2 c2 closed _ w h1.1 h1.2 h2.1 h2.2 (by
    rw [← hv]
    unfold curfewlaw10_Light.f lightQ
    by_cases h : week.length ≤ 60
    · rw [if_pos (by omega), decide_eq_true h, Bool.true_and]
      congr 1
      by_cases h' : closed.length ≤ 60
      · rw [decide_eq_true h', decide_eq_true (by omega)]
      · rw [decide_eq_false h', decide_eq_false (by omega)]
    · rw [if_neg (by omega), decide_eq_false h]; rfl)
theorem refcheck_is (v : Int) (w : World) (h1 : Kd.C k114 w A1 week.length week ∧ week.length ≤ c1) (h2 : Kd.C k114 w A2 closed.length closed ∧ closed.length ≤ c2) (hv : calErr off week closed = v) :
    Calls Tryz.prog 14 #[.agg #[.int .i64 off, .slice A1 week.length c1, .slice A2 closed.length c2]] w fun e w' => e = .returned (.int .i64 v) ∧ Below w.heap.size w w' := by rw [← hv]; exact refcheck_q w h1 h2
theorem rsame_is (r : Bool) (o1 o2 : Int) (w1 c1 w2 c2 : List S114) (A1 C1 A2 C2 : Option Addr) (b1 d1 b2 d2 : Nat) (w : World) (ha1 : Kd.C k114 w A1 w1.length w1 ∧ w1.length ≤ b1) (hc1 : Kd.C k114 w C1 c1.length c1 ∧ c1.length ≤ d1) (ha2 : Kd.C k114 w A2 w2.length w2 ∧ w2.length ≤ b2) (hc2 : Kd.C k114 w C2 c2.length c2 ∧ c2.length ≤ d2) (n1 : w1.length ≤ 60) (n2 : c1.length ≤ 60) (hr : calSame o1 w1 c1 o2 w2 c2 = r) :
    Calls Tryz.prog 13 #[.agg #[.int .i64 o1, .slice A1 w1.length b1, .slice C1 c1.length d1], .agg #[.int .i64 o2, .slice A2 w2.length b2, .slice C2 c2.length d2]] w fun e w' => e = .returned (.bool r) ∧ Below w.heap.size w w' :=
  curfewref10_Same.calls 200 o1 A1 b1 w1 C1 d1 c1 o2 A2 b2 w2 C2 d2 c2 _ w ha1.1 ha1.2 hc1.1 hc1.2 ha2.1 ha2.2 hc2.1 hc2.2 (by rw [calsame_eq _ _ _ _ _ _ n1 n2, hr])
theorem calSame_self (o : Int) (w1 c1 : List S114) : calSame o w1 c1 o w1 c1 = true := by simp [calSame]
theorem calput16 (n wb : Nat) (w : World) (h : WrAt w n wb []) (h1 : CFoot k114 n wb w A1 c1 week) (h2 : CFoot k114 n wb w A2 c2 closed) (he : calErr off week closed = 0) :
    Calls Tryz.prog 15 #[.pointer (some ⟨wb, 0, none⟩), .agg #[.int .i64 off, .slice A1 week.length c1, .slice A2 closed.length c2]] w fun e w' => e = .returned (.tuple #[]) ∧ WrAt w' n wb (calB off week closed) ∧ WUpd n wb w w' :=
  (calput_any n wb [] off week closed A1 A2 c1 c2 w h h1 h2 he (by simp)).mono fun e w' hh => by rw [List.nil_append] at hh; exact hh
theorem calRead_put0 (h : calErr off week closed = 0) : calRead (calB off week closed, false) = ((⟨off, week, closed⟩, true), ([], false)) := by
  have := calRead_put h []
  rwa [List.append_nil] at this
theorem calRead_len {o : Int} {wk cl : List S114} {ok : Bool} {s' : List Int × Bool} (hb : ∀ x, x ∈ s.1 → 0 ≤ x ∧ x ≤ 255) (h : calRead s = ((⟨o, wk, cl⟩, ok), s')) : wk.length ≤ 60 ∧ cl.length ≤ 60 := by
  unfold calRead at h
  split at h
  · have e : (calRd s).1 = ⟨o, wk, cl⟩ := by injection h with h _; injection h
    have hb1 := rdInt_byte (s' := (rdInt s).2) (x := (rdInt s).1) hb rfl
    have h1 := rdNum_rng (most := 32) hb1 (by omega)
    have hb2 := rdSps_byte (rdNum 32 (rdInt s).2).1.toNat _ h1.2
    have h2 := rdNum_rng (most := 32) hb2 (by omega)
    have l1 : wk.length = (rdNum 32 (rdInt s).2).1.toNat := by
      have : wk = (calRd s).1.week := by rw [e]
      rw [this]; exact rdSps_len _ _
    have l2 : cl.length = (rdNum 32 (rdRow (rdInt s).2).2).1.toNat := by
      have : cl = (calRd s).1.closed := by rw [e]
      rw [this]; exact rdSps_len _ _
    have h2' : (rdNum 32 (rdRow (rdInt s).2).2).1 ≤ 32 := h2.1.2
    omega
  · have e : calZ = ⟨o, wk, cl⟩ := by injection h with h _; injection h
    unfold calZ at e
    injection e with _ e1 e2
    subst e1 e2
    simp
end
end Go.Proofs.YtepldlnmeenlbaaGreat.Own
