/- TicketSound, part 7: what the claim needs of TkS, OpenCal, OpenCon. -/
import Derived.Test.YtepldlnmeenlbaaTicketSound6
import Derived.Test.YtepldlnmeenlbaaProg
import Derived.Below
import Derived.Deep.Draws
import Derived.Deep.AppendLies
import Derived.Maps.AppendAt
import Derived.OwnWalk
import Derived.Laws.BytesArg
import Derived.Laws.MakeOwn
import Derived.Laws.OwnMore
import Derived.Deep.OwnRows
import Derived.Tactics
import Derived.Lib.ConvBytes
import Derived.Laws.Slices
import Derived.WalkKit
import Derived.KernelRfl
import Derived.RowKit3
import Derived.Deep.LoopGhost
import Derived.Deep.QuietTactic
import Derived.BigQuiet
import Derived.WideLaws
import Derived.Deep.DeepCutAuto
import Derived.Deep.CutBlock
import Derived.Deep.RegionHeld3
import Derived.Laws.Rows
import Derived.Lib.AppendStr
import Derived.ArgAppend
import Derived.Laws.IdiomCopy
import Derived.OrdersHeld
import Derived.Laws.BitsLemmas
import Derived.RowKit
import Derived.Laws.StructEq
import Derived.Tactics2
import Derived.Defers
import Derived.Laws.Pointers
import Derived.Laws.LoneSync
import Derived.Laws.NewBlocks
import Derived.RegionTactic
import Derived.RegionCalls
import Derived.ChangeAlike
import Derived.StillTailTactics
import Derived.Outline
import Derived.Handy
import Derived.SizedLaws
import Derived.ChangeSlices
import Derived.Laws.EntriesVeiled
import Derived.WalkSpells
import Derived.RangeFuncNested
import Derived.RangeFuncBound
import Derived.RangeFuncCalls
import Derived.RangeFuncLeaves
import Derived.Shelf.Abstract
import Derived.Shelf.RegionOpen
import Derived.OwnWalkIn
import Derived.TacticsInMore
import Derived.LoopNIn
import Derived.LoopIn
import Derived.OrdersIn
import Derived.Test.YtepldlnmeenlbaaRows
import Derived.ProofKit
import Derived.OpenShut
import Derived.ShutString
import Derived.ChangeOld
import Derived.Lib.SmallJoins
import Derived.Deep.SlicePairs
set_option linter.unusedVariables false
set_option linter.unusedSimpArgs false
namespace Go.Proofs.Ytepldlnmeenlbaa.Own
open Go.RowKit Go.Proofs Go.Proofs.YtepldlnmeenlbaaW.PrintWords Go.Proofs.YtepldlnmeenlbaaW.PrintLast Go.Proofs.YtepldlnmeenlbaaW.PrintMore Go.Proofs.Ytepldlnmeenlbaa.Base
structure Act2 where
  kd : Int
  wt : Int
def zAct : Act2 := ⟨0, 0⟩
def kAct : Kd Act2 := Kd.iso (Kd.pair (Kd.int .i64) (Kd.int .u32)) (fun x : Act2 => (x.kd, x.wt))
theorem kAct_open {w : World} {x : Act2} {cs : List Value} (h : kAct.K w x cs) : cs = [.int .i64 x.kd, .int .u32 x.wt] := by
  obtain ⟨_, _, rfl, rfl, rfl⟩ := h
  exact rfl
theorem kAct_mk (w : World) (x : Act2) : kAct.K w x [.int .i64 x.kd, .int .u32 x.wt] := ⟨[.int .i64 x.kd], [.int .u32 x.wt], rfl, rfl, rfl⟩
def rd_Act (xs : List Act2) (i : Int) : Act2 := xs.getD i.toNat zAct
theorem rd_Act_mem {l : List Act2} {i : Nat} (h : i < l.length) : rd_Act l i ∈ l := by
  unfold rd_Act
  rw [List.getD_eq_getElem?_getD, Int.toNat_natCast, List.getElem?_eq_getElem h]
  exact List.getElem_mem _
theorem at_Act {w : World} {A : Option Addr} {n : Nat} {xs : List Act2} (h : Kd.C kAct w A n xs) (i : Int) (h0 : 0 ≤ i) (h1 : i < n) : ∃ ad , A = some ad ∧ w.cell? (ad.add (i.toNat * 2)) = some (.int .i64 (rd_Act xs i).kd) ∧ w.cell? ⟨(ad.add (i.toNat * 2)).block, (ad.add (i.toNat * 2)).off + 1, none⟩ = some (.int .u32 (rd_Act xs i).wt) := by
  obtain ⟨ad, c, e, _, hK, hc0⟩ := Kd.C_get h zAct i h0 h1
  have hc : ∀ j u, c[j]? = some u → w.cell? (ad.add (i.toNat * 2 + j)) = some u := hc0
  obtain rfl := kAct_open hK
  exact ⟨ad, e, hc 0 _ rfl, by rw [← add_field _ _ 1 (by omega)]; exact hc 1 _ rfl⟩
theorem tksound_true (id co st lv gn fr lf du tl : Int) (w : World) (h : TkOk ⟨id, co, st, lv, gn, fr, lf, du, tl⟩) (hb : tkB ⟨id, co, st, lv, gn, fr, lf, du, tl⟩ = true) : Calls Try.prog 9 #[.agg #[.int .u64 id, .int .i64 co, .int .i64 st, .int .i64 lv, .int .u64 gn, .int .i64 fr, .int .i64 lf, .int .i64 du, .int .i64 tl]] w fun e w' => e = .returned (.bool true) ∧ Below w.heap.size w w' := by rw [← hb]; exact tksound_any ⟨id, co, st, lv, gn, fr, lf, du, tl⟩ w h
section
variable {off : Int} {week closed : List S143} {A1 A2 : Option Addr} {c1 c2 : Nat}
def lightQ (week closed : List S143) : Bool := decide (week.length ≤ 60) && decide (closed.length ≤ 60)
theorem light_is (v : Bool) (w : World) (h1 : Kd.C k143 w A1 week.length week ∧ week.length ≤ c1) (h2 : Kd.C k143 w A2 closed.length closed ∧ closed.length ≤ c2) (hv : lightQ week closed = v) :
    Calls Try.prog 19 #[.agg #[.int .i64 off, .slice A1 week.length c1, .slice A2 closed.length c2]] w fun e w' => e = .returned (.bool v) ∧ Below w.heap.size w w' :=
  curfewlaw10_Light.calls off A1 c1 week A2 c2 closed _ w h1.1 h1.2 h2.1 h2.2 (by
    rw [← hv]
    unfold curfewlaw10_Light.f lightQ
    by_cases h : week.length ≤ 60
    · rw [if_pos (by omega), decide_eq_true h, Bool.true_and]
      congr 1
      by_cases h' : closed.length ≤ 60
      · rw [decide_eq_true h', decide_eq_true (by omega)]
      · rw [decide_eq_false h', decide_eq_false (by omega)]
    · rw [if_neg (by omega), decide_eq_false h]; rfl)
theorem refcheck_is (v : Int) (w : World) (h1 : Kd.C k143 w A1 week.length week ∧ week.length ≤ c1) (h2 : Kd.C k143 w A2 closed.length closed ∧ closed.length ≤ c2) (hv : calErr off week closed = v) :
    Calls Try.prog 20 #[.agg #[.int .i64 off, .slice A1 week.length c1, .slice A2 closed.length c2]] w fun e w' => e = .returned (.int .i64 v) ∧ Below w.heap.size w w' := by rw [← hv]; exact refcheck_q w h1 h2
theorem good14_is (v : Bool) {cal re ba : Int} {ls : List S98} (w : World) (h1 : Kd.C k98 w A1 ls.length ls ∧ ls.length ≤ c1) (hv : goodP cal ls re ba = v) :
    Calls Try.prog 21 #[.agg #[.int .i64 cal, .slice A1 ls.length c1, .int .i64 re, .int .i64 ba]] w fun e w' => e = .returned (.bool v) ∧ Below w.heap.size w w' := by rw [← hv]; exact good14_any w h1
end
section
variable {w w' : World} {n kb ab pb cb : Nat} {off : Int} {week closed : List S143} {A : Option Addr} {k : Nat} {ls : List S98}
theorem opause_x {L nx td : Int} (id co st lv gn fr lf du tl y1 y2 y3 y4 y5 y6 y7 y8 y9 now e : Int) (w : World) (h : ClkAt w n kb ab pb cb off week closed) (hn : n ≤ w.heap.size) (hk : CalOk off week closed) (hs : Snd off week closed L nx td ⟨id, co, st, lv, gn, fr, lf, du, tl⟩) (hu : pauseT off week closed ⟨id, co, st, lv, gn, fr, lf, du, tl⟩ now = (⟨y1, y2, y3, y4, y5, y6, y7, y8, y9⟩, e)) :
    Calls Try.prog 28 #[.agg #[.int .u64 id, .int .i64 co, .int .i64 st, .int .i64 lv, .int .u64 gn, .int .i64 fr, .int .i64 lf, .int .i64 du, .int .i64 tl], .pointer (some ⟨kb, 0, none⟩), .int .i64 now] w fun r w' => r = .returned (.tuple #[.agg #[.int .u64 y1, .int .i64 y2, .int .i64 y3, .int .i64 y4, .int .u64 y5, .int .i64 y6, .int .i64 y7, .int .i64 y8, .int .i64 y9], .int .i64 e]) ∧ ClkAt w' n kb ab pb cb off week closed ∧ Upd cb w w' := opause_any ⟨id, co, st, lv, gn, fr, lf, du, tl⟩ ⟨y1, y2, y3, y4, y5, y6, y7, y8, y9⟩ now e w h hn hk hs.lf hu
theorem oresume_x {L nx td : Int} (id co st lv gn fr lf du tl y1 y2 y3 y4 y5 y6 y7 y8 y9 now e : Int) (w : World) (h : ClkAt w n kb ab pb cb off week closed) (hn : n ≤ w.heap.size) (hs : Snd off week closed L nx td ⟨id, co, st, lv, gn, fr, lf, du, tl⟩) (hu : resumeT off week closed ⟨id, co, st, lv, gn, fr, lf, du, tl⟩ now = (⟨y1, y2, y3, y4, y5, y6, y7, y8, y9⟩, e)) :
    Calls Try.prog 24 #[.agg #[.int .u64 id, .int .i64 co, .int .i64 st, .int .i64 lv, .int .u64 gn, .int .i64 fr, .int .i64 lf, .int .i64 du, .int .i64 tl], .pointer (some ⟨kb, 0, none⟩), .int .i64 now] w fun r w' => r = .returned (.tuple #[.agg #[.int .u64 y1, .int .i64 y2, .int .i64 y3, .int .i64 y4, .int .u64 y5, .int .i64 y6, .int .i64 y7, .int .i64 y8, .int .i64 y9], .int .i64 e]) ∧ ClkAt w' n kb ab pb cb off week closed ∧ Upd cb w w' := oresume_any ⟨id, co, st, lv, gn, fr, lf, du, tl⟩ ⟨y1, y2, y3, y4, y5, y6, y7, y8, y9⟩ now e w h hn hs.lf hu
theorem oreopen_x {L nx td : Int} (id co st lv gn fr lf du tl y1 y2 y3 y4 y5 y6 y7 y8 y9 now e cal re ba : Int) (w : World) (h : ClkAt w n kb ab pb cb off week closed) (hn : n ≤ w.heap.size) (hq : Kd.C k98 w A ls.length ls ∧ ls.length ≤ k) (hu : reopenT off week closed cal ls re ba ⟨id, co, st, lv, gn, fr, lf, du, tl⟩ now = (⟨y1, y2, y3, y4, y5, y6, y7, y8, y9⟩, e)) :
    Calls Try.prog 26 #[.agg #[.int .u64 id, .int .i64 co, .int .i64 st, .int .i64 lv, .int .u64 gn, .int .i64 fr, .int .i64 lf, .int .i64 du, .int .i64 tl], .pointer (some ⟨kb, 0, none⟩), .agg #[.int .i64 cal, .slice A ls.length k, .int .i64 re, .int .i64 ba], .int .i64 now] w fun r w' => r = .returned (.tuple #[.agg #[.int .u64 y1, .int .i64 y2, .int .i64 y3, .int .i64 y4, .int .u64 y5, .int .i64 y6, .int .i64 y7, .int .i64 y8, .int .i64 y9], .int .i64 e]) ∧ ClkAt w' n kb ab pb cb off week closed ∧ Upd cb w w' := oreopen_any ⟨id, co, st, lv, gn, fr, lf, du, tl⟩ ⟨y1, y2, y3, y4, y5, y6, y7, y8, y9⟩ now e w h hn hq hu
theorem ofire_x {L nx td : Int} (id co st lv gn fr lf du tl y1 y2 y3 y4 y5 y6 y7 y8 y9 now e met cal re ba : Int) (w : World) (h : ClkAt w n kb ab pb cb off week closed) (hn : n ≤ w.heap.size) (hq : Kd.C k98 w A ls.length ls ∧ ls.length ≤ k) (hg : goodP cal ls re ba = true) (hs : Snd off week closed ls.length nx td ⟨id, co, st, lv, gn, fr, lf, du, tl⟩) (ht : 0 ≤ tl ∧ tl ≤ 60) (hu : fireT off week closed cal ls re ba ⟨id, co, st, lv, gn, fr, lf, du, tl⟩ now = (⟨y1, y2, y3, y4, y5, y6, y7, y8, y9⟩, met, e)) :
    Calls Try.prog 27 #[.agg #[.int .u64 id, .int .i64 co, .int .i64 st, .int .i64 lv, .int .u64 gn, .int .i64 fr, .int .i64 lf, .int .i64 du, .int .i64 tl], .pointer (some ⟨kb, 0, none⟩), .agg #[.int .i64 cal, .slice A ls.length k, .int .i64 re, .int .i64 ba], .int .i64 now] w fun r w' => r = .returned (.tuple #[.agg #[.int .u64 y1, .int .i64 y2, .int .i64 y3, .int .i64 y4, .int .u64 y5, .int .i64 y6, .int .i64 y7, .int .i64 y8, .int .i64 y9], .int .i64 met, .int .i64 e]) ∧ ClkAt w' n kb ab pb cb off week closed ∧ Upd cb w w' := ofire_any ⟨id, co, st, lv, gn, fr, lf, du, tl⟩ ⟨y1, y2, y3, y4, y5, y6, y7, y8, y9⟩ now e met w h hn hq hg hs.lv.1 hs.lv.2 ht.1 (Int.le_trans ht.2 (by decide)) hu
theorem oresolve_x (id co st lv gn fr lf du tl y1 y2 y3 y4 y5 y6 y7 y8 y9 e : Int) (w : World) (hu : resolveT ⟨id, co, st, lv, gn, fr, lf, du, tl⟩ = (⟨y1, y2, y3, y4, y5, y6, y7, y8, y9⟩, e)) :
    Calls Try.prog 25 #[.agg #[.int .u64 id, .int .i64 co, .int .i64 st, .int .i64 lv, .int .u64 gn, .int .i64 fr, .int .i64 lf, .int .i64 du, .int .i64 tl]] w fun r w' => r = .returned (.tuple #[.agg #[.int .u64 y1, .int .i64 y2, .int .i64 y3, .int .i64 y4, .int .u64 y5, .int .i64 y6, .int .i64 y7, .int .i64 y8, .int .i64 y9], .int .i64 e]) ∧ Below w.heap.size w w' := oresolve_any ⟨id, co, st, lv, gn, fr, lf, du, tl⟩ ⟨y1, y2, y3, y4, y5, y6, y7, y8, y9⟩ e w hu
end
def tks_T36 : Bool × List (List Nat × List Nat) := (true, [([], []), ([0], [0]), ([], []), ([1, 2], [1, 2]), ([3], [3]), ([4], [4]), ([4], [4]), ([4], [4]), ([6, 7, 4, 4], [4, 6, 7]), ([5, 8, 4], [4, 5, 8]), ([4], [4]), ([10, 4], [4, 10]), ([11, 4], [4, 11]), ([9, 12, 4], [4, 9, 12]), ([4, 13], [4, 13])])
def tks_B36 : List Nat := [0, 1, 0, 7, 15, 31, 31, 31, 223, 511, 31, 1055, 3103, 8191, 16383]
theorem tks_tab36 : rtab .any (opsOf Try.f4 36) = tks_T36 := by kernel_rfl
theorem tks_bits36 : waitsOk tks_T36.2 tks_B36 = true := by kernel_rfl
set_option maxHeartbeats 16000000 in
set_option maxRecDepth 100000 in
theorem tks_e0 {off cal re ba now : Int} {week closed : List S143} {ls : List S98} {acts : List Act2} {A1 A2 A3 A4 : Option Addr} {c1 c2 c3 c4 : Nat} (w : World) (hk1 : Kd.C k143 w A1 week.length week ∧ week.length ≤ c1) (hk2 : Kd.C k143 w A2 closed.length closed ∧ closed.length ≤ c2) (hq : Kd.C k98 w A3 ls.length ls ∧ ls.length ≤ c3) (ha : Kd.C kAct w A4 acts.length acts ∧ acts.length ≤ c4) (hw : ∀ x, x ∈ acts → 0 ≤ x.wt ∧ x.wt ≤ 4294967295)  (t0 : lightQ week closed = false) :
    Calls Try.prog 4 #[.agg #[.int .i64 off, .slice A1 week.length c1, .slice A2 closed.length c2], .agg #[.int .i64 cal, .slice A3 ls.length c3, .int .i64 re, .int .i64 ba], .int .i64 now, .slice A4 acts.length c4] w fun e w' => e = .returned (.bool true) ∧ Below w.heap.size w w' := by
  have R1 := Aside0.mk hk1
  have R2 := Aside0.mk hk2
  have RQ := Aside0.mk hq
  have RA := Aside0.mk ha
  have HWT := Aside0.mk hw
  have hnot : ∀ (x : Bool) (w : World), (Op.unary .not (.bool x)).run Try.prog w = .ok (.bool (!x)) w := fun _ _ => rfl
  have T0 := Aside0.mk t0
  clear t0
  clear hk1 hk2 hq ha hw
  have HB_1 : Aside0 (Below w.heap.size w ((w.alloc (.cells #[.int .i64 off, .slice A1 week.length c1, .slice A2 closed.length c2] 46)).alloc (.cells #[.int .i64 cal, .slice A3 ls.length c3, .int .i64 re, .int .i64 ba] 49))) := ⟨(below_alloc (below_alloc (Below.refl w.heap.size w) (.cells #[.int .i64 off, .slice A1 week.length c1, .slice A2 closed.length c2] 46)) (.cells #[.int .i64 cal, .slice A3 ls.length c3, .int .i64 re, .int .i64 ba] 49))⟩
  have hs_1 : w.heap.size ≤ ((w.alloc (.cells #[.int .i64 off, .slice A1 week.length c1, .slice A2 closed.length c2] 46)).alloc (.cells #[.int .i64 cal, .slice A3 ls.length c3, .int .i64 re, .int .i64 ba] 49)).heap.size := HB_1.out.size
  have Bk_1 : Aside0 (((w.alloc (.cells #[.int .i64 off, .slice A1 week.length c1, .slice A2 closed.length c2] 46)).alloc (.cells #[.int .i64 cal, .slice A3 ls.length c3, .int .i64 re, .int .i64 ba] 49)).heap[w.heap.size]? = some (.cells #[.int .i64 off, .slice A1 week.length c1, .slice A2 closed.length c2] 46 (0, 0))) := ⟨(blk_alloc (blk_new w _) _)⟩
  have Bq_1 : Aside0 (((w.alloc (.cells #[.int .i64 off, .slice A1 week.length c1, .slice A2 closed.length c2] 46)).alloc (.cells #[.int .i64 cal, .slice A3 ls.length c3, .int .i64 re, .int .i64 ba] 49)).heap[w.heap.size + 1]? = some (.cells #[.int .i64 cal, .slice A3 ls.length c3, .int .i64 re, .int .i64 ba] 49 (0, 0))) := ⟨(by simpa using blk_new (w.alloc (.cells #[.int .i64 off, .slice A1 week.length c1, .slice A2 closed.length c2] 46)) (.cells #[.int .i64 cal, .slice A3 ls.length c3, .int .i64 re, .int .i64 ba] 49))⟩
  have hz_1 : w.heap.size + 1 < ((w.alloc (.cells #[.int .i64 off, .slice A1 week.length c1, .slice A2 closed.length c2] 46)).alloc (.cells #[.int .i64 cal, .slice A3 ls.length c3, .int .i64 re, .int .i64 ba] 49)).heap.size := blk_lt Bq_1.out
  go_enter Try.func4, Try.ntmps4
  go_upto_region 1 with fail
  generalize ((w.alloc (.cells #[.int .i64 off, .slice A1 week.length c1, .slice A2 closed.length c2] 46)).alloc (.cells #[.int .i64 cal, .slice A3 ls.length c3, .int .i64 re, .int .i64 ba] 49)) = w1 at HB_1 hs_1 Bk_1 Bq_1 hz_1 ⊢
  obtain ⟨dk0, dk1, dk2⟩ := cells3 Bk_1.out
  obtain ⟨dq0, dq1, dq2, dq3⟩ := cells4 Bq_1.out
  go_wp2_with (first | (go_at_call 19; with_reducible refine (light_is false w1 ⟨Kd.C_below R1.out.1 HB_1.out, R1.out.2⟩ ⟨Kd.C_below R2.out.1 HB_1.out, R2.out.2⟩ T0.out).mono ?_; rintro e w2 ⟨rfl, q1⟩; clear dk0 dk1 dk2 dq0 dq1 dq2 dq3; have HB_2 := Aside0.mk (below_step HB_1.out q1); have hs_2 : w1.heap.size ≤ w2.heap.size := q1.size; have Bk_2 := Aside0.mk (blk_below Bk_1.out q1); have Bq_2 := Aside0.mk (blk_below Bq_1.out q1); clear q1; obtain ⟨dk0, dk1, dk2⟩ := cells3 Bk_2.out; obtain ⟨dq0, dq1, dq2, dq3⟩ := cells4 Bq_2.out) | (go_at_call 8; with_reducible refine (lives16_any w2).mono ?_; rintro e w3 ⟨rfl, q1⟩; clear dk0 dk1 dk2 dq0 dq1 dq2 dq3; have HB_3 := Aside0.mk (below_step HB_2.out q1); have hs_3 : w2.heap.size ≤ w3.heap.size := q1.size; have Bk_3 := Aside0.mk (blk_below Bk_2.out q1); have Bq_3 := Aside0.mk (blk_below Bq_2.out q1); clear q1; obtain ⟨dk0, dk1, dk2⟩ := cells3 Bk_3.out; obtain ⟨dq0, dq1, dq2, dq3⟩ := cells4 Bq_3.out))
  go_ret
  exact ⟨rfl, HB_3.out⟩
set_option maxHeartbeats 16000000 in
set_option maxRecDepth 100000 in
theorem tks_e1 {off cal re ba now : Int} {week closed : List S143} {ls : List S98} {acts : List Act2} {A1 A2 A3 A4 : Option Addr} {c1 c2 c3 c4 : Nat} (w : World) (hk1 : Kd.C k143 w A1 week.length week ∧ week.length ≤ c1) (hk2 : Kd.C k143 w A2 closed.length closed ∧ closed.length ≤ c2) (hq : Kd.C k98 w A3 ls.length ls ∧ ls.length ≤ c3) (ha : Kd.C kAct w A4 acts.length acts ∧ acts.length ≤ c4) (hw : ∀ x, x ∈ acts → 0 ≤ x.wt ∧ x.wt ≤ 4294967295) (t0 : lightQ week closed = true) (t1 : (60 : Int) < ls.length) :
    Calls Try.prog 4 #[.agg #[.int .i64 off, .slice A1 week.length c1, .slice A2 closed.length c2], .agg #[.int .i64 cal, .slice A3 ls.length c3, .int .i64 re, .int .i64 ba], .int .i64 now, .slice A4 acts.length c4] w fun e w' => e = .returned (.bool true) ∧ Below w.heap.size w w' := by
  have R1 := Aside0.mk hk1
  have R2 := Aside0.mk hk2
  have RQ := Aside0.mk hq
  have RA := Aside0.mk ha
  have HWT := Aside0.mk hw
  have hnot : ∀ (x : Bool) (w : World), (Op.unary .not (.bool x)).run Try.prog w = .ok (.bool (!x)) w := fun _ _ => rfl
  have T0 := Aside0.mk t0
  clear t0
  have f1_ : decide ((60 : Int) < ls.length) = true := decide_eq_true t1
  clear hk1 hk2 hq ha hw
  have HB_1 : Aside0 (Below w.heap.size w ((w.alloc (.cells #[.int .i64 off, .slice A1 week.length c1, .slice A2 closed.length c2] 46)).alloc (.cells #[.int .i64 cal, .slice A3 ls.length c3, .int .i64 re, .int .i64 ba] 49))) := ⟨(below_alloc (below_alloc (Below.refl w.heap.size w) (.cells #[.int .i64 off, .slice A1 week.length c1, .slice A2 closed.length c2] 46)) (.cells #[.int .i64 cal, .slice A3 ls.length c3, .int .i64 re, .int .i64 ba] 49))⟩
  have hs_1 : w.heap.size ≤ ((w.alloc (.cells #[.int .i64 off, .slice A1 week.length c1, .slice A2 closed.length c2] 46)).alloc (.cells #[.int .i64 cal, .slice A3 ls.length c3, .int .i64 re, .int .i64 ba] 49)).heap.size := HB_1.out.size
  have Bk_1 : Aside0 (((w.alloc (.cells #[.int .i64 off, .slice A1 week.length c1, .slice A2 closed.length c2] 46)).alloc (.cells #[.int .i64 cal, .slice A3 ls.length c3, .int .i64 re, .int .i64 ba] 49)).heap[w.heap.size]? = some (.cells #[.int .i64 off, .slice A1 week.length c1, .slice A2 closed.length c2] 46 (0, 0))) := ⟨(blk_alloc (blk_new w _) _)⟩
  have Bq_1 : Aside0 (((w.alloc (.cells #[.int .i64 off, .slice A1 week.length c1, .slice A2 closed.length c2] 46)).alloc (.cells #[.int .i64 cal, .slice A3 ls.length c3, .int .i64 re, .int .i64 ba] 49)).heap[w.heap.size + 1]? = some (.cells #[.int .i64 cal, .slice A3 ls.length c3, .int .i64 re, .int .i64 ba] 49 (0, 0))) := ⟨(by simpa using blk_new (w.alloc (.cells #[.int .i64 off, .slice A1 week.length c1, .slice A2 closed.length c2] 46)) (.cells #[.int .i64 cal, .slice A3 ls.length c3, .int .i64 re, .int .i64 ba] 49))⟩
  have hz_1 : w.heap.size + 1 < ((w.alloc (.cells #[.int .i64 off, .slice A1 week.length c1, .slice A2 closed.length c2] 46)).alloc (.cells #[.int .i64 cal, .slice A3 ls.length c3, .int .i64 re, .int .i64 ba] 49)).heap.size := blk_lt Bq_1.out
  go_enter Try.func4, Try.ntmps4
  go_upto_region 1 with fail
  generalize ((w.alloc (.cells #[.int .i64 off, .slice A1 week.length c1, .slice A2 closed.length c2] 46)).alloc (.cells #[.int .i64 cal, .slice A3 ls.length c3, .int .i64 re, .int .i64 ba] 49)) = w1 at HB_1 hs_1 Bk_1 Bq_1 hz_1 ⊢
  obtain ⟨dk0, dk1, dk2⟩ := cells3 Bk_1.out
  obtain ⟨dq0, dq1, dq2, dq3⟩ := cells4 Bq_1.out
  go_wp2_with (first | (go_at_call 19; with_reducible refine (light_is true w1 ⟨Kd.C_below R1.out.1 HB_1.out, R1.out.2⟩ ⟨Kd.C_below R2.out.1 HB_1.out, R2.out.2⟩ T0.out).mono ?_; rintro e w2 ⟨rfl, q1⟩; clear dk0 dk1 dk2 dq0 dq1 dq2 dq3; have HB_2 := Aside0.mk (below_step HB_1.out q1); have hs_2 : w1.heap.size ≤ w2.heap.size := q1.size; have Bk_2 := Aside0.mk (blk_below Bk_1.out q1); have Bq_2 := Aside0.mk (blk_below Bq_1.out q1); clear q1; obtain ⟨dk0, dk1, dk2⟩ := cells3 Bk_2.out; obtain ⟨dq0, dq1, dq2, dq3⟩ := cells4 Bq_2.out) | (go_at_call 8; with_reducible refine (lives16_any w2).mono ?_; rintro e w3 ⟨rfl, q1⟩; clear dk0 dk1 dk2 dq0 dq1 dq2 dq3; have HB_3 := Aside0.mk (below_step HB_2.out q1); have hs_3 : w2.heap.size ≤ w3.heap.size := q1.size; have Bk_3 := Aside0.mk (blk_below Bk_2.out q1); have Bq_3 := Aside0.mk (blk_below Bq_2.out q1); clear q1; obtain ⟨dk0, dk1, dk2⟩ := cells3 Bk_3.out; obtain ⟨dq0, dq1, dq2, dq3⟩ := cells4 Bq_3.out))
  go_ret
  exact ⟨rfl, HB_3.out⟩
set_option maxHeartbeats 16000000 in
set_option maxRecDepth 100000 in
theorem tks_e2 {off cal re ba now : Int} {week closed : List S143} {ls : List S98} {acts : List Act2} {A1 A2 A3 A4 : Option Addr} {c1 c2 c3 c4 : Nat} (w : World) (hk1 : Kd.C k143 w A1 week.length week ∧ week.length ≤ c1) (hk2 : Kd.C k143 w A2 closed.length closed ∧ closed.length ≤ c2) (hq : Kd.C k98 w A3 ls.length ls ∧ ls.length ≤ c3) (ha : Kd.C kAct w A4 acts.length acts ∧ acts.length ≤ c4) (hw : ∀ x, x ∈ acts → 0 ≤ x.wt ∧ x.wt ≤ 4294967295) (t0 : lightQ week closed = true) (t1 : ¬ (60 : Int) < ls.length) (t2 : (60 : Int) < acts.length) :
    Calls Try.prog 4 #[.agg #[.int .i64 off, .slice A1 week.length c1, .slice A2 closed.length c2], .agg #[.int .i64 cal, .slice A3 ls.length c3, .int .i64 re, .int .i64 ba], .int .i64 now, .slice A4 acts.length c4] w fun e w' => e = .returned (.bool true) ∧ Below w.heap.size w w' := by
  have R1 := Aside0.mk hk1
  have R2 := Aside0.mk hk2
  have RQ := Aside0.mk hq
  have RA := Aside0.mk ha
  have HWT := Aside0.mk hw
  have hnot : ∀ (x : Bool) (w : World), (Op.unary .not (.bool x)).run Try.prog w = .ok (.bool (!x)) w := fun _ _ => rfl
  have T0 := Aside0.mk t0
  clear t0
  have f1_ : decide ((60 : Int) < ls.length) = false := decide_eq_false t1
  have f2_ : decide ((60 : Int) < acts.length) = true := decide_eq_true t2
  clear hk1 hk2 hq ha hw
  have HB_1 : Aside0 (Below w.heap.size w ((w.alloc (.cells #[.int .i64 off, .slice A1 week.length c1, .slice A2 closed.length c2] 46)).alloc (.cells #[.int .i64 cal, .slice A3 ls.length c3, .int .i64 re, .int .i64 ba] 49))) := ⟨(below_alloc (below_alloc (Below.refl w.heap.size w) (.cells #[.int .i64 off, .slice A1 week.length c1, .slice A2 closed.length c2] 46)) (.cells #[.int .i64 cal, .slice A3 ls.length c3, .int .i64 re, .int .i64 ba] 49))⟩
  have hs_1 : w.heap.size ≤ ((w.alloc (.cells #[.int .i64 off, .slice A1 week.length c1, .slice A2 closed.length c2] 46)).alloc (.cells #[.int .i64 cal, .slice A3 ls.length c3, .int .i64 re, .int .i64 ba] 49)).heap.size := HB_1.out.size
  have Bk_1 : Aside0 (((w.alloc (.cells #[.int .i64 off, .slice A1 week.length c1, .slice A2 closed.length c2] 46)).alloc (.cells #[.int .i64 cal, .slice A3 ls.length c3, .int .i64 re, .int .i64 ba] 49)).heap[w.heap.size]? = some (.cells #[.int .i64 off, .slice A1 week.length c1, .slice A2 closed.length c2] 46 (0, 0))) := ⟨(blk_alloc (blk_new w _) _)⟩
  have Bq_1 : Aside0 (((w.alloc (.cells #[.int .i64 off, .slice A1 week.length c1, .slice A2 closed.length c2] 46)).alloc (.cells #[.int .i64 cal, .slice A3 ls.length c3, .int .i64 re, .int .i64 ba] 49)).heap[w.heap.size + 1]? = some (.cells #[.int .i64 cal, .slice A3 ls.length c3, .int .i64 re, .int .i64 ba] 49 (0, 0))) := ⟨(by simpa using blk_new (w.alloc (.cells #[.int .i64 off, .slice A1 week.length c1, .slice A2 closed.length c2] 46)) (.cells #[.int .i64 cal, .slice A3 ls.length c3, .int .i64 re, .int .i64 ba] 49))⟩
  have hz_1 : w.heap.size + 1 < ((w.alloc (.cells #[.int .i64 off, .slice A1 week.length c1, .slice A2 closed.length c2] 46)).alloc (.cells #[.int .i64 cal, .slice A3 ls.length c3, .int .i64 re, .int .i64 ba] 49)).heap.size := blk_lt Bq_1.out
  go_enter Try.func4, Try.ntmps4
  go_upto_region 1 with fail
  generalize ((w.alloc (.cells #[.int .i64 off, .slice A1 week.length c1, .slice A2 closed.length c2] 46)).alloc (.cells #[.int .i64 cal, .slice A3 ls.length c3, .int .i64 re, .int .i64 ba] 49)) = w1 at HB_1 hs_1 Bk_1 Bq_1 hz_1 ⊢
  obtain ⟨dk0, dk1, dk2⟩ := cells3 Bk_1.out
  obtain ⟨dq0, dq1, dq2, dq3⟩ := cells4 Bq_1.out
  go_wp2_with (first | (go_at_call 19; with_reducible refine (light_is true w1 ⟨Kd.C_below R1.out.1 HB_1.out, R1.out.2⟩ ⟨Kd.C_below R2.out.1 HB_1.out, R2.out.2⟩ T0.out).mono ?_; rintro e w2 ⟨rfl, q1⟩; clear dk0 dk1 dk2 dq0 dq1 dq2 dq3; have HB_2 := Aside0.mk (below_step HB_1.out q1); have hs_2 : w1.heap.size ≤ w2.heap.size := q1.size; have Bk_2 := Aside0.mk (blk_below Bk_1.out q1); have Bq_2 := Aside0.mk (blk_below Bq_1.out q1); clear q1; obtain ⟨dk0, dk1, dk2⟩ := cells3 Bk_2.out; obtain ⟨dq0, dq1, dq2, dq3⟩ := cells4 Bq_2.out) | (go_at_call 8; with_reducible refine (lives16_any w2).mono ?_; rintro e w3 ⟨rfl, q1⟩; clear dk0 dk1 dk2 dq0 dq1 dq2 dq3; have HB_3 := Aside0.mk (below_step HB_2.out q1); have hs_3 : w2.heap.size ≤ w3.heap.size := q1.size; have Bk_3 := Aside0.mk (blk_below Bk_2.out q1); have Bq_3 := Aside0.mk (blk_below Bq_2.out q1); clear q1; obtain ⟨dk0, dk1, dk2⟩ := cells3 Bk_3.out; obtain ⟨dq0, dq1, dq2, dq3⟩ := cells4 Bq_3.out))
  go_ret
  exact ⟨rfl, HB_3.out⟩
set_option maxHeartbeats 16000000 in
set_option maxRecDepth 100000 in
theorem tks_e3 {off cal re ba now : Int} {week closed : List S143} {ls : List S98} {acts : List Act2} {A1 A2 A3 A4 : Option Addr} {c1 c2 c3 c4 : Nat} (w : World) (hk1 : Kd.C k143 w A1 week.length week ∧ week.length ≤ c1) (hk2 : Kd.C k143 w A2 closed.length closed ∧ closed.length ≤ c2) (hq : Kd.C k98 w A3 ls.length ls ∧ ls.length ≤ c3) (ha : Kd.C kAct w A4 acts.length acts ∧ acts.length ≤ c4) (hw : ∀ x, x ∈ acts → 0 ≤ x.wt ∧ x.wt ≤ 4294967295) (t0 : lightQ week closed = true) (t1 : ¬ (60 : Int) < ls.length) (t2 : ¬ (60 : Int) < acts.length) (t3 : calErr off week closed ≠ 0) :
    Calls Try.prog 4 #[.agg #[.int .i64 off, .slice A1 week.length c1, .slice A2 closed.length c2], .agg #[.int .i64 cal, .slice A3 ls.length c3, .int .i64 re, .int .i64 ba], .int .i64 now, .slice A4 acts.length c4] w fun e w' => e = .returned (.bool true) ∧ Below w.heap.size w w' := by
  have R1 := Aside0.mk hk1
  have R2 := Aside0.mk hk2
  have RQ := Aside0.mk hq
  have RA := Aside0.mk ha
  have HWT := Aside0.mk hw
  have hnot : ∀ (x : Bool) (w : World), (Op.unary .not (.bool x)).run Try.prog w = .ok (.bool (!x)) w := fun _ _ => rfl
  have T0 := Aside0.mk t0
  clear t0
  have f1_ : decide ((60 : Int) < ls.length) = false := decide_eq_false t1
  have f2_ : decide ((60 : Int) < acts.length) = false := decide_eq_false t2
  obtain ⟨ce, hce⟩ : ∃ x, calErr off week closed = x := ⟨_, rfl⟩
  have hne : (ce != 0) = true := bne_iff_ne.mpr (by rw [← hce]; exact t3)
  have T3 := Aside0.mk hce
  clear t3 hce
  clear hk1 hk2 hq ha hw
  have HB_1 : Aside0 (Below w.heap.size w ((w.alloc (.cells #[.int .i64 off, .slice A1 week.length c1, .slice A2 closed.length c2] 46)).alloc (.cells #[.int .i64 cal, .slice A3 ls.length c3, .int .i64 re, .int .i64 ba] 49))) := ⟨(below_alloc (below_alloc (Below.refl w.heap.size w) (.cells #[.int .i64 off, .slice A1 week.length c1, .slice A2 closed.length c2] 46)) (.cells #[.int .i64 cal, .slice A3 ls.length c3, .int .i64 re, .int .i64 ba] 49))⟩
  have hs_1 : w.heap.size ≤ ((w.alloc (.cells #[.int .i64 off, .slice A1 week.length c1, .slice A2 closed.length c2] 46)).alloc (.cells #[.int .i64 cal, .slice A3 ls.length c3, .int .i64 re, .int .i64 ba] 49)).heap.size := HB_1.out.size
  have Bk_1 : Aside0 (((w.alloc (.cells #[.int .i64 off, .slice A1 week.length c1, .slice A2 closed.length c2] 46)).alloc (.cells #[.int .i64 cal, .slice A3 ls.length c3, .int .i64 re, .int .i64 ba] 49)).heap[w.heap.size]? = some (.cells #[.int .i64 off, .slice A1 week.length c1, .slice A2 closed.length c2] 46 (0, 0))) := ⟨(blk_alloc (blk_new w _) _)⟩
  have Bq_1 : Aside0 (((w.alloc (.cells #[.int .i64 off, .slice A1 week.length c1, .slice A2 closed.length c2] 46)).alloc (.cells #[.int .i64 cal, .slice A3 ls.length c3, .int .i64 re, .int .i64 ba] 49)).heap[w.heap.size + 1]? = some (.cells #[.int .i64 cal, .slice A3 ls.length c3, .int .i64 re, .int .i64 ba] 49 (0, 0))) := ⟨(by simpa using blk_new (w.alloc (.cells #[.int .i64 off, .slice A1 week.length c1, .slice A2 closed.length c2] 46)) (.cells #[.int .i64 cal, .slice A3 ls.length c3, .int .i64 re, .int .i64 ba] 49))⟩
  have hz_1 : w.heap.size + 1 < ((w.alloc (.cells #[.int .i64 off, .slice A1 week.length c1, .slice A2 closed.length c2] 46)).alloc (.cells #[.int .i64 cal, .slice A3 ls.length c3, .int .i64 re, .int .i64 ba] 49)).heap.size := blk_lt Bq_1.out
  go_enter Try.func4, Try.ntmps4
  go_upto_region 1 with fail
  generalize ((w.alloc (.cells #[.int .i64 off, .slice A1 week.length c1, .slice A2 closed.length c2] 46)).alloc (.cells #[.int .i64 cal, .slice A3 ls.length c3, .int .i64 re, .int .i64 ba] 49)) = w1 at HB_1 hs_1 Bk_1 Bq_1 hz_1 ⊢
  obtain ⟨dk0, dk1, dk2⟩ := cells3 Bk_1.out
  obtain ⟨dq0, dq1, dq2, dq3⟩ := cells4 Bq_1.out
  go_wp2_with (first | (go_at_call 19; with_reducible refine (light_is true w1 ⟨Kd.C_below R1.out.1 HB_1.out, R1.out.2⟩ ⟨Kd.C_below R2.out.1 HB_1.out, R2.out.2⟩ T0.out).mono ?_; rintro e w2 ⟨rfl, q1⟩; clear dk0 dk1 dk2 dq0 dq1 dq2 dq3; have HB_2 := Aside0.mk (below_step HB_1.out q1); have hs_2 : w1.heap.size ≤ w2.heap.size := q1.size; have Bk_2 := Aside0.mk (blk_below Bk_1.out q1); have Bq_2 := Aside0.mk (blk_below Bq_1.out q1); clear q1; obtain ⟨dk0, dk1, dk2⟩ := cells3 Bk_2.out; obtain ⟨dq0, dq1, dq2, dq3⟩ := cells4 Bq_2.out) | (go_at_call 20; with_reducible refine (refcheck_is ce w2 ⟨Kd.C_below R1.out.1 HB_2.out, R1.out.2⟩ ⟨Kd.C_below R2.out.1 HB_2.out, R2.out.2⟩ T3.out).mono ?_; rintro e w3 ⟨rfl, q1⟩; clear dk0 dk1 dk2 dq0 dq1 dq2 dq3; have HB_3 := Aside0.mk (below_step HB_2.out q1); have hs_3 : w2.heap.size ≤ w3.heap.size := q1.size; have Bk_3 := Aside0.mk (blk_below Bk_2.out q1); have Bq_3 := Aside0.mk (blk_below Bq_2.out q1); clear q1; obtain ⟨dk0, dk1, dk2⟩ := cells3 Bk_3.out; obtain ⟨dq0, dq1, dq2, dq3⟩ := cells4 Bq_3.out) | (go_at_call 8; with_reducible refine (lives16_any w3).mono ?_; rintro e w4 ⟨rfl, q1⟩; clear dk0 dk1 dk2 dq0 dq1 dq2 dq3; have HB_4 := Aside0.mk (below_step HB_3.out q1); have hs_4 : w3.heap.size ≤ w4.heap.size := q1.size; have Bk_4 := Aside0.mk (blk_below Bk_3.out q1); have Bq_4 := Aside0.mk (blk_below Bq_3.out q1); clear q1; obtain ⟨dk0, dk1, dk2⟩ := cells3 Bk_4.out; obtain ⟨dq0, dq1, dq2, dq3⟩ := cells4 Bq_4.out))
  go_ret
  exact ⟨rfl, HB_4.out⟩
set_option maxHeartbeats 16000000 in
set_option maxRecDepth 100000 in
theorem tks_e4 {off cal re ba now : Int} {week closed : List S143} {ls : List S98} {acts : List Act2} {A1 A2 A3 A4 : Option Addr} {c1 c2 c3 c4 : Nat} (w : World) (hk1 : Kd.C k143 w A1 week.length week ∧ week.length ≤ c1) (hk2 : Kd.C k143 w A2 closed.length closed ∧ closed.length ≤ c2) (hq : Kd.C k98 w A3 ls.length ls ∧ ls.length ≤ c3) (ha : Kd.C kAct w A4 acts.length acts ∧ acts.length ≤ c4) (hw : ∀ x, x ∈ acts → 0 ≤ x.wt ∧ x.wt ≤ 4294967295) (t0 : lightQ week closed = true) (t1 : ¬ (60 : Int) < ls.length) (t2 : ¬ (60 : Int) < acts.length) (t3 : calErr off week closed = 0) (t4 : goodP cal ls re ba = false) :
    Calls Try.prog 4 #[.agg #[.int .i64 off, .slice A1 week.length c1, .slice A2 closed.length c2], .agg #[.int .i64 cal, .slice A3 ls.length c3, .int .i64 re, .int .i64 ba], .int .i64 now, .slice A4 acts.length c4] w fun e w' => e = .returned (.bool true) ∧ Below w.heap.size w w' := by
  have R1 := Aside0.mk hk1
  have R2 := Aside0.mk hk2
  have RQ := Aside0.mk hq
  have RA := Aside0.mk ha
  have HWT := Aside0.mk hw
  have hnot : ∀ (x : Bool) (w : World), (Op.unary .not (.bool x)).run Try.prog w = .ok (.bool (!x)) w := fun _ _ => rfl
  have T0 := Aside0.mk t0
  clear t0
  have f1_ : decide ((60 : Int) < ls.length) = false := decide_eq_false t1
  have f2_ : decide ((60 : Int) < acts.length) = false := decide_eq_false t2
  have T3 := Aside0.mk t3
  clear t3
  have T4 := Aside0.mk t4
  clear t4
  clear hk1 hk2 hq ha hw
  have HB_1 : Aside0 (Below w.heap.size w ((w.alloc (.cells #[.int .i64 off, .slice A1 week.length c1, .slice A2 closed.length c2] 46)).alloc (.cells #[.int .i64 cal, .slice A3 ls.length c3, .int .i64 re, .int .i64 ba] 49))) := ⟨(below_alloc (below_alloc (Below.refl w.heap.size w) (.cells #[.int .i64 off, .slice A1 week.length c1, .slice A2 closed.length c2] 46)) (.cells #[.int .i64 cal, .slice A3 ls.length c3, .int .i64 re, .int .i64 ba] 49))⟩
  have hs_1 : w.heap.size ≤ ((w.alloc (.cells #[.int .i64 off, .slice A1 week.length c1, .slice A2 closed.length c2] 46)).alloc (.cells #[.int .i64 cal, .slice A3 ls.length c3, .int .i64 re, .int .i64 ba] 49)).heap.size := HB_1.out.size
  have Bk_1 : Aside0 (((w.alloc (.cells #[.int .i64 off, .slice A1 week.length c1, .slice A2 closed.length c2] 46)).alloc (.cells #[.int .i64 cal, .slice A3 ls.length c3, .int .i64 re, .int .i64 ba] 49)).heap[w.heap.size]? = some (.cells #[.int .i64 off, .slice A1 week.length c1, .slice A2 closed.length c2] 46 (0, 0))) := ⟨(blk_alloc (blk_new w _) _)⟩
  have Bq_1 : Aside0 (((w.alloc (.cells #[.int .i64 off, .slice A1 week.length c1, .slice A2 closed.length c2] 46)).alloc (.cells #[.int .i64 cal, .slice A3 ls.length c3, .int .i64 re, .int .i64 ba] 49)).heap[w.heap.size + 1]? = some (.cells #[.int .i64 cal, .slice A3 ls.length c3, .int .i64 re, .int .i64 ba] 49 (0, 0))) := ⟨(by simpa using blk_new (w.alloc (.cells #[.int .i64 off, .slice A1 week.length c1, .slice A2 closed.length c2] 46)) (.cells #[.int .i64 cal, .slice A3 ls.length c3, .int .i64 re, .int .i64 ba] 49))⟩
  have hz_1 : w.heap.size + 1 < ((w.alloc (.cells #[.int .i64 off, .slice A1 week.length c1, .slice A2 closed.length c2] 46)).alloc (.cells #[.int .i64 cal, .slice A3 ls.length c3, .int .i64 re, .int .i64 ba] 49)).heap.size := blk_lt Bq_1.out
  go_enter Try.func4, Try.ntmps4
  go_upto_region 1 with fail
  generalize ((w.alloc (.cells #[.int .i64 off, .slice A1 week.length c1, .slice A2 closed.length c2] 46)).alloc (.cells #[.int .i64 cal, .slice A3 ls.length c3, .int .i64 re, .int .i64 ba] 49)) = w1 at HB_1 hs_1 Bk_1 Bq_1 hz_1 ⊢
  obtain ⟨dk0, dk1, dk2⟩ := cells3 Bk_1.out
  obtain ⟨dq0, dq1, dq2, dq3⟩ := cells4 Bq_1.out
  go_wp2_with (first | (go_at_call 19; with_reducible refine (light_is true w1 ⟨Kd.C_below R1.out.1 HB_1.out, R1.out.2⟩ ⟨Kd.C_below R2.out.1 HB_1.out, R2.out.2⟩ T0.out).mono ?_; rintro e w2 ⟨rfl, q1⟩; clear dk0 dk1 dk2 dq0 dq1 dq2 dq3; have HB_2 := Aside0.mk (below_step HB_1.out q1); have hs_2 : w1.heap.size ≤ w2.heap.size := q1.size; have Bk_2 := Aside0.mk (blk_below Bk_1.out q1); have Bq_2 := Aside0.mk (blk_below Bq_1.out q1); clear q1; obtain ⟨dk0, dk1, dk2⟩ := cells3 Bk_2.out; obtain ⟨dq0, dq1, dq2, dq3⟩ := cells4 Bq_2.out) | (go_at_call 20; with_reducible refine (refcheck_is 0 w2 ⟨Kd.C_below R1.out.1 HB_2.out, R1.out.2⟩ ⟨Kd.C_below R2.out.1 HB_2.out, R2.out.2⟩ T3.out).mono ?_; rintro e w3 ⟨rfl, q1⟩; clear dk0 dk1 dk2 dq0 dq1 dq2 dq3; have HB_3 := Aside0.mk (below_step HB_2.out q1); have hs_3 : w2.heap.size ≤ w3.heap.size := q1.size; have Bk_3 := Aside0.mk (blk_below Bk_2.out q1); have Bq_3 := Aside0.mk (blk_below Bq_2.out q1); clear q1; obtain ⟨dk0, dk1, dk2⟩ := cells3 Bk_3.out; obtain ⟨dq0, dq1, dq2, dq3⟩ := cells4 Bq_3.out) | (go_at_call 21; with_reducible refine (good14_is false w3 ⟨Kd.C_below RQ.out.1 HB_3.out, RQ.out.2⟩ T4.out).mono ?_; rintro e w4 ⟨rfl, q1⟩; clear dk0 dk1 dk2 dq0 dq1 dq2 dq3; have HB_4 := Aside0.mk (below_step HB_3.out q1); have hs_4 : w3.heap.size ≤ w4.heap.size := q1.size; have Bk_4 := Aside0.mk (blk_below Bk_3.out q1); have Bq_4 := Aside0.mk (blk_below Bq_3.out q1); clear q1; obtain ⟨dk0, dk1, dk2⟩ := cells3 Bk_4.out; obtain ⟨dq0, dq1, dq2, dq3⟩ := cells4 Bq_4.out) | (go_at_call 8; with_reducible refine (lives16_any w4).mono ?_; rintro e w5 ⟨rfl, q1⟩; clear dk0 dk1 dk2 dq0 dq1 dq2 dq3; have HB_5 := Aside0.mk (below_step HB_4.out q1); have hs_5 : w4.heap.size ≤ w5.heap.size := q1.size; have Bk_5 := Aside0.mk (blk_below Bk_4.out q1); have Bq_5 := Aside0.mk (blk_below Bq_4.out q1); clear q1; obtain ⟨dk0, dk1, dk2⟩ := cells3 Bk_5.out; obtain ⟨dq0, dq1, dq2, dq3⟩ := cells4 Bq_5.out))
  go_ret
  exact ⟨rfl, HB_5.out⟩
set_option maxHeartbeats 16000000 in
set_option maxRecDepth 100000 in
theorem tks_e5 {off cal re ba now : Int} {week closed : List S143} {ls : List S98} {acts : List Act2} {A1 A2 A3 A4 : Option Addr} {c1 c2 c3 c4 : Nat} (w : World) (hk1 : Kd.C k143 w A1 week.length week ∧ week.length ≤ c1) (hk2 : Kd.C k143 w A2 closed.length closed ∧ closed.length ≤ c2) (hq : Kd.C k98 w A3 ls.length ls ∧ ls.length ≤ c3) (ha : Kd.C kAct w A4 acts.length acts ∧ acts.length ≤ c4) (hw : ∀ x, x ∈ acts → 0 ≤ x.wt ∧ x.wt ≤ 4294967295) (t0 : lightQ week closed = true) (t1 : ¬ (60 : Int) < ls.length) (t2 : ¬ (60 : Int) < acts.length) (t3 : calErr off week closed = 0) (t4 : goodP cal ls re ba = true) (t5 : now < 0) :
    Calls Try.prog 4 #[.agg #[.int .i64 off, .slice A1 week.length c1, .slice A2 closed.length c2], .agg #[.int .i64 cal, .slice A3 ls.length c3, .int .i64 re, .int .i64 ba], .int .i64 now, .slice A4 acts.length c4] w fun e w' => e = .returned (.bool true) ∧ Below w.heap.size w w' := by
  have R1 := Aside0.mk hk1
  have R2 := Aside0.mk hk2
  have RQ := Aside0.mk hq
  have RA := Aside0.mk ha
  have HWT := Aside0.mk hw
  have hnot : ∀ (x : Bool) (w : World), (Op.unary .not (.bool x)).run Try.prog w = .ok (.bool (!x)) w := fun _ _ => rfl
  have T0 := Aside0.mk t0
  clear t0
  have f1_ : decide ((60 : Int) < ls.length) = false := decide_eq_false t1
  have f2_ : decide ((60 : Int) < acts.length) = false := decide_eq_false t2
  have T3 := Aside0.mk t3
  clear t3
  have T4 := Aside0.mk t4
  clear t4
  have f5_ : decide (now < 0) = true := decide_eq_true t5
  clear hk1 hk2 hq ha hw
  have HB_1 : Aside0 (Below w.heap.size w ((w.alloc (.cells #[.int .i64 off, .slice A1 week.length c1, .slice A2 closed.length c2] 46)).alloc (.cells #[.int .i64 cal, .slice A3 ls.length c3, .int .i64 re, .int .i64 ba] 49))) := ⟨(below_alloc (below_alloc (Below.refl w.heap.size w) (.cells #[.int .i64 off, .slice A1 week.length c1, .slice A2 closed.length c2] 46)) (.cells #[.int .i64 cal, .slice A3 ls.length c3, .int .i64 re, .int .i64 ba] 49))⟩
  have hs_1 : w.heap.size ≤ ((w.alloc (.cells #[.int .i64 off, .slice A1 week.length c1, .slice A2 closed.length c2] 46)).alloc (.cells #[.int .i64 cal, .slice A3 ls.length c3, .int .i64 re, .int .i64 ba] 49)).heap.size := HB_1.out.size
  have Bk_1 : Aside0 (((w.alloc (.cells #[.int .i64 off, .slice A1 week.length c1, .slice A2 closed.length c2] 46)).alloc (.cells #[.int .i64 cal, .slice A3 ls.length c3, .int .i64 re, .int .i64 ba] 49)).heap[w.heap.size]? = some (.cells #[.int .i64 off, .slice A1 week.length c1, .slice A2 closed.length c2] 46 (0, 0))) := ⟨(blk_alloc (blk_new w _) _)⟩
  have Bq_1 : Aside0 (((w.alloc (.cells #[.int .i64 off, .slice A1 week.length c1, .slice A2 closed.length c2] 46)).alloc (.cells #[.int .i64 cal, .slice A3 ls.length c3, .int .i64 re, .int .i64 ba] 49)).heap[w.heap.size + 1]? = some (.cells #[.int .i64 cal, .slice A3 ls.length c3, .int .i64 re, .int .i64 ba] 49 (0, 0))) := ⟨(by simpa using blk_new (w.alloc (.cells #[.int .i64 off, .slice A1 week.length c1, .slice A2 closed.length c2] 46)) (.cells #[.int .i64 cal, .slice A3 ls.length c3, .int .i64 re, .int .i64 ba] 49))⟩
  have hz_1 : w.heap.size + 1 < ((w.alloc (.cells #[.int .i64 off, .slice A1 week.length c1, .slice A2 closed.length c2] 46)).alloc (.cells #[.int .i64 cal, .slice A3 ls.length c3, .int .i64 re, .int .i64 ba] 49)).heap.size := blk_lt Bq_1.out
  go_enter Try.func4, Try.ntmps4
  go_upto_region 1 with fail
  generalize ((w.alloc (.cells #[.int .i64 off, .slice A1 week.length c1, .slice A2 closed.length c2] 46)).alloc (.cells #[.int .i64 cal, .slice A3 ls.length c3, .int .i64 re, .int .i64 ba] 49)) = w1 at HB_1 hs_1 Bk_1 Bq_1 hz_1 ⊢
  obtain ⟨dk0, dk1, dk2⟩ := cells3 Bk_1.out
  obtain ⟨dq0, dq1, dq2, dq3⟩ := cells4 Bq_1.out
  go_wp2_with (first | (go_at_call 19; with_reducible refine (light_is true w1 ⟨Kd.C_below R1.out.1 HB_1.out, R1.out.2⟩ ⟨Kd.C_below R2.out.1 HB_1.out, R2.out.2⟩ T0.out).mono ?_; rintro e w2 ⟨rfl, q1⟩; clear dk0 dk1 dk2 dq0 dq1 dq2 dq3; have HB_2 := Aside0.mk (below_step HB_1.out q1); have hs_2 : w1.heap.size ≤ w2.heap.size := q1.size; have Bk_2 := Aside0.mk (blk_below Bk_1.out q1); have Bq_2 := Aside0.mk (blk_below Bq_1.out q1); clear q1; obtain ⟨dk0, dk1, dk2⟩ := cells3 Bk_2.out; obtain ⟨dq0, dq1, dq2, dq3⟩ := cells4 Bq_2.out) | (go_at_call 20; with_reducible refine (refcheck_is 0 w2 ⟨Kd.C_below R1.out.1 HB_2.out, R1.out.2⟩ ⟨Kd.C_below R2.out.1 HB_2.out, R2.out.2⟩ T3.out).mono ?_; rintro e w3 ⟨rfl, q1⟩; clear dk0 dk1 dk2 dq0 dq1 dq2 dq3; have HB_3 := Aside0.mk (below_step HB_2.out q1); have hs_3 : w2.heap.size ≤ w3.heap.size := q1.size; have Bk_3 := Aside0.mk (blk_below Bk_2.out q1); have Bq_3 := Aside0.mk (blk_below Bq_2.out q1); clear q1; obtain ⟨dk0, dk1, dk2⟩ := cells3 Bk_3.out; obtain ⟨dq0, dq1, dq2, dq3⟩ := cells4 Bq_3.out) | (go_at_call 21; with_reducible refine (good14_is true w3 ⟨Kd.C_below RQ.out.1 HB_3.out, RQ.out.2⟩ T4.out).mono ?_; rintro e w4 ⟨rfl, q1⟩; clear dk0 dk1 dk2 dq0 dq1 dq2 dq3; have HB_4 := Aside0.mk (below_step HB_3.out q1); have hs_4 : w3.heap.size ≤ w4.heap.size := q1.size; have Bk_4 := Aside0.mk (blk_below Bk_3.out q1); have Bq_4 := Aside0.mk (blk_below Bq_3.out q1); clear q1; obtain ⟨dk0, dk1, dk2⟩ := cells3 Bk_4.out; obtain ⟨dq0, dq1, dq2, dq3⟩ := cells4 Bq_4.out) | (go_at_call 8; with_reducible refine (lives16_any w4).mono ?_; rintro e w5 ⟨rfl, q1⟩; clear dk0 dk1 dk2 dq0 dq1 dq2 dq3; have HB_5 := Aside0.mk (below_step HB_4.out q1); have hs_5 : w4.heap.size ≤ w5.heap.size := q1.size; have Bk_5 := Aside0.mk (blk_below Bk_4.out q1); have Bq_5 := Aside0.mk (blk_below Bq_4.out q1); clear q1; obtain ⟨dk0, dk1, dk2⟩ := cells3 Bk_5.out; obtain ⟨dq0, dq1, dq2, dq3⟩ := cells4 Bq_5.out))
  go_ret
  exact ⟨rfl, HB_5.out⟩
set_option maxHeartbeats 16000000 in
set_option maxRecDepth 100000 in
theorem tks_e6 {off cal re ba now : Int} {week closed : List S143} {ls : List S98} {acts : List Act2} {A1 A2 A3 A4 : Option Addr} {c1 c2 c3 c4 : Nat} (w : World) (hk1 : Kd.C k143 w A1 week.length week ∧ week.length ≤ c1) (hk2 : Kd.C k143 w A2 closed.length closed ∧ closed.length ≤ c2) (hq : Kd.C k98 w A3 ls.length ls ∧ ls.length ≤ c3) (ha : Kd.C kAct w A4 acts.length acts ∧ acts.length ≤ c4) (hw : ∀ x, x ∈ acts → 0 ≤ x.wt ∧ x.wt ≤ 4294967295) (t0 : lightQ week closed = true) (t1 : ¬ (60 : Int) < ls.length) (t2 : ¬ (60 : Int) < acts.length) (t3 : calErr off week closed = 0) (t4 : goodP cal ls re ba = true) (t5 : ¬ now < 0) (t6 : 1125899906842624 < now) :
    Calls Try.prog 4 #[.agg #[.int .i64 off, .slice A1 week.length c1, .slice A2 closed.length c2], .agg #[.int .i64 cal, .slice A3 ls.length c3, .int .i64 re, .int .i64 ba], .int .i64 now, .slice A4 acts.length c4] w fun e w' => e = .returned (.bool true) ∧ Below w.heap.size w w' := by
  have R1 := Aside0.mk hk1
  have R2 := Aside0.mk hk2
  have RQ := Aside0.mk hq
  have RA := Aside0.mk ha
  have HWT := Aside0.mk hw
  have hnot : ∀ (x : Bool) (w : World), (Op.unary .not (.bool x)).run Try.prog w = .ok (.bool (!x)) w := fun _ _ => rfl
  have T0 := Aside0.mk t0
  clear t0
  have f1_ : decide ((60 : Int) < ls.length) = false := decide_eq_false t1
  have f2_ : decide ((60 : Int) < acts.length) = false := decide_eq_false t2
  have T3 := Aside0.mk t3
  clear t3
  have T4 := Aside0.mk t4
  clear t4
  have f5_ : decide (now < 0) = false := decide_eq_false t5
  have f6_ : decide (1125899906842624 < now) = true := decide_eq_true t6
  clear hk1 hk2 hq ha hw
  have HB_1 : Aside0 (Below w.heap.size w ((w.alloc (.cells #[.int .i64 off, .slice A1 week.length c1, .slice A2 closed.length c2] 46)).alloc (.cells #[.int .i64 cal, .slice A3 ls.length c3, .int .i64 re, .int .i64 ba] 49))) := ⟨(below_alloc (below_alloc (Below.refl w.heap.size w) (.cells #[.int .i64 off, .slice A1 week.length c1, .slice A2 closed.length c2] 46)) (.cells #[.int .i64 cal, .slice A3 ls.length c3, .int .i64 re, .int .i64 ba] 49))⟩
  have hs_1 : w.heap.size ≤ ((w.alloc (.cells #[.int .i64 off, .slice A1 week.length c1, .slice A2 closed.length c2] 46)).alloc (.cells #[.int .i64 cal, .slice A3 ls.length c3, .int .i64 re, .int .i64 ba] 49)).heap.size := HB_1.out.size
  have Bk_1 : Aside0 (((w.alloc (.cells #[.int .i64 off, .slice A1 week.length c1, .slice A2 closed.length c2] 46)).alloc (.cells #[.int .i64 cal, .slice A3 ls.length c3, .int .i64 re, .int .i64 ba] 49)).heap[w.heap.size]? = some (.cells #[.int .i64 off, .slice A1 week.length c1, .slice A2 closed.length c2] 46 (0, 0))) := ⟨(blk_alloc (blk_new w _) _)⟩
  have Bq_1 : Aside0 (((w.alloc (.cells #[.int .i64 off, .slice A1 week.length c1, .slice A2 closed.length c2] 46)).alloc (.cells #[.int .i64 cal, .slice A3 ls.length c3, .int .i64 re, .int .i64 ba] 49)).heap[w.heap.size + 1]? = some (.cells #[.int .i64 cal, .slice A3 ls.length c3, .int .i64 re, .int .i64 ba] 49 (0, 0))) := ⟨(by simpa using blk_new (w.alloc (.cells #[.int .i64 off, .slice A1 week.length c1, .slice A2 closed.length c2] 46)) (.cells #[.int .i64 cal, .slice A3 ls.length c3, .int .i64 re, .int .i64 ba] 49))⟩
  have hz_1 : w.heap.size + 1 < ((w.alloc (.cells #[.int .i64 off, .slice A1 week.length c1, .slice A2 closed.length c2] 46)).alloc (.cells #[.int .i64 cal, .slice A3 ls.length c3, .int .i64 re, .int .i64 ba] 49)).heap.size := blk_lt Bq_1.out
  go_enter Try.func4, Try.ntmps4
  go_upto_region 1 with fail
  generalize ((w.alloc (.cells #[.int .i64 off, .slice A1 week.length c1, .slice A2 closed.length c2] 46)).alloc (.cells #[.int .i64 cal, .slice A3 ls.length c3, .int .i64 re, .int .i64 ba] 49)) = w1 at HB_1 hs_1 Bk_1 Bq_1 hz_1 ⊢
  obtain ⟨dk0, dk1, dk2⟩ := cells3 Bk_1.out
  obtain ⟨dq0, dq1, dq2, dq3⟩ := cells4 Bq_1.out
  go_wp2_with (first | (go_at_call 19; with_reducible refine (light_is true w1 ⟨Kd.C_below R1.out.1 HB_1.out, R1.out.2⟩ ⟨Kd.C_below R2.out.1 HB_1.out, R2.out.2⟩ T0.out).mono ?_; rintro e w2 ⟨rfl, q1⟩; clear dk0 dk1 dk2 dq0 dq1 dq2 dq3; have HB_2 := Aside0.mk (below_step HB_1.out q1); have hs_2 : w1.heap.size ≤ w2.heap.size := q1.size; have Bk_2 := Aside0.mk (blk_below Bk_1.out q1); have Bq_2 := Aside0.mk (blk_below Bq_1.out q1); clear q1; obtain ⟨dk0, dk1, dk2⟩ := cells3 Bk_2.out; obtain ⟨dq0, dq1, dq2, dq3⟩ := cells4 Bq_2.out) | (go_at_call 20; with_reducible refine (refcheck_is 0 w2 ⟨Kd.C_below R1.out.1 HB_2.out, R1.out.2⟩ ⟨Kd.C_below R2.out.1 HB_2.out, R2.out.2⟩ T3.out).mono ?_; rintro e w3 ⟨rfl, q1⟩; clear dk0 dk1 dk2 dq0 dq1 dq2 dq3; have HB_3 := Aside0.mk (below_step HB_2.out q1); have hs_3 : w2.heap.size ≤ w3.heap.size := q1.size; have Bk_3 := Aside0.mk (blk_below Bk_2.out q1); have Bq_3 := Aside0.mk (blk_below Bq_2.out q1); clear q1; obtain ⟨dk0, dk1, dk2⟩ := cells3 Bk_3.out; obtain ⟨dq0, dq1, dq2, dq3⟩ := cells4 Bq_3.out) | (go_at_call 21; with_reducible refine (good14_is true w3 ⟨Kd.C_below RQ.out.1 HB_3.out, RQ.out.2⟩ T4.out).mono ?_; rintro e w4 ⟨rfl, q1⟩; clear dk0 dk1 dk2 dq0 dq1 dq2 dq3; have HB_4 := Aside0.mk (below_step HB_3.out q1); have hs_4 : w3.heap.size ≤ w4.heap.size := q1.size; have Bk_4 := Aside0.mk (blk_below Bk_3.out q1); have Bq_4 := Aside0.mk (blk_below Bq_3.out q1); clear q1; obtain ⟨dk0, dk1, dk2⟩ := cells3 Bk_4.out; obtain ⟨dq0, dq1, dq2, dq3⟩ := cells4 Bq_4.out) | (go_at_call 8; with_reducible refine (lives16_any w4).mono ?_; rintro e w5 ⟨rfl, q1⟩; clear dk0 dk1 dk2 dq0 dq1 dq2 dq3; have HB_5 := Aside0.mk (below_step HB_4.out q1); have hs_5 : w4.heap.size ≤ w5.heap.size := q1.size; have Bk_5 := Aside0.mk (blk_below Bk_4.out q1); have Bq_5 := Aside0.mk (blk_below Bq_4.out q1); clear q1; obtain ⟨dk0, dk1, dk2⟩ := cells3 Bk_5.out; obtain ⟨dq0, dq1, dq2, dq3⟩ := cells4 Bq_5.out))
  go_ret
  exact ⟨rfl, HB_5.out⟩
set_option maxHeartbeats 16000000 in
set_option maxRecDepth 100000 in
theorem tks_open {off cal re ba now : Int} {week closed : List S143} {ls : List S98} {acts : List Act2} {A1 A2 A3 A4 : Option Addr} {c1 c2 c3 c4 : Nat} (w : World) (hk1 : Kd.C k143 w A1 week.length week ∧ week.length ≤ c1) (hk2 : Kd.C k143 w A2 closed.length closed ∧ closed.length ≤ c2) (hq : Kd.C k98 w A3 ls.length ls ∧ ls.length ≤ c3) (ha : Kd.C kAct w A4 acts.length acts ∧ acts.length ≤ c4) (hw : ∀ x, x ∈ acts → 0 ≤ x.wt ∧ x.wt ≤ 4294967295) (t0 : lightQ week closed = true) (t1 : ¬ (60 : Int) < ls.length) (t2 : ¬ (60 : Int) < acts.length) (t3 : calErr off week closed = 0) (t4 : goodP cal ls re ba = true) (t5 : ¬ now < 0) (t6 : ¬ 1125899906842624 < now) {a b c d e : Int} (hd : firstP off week closed cal ls re ba now = (a, b, c, d, e)) (he : e ≠ 0) :
    Calls Try.prog 4 #[.agg #[.int .i64 off, .slice A1 week.length c1, .slice A2 closed.length c2], .agg #[.int .i64 cal, .slice A3 ls.length c3, .int .i64 re, .int .i64 ba], .int .i64 now, .slice A4 acts.length c4] w fun e w' => e = .returned (.bool true) ∧ Below w.heap.size w w' := by
  have HD := Aside0.mk hd
  have hne : (e != 0) = true := bne_iff_ne.mpr he
  have HWE : Aside0 (ticket_with.f 1 2 0 0 0 0 0 0 0 1 a b c d e = some (0, 0, 0, 0, 0, 0, 0, 0, 0, e)) := ⟨by unfold ticket_with.f; rw [if_neg he]⟩
  clear hd he
  have R1 := Aside0.mk hk1
  have R2 := Aside0.mk hk2
  have RQ := Aside0.mk hq
  have RA := Aside0.mk ha
  have HWT := Aside0.mk hw
  have hnot : ∀ (x : Bool) (w : World), (Op.unary .not (.bool x)).run Try.prog w = .ok (.bool (!x)) w := fun _ _ => rfl
  have T0 := Aside0.mk t0
  clear t0
  have f1_ : decide ((60 : Int) < ls.length) = false := decide_eq_false t1
  have f2_ : decide ((60 : Int) < acts.length) = false := decide_eq_false t2
  have T3 := Aside0.mk t3
  clear t3
  have T4 := Aside0.mk t4
  clear t4
  have f5_ : decide (now < 0) = false := decide_eq_false t5
  have f6_ : decide (1125899906842624 < now) = false := decide_eq_false t6
  clear hk1 hk2 hq ha hw
  have HB_1 : Aside0 (Below w.heap.size w ((w.alloc (.cells #[.int .i64 off, .slice A1 week.length c1, .slice A2 closed.length c2] 46)).alloc (.cells #[.int .i64 cal, .slice A3 ls.length c3, .int .i64 re, .int .i64 ba] 49))) := ⟨(below_alloc (below_alloc (Below.refl w.heap.size w) (.cells #[.int .i64 off, .slice A1 week.length c1, .slice A2 closed.length c2] 46)) (.cells #[.int .i64 cal, .slice A3 ls.length c3, .int .i64 re, .int .i64 ba] 49))⟩
  have hs_1 : w.heap.size ≤ ((w.alloc (.cells #[.int .i64 off, .slice A1 week.length c1, .slice A2 closed.length c2] 46)).alloc (.cells #[.int .i64 cal, .slice A3 ls.length c3, .int .i64 re, .int .i64 ba] 49)).heap.size := HB_1.out.size
  have Bk_1 : Aside0 (((w.alloc (.cells #[.int .i64 off, .slice A1 week.length c1, .slice A2 closed.length c2] 46)).alloc (.cells #[.int .i64 cal, .slice A3 ls.length c3, .int .i64 re, .int .i64 ba] 49)).heap[w.heap.size]? = some (.cells #[.int .i64 off, .slice A1 week.length c1, .slice A2 closed.length c2] 46 (0, 0))) := ⟨(blk_alloc (blk_new w _) _)⟩
  have Bq_1 : Aside0 (((w.alloc (.cells #[.int .i64 off, .slice A1 week.length c1, .slice A2 closed.length c2] 46)).alloc (.cells #[.int .i64 cal, .slice A3 ls.length c3, .int .i64 re, .int .i64 ba] 49)).heap[w.heap.size + 1]? = some (.cells #[.int .i64 cal, .slice A3 ls.length c3, .int .i64 re, .int .i64 ba] 49 (0, 0))) := ⟨(by simpa using blk_new (w.alloc (.cells #[.int .i64 off, .slice A1 week.length c1, .slice A2 closed.length c2] 46)) (.cells #[.int .i64 cal, .slice A3 ls.length c3, .int .i64 re, .int .i64 ba] 49))⟩
  have hz_1 : w.heap.size + 1 < ((w.alloc (.cells #[.int .i64 off, .slice A1 week.length c1, .slice A2 closed.length c2] 46)).alloc (.cells #[.int .i64 cal, .slice A3 ls.length c3, .int .i64 re, .int .i64 ba] 49)).heap.size := blk_lt Bq_1.out
  go_enter Try.func4, Try.ntmps4
  go_upto_region 1 with fail
  generalize ((w.alloc (.cells #[.int .i64 off, .slice A1 week.length c1, .slice A2 closed.length c2] 46)).alloc (.cells #[.int .i64 cal, .slice A3 ls.length c3, .int .i64 re, .int .i64 ba] 49)) = w1 at HB_1 hs_1 Bk_1 Bq_1 hz_1 ⊢
  obtain ⟨dk0, dk1, dk2⟩ := cells3 Bk_1.out
  obtain ⟨dq0, dq1, dq2, dq3⟩ := cells4 Bq_1.out
  go_upto_region 3 with (first | (go_at_call 19; with_reducible refine (light_is true w1 ⟨Kd.C_below R1.out.1 HB_1.out, R1.out.2⟩ ⟨Kd.C_below R2.out.1 HB_1.out, R2.out.2⟩ T0.out).mono ?_; rintro e w2 ⟨rfl, q1⟩; clear dk0 dk1 dk2 dq0 dq1 dq2 dq3; have HB_2 := Aside0.mk (below_step HB_1.out q1); have hs_2 : w1.heap.size ≤ w2.heap.size := q1.size; have Bk_2 := Aside0.mk (blk_below Bk_1.out q1); have Bq_2 := Aside0.mk (blk_below Bq_1.out q1); clear q1; obtain ⟨dk0, dk1, dk2⟩ := cells3 Bk_2.out; obtain ⟨dq0, dq1, dq2, dq3⟩ := cells4 Bq_2.out) | (go_at_call 20; with_reducible refine (refcheck_is 0 w2 ⟨Kd.C_below R1.out.1 HB_2.out, R1.out.2⟩ ⟨Kd.C_below R2.out.1 HB_2.out, R2.out.2⟩ T3.out).mono ?_; rintro e w3 ⟨rfl, q1⟩; clear dk0 dk1 dk2 dq0 dq1 dq2 dq3; have HB_3 := Aside0.mk (below_step HB_2.out q1); have hs_3 : w2.heap.size ≤ w3.heap.size := q1.size; have Bk_3 := Aside0.mk (blk_below Bk_2.out q1); have Bq_3 := Aside0.mk (blk_below Bq_2.out q1); clear q1; obtain ⟨dk0, dk1, dk2⟩ := cells3 Bk_3.out; obtain ⟨dq0, dq1, dq2, dq3⟩ := cells4 Bq_3.out) | (go_at_call 21; with_reducible refine (good14_is true w3 ⟨Kd.C_below RQ.out.1 HB_3.out, RQ.out.2⟩ T4.out).mono ?_; rintro e w4 ⟨rfl, q1⟩; clear dk0 dk1 dk2 dq0 dq1 dq2 dq3; have HB_4 := Aside0.mk (below_step HB_3.out q1); have hs_4 : w3.heap.size ≤ w4.heap.size := q1.size; have Bk_4 := Aside0.mk (blk_below Bk_3.out q1); have Bq_4 := Aside0.mk (blk_below Bq_3.out q1); clear q1; obtain ⟨dk0, dk1, dk2⟩ := cells3 Bk_4.out; obtain ⟨dq0, dq1, dq2, dq3⟩ := cells4 Bq_4.out))
  go_upto_region 4 with (go_at_call 22; with_reducible refine (calnew_yes off A1 A2 c1 c2 week closed w4 (Kd.C_below R1.out.1 HB_4.out) R1.out.2 (Kd.C_below R2.out.1 HB_4.out) R2.out.2 T3.out).mono ?_; rintro e w5 ⟨kb, ab, pb, cb, rfl, CK, q1⟩; have hncb : w4.heap.size ≤ cb := CK.plan.ncb; have hcb := CK.lt; have hnn : w4.heap.size ≤ w5.heap.size := q1.size; have HC_5 := Aside0.mk CK; clear CK; clear dk0 dk1 dk2 dq0 dq1 dq2 dq3; have HB_5 := Aside0.mk (below_step HB_4.out q1); have hs_5 : w4.heap.size ≤ w5.heap.size := q1.size; have Bk_5 := Aside0.mk (blk_below Bk_4.out q1); have Bq_5 := Aside0.mk (blk_below Bq_4.out q1); clear q1; obtain ⟨dk0, dk1, dk2⟩ := cells3 Bk_5.out; obtain ⟨dq0, dq1, dq2, dq3⟩ := cells4 Bq_5.out)
  clear dk0 dk1 dk2 dq0 dq1 dq2 dq3
  have HBB := HB_5
  have HU_5 := Aside0.mk (Upd.refl cb w5)
  have HcbW : Aside0 (w.heap.size ≤ cb) := ⟨by omega⟩
  have HwB : Aside0 (w.heap.size ≤ w5.heap.size) := ⟨HBB.out.size⟩
  clear HB_5 hs_5 Bk_5
  have hs_5 : w5.heap.size ≤ w5.heap.size := Nat.le_refl _
  obtain ⟨dq0, dq1, dq2, dq3⟩ := cells4 Bq_5.out
  go_upto_region 5 with (go_at_call 23; with_reducible refine (tkopen_any cal re ba now 1 2 a b c d e 0 0 0 0 0 0 0 0 0 e w5 HC_5.out (by omega) ⟨Kd.C_below RQ.out.1 (upd_below16 HBB.out HU_5.out HcbW.out HwB.out), RQ.out.2⟩ (by omega) (by omega) HD.out HWE.out).mono ?_; rintro e w6 ⟨rfl, q1, q2⟩; clear dq0 dq1 dq2 dq3; have HC_6 := Aside0.mk q1; have HU_6 := Aside0.mk (HU_5.out.trans q2); have hs_6 : w5.heap.size ≤ w6.heap.size := q2.size; have Bq_6 := Aside0.mk (q2.blk Bq_5.out (by omega)); clear q1 q2; obtain ⟨dq0, dq1, dq2, dq3⟩ := cells4 Bq_6.out)
  have hb : Below w6.heap.size w6 (w6.alloc (.cells #[.int .u64 0, .int .i64 0, .int .i64 0, .int .i64 0, .int .u64 0, .int .i64 0, .int .i64 0, .int .i64 0, .int .i64 0] 24)) := below_alloc (Below.refl _ _) _
  clear dq0 dq1 dq2 dq3
  have HC_7 := Aside0.mk (HC_6.out.below hb)
  have HU_7 := Aside0.mk (HU_6.out.then hb)
  have hs_7 : w6.heap.size ≤ (w6.alloc (.cells #[.int .u64 0, .int .i64 0, .int .i64 0, .int .i64 0, .int .u64 0, .int .i64 0, .int .i64 0, .int .i64 0, .int .i64 0] 24)).heap.size := hb.size
  have Bq_7 := Aside0.mk (blk_below Bq_6.out hb)
  clear hb
  have Bt_7 := Aside0.mk (blk_new w6 (.cells #[.int .u64 0, .int .i64 0, .int .i64 0, .int .i64 0, .int .u64 0, .int .i64 0, .int .i64 0, .int .i64 0, .int .i64 0] 24))
  have hz_7 : w6.heap.size < (w6.alloc (.cells #[.int .u64 0, .int .i64 0, .int .i64 0, .int .i64 0, .int .u64 0, .int .i64 0, .int .i64 0, .int .i64 0, .int .i64 0] 24)).heap.size := blk_lt Bt_7.out
  generalize (w6.alloc (.cells #[.int .u64 0, .int .i64 0, .int .i64 0, .int .i64 0, .int .u64 0, .int .i64 0, .int .i64 0, .int .i64 0, .int .i64 0] 24)) = w7 at HC_7 HU_7 hs_7 Bq_7 Bt_7 hz_7 ⊢
  obtain ⟨dt0, dt1, dt2, dt3, dt4, dt5, dt6, dt7, dt8⟩ := cells9 Bt_7.out
  have ft := blk_frozen Bt_7.out
  go_wp2_with (go_at_call 8; with_reducible refine (lives16_any w7).mono ?_; rintro e w8 ⟨rfl, q1⟩; clear dt0 dt1 dt2 dt3 dt4 dt5 dt6 dt7 dt8 ft; have HC_8 := Aside0.mk (HC_7.out.below q1); have HU_8 := Aside0.mk (HU_7.out.then q1); have hs_8 : w7.heap.size ≤ w8.heap.size := q1.size; have Bq_8 := Aside0.mk (blk_below Bq_7.out q1); have Bt_8 := Aside0.mk (blk_below Bt_7.out q1); clear q1; obtain ⟨dt0, dt1, dt2, dt3, dt4, dt5, dt6, dt7, dt8⟩ := cells9 Bt_8.out; have ft := blk_frozen Bt_8.out)
  go_ret
  exact ⟨rfl, upd_below16 HBB.out HU_8.out HcbW.out HwB.out⟩
set_option maxHeartbeats 16000000 in
set_option maxRecDepth 100000 in
theorem tks_main {off cal re ba now : Int} {week closed : List S143} {ls : List S98} {acts : List Act2} {A1 A2 A3 A4 : Option Addr} {c1 c2 c3 c4 : Nat} (w : World) (hk1 : Kd.C k143 w A1 week.length week ∧ week.length ≤ c1) (hk2 : Kd.C k143 w A2 closed.length closed ∧ closed.length ≤ c2) (hq : Kd.C k98 w A3 ls.length ls ∧ ls.length ≤ c3) (ha : Kd.C kAct w A4 acts.length acts ∧ acts.length ≤ c4) (hw : ∀ x, x ∈ acts → 0 ≤ x.wt ∧ x.wt ≤ 4294967295) (t0 : lightQ week closed = true) (t1 : ¬ (60 : Int) < ls.length) (t2 : ¬ (60 : Int) < acts.length) (t3 : calErr off week closed = 0) (t4 : goodP cal ls re ba = true) (t5 : ¬ now < 0) (t6 : ¬ 1125899906842624 < now) {a b c d : Int} (hd : firstP off week closed cal ls re ba now = (a, b, c, d, 0)) :
    Calls Try.prog 4 #[.agg #[.int .i64 off, .slice A1 week.length c1, .slice A2 closed.length c2], .agg #[.int .i64 cal, .slice A3 ls.length c3, .int .i64 re, .int .i64 ba], .int .i64 now, .slice A4 acts.length c4] w fun e w' => e = .returned (.bool true) ∧ Below w.heap.size w w' := by
  have HD := Aside0.mk hd
  have HCK := Aside0.mk (calErr_ok t3)
  have HGD := Aside0.mk t4
  have HS0 : Aside0 (Snd off week closed ls.length 0 0 ⟨1, 2, 1, a, 0, b, c, d, 0⟩) := ⟨Snd.opened (gn := 0) (calErr_ok t3) t4 hd rfl⟩
  have HL6 : Aside0 ((ls.length : Int) ≤ 6) := ⟨by have := (goodP_iff.1 t4).1; omega⟩
  have HL6N : Aside0 (ls.length ≤ 6) := ⟨by have := (goodP_iff.1 t4).1; omega⟩
  clear hd
  have R1 := Aside0.mk hk1
  have R2 := Aside0.mk hk2
  have RQ := Aside0.mk hq
  have RA := Aside0.mk ha
  have HWT := Aside0.mk hw
  have hnot : ∀ (x : Bool) (w : World), (Op.unary .not (.bool x)).run Try.prog w = .ok (.bool (!x)) w := fun _ _ => rfl
  have T0 := Aside0.mk t0
  clear t0
  have f1_ : decide ((60 : Int) < ls.length) = false := decide_eq_false t1
  have f2_ : decide ((60 : Int) < acts.length) = false := decide_eq_false t2
  have T3 := Aside0.mk t3
  clear t3
  have T4 := Aside0.mk t4
  clear t4
  have f5_ : decide (now < 0) = false := decide_eq_false t5
  have f6_ : decide (1125899906842624 < now) = false := decide_eq_false t6
  clear hk1 hk2 hq ha hw
  have HB_1 : Aside0 (Below w.heap.size w ((w.alloc (.cells #[.int .i64 off, .slice A1 week.length c1, .slice A2 closed.length c2] 46)).alloc (.cells #[.int .i64 cal, .slice A3 ls.length c3, .int .i64 re, .int .i64 ba] 49))) := ⟨(below_alloc (below_alloc (Below.refl w.heap.size w) (.cells #[.int .i64 off, .slice A1 week.length c1, .slice A2 closed.length c2] 46)) (.cells #[.int .i64 cal, .slice A3 ls.length c3, .int .i64 re, .int .i64 ba] 49))⟩
  have hs_1 : w.heap.size ≤ ((w.alloc (.cells #[.int .i64 off, .slice A1 week.length c1, .slice A2 closed.length c2] 46)).alloc (.cells #[.int .i64 cal, .slice A3 ls.length c3, .int .i64 re, .int .i64 ba] 49)).heap.size := HB_1.out.size
  have Bk_1 : Aside0 (((w.alloc (.cells #[.int .i64 off, .slice A1 week.length c1, .slice A2 closed.length c2] 46)).alloc (.cells #[.int .i64 cal, .slice A3 ls.length c3, .int .i64 re, .int .i64 ba] 49)).heap[w.heap.size]? = some (.cells #[.int .i64 off, .slice A1 week.length c1, .slice A2 closed.length c2] 46 (0, 0))) := ⟨(blk_alloc (blk_new w _) _)⟩
  have Bq_1 : Aside0 (((w.alloc (.cells #[.int .i64 off, .slice A1 week.length c1, .slice A2 closed.length c2] 46)).alloc (.cells #[.int .i64 cal, .slice A3 ls.length c3, .int .i64 re, .int .i64 ba] 49)).heap[w.heap.size + 1]? = some (.cells #[.int .i64 cal, .slice A3 ls.length c3, .int .i64 re, .int .i64 ba] 49 (0, 0))) := ⟨(by simpa using blk_new (w.alloc (.cells #[.int .i64 off, .slice A1 week.length c1, .slice A2 closed.length c2] 46)) (.cells #[.int .i64 cal, .slice A3 ls.length c3, .int .i64 re, .int .i64 ba] 49))⟩
  have hz_1 : w.heap.size + 1 < ((w.alloc (.cells #[.int .i64 off, .slice A1 week.length c1, .slice A2 closed.length c2] 46)).alloc (.cells #[.int .i64 cal, .slice A3 ls.length c3, .int .i64 re, .int .i64 ba] 49)).heap.size := blk_lt Bq_1.out
  go_enter Try.func4, Try.ntmps4
  go_upto_region 1 with fail
  generalize ((w.alloc (.cells #[.int .i64 off, .slice A1 week.length c1, .slice A2 closed.length c2] 46)).alloc (.cells #[.int .i64 cal, .slice A3 ls.length c3, .int .i64 re, .int .i64 ba] 49)) = w1 at HB_1 hs_1 Bk_1 Bq_1 hz_1 ⊢
  obtain ⟨dk0, dk1, dk2⟩ := cells3 Bk_1.out
  obtain ⟨dq0, dq1, dq2, dq3⟩ := cells4 Bq_1.out
  go_upto_region 3 with (first | (go_at_call 19; with_reducible refine (light_is true w1 ⟨Kd.C_below R1.out.1 HB_1.out, R1.out.2⟩ ⟨Kd.C_below R2.out.1 HB_1.out, R2.out.2⟩ T0.out).mono ?_; rintro e w2 ⟨rfl, q1⟩; clear dk0 dk1 dk2 dq0 dq1 dq2 dq3; have HB_2 := Aside0.mk (below_step HB_1.out q1); have hs_2 : w1.heap.size ≤ w2.heap.size := q1.size; have Bk_2 := Aside0.mk (blk_below Bk_1.out q1); have Bq_2 := Aside0.mk (blk_below Bq_1.out q1); clear q1; obtain ⟨dk0, dk1, dk2⟩ := cells3 Bk_2.out; obtain ⟨dq0, dq1, dq2, dq3⟩ := cells4 Bq_2.out) | (go_at_call 20; with_reducible refine (refcheck_is 0 w2 ⟨Kd.C_below R1.out.1 HB_2.out, R1.out.2⟩ ⟨Kd.C_below R2.out.1 HB_2.out, R2.out.2⟩ T3.out).mono ?_; rintro e w3 ⟨rfl, q1⟩; clear dk0 dk1 dk2 dq0 dq1 dq2 dq3; have HB_3 := Aside0.mk (below_step HB_2.out q1); have hs_3 : w2.heap.size ≤ w3.heap.size := q1.size; have Bk_3 := Aside0.mk (blk_below Bk_2.out q1); have Bq_3 := Aside0.mk (blk_below Bq_2.out q1); clear q1; obtain ⟨dk0, dk1, dk2⟩ := cells3 Bk_3.out; obtain ⟨dq0, dq1, dq2, dq3⟩ := cells4 Bq_3.out) | (go_at_call 21; with_reducible refine (good14_is true w3 ⟨Kd.C_below RQ.out.1 HB_3.out, RQ.out.2⟩ T4.out).mono ?_; rintro e w4 ⟨rfl, q1⟩; clear dk0 dk1 dk2 dq0 dq1 dq2 dq3; have HB_4 := Aside0.mk (below_step HB_3.out q1); have hs_4 : w3.heap.size ≤ w4.heap.size := q1.size; have Bk_4 := Aside0.mk (blk_below Bk_3.out q1); have Bq_4 := Aside0.mk (blk_below Bq_3.out q1); clear q1; obtain ⟨dk0, dk1, dk2⟩ := cells3 Bk_4.out; obtain ⟨dq0, dq1, dq2, dq3⟩ := cells4 Bq_4.out))
  go_upto_region 4 with (go_at_call 22; with_reducible refine (calnew_yes off A1 A2 c1 c2 week closed w4 (Kd.C_below R1.out.1 HB_4.out) R1.out.2 (Kd.C_below R2.out.1 HB_4.out) R2.out.2 T3.out).mono ?_; rintro e w5 ⟨kb, ab, pb, cb, rfl, CK, q1⟩; have hncb : w4.heap.size ≤ cb := CK.plan.ncb; have hcb := CK.lt; have hnn : w4.heap.size ≤ w5.heap.size := q1.size; have HC_5 := Aside0.mk CK; clear CK; clear dk0 dk1 dk2 dq0 dq1 dq2 dq3; have HB_5 := Aside0.mk (below_step HB_4.out q1); have hs_5 : w4.heap.size ≤ w5.heap.size := q1.size; have Bk_5 := Aside0.mk (blk_below Bk_4.out q1); have Bq_5 := Aside0.mk (blk_below Bq_4.out q1); clear q1; obtain ⟨dk0, dk1, dk2⟩ := cells3 Bk_5.out; obtain ⟨dq0, dq1, dq2, dq3⟩ := cells4 Bq_5.out)
  clear dk0 dk1 dk2 dq0 dq1 dq2 dq3
  have HBB := HB_5
  have HU_5 := Aside0.mk (Upd.refl cb w5)
  have HcbW : Aside0 (w.heap.size ≤ cb) := ⟨by omega⟩
  have HwB : Aside0 (w.heap.size ≤ w5.heap.size) := ⟨HBB.out.size⟩
  clear HB_5 hs_5 Bk_5
  have hs_5 : w5.heap.size ≤ w5.heap.size := Nat.le_refl _
  obtain ⟨dq0, dq1, dq2, dq3⟩ := cells4 Bq_5.out
  go_upto_region 5 with (go_at_call 23; with_reducible refine (tkopen_any cal re ba now 1 2 a b c d 0 1 2 1 a 0 b c d 0 0 w5 HC_5.out (by omega) ⟨Kd.C_below RQ.out.1 (upd_below16 HBB.out HU_5.out HcbW.out HwB.out), RQ.out.2⟩ (by omega) (by omega) HD.out rfl).mono ?_; rintro e w6 ⟨rfl, q1, q2⟩; clear dq0 dq1 dq2 dq3; have HC_6 := Aside0.mk q1; have HU_6 := Aside0.mk (HU_5.out.trans q2); have hs_6 : w5.heap.size ≤ w6.heap.size := q2.size; have Bq_6 := Aside0.mk (q2.blk Bq_5.out (by omega)); clear q1 q2; obtain ⟨dq0, dq1, dq2, dq3⟩ := cells4 Bq_6.out)
  have hb : Below w6.heap.size w6 (w6.alloc (.cells #[.int .u64 1, .int .i64 2, .int .i64 1, .int .i64 a, .int .u64 0, .int .i64 b, .int .i64 c, .int .i64 d, .int .i64 0] 24)) := below_alloc (Below.refl _ _) _
  clear dq0 dq1 dq2 dq3
  have HC_7 := Aside0.mk (HC_6.out.below hb)
  have HU_7 := Aside0.mk (HU_6.out.then hb)
  have hs_7 : w6.heap.size ≤ (w6.alloc (.cells #[.int .u64 1, .int .i64 2, .int .i64 1, .int .i64 a, .int .u64 0, .int .i64 b, .int .i64 c, .int .i64 d, .int .i64 0] 24)).heap.size := hb.size
  have Bq_7 := Aside0.mk (blk_below Bq_6.out hb)
  clear hb
  have Bt_7 := Aside0.mk (blk_new w6 (.cells #[.int .u64 1, .int .i64 2, .int .i64 1, .int .i64 a, .int .u64 0, .int .i64 b, .int .i64 c, .int .i64 d, .int .i64 0] 24))
  have hz_7 : w6.heap.size < (w6.alloc (.cells #[.int .u64 1, .int .i64 2, .int .i64 1, .int .i64 a, .int .u64 0, .int .i64 b, .int .i64 c, .int .i64 d, .int .i64 0] 24)).heap.size := blk_lt Bt_7.out
  generalize (w6.alloc (.cells #[.int .u64 1, .int .i64 2, .int .i64 1, .int .i64 a, .int .u64 0, .int .i64 b, .int .i64 c, .int .i64 d, .int .i64 0] 24)) = w7 at HC_7 HU_7 hs_7 Bq_7 Bt_7 hz_7 ⊢
  obtain ⟨dt0, dt1, dt2, dt3, dt4, dt5, dt6, dt7, dt8⟩ := cells9 Bt_7.out
  have ft := blk_frozen Bt_7.out
  clear dt0 dt1 dt2 dt3 dt4 dt5 dt6 dt7 dt8 ft
  have htb : w5.heap.size ≤ w6.heap.size := by omega
  have hq1 : w.heap.size + 1 < w5.heap.size := by omega
  have n0_ : 0 ≤ now := by omega
  have n1_ : now ≤ 1125899906842624 := by omega
  go_wp2
  go_loopw [2, 13, 14, 74] (fun v2 v13 v14 v74 wr => ∃ (i : Nat) (nw nx td : Int) (t : Tk), v74 = .int .i64 i ∧ v2 = .int .i64 nw ∧ v13 = .int .i64 nx ∧ v14 = .int .i64 td ∧ i ≤ acts.length ∧ Aside0 (0 ≤ nw ∧ nw ≤ 1125899906842624 + i * 4294967295) ∧ Aside0 (0 ≤ td ∧ td ≤ i) ∧ Aside0 (Snd off week closed ls.length nx td t) ∧ Aside0 (ClkAt wr w4.heap.size kb ab pb cb off week closed) ∧ Aside0 (Upd cb w5 wr) ∧ Aside0 (w6.heap.size < wr.heap.size) ∧ Aside0 (wr.heap[w.heap.size + 1]? = some (.cells #[.int .i64 cal, .slice A3 ls.length c3, .int .i64 re, .int .i64 ba] 49 (0, 0))) ∧ Aside0 (wr.heap[w6.heap.size]? = some (.cells #[.int .u64 t.id, .int .i64 t.co, .int .i64 t.st, .int .i64 t.lv, .int .u64 t.gn, .int .i64 t.fr, .int .i64 t.lf, .int .i64 t.du, .int .i64 t.tl] 24 (0, 0)))) (fun _ _ _ v74 _ => acts.length - (intOf v74).toNat)
  case atStart => exact ⟨0, now, 0, 0, ⟨1, 2, 1, a, 0, b, c, d, 0⟩, rfl, rfl, rfl, rfl, by omega, ⟨by omega⟩, ⟨by omega⟩, HS0, HC_7, HU_7, ⟨blk_lt Bt_7.out⟩, Bq_7, Bt_7⟩
  case round =>
    clear HS0 HD HC_7 HU_7 Bq_7 Bt_7 hs_7
    obtain ⟨i, nw, nx, td, t, rfl, rfl, rfl, rfl, hi, HNW, HTD, HS, HC_50, HU_50, HZ, Bq_50, Bt_50⟩ := hrel
    obtain ⟨w50, rfl⟩ : ∃ x : World, x = wr := ⟨_, rfl⟩
    obtain ⟨id, co, st, lv, gn, fr, lf, du, tl⟩ := t
    obtain rfl : tl = td := HS.out.tl
    dsimp only at Bt_50
    have hs_50 : w5.heap.size ≤ w50.heap.size := HU_50.out.size
    have hz_50 := HZ.out
    by_cases hlt : i < acts.length
    · obtain ⟨ada, ea, hx0, hx1⟩ := at_Act (Kd.C_below RA.out.1 (upd_below16 HBB.out HU_50.out HcbW.out HwB.out)) i (by omega) (by omega)
      cases ea
      rw [Int.toNat_natCast] at hx0 hx1
      have hwt := HWT.out _ (rd_Act_mem hlt)
      generalize rd_Act acts i = x at hx0 hx1 hwt
      obtain ⟨kd, wt⟩ := x
      simp only at hx0 hx1 hwt
      obtain ⟨wt0, wt1⟩ := hwt
      have hnw := HNW.out
      have nw0 : 0 ≤ nw := hnw.1
      have nw1 : nw ≤ 1126157604880324 := by omega
      have htd := HTD.out
      have tl0 : 0 ≤ tl := htd.1
      have tl1 : tl ≤ i := htd.2
      have i60 : (i : Int) < 60 := by omega
      have hnx := HS.out.nx
      have nx0 : 0 ≤ nx := hnx.1
      have nx1 : nx ≤ 6 := by have := HL6.out; omega
      clear hnw htd hnx
      have p0 : (0 : Int) ≤ i := by omega
      have p1 : (i : Int) < acts.length := by omega
      have dt2 : w50.cell? ⟨w6.heap.size, 2, none⟩ = some (.int .i64 st) := (blk_cell Bt_50.out 2).trans rfl
      have dt4 : w50.cell? ⟨w6.heap.size, 4, none⟩ = some (.int .u64 gn) := (blk_cell Bt_50.out 4).trans rfl
      have ft := blk_frozen Bt_50.out
      go_upto_region 11 with fail
      have hb : Below w50.heap.size w50 (w50.alloc (.cells #[.int .i64 kd, .int .u32 wt] 62)) := below_alloc (Below.refl _ _) _
      clear dt2 dt4 ft
      have HC_51 := Aside0.mk (HC_50.out.below hb)
      have HU_51 := Aside0.mk (HU_50.out.then hb)
      have hs_51 : w50.heap.size ≤ (w50.alloc (.cells #[.int .i64 kd, .int .u32 wt] 62)).heap.size := hb.size
      have Bq_51 := Aside0.mk (blk_below Bq_50.out hb)
      have Bt_51 := Aside0.mk (blk_below Bt_50.out hb)
      clear hb
      have Bx_51 := Aside0.mk (blk_new w50 (.cells #[.int .i64 kd, .int .u32 wt] 62))
      have hz_51 : w50.heap.size < (w50.alloc (.cells #[.int .i64 kd, .int .u32 wt] 62)).heap.size := blk_lt Bx_51.out
      generalize (w50.alloc (.cells #[.int .i64 kd, .int .u32 wt] 62)) = w51 at HC_51 HU_51 hs_51 Bq_51 Bt_51 Bx_51 hz_51 ⊢
      have dt2 : w51.cell? ⟨w6.heap.size, 2, none⟩ = some (.int .i64 st) := (blk_cell Bt_51.out 2).trans rfl
      have dt4 : w51.cell? ⟨w6.heap.size, 4, none⟩ = some (.int .u64 gn) := (blk_cell Bt_51.out 4).trans rfl
      have ft := blk_frozen Bt_51.out
      clear hx0 hx1
      have ZX : w50.heap.size < w51.heap.size := hz_51
      go_upto_if 81 with fail
      go_cut [2] (fun s2 wx => s2 = .int .i64 nw ∧ ∃ gg : Int, Aside0 (Snd off week closed ls.length nx tl ⟨id, co, st, lv, gg, fr, lf, du, tl⟩) ∧ Aside0 (TkOk ⟨id, co, st, lv, gg, fr, lf, du, tl⟩) ∧ Aside0 (tkB ⟨id, co, st, lv, gg, fr, lf, du, tl⟩ = true) ∧ Aside0 (ClkAt wx w4.heap.size kb ab pb cb off week closed) ∧ Aside0 (Upd cb w5 wx) ∧ Aside0 (w50.heap.size < wx.heap.size) ∧ Aside0 (wx.heap[w.heap.size + 1]? = some (.cells #[.int .i64 cal, .slice A3 ls.length c3, .int .i64 re, .int .i64 ba] 49 (0, 0))) ∧ Aside0 (wx.heap[w6.heap.size]? = some (.cells #[.int .u64 id, .int .i64 co, .int .i64 st, .int .i64 lv, .int .u64 gg, .int .i64 fr, .int .i64 lf, .int .i64 du, .int .i64 tl] 24 (0, 0))) ∧ Aside0 (wx.heap[w50.heap.size]? = some (.cells #[.int .i64 kd, .int .u32 wt] 62 (0, 0))))
      case first =>
        by_cases hst : st = 1
        · subst hst
          have HS2 : Aside0 (Snd off week closed ls.length nx tl ⟨id, co, 1, lv, ((i : Int) + 1), fr, lf, du, tl⟩) := ⟨by have := HS.out.gen (i := (i : Int)); simpa [genT] using this⟩
          have HOK : Aside0 (TkOk ⟨id, co, 1, lv, ((i : Int) + 1), fr, lf, du, tl⟩) := ⟨by have := HS.out.ok (i := (i : Int)) HL6.out ⟨p0, by omega⟩ ⟨tl0, by omega⟩; simpa [genT] using this⟩
          have HTB : Aside0 (tkB ⟨id, co, 1, lv, ((i : Int) + 1), fr, lf, du, tl⟩ = true) := ⟨tk_yes (by have := HS.out.sound (i := (i : Int)) HL6.out ⟨p0, by omega⟩ ⟨tl0, by omega⟩; simpa [genT] using this)⟩
          go_wp2
          clear dt2 dt4 ft
          have S_0 := And.intro HC_51.out HU_51.out
          have S_1 := step_set S_0.1 S_0.2 Bt_51.out ⟨by decide, by decide, by decide, by decide, by decide, by decide⟩ (by omega) 4 (.int .u64 ((i : Int) + 1))
          have G_0 := blk_put (cs' := #[.int .u64 id, .int .i64 co, .int .i64 1, .int .i64 lv, .int .u64 ((i : Int) + 1), .int .i64 fr, .int .i64 lf, .int .i64 du, .int .i64 tl]) Bt_51.out 4 (.int .u64 ((i : Int) + 1)) rfl
          have HC_52 := Aside0.mk S_1.1
          have HU_52 := Aside0.mk S_1.2
          have Bt_52 := Aside0.mk G_0
          have hs_52 : w51.heap.size ≤ (w51.setCell ⟨w6.heap.size, 4, none⟩ (.int .u64 ((i : Int) + 1))).heap.size := by simp
          have Bq_52 : Aside0 ((w51.setCell ⟨w6.heap.size, 4, none⟩ (.int .u64 ((i : Int) + 1))).heap[w.heap.size + 1]? = _) := ⟨((Below.heap_setCell _ _ _ _ (by show w.heap.size + 1 ≠ w6.heap.size; omega)).trans Bq_51.out)⟩
          have Bx_52 : Aside0 ((w51.setCell ⟨w6.heap.size, 4, none⟩ (.int .u64 ((i : Int) + 1))).heap[w50.heap.size]? = _) := ⟨((Below.heap_setCell _ _ _ _ (by show w50.heap.size ≠ w6.heap.size; omega)).trans Bx_51.out)⟩
          clear S_0 S_1 G_0
          generalize (w51.setCell ⟨w6.heap.size, 4, none⟩ (.int .u64 ((i : Int) + 1))) = w52 at HC_52 HU_52 hs_52 Bq_52 Bt_52 Bx_52 ⊢
          have dt2 : w52.cell? ⟨w6.heap.size, 2, none⟩ = some (.int .i64 1) := (blk_cell Bt_52.out 2).trans rfl
          have dt4 : w52.cell? ⟨w6.heap.size, 4, none⟩ = some (.int .u64 ((i : Int) + 1)) := (blk_cell Bt_52.out 4).trans rfl
          have ft := blk_frozen Bt_52.out
          go_meet
          exact ⟨rfl, (i : Int) + 1, HS2, HOK, HTB, HC_52, HU_52, ⟨by omega⟩, Bq_52, Bt_52, Bx_52⟩
        · have HS2 : Aside0 (Snd off week closed ls.length nx tl ⟨id, co, st, lv, gn, fr, lf, du, tl⟩) := ⟨by have := HS.out.gen (i := (i : Int)); simpa [genT, hst] using this⟩
          have HOK : Aside0 (TkOk ⟨id, co, st, lv, gn, fr, lf, du, tl⟩) := ⟨by have := HS.out.ok (i := (i : Int)) HL6.out ⟨p0, by omega⟩ ⟨tl0, by omega⟩; simpa [genT, hst] using this⟩
          have HTB : Aside0 (tkB ⟨id, co, st, lv, gn, fr, lf, du, tl⟩ = true) := ⟨tk_yes (by have := HS.out.sound (i := (i : Int)) HL6.out ⟨p0, by omega⟩ ⟨tl0, by omega⟩; simpa [genT, hst] using this)⟩
          have fst : (st == 1) = false := beq_eq_false_iff_ne.mpr hst
          go_wp2
          go_meet
          exact ⟨rfl, gn, HS2, HOK, HTB, HC_51, HU_51, ⟨by omega⟩, Bq_51, Bt_51, Bx_51⟩
      case rest =>
        obtain ⟨rfl, gg, HS2, HOK, HTB, HC_60, HU_60, HZX, Bq_60, Bt_60, Bx_60⟩ := hcut
        obtain ⟨w60, rfl⟩ : ∃ x : World, x = wc := ⟨_, rfl⟩
        have hz_60 := HZX.out
        have hs_60 : w5.heap.size ≤ w60.heap.size := HU_60.out.size
        clear HC_51 HU_51 Bq_51 Bt_51 Bx_51 dt2 dt4 ft
        obtain ⟨dt0, dt1, dt2, dt3, dt4, dt5, dt6, dt7, dt8⟩ := cells9 Bt_60.out
        have ft := blk_frozen Bt_60.out
        have dx0 : w60.cell? ⟨w50.heap.size, 0, none⟩ = some (.int .i64 kd) := (blk_cell Bx_60.out 0).trans rfl
        have dx1 : w60.cell? ⟨w50.heap.size, 1, none⟩ = some (.int .u32 wt) := (blk_cell Bx_60.out 1).trans rfl
        go_upto_region 17 with (go_at_call 9; with_reducible refine (tksound_true id co st lv gg fr lf du tl w60 HOK.out HTB.out).mono ?_; rintro e w61 ⟨rfl, q1⟩; clear dt0 dt1 dt2 dt3 dt4 dt5 dt6 dt7 dt8 ft dx0 dx1; have HC_61 := Aside0.mk (HC_60.out.below q1); have HU_61 := Aside0.mk (HU_60.out.then q1); have hs_61 : w60.heap.size ≤ w61.heap.size := q1.size; have Bq_61 := Aside0.mk (blk_below Bq_60.out q1); have Bt_61 := Aside0.mk (blk_below Bt_60.out q1); have Bx_61 := Aside0.mk (blk_below Bx_60.out q1); clear q1; obtain ⟨dt0, dt1, dt2, dt3, dt4, dt5, dt6, dt7, dt8⟩ := cells9 Bt_61.out; have ft := blk_frozen Bt_61.out; have dx0 : w61.cell? ⟨w50.heap.size, 0, none⟩ = some (.int .i64 kd) := (blk_cell Bx_61.out 0).trans rfl; have dx1 : w61.cell? ⟨w50.heap.size, 1, none⟩ = some (.int .u32 wt) := (blk_cell Bx_61.out 1).trans rfl)
        have hb : Below w61.heap.size w61 (w61.alloc (.cells #[.int .u64 id, .int .i64 co, .int .i64 st, .int .i64 lv, .int .u64 gg, .int .i64 fr, .int .i64 lf, .int .i64 du, .int .i64 tl] 24)) := below_alloc (Below.refl _ _) _
        clear dt0 dt1 dt2 dt3 dt4 dt5 dt6 dt7 dt8 ft dx0 dx1
        have HC_62 := Aside0.mk (HC_61.out.below hb)
        have HU_62 := Aside0.mk (HU_61.out.then hb)
        have hs_62 : w61.heap.size ≤ (w61.alloc (.cells #[.int .u64 id, .int .i64 co, .int .i64 st, .int .i64 lv, .int .u64 gg, .int .i64 fr, .int .i64 lf, .int .i64 du, .int .i64 tl] 24)).heap.size := hb.size
        have Bq_62 := Aside0.mk (blk_below Bq_61.out hb)
        have Bt_62 := Aside0.mk (blk_below Bt_61.out hb)
        have Bx_62 := Aside0.mk (blk_below Bx_61.out hb)
        clear hb
        have Bu_62 := Aside0.mk (blk_new w61 (.cells #[.int .u64 id, .int .i64 co, .int .i64 st, .int .i64 lv, .int .u64 gg, .int .i64 fr, .int .i64 lf, .int .i64 du, .int .i64 tl] 24))
        have hz_62 : w61.heap.size < (w61.alloc (.cells #[.int .u64 id, .int .i64 co, .int .i64 st, .int .i64 lv, .int .u64 gg, .int .i64 fr, .int .i64 lf, .int .i64 du, .int .i64 tl] 24)).heap.size := blk_lt Bu_62.out
        generalize (w61.alloc (.cells #[.int .u64 id, .int .i64 co, .int .i64 st, .int .i64 lv, .int .u64 gg, .int .i64 fr, .int .i64 lf, .int .i64 du, .int .i64 tl] 24)) = w62 at HC_62 HU_62 hs_62 Bq_62 Bt_62 Bx_62 Bu_62 hz_62 ⊢
        obtain ⟨dt0, dt1, dt2, dt3, dt4, dt5, dt6, dt7, dt8⟩ := cells9 Bt_62.out
        have ft := blk_frozen Bt_62.out
        have dx0 : w62.cell? ⟨w50.heap.size, 0, none⟩ = some (.int .i64 kd) := (blk_cell Bx_62.out 0).trans rfl
        have dx1 : w62.cell? ⟨w50.heap.size, 1, none⟩ = some (.int .u32 wt) := (blk_cell Bx_62.out 1).trans rfl
        obtain ⟨du0, du1, du2, du3, du4, du5, du6, du7, du8⟩ := cells9 Bu_62.out
        have fu := blk_frozen Bu_62.out
        clear dt0 dt1 dt2 dt3 dt4 dt5 dt6 dt7 dt8 ft dx0 dx1 du0 du1 du2 du3 du4 du5 du6 du7 du8 fu
        obtain ⟨dq0, dq1, dq2, dq3⟩ := cells4 Bq_62.out
        obtain ⟨dt0, dt1, dt2, dt3, dt4, dt5, dt6, dt7, dt8⟩ := cells9 Bt_62.out
        have ft := blk_frozen Bt_62.out
        have dx0 : w62.cell? ⟨w50.heap.size, 0, none⟩ = some (.int .i64 kd) := (blk_cell Bx_62.out 0).trans rfl
        obtain ⟨du0, du1, du2, du3, du4, du5, du6, du7, du8⟩ := cells9 Bu_62.out
        have fu := blk_frozen Bu_62.out
        go_upto_block 2 with fail
        go_cut [12, 13, 14] (fun s12 s13 s14 wx => ∃ (y : Tk) (e nx' td' : Int), s12 = .int .i64 e ∧ s13 = .int .i64 nx' ∧ s14 = .int .i64 td' ∧ Aside0 (0 ≤ td' ∧ td' ≤ i + 1) ∧ Aside0 (e = 0 → Snd off week closed ls.length nx' td' y) ∧ Aside0 (e ≠ 0 → nx' = nx ∧ td' = tl) ∧ Aside0 (ClkAt wx w4.heap.size kb ab pb cb off week closed) ∧ Aside0 (Upd cb w5 wx) ∧ Aside0 (w61.heap.size < wx.heap.size) ∧ Aside0 (wx.heap[w.heap.size + 1]? = some (.cells #[.int .i64 cal, .slice A3 ls.length c3, .int .i64 re, .int .i64 ba] 49 (0, 0))) ∧ Aside0 (wx.heap[w6.heap.size]? = some (.cells #[.int .u64 id, .int .i64 co, .int .i64 st, .int .i64 lv, .int .u64 gg, .int .i64 fr, .int .i64 lf, .int .i64 du, .int .i64 tl] 24 (0, 0))) ∧ Aside0 (wx.heap[w61.heap.size]? = some (.cells #[.int .u64 y.id, .int .i64 y.co, .int .i64 y.st, .int .i64 y.lv, .int .u64 y.gn, .int .i64 y.fr, .int .i64 y.lf, .int .i64 y.du, .int .i64 y.tl] 24 (0, 0))))
        case first =>
          by_cases k1 : kd = 1
          · subst k1
            obtain ⟨⟨⟨y1, y2, y3, y4, y5, y6, y7, y8, y9⟩, e⟩, hu⟩ : ∃ p, resumeT off week closed ⟨id, co, st, lv, gg, fr, lf, du, tl⟩ (nw + wt) = p := ⟨_, rfl⟩
            by_cases he : e = 0
            · subst he
              have HS3 := Aside0.mk (resume_snd HCK.out HS2.out hu)
              have HUU := Aside0.mk hu
              clear hu
              go_wp2_with (go_at_call 24; with_reducible refine (oresume_x id co st lv gg fr lf du tl y1 y2 y3 y4 y5 y6 y7 y8 y9 (nw + wt) 0 w62 HC_62.out (by omega) HS2.out HUU.out).mono ?_; rintro e w63 ⟨rfl, q1, q2⟩; clear dq0 dq1 dq2 dq3 dt0 dt1 dt2 dt3 dt4 dt5 dt6 dt7 dt8 ft dx0 du0 du1 du2 du3 du4 du5 du6 du7 du8 fu; have HC_63 := Aside0.mk q1; have HU_63 := Aside0.mk (HU_62.out.trans q2); have hs_63 : w62.heap.size ≤ w63.heap.size := q2.size; have Bq_63 := Aside0.mk (q2.blk Bq_62.out (by omega)); have Bt_63 := Aside0.mk (q2.blk Bt_62.out (by omega)); have Bx_63 := Aside0.mk (q2.blk Bx_62.out (by omega)); have Bu_63 := Aside0.mk (q2.blk Bu_62.out (by omega)); clear q1 q2; obtain ⟨dq0, dq1, dq2, dq3⟩ := cells4 Bq_63.out; obtain ⟨dt0, dt1, dt2, dt3, dt4, dt5, dt6, dt7, dt8⟩ := cells9 Bt_63.out; have ft := blk_frozen Bt_63.out; have dx0 : w63.cell? ⟨w50.heap.size, 0, none⟩ = some (.int .i64 1) := (blk_cell Bx_63.out 0).trans rfl; obtain ⟨du0, du1, du2, du3, du4, du5, du6, du7, du8⟩ := cells9 Bu_63.out; have fu := blk_frozen Bu_63.out)
              clear dq0 dq1 dq2 dq3 dt0 dt1 dt2 dt3 dt4 dt5 dt6 dt7 dt8 ft dx0 du0 du1 du2 du3 du4 du5 du6 du7 du8 fu
              obtain ⟨S1, S2, S3, S4, hs_64⟩ := step_set9 (.int .u64 y1) (.int .i64 y2) (.int .i64 y3) (.int .i64 y4) (.int .u64 y5) (.int .i64 y6) (.int .i64 y7) (.int .i64 y8) (.int .i64 y9) HC_63.out HU_63.out Bu_63.out ⟨by decide, by decide, by decide, by decide, by decide, by decide⟩ (by omega)
              have HC_64 := Aside0.mk S1
              have HU_64 := Aside0.mk S2
              have Bu_64 := Aside0.mk S3
              have Bq_64 := Aside0.mk (S4 (g := w.heap.size + 1) (by omega) Bq_63.out)
              have Bt_64 := Aside0.mk (S4 (g := w6.heap.size) (by omega) Bt_63.out)
              have Bx_64 := Aside0.mk (S4 (g := w50.heap.size) (by omega) Bx_63.out)
              clear S1 S2 S3 S4
              generalize (((((((((w63.setCell ⟨w61.heap.size, 0, none⟩ (.int .u64 y1)).setCell ⟨w61.heap.size, 1, none⟩ (.int .i64 y2)).setCell ⟨w61.heap.size, 2, none⟩ (.int .i64 y3)).setCell ⟨w61.heap.size, 3, none⟩ (.int .i64 y4)).setCell ⟨w61.heap.size, 4, none⟩ (.int .u64 y5)).setCell ⟨w61.heap.size, 5, none⟩ (.int .i64 y6)).setCell ⟨w61.heap.size, 6, none⟩ (.int .i64 y7)).setCell ⟨w61.heap.size, 7, none⟩ (.int .i64 y8)).setCell ⟨w61.heap.size, 8, none⟩ (.int .i64 y9)) = w64 at HC_64 HU_64 hs_64 Bq_64 Bt_64 Bx_64 Bu_64 ⊢
              obtain ⟨dq0, dq1, dq2, dq3⟩ := cells4 Bq_64.out
              obtain ⟨dt0, dt1, dt2, dt3, dt4, dt5, dt6, dt7, dt8⟩ := cells9 Bt_64.out
              have ft := blk_frozen Bt_64.out
              have dx0 : w64.cell? ⟨w50.heap.size, 0, none⟩ = some (.int .i64 1) := (blk_cell Bx_64.out 0).trans rfl
              obtain ⟨du0, du1, du2, du3, du4, du5, du6, du7, du8⟩ := cells9 Bu_64.out
              have fu := blk_frozen Bu_64.out
              go_meet
              exact ⟨⟨y1, y2, y3, y4, y5, y6, y7, y8, y9⟩, 0, nx, tl, rfl, rfl, rfl, ⟨by omega⟩, ⟨fun _ => HS3.out⟩, ⟨fun h => absurd rfl h⟩, HC_64, HU_64, ⟨by omega⟩, Bq_64, Bt_64, Bu_64⟩
            · have HUU := Aside0.mk hu
              clear hu
              have fe : (e == 0) = false := beq_eq_false_iff_ne.mpr he
              have HE := Aside0.mk he
              clear he
              go_wp2_with (go_at_call 24; with_reducible refine (oresume_x id co st lv gg fr lf du tl y1 y2 y3 y4 y5 y6 y7 y8 y9 (nw + wt) e w62 HC_62.out (by omega) HS2.out HUU.out).mono ?_; rintro e w63 ⟨rfl, q1, q2⟩; clear dq0 dq1 dq2 dq3 dt0 dt1 dt2 dt3 dt4 dt5 dt6 dt7 dt8 ft dx0 du0 du1 du2 du3 du4 du5 du6 du7 du8 fu; have HC_63 := Aside0.mk q1; have HU_63 := Aside0.mk (HU_62.out.trans q2); have hs_63 : w62.heap.size ≤ w63.heap.size := q2.size; have Bq_63 := Aside0.mk (q2.blk Bq_62.out (by omega)); have Bt_63 := Aside0.mk (q2.blk Bt_62.out (by omega)); have Bx_63 := Aside0.mk (q2.blk Bx_62.out (by omega)); have Bu_63 := Aside0.mk (q2.blk Bu_62.out (by omega)); clear q1 q2; obtain ⟨dq0, dq1, dq2, dq3⟩ := cells4 Bq_63.out; obtain ⟨dt0, dt1, dt2, dt3, dt4, dt5, dt6, dt7, dt8⟩ := cells9 Bt_63.out; have ft := blk_frozen Bt_63.out; have dx0 : w63.cell? ⟨w50.heap.size, 0, none⟩ = some (.int .i64 1) := (blk_cell Bx_63.out 0).trans rfl; obtain ⟨du0, du1, du2, du3, du4, du5, du6, du7, du8⟩ := cells9 Bu_63.out; have fu := blk_frozen Bu_63.out)
              clear dq0 dq1 dq2 dq3 dt0 dt1 dt2 dt3 dt4 dt5 dt6 dt7 dt8 ft dx0 du0 du1 du2 du3 du4 du5 du6 du7 du8 fu
              obtain ⟨S1, S2, S3, S4, hs_64⟩ := step_set9 (.int .u64 y1) (.int .i64 y2) (.int .i64 y3) (.int .i64 y4) (.int .u64 y5) (.int .i64 y6) (.int .i64 y7) (.int .i64 y8) (.int .i64 y9) HC_63.out HU_63.out Bu_63.out ⟨by decide, by decide, by decide, by decide, by decide, by decide⟩ (by omega)
              have HC_64 := Aside0.mk S1
              have HU_64 := Aside0.mk S2
              have Bu_64 := Aside0.mk S3
              have Bq_64 := Aside0.mk (S4 (g := w.heap.size + 1) (by omega) Bq_63.out)
              have Bt_64 := Aside0.mk (S4 (g := w6.heap.size) (by omega) Bt_63.out)
              have Bx_64 := Aside0.mk (S4 (g := w50.heap.size) (by omega) Bx_63.out)
              clear S1 S2 S3 S4
              generalize (((((((((w63.setCell ⟨w61.heap.size, 0, none⟩ (.int .u64 y1)).setCell ⟨w61.heap.size, 1, none⟩ (.int .i64 y2)).setCell ⟨w61.heap.size, 2, none⟩ (.int .i64 y3)).setCell ⟨w61.heap.size, 3, none⟩ (.int .i64 y4)).setCell ⟨w61.heap.size, 4, none⟩ (.int .u64 y5)).setCell ⟨w61.heap.size, 5, none⟩ (.int .i64 y6)).setCell ⟨w61.heap.size, 6, none⟩ (.int .i64 y7)).setCell ⟨w61.heap.size, 7, none⟩ (.int .i64 y8)).setCell ⟨w61.heap.size, 8, none⟩ (.int .i64 y9)) = w64 at HC_64 HU_64 hs_64 Bq_64 Bt_64 Bx_64 Bu_64 ⊢
              obtain ⟨dq0, dq1, dq2, dq3⟩ := cells4 Bq_64.out
              obtain ⟨dt0, dt1, dt2, dt3, dt4, dt5, dt6, dt7, dt8⟩ := cells9 Bt_64.out
              have ft := blk_frozen Bt_64.out
              have dx0 : w64.cell? ⟨w50.heap.size, 0, none⟩ = some (.int .i64 1) := (blk_cell Bx_64.out 0).trans rfl
              obtain ⟨du0, du1, du2, du3, du4, du5, du6, du7, du8⟩ := cells9 Bu_64.out
              have fu := blk_frozen Bu_64.out
              go_meet
              exact ⟨⟨y1, y2, y3, y4, y5, y6, y7, y8, y9⟩, e, nx, tl, rfl, rfl, rfl, ⟨by omega⟩, ⟨fun h => absurd h HE.out⟩, ⟨fun _ => ⟨rfl, rfl⟩⟩, HC_64, HU_64, ⟨by omega⟩, Bq_64, Bt_64, Bu_64⟩
          · by_cases k2 : kd = 2
            · subst k2
              clear k1
              obtain ⟨⟨⟨y1, y2, y3, y4, y5, y6, y7, y8, y9⟩, e⟩, hu⟩ : ∃ p, resolveT ⟨id, co, st, lv, gg, fr, lf, du, tl⟩ = p := ⟨_, rfl⟩
              by_cases he : e = 0
              · subst he
                have HS3 := Aside0.mk (resolve_snd HS2.out hu)
                have HUU := Aside0.mk hu
                clear hu
                go_wp2_with (go_at_call 25; with_reducible refine (oresolve_x id co st lv gg fr lf du tl y1 y2 y3 y4 y5 y6 y7 y8 y9 0 w62 HUU.out).mono ?_; rintro e w63 ⟨rfl, q1⟩; clear dq0 dq1 dq2 dq3 dt0 dt1 dt2 dt3 dt4 dt5 dt6 dt7 dt8 ft dx0 du0 du1 du2 du3 du4 du5 du6 du7 du8 fu; have HC_63 := Aside0.mk (HC_62.out.below q1); have HU_63 := Aside0.mk (HU_62.out.then q1); have hs_63 : w62.heap.size ≤ w63.heap.size := q1.size; have Bq_63 := Aside0.mk (blk_below Bq_62.out q1); have Bt_63 := Aside0.mk (blk_below Bt_62.out q1); have Bx_63 := Aside0.mk (blk_below Bx_62.out q1); have Bu_63 := Aside0.mk (blk_below Bu_62.out q1); clear q1; obtain ⟨dq0, dq1, dq2, dq3⟩ := cells4 Bq_63.out; obtain ⟨dt0, dt1, dt2, dt3, dt4, dt5, dt6, dt7, dt8⟩ := cells9 Bt_63.out; have ft := blk_frozen Bt_63.out; have dx0 : w63.cell? ⟨w50.heap.size, 0, none⟩ = some (.int .i64 2) := (blk_cell Bx_63.out 0).trans rfl; obtain ⟨du0, du1, du2, du3, du4, du5, du6, du7, du8⟩ := cells9 Bu_63.out; have fu := blk_frozen Bu_63.out)
                clear dq0 dq1 dq2 dq3 dt0 dt1 dt2 dt3 dt4 dt5 dt6 dt7 dt8 ft dx0 du0 du1 du2 du3 du4 du5 du6 du7 du8 fu
                obtain ⟨S1, S2, S3, S4, hs_64⟩ := step_set9 (.int .u64 y1) (.int .i64 y2) (.int .i64 y3) (.int .i64 y4) (.int .u64 y5) (.int .i64 y6) (.int .i64 y7) (.int .i64 y8) (.int .i64 y9) HC_63.out HU_63.out Bu_63.out ⟨by decide, by decide, by decide, by decide, by decide, by decide⟩ (by omega)
                have HC_64 := Aside0.mk S1
                have HU_64 := Aside0.mk S2
                have Bu_64 := Aside0.mk S3
                have Bq_64 := Aside0.mk (S4 (g := w.heap.size + 1) (by omega) Bq_63.out)
                have Bt_64 := Aside0.mk (S4 (g := w6.heap.size) (by omega) Bt_63.out)
                have Bx_64 := Aside0.mk (S4 (g := w50.heap.size) (by omega) Bx_63.out)
                clear S1 S2 S3 S4
                generalize (((((((((w63.setCell ⟨w61.heap.size, 0, none⟩ (.int .u64 y1)).setCell ⟨w61.heap.size, 1, none⟩ (.int .i64 y2)).setCell ⟨w61.heap.size, 2, none⟩ (.int .i64 y3)).setCell ⟨w61.heap.size, 3, none⟩ (.int .i64 y4)).setCell ⟨w61.heap.size, 4, none⟩ (.int .u64 y5)).setCell ⟨w61.heap.size, 5, none⟩ (.int .i64 y6)).setCell ⟨w61.heap.size, 6, none⟩ (.int .i64 y7)).setCell ⟨w61.heap.size, 7, none⟩ (.int .i64 y8)).setCell ⟨w61.heap.size, 8, none⟩ (.int .i64 y9)) = w64 at HC_64 HU_64 hs_64 Bq_64 Bt_64 Bx_64 Bu_64 ⊢
                obtain ⟨dq0, dq1, dq2, dq3⟩ := cells4 Bq_64.out
                obtain ⟨dt0, dt1, dt2, dt3, dt4, dt5, dt6, dt7, dt8⟩ := cells9 Bt_64.out
                have ft := blk_frozen Bt_64.out
                have dx0 : w64.cell? ⟨w50.heap.size, 0, none⟩ = some (.int .i64 2) := (blk_cell Bx_64.out 0).trans rfl
                obtain ⟨du0, du1, du2, du3, du4, du5, du6, du7, du8⟩ := cells9 Bu_64.out
                have fu := blk_frozen Bu_64.out
                go_meet
                exact ⟨⟨y1, y2, y3, y4, y5, y6, y7, y8, y9⟩, 0, nx, tl, rfl, rfl, rfl, ⟨by omega⟩, ⟨fun _ => HS3.out⟩, ⟨fun h => absurd rfl h⟩, HC_64, HU_64, ⟨by omega⟩, Bq_64, Bt_64, Bu_64⟩
              · have HUU := Aside0.mk hu
                clear hu
                have fe : (e == 0) = false := beq_eq_false_iff_ne.mpr he
                have HE := Aside0.mk he
                clear he
                go_wp2_with (go_at_call 25; with_reducible refine (oresolve_x id co st lv gg fr lf du tl y1 y2 y3 y4 y5 y6 y7 y8 y9 e w62 HUU.out).mono ?_; rintro e w63 ⟨rfl, q1⟩; clear dq0 dq1 dq2 dq3 dt0 dt1 dt2 dt3 dt4 dt5 dt6 dt7 dt8 ft dx0 du0 du1 du2 du3 du4 du5 du6 du7 du8 fu; have HC_63 := Aside0.mk (HC_62.out.below q1); have HU_63 := Aside0.mk (HU_62.out.then q1); have hs_63 : w62.heap.size ≤ w63.heap.size := q1.size; have Bq_63 := Aside0.mk (blk_below Bq_62.out q1); have Bt_63 := Aside0.mk (blk_below Bt_62.out q1); have Bx_63 := Aside0.mk (blk_below Bx_62.out q1); have Bu_63 := Aside0.mk (blk_below Bu_62.out q1); clear q1; obtain ⟨dq0, dq1, dq2, dq3⟩ := cells4 Bq_63.out; obtain ⟨dt0, dt1, dt2, dt3, dt4, dt5, dt6, dt7, dt8⟩ := cells9 Bt_63.out; have ft := blk_frozen Bt_63.out; have dx0 : w63.cell? ⟨w50.heap.size, 0, none⟩ = some (.int .i64 2) := (blk_cell Bx_63.out 0).trans rfl; obtain ⟨du0, du1, du2, du3, du4, du5, du6, du7, du8⟩ := cells9 Bu_63.out; have fu := blk_frozen Bu_63.out)
                clear dq0 dq1 dq2 dq3 dt0 dt1 dt2 dt3 dt4 dt5 dt6 dt7 dt8 ft dx0 du0 du1 du2 du3 du4 du5 du6 du7 du8 fu
                obtain ⟨S1, S2, S3, S4, hs_64⟩ := step_set9 (.int .u64 y1) (.int .i64 y2) (.int .i64 y3) (.int .i64 y4) (.int .u64 y5) (.int .i64 y6) (.int .i64 y7) (.int .i64 y8) (.int .i64 y9) HC_63.out HU_63.out Bu_63.out ⟨by decide, by decide, by decide, by decide, by decide, by decide⟩ (by omega)
                have HC_64 := Aside0.mk S1
                have HU_64 := Aside0.mk S2
                have Bu_64 := Aside0.mk S3
                have Bq_64 := Aside0.mk (S4 (g := w.heap.size + 1) (by omega) Bq_63.out)
                have Bt_64 := Aside0.mk (S4 (g := w6.heap.size) (by omega) Bt_63.out)
                have Bx_64 := Aside0.mk (S4 (g := w50.heap.size) (by omega) Bx_63.out)
                clear S1 S2 S3 S4
                generalize (((((((((w63.setCell ⟨w61.heap.size, 0, none⟩ (.int .u64 y1)).setCell ⟨w61.heap.size, 1, none⟩ (.int .i64 y2)).setCell ⟨w61.heap.size, 2, none⟩ (.int .i64 y3)).setCell ⟨w61.heap.size, 3, none⟩ (.int .i64 y4)).setCell ⟨w61.heap.size, 4, none⟩ (.int .u64 y5)).setCell ⟨w61.heap.size, 5, none⟩ (.int .i64 y6)).setCell ⟨w61.heap.size, 6, none⟩ (.int .i64 y7)).setCell ⟨w61.heap.size, 7, none⟩ (.int .i64 y8)).setCell ⟨w61.heap.size, 8, none⟩ (.int .i64 y9)) = w64 at HC_64 HU_64 hs_64 Bq_64 Bt_64 Bx_64 Bu_64 ⊢
                obtain ⟨dq0, dq1, dq2, dq3⟩ := cells4 Bq_64.out
                obtain ⟨dt0, dt1, dt2, dt3, dt4, dt5, dt6, dt7, dt8⟩ := cells9 Bt_64.out
                have ft := blk_frozen Bt_64.out
                have dx0 : w64.cell? ⟨w50.heap.size, 0, none⟩ = some (.int .i64 2) := (blk_cell Bx_64.out 0).trans rfl
                obtain ⟨du0, du1, du2, du3, du4, du5, du6, du7, du8⟩ := cells9 Bu_64.out
                have fu := blk_frozen Bu_64.out
                go_meet
                exact ⟨⟨y1, y2, y3, y4, y5, y6, y7, y8, y9⟩, e, nx, tl, rfl, rfl, rfl, ⟨by omega⟩, ⟨fun h => absurd h HE.out⟩, ⟨fun _ => ⟨rfl, rfl⟩⟩, HC_64, HU_64, ⟨by omega⟩, Bq_64, Bt_64, Bu_64⟩
            · by_cases k3 : kd = 3
              · subst k3
                clear k1 k2
                obtain ⟨⟨⟨y1, y2, y3, y4, y5, y6, y7, y8, y9⟩, e⟩, hu⟩ : ∃ p, reopenT off week closed cal ls re ba ⟨id, co, st, lv, gg, fr, lf, du, tl⟩ (nw + wt) = p := ⟨_, rfl⟩
                by_cases he : e = 0
                · subst he
                  have HS3 := Aside0.mk (reopen_snd HCK.out HGD.out HS2.out hu)
                  have HUU := Aside0.mk hu
                  clear hu
                  go_upto_region 25 with (go_at_call 26; with_reducible refine (oreopen_x (L := 0) (nx := 0) (td := 0) id co st lv gg fr lf du tl y1 y2 y3 y4 y5 y6 y7 y8 y9 (nw + wt) 0 cal re ba w62 HC_62.out (by omega) ⟨Kd.C_below RQ.out.1 (upd_below16 HBB.out HU_62.out HcbW.out HwB.out), RQ.out.2⟩ HUU.out).mono ?_; rintro e w63 ⟨rfl, q1, q2⟩; clear dq0 dq1 dq2 dq3 dt0 dt1 dt2 dt3 dt4 dt5 dt6 dt7 dt8 ft dx0 du0 du1 du2 du3 du4 du5 du6 du7 du8 fu; have HC_63 := Aside0.mk q1; have HU_63 := Aside0.mk (HU_62.out.trans q2); have hs_63 : w62.heap.size ≤ w63.heap.size := q2.size; have Bq_63 := Aside0.mk (q2.blk Bq_62.out (by omega)); have Bt_63 := Aside0.mk (q2.blk Bt_62.out (by omega)); have Bx_63 := Aside0.mk (q2.blk Bx_62.out (by omega)); have Bu_63 := Aside0.mk (q2.blk Bu_62.out (by omega)); clear q1 q2; obtain ⟨dq0, dq1, dq2, dq3⟩ := cells4 Bq_63.out; obtain ⟨dt0, dt1, dt2, dt3, dt4, dt5, dt6, dt7, dt8⟩ := cells9 Bt_63.out; have ft := blk_frozen Bt_63.out; have dx0 : w63.cell? ⟨w50.heap.size, 0, none⟩ = some (.int .i64 3) := (blk_cell Bx_63.out 0).trans rfl; obtain ⟨du0, du1, du2, du3, du4, du5, du6, du7, du8⟩ := cells9 Bu_63.out; have fu := blk_frozen Bu_63.out)
                  clear dq0 dq1 dq2 dq3 dt0 dt1 dt2 dt3 dt4 dt5 dt6 dt7 dt8 ft dx0 du0 du1 du2 du3 du4 du5 du6 du7 du8 fu
                  obtain ⟨S1, S2, S3, S4, hs_64⟩ := step_set9 (.int .u64 y1) (.int .i64 y2) (.int .i64 y3) (.int .i64 y4) (.int .u64 y5) (.int .i64 y6) (.int .i64 y7) (.int .i64 y8) (.int .i64 y9) HC_63.out HU_63.out Bu_63.out ⟨by decide, by decide, by decide, by decide, by decide, by decide⟩ (by omega)
                  have HC_64 := Aside0.mk S1
                  have HU_64 := Aside0.mk S2
                  have Bu_64 := Aside0.mk S3
                  have Bq_64 := Aside0.mk (S4 (g := w.heap.size + 1) (by omega) Bq_63.out)
                  have Bt_64 := Aside0.mk (S4 (g := w6.heap.size) (by omega) Bt_63.out)
                  have Bx_64 := Aside0.mk (S4 (g := w50.heap.size) (by omega) Bx_63.out)
                  clear S1 S2 S3 S4
                  generalize (((((((((w63.setCell ⟨w61.heap.size, 0, none⟩ (.int .u64 y1)).setCell ⟨w61.heap.size, 1, none⟩ (.int .i64 y2)).setCell ⟨w61.heap.size, 2, none⟩ (.int .i64 y3)).setCell ⟨w61.heap.size, 3, none⟩ (.int .i64 y4)).setCell ⟨w61.heap.size, 4, none⟩ (.int .u64 y5)).setCell ⟨w61.heap.size, 5, none⟩ (.int .i64 y6)).setCell ⟨w61.heap.size, 6, none⟩ (.int .i64 y7)).setCell ⟨w61.heap.size, 7, none⟩ (.int .i64 y8)).setCell ⟨w61.heap.size, 8, none⟩ (.int .i64 y9)) = w64 at HC_64 HU_64 hs_64 Bq_64 Bt_64 Bx_64 Bu_64 ⊢
                  obtain ⟨dq0, dq1, dq2, dq3⟩ := cells4 Bq_64.out
                  obtain ⟨dt0, dt1, dt2, dt3, dt4, dt5, dt6, dt7, dt8⟩ := cells9 Bt_64.out
                  have ft := blk_frozen Bt_64.out
                  have dx0 : w64.cell? ⟨w50.heap.size, 0, none⟩ = some (.int .i64 3) := (blk_cell Bx_64.out 0).trans rfl
                  obtain ⟨du0, du1, du2, du3, du4, du5, du6, du7, du8⟩ := cells9 Bu_64.out
                  have fu := blk_frozen Bu_64.out
                  clear dq0 dq1 dq2 dq3 dt0 dt1 dt2 dt3 dt4 dt5 dt6 dt7 dt8 ft dx0 du0 du1 du2 du3 du4 du5 du6 du7 du8 fu
                  have du2 : w64.cell? ⟨w61.heap.size, 2, none⟩ = some (.int .i64 y3) := (blk_cell Bu_64.out 2).trans rfl
                  have du3 : w64.cell? ⟨w61.heap.size, 3, none⟩ = some (.int .i64 y4) := (blk_cell Bu_64.out 3).trans rfl
                  have fu := blk_frozen Bu_64.out
                  go_wp2
                  go_meet
                  exact ⟨⟨y1, y2, y3, y4, y5, y6, y7, y8, y9⟩, 0, 0, tl, rfl, rfl, rfl, ⟨by omega⟩, ⟨fun _ => HS3.out⟩, ⟨fun h => absurd rfl h⟩, HC_64, HU_64, ⟨by omega⟩, Bq_64, Bt_64, Bu_64⟩
                · have HUU := Aside0.mk hu
                  clear hu
                  have fe : (e == 0) = false := beq_eq_false_iff_ne.mpr he
                  have HE := Aside0.mk he
                  clear he
                  go_upto_region 25 with (go_at_call 26; with_reducible refine (oreopen_x (L := 0) (nx := 0) (td := 0) id co st lv gg fr lf du tl y1 y2 y3 y4 y5 y6 y7 y8 y9 (nw + wt) e cal re ba w62 HC_62.out (by omega) ⟨Kd.C_below RQ.out.1 (upd_below16 HBB.out HU_62.out HcbW.out HwB.out), RQ.out.2⟩ HUU.out).mono ?_; rintro e w63 ⟨rfl, q1, q2⟩; clear dq0 dq1 dq2 dq3 dt0 dt1 dt2 dt3 dt4 dt5 dt6 dt7 dt8 ft dx0 du0 du1 du2 du3 du4 du5 du6 du7 du8 fu; have HC_63 := Aside0.mk q1; have HU_63 := Aside0.mk (HU_62.out.trans q2); have hs_63 : w62.heap.size ≤ w63.heap.size := q2.size; have Bq_63 := Aside0.mk (q2.blk Bq_62.out (by omega)); have Bt_63 := Aside0.mk (q2.blk Bt_62.out (by omega)); have Bx_63 := Aside0.mk (q2.blk Bx_62.out (by omega)); have Bu_63 := Aside0.mk (q2.blk Bu_62.out (by omega)); clear q1 q2; obtain ⟨dq0, dq1, dq2, dq3⟩ := cells4 Bq_63.out; obtain ⟨dt0, dt1, dt2, dt3, dt4, dt5, dt6, dt7, dt8⟩ := cells9 Bt_63.out; have ft := blk_frozen Bt_63.out; have dx0 : w63.cell? ⟨w50.heap.size, 0, none⟩ = some (.int .i64 3) := (blk_cell Bx_63.out 0).trans rfl; obtain ⟨du0, du1, du2, du3, du4, du5, du6, du7, du8⟩ := cells9 Bu_63.out; have fu := blk_frozen Bu_63.out)
                  clear dq0 dq1 dq2 dq3 dt0 dt1 dt2 dt3 dt4 dt5 dt6 dt7 dt8 ft dx0 du0 du1 du2 du3 du4 du5 du6 du7 du8 fu
                  obtain ⟨S1, S2, S3, S4, hs_64⟩ := step_set9 (.int .u64 y1) (.int .i64 y2) (.int .i64 y3) (.int .i64 y4) (.int .u64 y5) (.int .i64 y6) (.int .i64 y7) (.int .i64 y8) (.int .i64 y9) HC_63.out HU_63.out Bu_63.out ⟨by decide, by decide, by decide, by decide, by decide, by decide⟩ (by omega)
                  have HC_64 := Aside0.mk S1
                  have HU_64 := Aside0.mk S2
                  have Bu_64 := Aside0.mk S3
                  have Bq_64 := Aside0.mk (S4 (g := w.heap.size + 1) (by omega) Bq_63.out)
                  have Bt_64 := Aside0.mk (S4 (g := w6.heap.size) (by omega) Bt_63.out)
                  have Bx_64 := Aside0.mk (S4 (g := w50.heap.size) (by omega) Bx_63.out)
                  clear S1 S2 S3 S4
                  generalize (((((((((w63.setCell ⟨w61.heap.size, 0, none⟩ (.int .u64 y1)).setCell ⟨w61.heap.size, 1, none⟩ (.int .i64 y2)).setCell ⟨w61.heap.size, 2, none⟩ (.int .i64 y3)).setCell ⟨w61.heap.size, 3, none⟩ (.int .i64 y4)).setCell ⟨w61.heap.size, 4, none⟩ (.int .u64 y5)).setCell ⟨w61.heap.size, 5, none⟩ (.int .i64 y6)).setCell ⟨w61.heap.size, 6, none⟩ (.int .i64 y7)).setCell ⟨w61.heap.size, 7, none⟩ (.int .i64 y8)).setCell ⟨w61.heap.size, 8, none⟩ (.int .i64 y9)) = w64 at HC_64 HU_64 hs_64 Bq_64 Bt_64 Bx_64 Bu_64 ⊢
                  obtain ⟨dq0, dq1, dq2, dq3⟩ := cells4 Bq_64.out
                  obtain ⟨dt0, dt1, dt2, dt3, dt4, dt5, dt6, dt7, dt8⟩ := cells9 Bt_64.out
                  have ft := blk_frozen Bt_64.out
                  have dx0 : w64.cell? ⟨w50.heap.size, 0, none⟩ = some (.int .i64 3) := (blk_cell Bx_64.out 0).trans rfl
                  obtain ⟨du0, du1, du2, du3, du4, du5, du6, du7, du8⟩ := cells9 Bu_64.out
                  have fu := blk_frozen Bu_64.out
                  clear dq0 dq1 dq2 dq3 dt0 dt1 dt2 dt3 dt4 dt5 dt6 dt7 dt8 ft dx0 du0 du1 du2 du3 du4 du5 du6 du7 du8 fu
                  have du2 : w64.cell? ⟨w61.heap.size, 2, none⟩ = some (.int .i64 y3) := (blk_cell Bu_64.out 2).trans rfl
                  have du3 : w64.cell? ⟨w61.heap.size, 3, none⟩ = some (.int .i64 y4) := (blk_cell Bu_64.out 3).trans rfl
                  have fu := blk_frozen Bu_64.out
                  go_wp2
                  go_meet
                  exact ⟨⟨y1, y2, y3, y4, y5, y6, y7, y8, y9⟩, e, nx, tl, rfl, rfl, rfl, ⟨by omega⟩, ⟨fun h => absurd h HE.out⟩, ⟨fun _ => ⟨rfl, rfl⟩⟩, HC_64, HU_64, ⟨by omega⟩, Bq_64, Bt_64, Bu_64⟩
              · by_cases k4 : kd = 4
                · subst k4
                  clear k1 k2 k3
                  have HTL : Aside0 (0 ≤ tl ∧ tl ≤ 60) := ⟨by omega⟩
                  obtain ⟨⟨⟨y1, y2, y3, y4, y5, y6, y7, y8, y9⟩, met, e⟩, hu⟩ : ∃ p, fireT off week closed cal ls re ba ⟨id, co, st, lv, gg, fr, lf, du, tl⟩ (nw + wt) = p := ⟨_, rfl⟩
                  by_cases he : e = 0
                  · subst he
                    obtain ⟨hm, hs3, hc, ht9⟩ := fire_snd HCK.out HGD.out HS2.out hu
                    dsimp only at hm hs3 hc ht9
                    have hm2 := hm.symm
                    subst hm2 ht9
                    rcases hc with ⟨rfl, rfl⟩ | rfl
                    · have HS3 := Aside0.mk hs3
                      have HUU := Aside0.mk hu
                      clear hu hs3
                      go_upto_region 29 with (go_at_call 27; with_reducible refine (ofire_x (L := 0) id co st lv gg fr lf du tl y1 y2 1 (nx + 1) y5 y6 y7 y8 (tl + 1) (nw + wt) 0 nx cal re ba w62 HC_62.out (by omega) ⟨Kd.C_below RQ.out.1 (upd_below16 HBB.out HU_62.out HcbW.out HwB.out), RQ.out.2⟩ HGD.out HS2.out HTL.out HUU.out).mono ?_; rintro e w63 ⟨rfl, q1, q2⟩; clear dq0 dq1 dq2 dq3 dt0 dt1 dt2 dt3 dt4 dt5 dt6 dt7 dt8 ft dx0 du0 du1 du2 du3 du4 du5 du6 du7 du8 fu; have HC_63 := Aside0.mk q1; have HU_63 := Aside0.mk (HU_62.out.trans q2); have hs_63 : w62.heap.size ≤ w63.heap.size := q2.size; have Bq_63 := Aside0.mk (q2.blk Bq_62.out (by omega)); have Bt_63 := Aside0.mk (q2.blk Bt_62.out (by omega)); have Bx_63 := Aside0.mk (q2.blk Bx_62.out (by omega)); have Bu_63 := Aside0.mk (q2.blk Bu_62.out (by omega)); clear q1 q2; obtain ⟨dq0, dq1, dq2, dq3⟩ := cells4 Bq_63.out; obtain ⟨dt0, dt1, dt2, dt3, dt4, dt5, dt6, dt7, dt8⟩ := cells9 Bt_63.out; have ft := blk_frozen Bt_63.out; have dx0 : w63.cell? ⟨w50.heap.size, 0, none⟩ = some (.int .i64 4) := (blk_cell Bx_63.out 0).trans rfl; obtain ⟨du0, du1, du2, du3, du4, du5, du6, du7, du8⟩ := cells9 Bu_63.out; have fu := blk_frozen Bu_63.out)
                      clear dq0 dq1 dq2 dq3 dt0 dt1 dt2 dt3 dt4 dt5 dt6 dt7 dt8 ft dx0 du0 du1 du2 du3 du4 du5 du6 du7 du8 fu
                      obtain ⟨S1, S2, S3, S4, hs_64⟩ := step_set9 (.int .u64 y1) (.int .i64 y2) (.int .i64 1) (.int .i64 ((nx + 1))) (.int .u64 y5) (.int .i64 y6) (.int .i64 y7) (.int .i64 y8) (.int .i64 ((tl + 1))) HC_63.out HU_63.out Bu_63.out ⟨by decide, by decide, by decide, by decide, by decide, by decide⟩ (by omega)
                      have HC_64 := Aside0.mk S1
                      have HU_64 := Aside0.mk S2
                      have Bu_64 := Aside0.mk S3
                      have Bq_64 := Aside0.mk (S4 (g := w.heap.size + 1) (by omega) Bq_63.out)
                      have Bt_64 := Aside0.mk (S4 (g := w6.heap.size) (by omega) Bt_63.out)
                      have Bx_64 := Aside0.mk (S4 (g := w50.heap.size) (by omega) Bx_63.out)
                      clear S1 S2 S3 S4
                      generalize (((((((((w63.setCell ⟨w61.heap.size, 0, none⟩ (.int .u64 y1)).setCell ⟨w61.heap.size, 1, none⟩ (.int .i64 y2)).setCell ⟨w61.heap.size, 2, none⟩ (.int .i64 1)).setCell ⟨w61.heap.size, 3, none⟩ (.int .i64 ((nx + 1)))).setCell ⟨w61.heap.size, 4, none⟩ (.int .u64 y5)).setCell ⟨w61.heap.size, 5, none⟩ (.int .i64 y6)).setCell ⟨w61.heap.size, 6, none⟩ (.int .i64 y7)).setCell ⟨w61.heap.size, 7, none⟩ (.int .i64 y8)).setCell ⟨w61.heap.size, 8, none⟩ (.int .i64 ((tl + 1)))) = w64 at HC_64 HU_64 hs_64 Bq_64 Bt_64 Bx_64 Bu_64 ⊢
                      obtain ⟨dq0, dq1, dq2, dq3⟩ := cells4 Bq_64.out
                      obtain ⟨dt0, dt1, dt2, dt3, dt4, dt5, dt6, dt7, dt8⟩ := cells9 Bt_64.out
                      have ft := blk_frozen Bt_64.out
                      have dx0 : w64.cell? ⟨w50.heap.size, 0, none⟩ = some (.int .i64 4) := (blk_cell Bx_64.out 0).trans rfl
                      obtain ⟨du0, du1, du2, du3, du4, du5, du6, du7, du8⟩ := cells9 Bu_64.out
                      have fu := blk_frozen Bu_64.out
                      clear dq0 dq1 dq2 dq3 dt0 dt1 dt2 dt3 dt4 dt5 dt6 dt7 dt8 ft dx0 du0 du1 du2 du3 du4 du5 du6 du7 du8 fu
                      have du2 : w64.cell? ⟨w61.heap.size, 2, none⟩ = some (.int .i64 1) := (blk_cell Bu_64.out 2).trans rfl
                      have du3 : w64.cell? ⟨w61.heap.size, 3, none⟩ = some (.int .i64 ((nx + 1))) := (blk_cell Bu_64.out 3).trans rfl
                      have fu := blk_frozen Bu_64.out
                      go_wp2
                      go_meet
                      exact ⟨⟨y1, y2, 1, (nx + 1), y5, y6, y7, y8, (tl + 1)⟩, 0, (nx + 1), (tl + 1), rfl, rfl, rfl, ⟨by omega⟩, ⟨fun _ => HS3.out⟩, ⟨fun h => absurd rfl h⟩, HC_64, HU_64, ⟨by omega⟩, Bq_64, Bt_64, Bu_64⟩
                    · have HS3 := Aside0.mk hs3
                      have HUU := Aside0.mk hu
                      clear hu hs3
                      go_upto_region 29 with (go_at_call 27; with_reducible refine (ofire_x (L := 0) id co st lv gg fr lf du tl y1 y2 3 y4 y5 y6 y7 y8 (tl + 1) (nw + wt) 0 nx cal re ba w62 HC_62.out (by omega) ⟨Kd.C_below RQ.out.1 (upd_below16 HBB.out HU_62.out HcbW.out HwB.out), RQ.out.2⟩ HGD.out HS2.out HTL.out HUU.out).mono ?_; rintro e w63 ⟨rfl, q1, q2⟩; clear dq0 dq1 dq2 dq3 dt0 dt1 dt2 dt3 dt4 dt5 dt6 dt7 dt8 ft dx0 du0 du1 du2 du3 du4 du5 du6 du7 du8 fu; have HC_63 := Aside0.mk q1; have HU_63 := Aside0.mk (HU_62.out.trans q2); have hs_63 : w62.heap.size ≤ w63.heap.size := q2.size; have Bq_63 := Aside0.mk (q2.blk Bq_62.out (by omega)); have Bt_63 := Aside0.mk (q2.blk Bt_62.out (by omega)); have Bx_63 := Aside0.mk (q2.blk Bx_62.out (by omega)); have Bu_63 := Aside0.mk (q2.blk Bu_62.out (by omega)); clear q1 q2; obtain ⟨dq0, dq1, dq2, dq3⟩ := cells4 Bq_63.out; obtain ⟨dt0, dt1, dt2, dt3, dt4, dt5, dt6, dt7, dt8⟩ := cells9 Bt_63.out; have ft := blk_frozen Bt_63.out; have dx0 : w63.cell? ⟨w50.heap.size, 0, none⟩ = some (.int .i64 4) := (blk_cell Bx_63.out 0).trans rfl; obtain ⟨du0, du1, du2, du3, du4, du5, du6, du7, du8⟩ := cells9 Bu_63.out; have fu := blk_frozen Bu_63.out)
                      clear dq0 dq1 dq2 dq3 dt0 dt1 dt2 dt3 dt4 dt5 dt6 dt7 dt8 ft dx0 du0 du1 du2 du3 du4 du5 du6 du7 du8 fu
                      obtain ⟨S1, S2, S3, S4, hs_64⟩ := step_set9 (.int .u64 y1) (.int .i64 y2) (.int .i64 3) (.int .i64 y4) (.int .u64 y5) (.int .i64 y6) (.int .i64 y7) (.int .i64 y8) (.int .i64 ((tl + 1))) HC_63.out HU_63.out Bu_63.out ⟨by decide, by decide, by decide, by decide, by decide, by decide⟩ (by omega)
                      have HC_64 := Aside0.mk S1
                      have HU_64 := Aside0.mk S2
                      have Bu_64 := Aside0.mk S3
                      have Bq_64 := Aside0.mk (S4 (g := w.heap.size + 1) (by omega) Bq_63.out)
                      have Bt_64 := Aside0.mk (S4 (g := w6.heap.size) (by omega) Bt_63.out)
                      have Bx_64 := Aside0.mk (S4 (g := w50.heap.size) (by omega) Bx_63.out)
                      clear S1 S2 S3 S4
                      generalize (((((((((w63.setCell ⟨w61.heap.size, 0, none⟩ (.int .u64 y1)).setCell ⟨w61.heap.size, 1, none⟩ (.int .i64 y2)).setCell ⟨w61.heap.size, 2, none⟩ (.int .i64 3)).setCell ⟨w61.heap.size, 3, none⟩ (.int .i64 y4)).setCell ⟨w61.heap.size, 4, none⟩ (.int .u64 y5)).setCell ⟨w61.heap.size, 5, none⟩ (.int .i64 y6)).setCell ⟨w61.heap.size, 6, none⟩ (.int .i64 y7)).setCell ⟨w61.heap.size, 7, none⟩ (.int .i64 y8)).setCell ⟨w61.heap.size, 8, none⟩ (.int .i64 ((tl + 1)))) = w64 at HC_64 HU_64 hs_64 Bq_64 Bt_64 Bx_64 Bu_64 ⊢
                      obtain ⟨dq0, dq1, dq2, dq3⟩ := cells4 Bq_64.out
                      obtain ⟨dt0, dt1, dt2, dt3, dt4, dt5, dt6, dt7, dt8⟩ := cells9 Bt_64.out
                      have ft := blk_frozen Bt_64.out
                      have dx0 : w64.cell? ⟨w50.heap.size, 0, none⟩ = some (.int .i64 4) := (blk_cell Bx_64.out 0).trans rfl
                      obtain ⟨du0, du1, du2, du3, du4, du5, du6, du7, du8⟩ := cells9 Bu_64.out
                      have fu := blk_frozen Bu_64.out
                      clear dq0 dq1 dq2 dq3 dt0 dt1 dt2 dt3 dt4 dt5 dt6 dt7 dt8 ft dx0 du0 du1 du2 du3 du4 du5 du6 du7 du8 fu
                      have du2 : w64.cell? ⟨w61.heap.size, 2, none⟩ = some (.int .i64 3) := (blk_cell Bu_64.out 2).trans rfl
                      have du3 : w64.cell? ⟨w61.heap.size, 3, none⟩ = some (.int .i64 y4) := (blk_cell Bu_64.out 3).trans rfl
                      have fu := blk_frozen Bu_64.out
                      go_wp2
                      go_meet
                      exact ⟨⟨y1, y2, 3, y4, y5, y6, y7, y8, (tl + 1)⟩, 0, (nx + 1), (tl + 1), rfl, rfl, rfl, ⟨by omega⟩, ⟨fun _ => HS3.out⟩, ⟨fun h => absurd rfl h⟩, HC_64, HU_64, ⟨by omega⟩, Bq_64, Bt_64, Bu_64⟩
                  · have HUU := Aside0.mk hu
                    clear hu
                    have fe : (e == 0) = false := beq_eq_false_iff_ne.mpr he
                    have HE := Aside0.mk he
                    clear he
                    go_upto_region 29 with (go_at_call 27; with_reducible refine (ofire_x (L := 0) id co st lv gg fr lf du tl y1 y2 y3 y4 y5 y6 y7 y8 y9 (nw + wt) e met cal re ba w62 HC_62.out (by omega) ⟨Kd.C_below RQ.out.1 (upd_below16 HBB.out HU_62.out HcbW.out HwB.out), RQ.out.2⟩ HGD.out HS2.out HTL.out HUU.out).mono ?_; rintro e w63 ⟨rfl, q1, q2⟩; clear dq0 dq1 dq2 dq3 dt0 dt1 dt2 dt3 dt4 dt5 dt6 dt7 dt8 ft dx0 du0 du1 du2 du3 du4 du5 du6 du7 du8 fu; have HC_63 := Aside0.mk q1; have HU_63 := Aside0.mk (HU_62.out.trans q2); have hs_63 : w62.heap.size ≤ w63.heap.size := q2.size; have Bq_63 := Aside0.mk (q2.blk Bq_62.out (by omega)); have Bt_63 := Aside0.mk (q2.blk Bt_62.out (by omega)); have Bx_63 := Aside0.mk (q2.blk Bx_62.out (by omega)); have Bu_63 := Aside0.mk (q2.blk Bu_62.out (by omega)); clear q1 q2; obtain ⟨dq0, dq1, dq2, dq3⟩ := cells4 Bq_63.out; obtain ⟨dt0, dt1, dt2, dt3, dt4, dt5, dt6, dt7, dt8⟩ := cells9 Bt_63.out; have ft := blk_frozen Bt_63.out; have dx0 : w63.cell? ⟨w50.heap.size, 0, none⟩ = some (.int .i64 4) := (blk_cell Bx_63.out 0).trans rfl; obtain ⟨du0, du1, du2, du3, du4, du5, du6, du7, du8⟩ := cells9 Bu_63.out; have fu := blk_frozen Bu_63.out)
                    clear dq0 dq1 dq2 dq3 dt0 dt1 dt2 dt3 dt4 dt5 dt6 dt7 dt8 ft dx0 du0 du1 du2 du3 du4 du5 du6 du7 du8 fu
                    obtain ⟨S1, S2, S3, S4, hs_64⟩ := step_set9 (.int .u64 y1) (.int .i64 y2) (.int .i64 y3) (.int .i64 y4) (.int .u64 y5) (.int .i64 y6) (.int .i64 y7) (.int .i64 y8) (.int .i64 y9) HC_63.out HU_63.out Bu_63.out ⟨by decide, by decide, by decide, by decide, by decide, by decide⟩ (by omega)
                    have HC_64 := Aside0.mk S1
                    have HU_64 := Aside0.mk S2
                    have Bu_64 := Aside0.mk S3
                    have Bq_64 := Aside0.mk (S4 (g := w.heap.size + 1) (by omega) Bq_63.out)
                    have Bt_64 := Aside0.mk (S4 (g := w6.heap.size) (by omega) Bt_63.out)
                    have Bx_64 := Aside0.mk (S4 (g := w50.heap.size) (by omega) Bx_63.out)
                    clear S1 S2 S3 S4
                    generalize (((((((((w63.setCell ⟨w61.heap.size, 0, none⟩ (.int .u64 y1)).setCell ⟨w61.heap.size, 1, none⟩ (.int .i64 y2)).setCell ⟨w61.heap.size, 2, none⟩ (.int .i64 y3)).setCell ⟨w61.heap.size, 3, none⟩ (.int .i64 y4)).setCell ⟨w61.heap.size, 4, none⟩ (.int .u64 y5)).setCell ⟨w61.heap.size, 5, none⟩ (.int .i64 y6)).setCell ⟨w61.heap.size, 6, none⟩ (.int .i64 y7)).setCell ⟨w61.heap.size, 7, none⟩ (.int .i64 y8)).setCell ⟨w61.heap.size, 8, none⟩ (.int .i64 y9)) = w64 at HC_64 HU_64 hs_64 Bq_64 Bt_64 Bx_64 Bu_64 ⊢
                    obtain ⟨dq0, dq1, dq2, dq3⟩ := cells4 Bq_64.out
                    obtain ⟨dt0, dt1, dt2, dt3, dt4, dt5, dt6, dt7, dt8⟩ := cells9 Bt_64.out
                    have ft := blk_frozen Bt_64.out
                    have dx0 : w64.cell? ⟨w50.heap.size, 0, none⟩ = some (.int .i64 4) := (blk_cell Bx_64.out 0).trans rfl
                    obtain ⟨du0, du1, du2, du3, du4, du5, du6, du7, du8⟩ := cells9 Bu_64.out
                    have fu := blk_frozen Bu_64.out
                    clear dq0 dq1 dq2 dq3 dt0 dt1 dt2 dt3 dt4 dt5 dt6 dt7 dt8 ft dx0 du0 du1 du2 du3 du4 du5 du6 du7 du8 fu
                    have du2 : w64.cell? ⟨w61.heap.size, 2, none⟩ = some (.int .i64 y3) := (blk_cell Bu_64.out 2).trans rfl
                    have du3 : w64.cell? ⟨w61.heap.size, 3, none⟩ = some (.int .i64 y4) := (blk_cell Bu_64.out 3).trans rfl
                    have fu := blk_frozen Bu_64.out
                    go_wp2
                    go_meet
                    exact ⟨⟨y1, y2, y3, y4, y5, y6, y7, y8, y9⟩, e, nx, tl, rfl, rfl, rfl, ⟨by omega⟩, ⟨fun h => absurd h HE.out⟩, ⟨fun _ => ⟨rfl, rfl⟩⟩, HC_64, HU_64, ⟨by omega⟩, Bq_64, Bt_64, Bu_64⟩
                · have g1 : (kd == 1) = false := beq_eq_false_iff_ne.mpr k1
                  have g2 : (kd == 2) = false := beq_eq_false_iff_ne.mpr k2
                  have g3 : (kd == 3) = false := beq_eq_false_iff_ne.mpr k3
                  have g4 : (kd == 4) = false := beq_eq_false_iff_ne.mpr k4
                  clear k1 k2 k3 k4
                  obtain ⟨⟨⟨y1, y2, y3, y4, y5, y6, y7, y8, y9⟩, e⟩, hu⟩ : ∃ p, pauseT off week closed ⟨id, co, st, lv, gg, fr, lf, du, tl⟩ (nw + wt) = p := ⟨_, rfl⟩
                  by_cases he : e = 0
                  · subst he
                    have HS3 := Aside0.mk (pause_snd HCK.out HS2.out hu)
                    have HUU := Aside0.mk hu
                    clear hu
                    go_wp2_with (go_at_call 28; with_reducible refine (opause_x id co st lv gg fr lf du tl y1 y2 y3 y4 y5 y6 y7 y8 y9 (nw + wt) 0 w62 HC_62.out (by omega) HCK.out HS2.out HUU.out).mono ?_; rintro e w63 ⟨rfl, q1, q2⟩; clear dq0 dq1 dq2 dq3 dt0 dt1 dt2 dt3 dt4 dt5 dt6 dt7 dt8 ft dx0 du0 du1 du2 du3 du4 du5 du6 du7 du8 fu; have HC_63 := Aside0.mk q1; have HU_63 := Aside0.mk (HU_62.out.trans q2); have hs_63 : w62.heap.size ≤ w63.heap.size := q2.size; have Bq_63 := Aside0.mk (q2.blk Bq_62.out (by omega)); have Bt_63 := Aside0.mk (q2.blk Bt_62.out (by omega)); have Bx_63 := Aside0.mk (q2.blk Bx_62.out (by omega)); have Bu_63 := Aside0.mk (q2.blk Bu_62.out (by omega)); clear q1 q2; obtain ⟨dq0, dq1, dq2, dq3⟩ := cells4 Bq_63.out; obtain ⟨dt0, dt1, dt2, dt3, dt4, dt5, dt6, dt7, dt8⟩ := cells9 Bt_63.out; have ft := blk_frozen Bt_63.out; have dx0 : w63.cell? ⟨w50.heap.size, 0, none⟩ = some (.int .i64 kd) := (blk_cell Bx_63.out 0).trans rfl; obtain ⟨du0, du1, du2, du3, du4, du5, du6, du7, du8⟩ := cells9 Bu_63.out; have fu := blk_frozen Bu_63.out)
                    clear dq0 dq1 dq2 dq3 dt0 dt1 dt2 dt3 dt4 dt5 dt6 dt7 dt8 ft dx0 du0 du1 du2 du3 du4 du5 du6 du7 du8 fu
                    obtain ⟨S1, S2, S3, S4, hs_64⟩ := step_set9 (.int .u64 y1) (.int .i64 y2) (.int .i64 y3) (.int .i64 y4) (.int .u64 y5) (.int .i64 y6) (.int .i64 y7) (.int .i64 y8) (.int .i64 y9) HC_63.out HU_63.out Bu_63.out ⟨by decide, by decide, by decide, by decide, by decide, by decide⟩ (by omega)
                    have HC_64 := Aside0.mk S1
                    have HU_64 := Aside0.mk S2
                    have Bu_64 := Aside0.mk S3
                    have Bq_64 := Aside0.mk (S4 (g := w.heap.size + 1) (by omega) Bq_63.out)
                    have Bt_64 := Aside0.mk (S4 (g := w6.heap.size) (by omega) Bt_63.out)
                    have Bx_64 := Aside0.mk (S4 (g := w50.heap.size) (by omega) Bx_63.out)
                    clear S1 S2 S3 S4
                    generalize (((((((((w63.setCell ⟨w61.heap.size, 0, none⟩ (.int .u64 y1)).setCell ⟨w61.heap.size, 1, none⟩ (.int .i64 y2)).setCell ⟨w61.heap.size, 2, none⟩ (.int .i64 y3)).setCell ⟨w61.heap.size, 3, none⟩ (.int .i64 y4)).setCell ⟨w61.heap.size, 4, none⟩ (.int .u64 y5)).setCell ⟨w61.heap.size, 5, none⟩ (.int .i64 y6)).setCell ⟨w61.heap.size, 6, none⟩ (.int .i64 y7)).setCell ⟨w61.heap.size, 7, none⟩ (.int .i64 y8)).setCell ⟨w61.heap.size, 8, none⟩ (.int .i64 y9)) = w64 at HC_64 HU_64 hs_64 Bq_64 Bt_64 Bx_64 Bu_64 ⊢
                    obtain ⟨dq0, dq1, dq2, dq3⟩ := cells4 Bq_64.out
                    obtain ⟨dt0, dt1, dt2, dt3, dt4, dt5, dt6, dt7, dt8⟩ := cells9 Bt_64.out
                    have ft := blk_frozen Bt_64.out
                    have dx0 : w64.cell? ⟨w50.heap.size, 0, none⟩ = some (.int .i64 kd) := (blk_cell Bx_64.out 0).trans rfl
                    obtain ⟨du0, du1, du2, du3, du4, du5, du6, du7, du8⟩ := cells9 Bu_64.out
                    have fu := blk_frozen Bu_64.out
                    go_meet
                    exact ⟨⟨y1, y2, y3, y4, y5, y6, y7, y8, y9⟩, 0, nx, tl, rfl, rfl, rfl, ⟨by omega⟩, ⟨fun _ => HS3.out⟩, ⟨fun h => absurd rfl h⟩, HC_64, HU_64, ⟨by omega⟩, Bq_64, Bt_64, Bu_64⟩
                  · have HUU := Aside0.mk hu
                    clear hu
                    have fe : (e == 0) = false := beq_eq_false_iff_ne.mpr he
                    have HE := Aside0.mk he
                    clear he
                    go_wp2_with (go_at_call 28; with_reducible refine (opause_x id co st lv gg fr lf du tl y1 y2 y3 y4 y5 y6 y7 y8 y9 (nw + wt) e w62 HC_62.out (by omega) HCK.out HS2.out HUU.out).mono ?_; rintro e w63 ⟨rfl, q1, q2⟩; clear dq0 dq1 dq2 dq3 dt0 dt1 dt2 dt3 dt4 dt5 dt6 dt7 dt8 ft dx0 du0 du1 du2 du3 du4 du5 du6 du7 du8 fu; have HC_63 := Aside0.mk q1; have HU_63 := Aside0.mk (HU_62.out.trans q2); have hs_63 : w62.heap.size ≤ w63.heap.size := q2.size; have Bq_63 := Aside0.mk (q2.blk Bq_62.out (by omega)); have Bt_63 := Aside0.mk (q2.blk Bt_62.out (by omega)); have Bx_63 := Aside0.mk (q2.blk Bx_62.out (by omega)); have Bu_63 := Aside0.mk (q2.blk Bu_62.out (by omega)); clear q1 q2; obtain ⟨dq0, dq1, dq2, dq3⟩ := cells4 Bq_63.out; obtain ⟨dt0, dt1, dt2, dt3, dt4, dt5, dt6, dt7, dt8⟩ := cells9 Bt_63.out; have ft := blk_frozen Bt_63.out; have dx0 : w63.cell? ⟨w50.heap.size, 0, none⟩ = some (.int .i64 kd) := (blk_cell Bx_63.out 0).trans rfl; obtain ⟨du0, du1, du2, du3, du4, du5, du6, du7, du8⟩ := cells9 Bu_63.out; have fu := blk_frozen Bu_63.out)
                    clear dq0 dq1 dq2 dq3 dt0 dt1 dt2 dt3 dt4 dt5 dt6 dt7 dt8 ft dx0 du0 du1 du2 du3 du4 du5 du6 du7 du8 fu
                    obtain ⟨S1, S2, S3, S4, hs_64⟩ := step_set9 (.int .u64 y1) (.int .i64 y2) (.int .i64 y3) (.int .i64 y4) (.int .u64 y5) (.int .i64 y6) (.int .i64 y7) (.int .i64 y8) (.int .i64 y9) HC_63.out HU_63.out Bu_63.out ⟨by decide, by decide, by decide, by decide, by decide, by decide⟩ (by omega)
                    have HC_64 := Aside0.mk S1
                    have HU_64 := Aside0.mk S2
                    have Bu_64 := Aside0.mk S3
                    have Bq_64 := Aside0.mk (S4 (g := w.heap.size + 1) (by omega) Bq_63.out)
                    have Bt_64 := Aside0.mk (S4 (g := w6.heap.size) (by omega) Bt_63.out)
                    have Bx_64 := Aside0.mk (S4 (g := w50.heap.size) (by omega) Bx_63.out)
                    clear S1 S2 S3 S4
                    generalize (((((((((w63.setCell ⟨w61.heap.size, 0, none⟩ (.int .u64 y1)).setCell ⟨w61.heap.size, 1, none⟩ (.int .i64 y2)).setCell ⟨w61.heap.size, 2, none⟩ (.int .i64 y3)).setCell ⟨w61.heap.size, 3, none⟩ (.int .i64 y4)).setCell ⟨w61.heap.size, 4, none⟩ (.int .u64 y5)).setCell ⟨w61.heap.size, 5, none⟩ (.int .i64 y6)).setCell ⟨w61.heap.size, 6, none⟩ (.int .i64 y7)).setCell ⟨w61.heap.size, 7, none⟩ (.int .i64 y8)).setCell ⟨w61.heap.size, 8, none⟩ (.int .i64 y9)) = w64 at HC_64 HU_64 hs_64 Bq_64 Bt_64 Bx_64 Bu_64 ⊢
                    obtain ⟨dq0, dq1, dq2, dq3⟩ := cells4 Bq_64.out
                    obtain ⟨dt0, dt1, dt2, dt3, dt4, dt5, dt6, dt7, dt8⟩ := cells9 Bt_64.out
                    have ft := blk_frozen Bt_64.out
                    have dx0 : w64.cell? ⟨w50.heap.size, 0, none⟩ = some (.int .i64 kd) := (blk_cell Bx_64.out 0).trans rfl
                    obtain ⟨du0, du1, du2, du3, du4, du5, du6, du7, du8⟩ := cells9 Bu_64.out
                    have fu := blk_frozen Bu_64.out
                    go_meet
                    exact ⟨⟨y1, y2, y3, y4, y5, y6, y7, y8, y9⟩, e, nx, tl, rfl, rfl, rfl, ⟨by omega⟩, ⟨fun h => absurd h HE.out⟩, ⟨fun _ => ⟨rfl, rfl⟩⟩, HC_64, HU_64, ⟨by omega⟩, Bq_64, Bt_64, Bu_64⟩
        case rest =>
          obtain ⟨y, e, nx', td', rfl, rfl, rfl, HTD2, HE0, HE1, HC_70, HU_70, HZX7, Bq_70, Bt_70, Bu_70⟩ := hcut
          obtain ⟨w70, rfl⟩ : ∃ x : World, x = wc := ⟨_, rfl⟩
          obtain ⟨y1, y2, y3, y4, y5, y6, y7, y8, y9⟩ := y
          dsimp only at Bu_70
          have hz_70 := HZX7.out
          have hs_70 : w5.heap.size ≤ w70.heap.size := HU_70.out.size
          clear HC_62 HU_62 Bq_62 Bt_62 Bx_62 Bu_62 dq0 dq1 dq2 dq3 dt0 dt1 dt2 dt3 dt4 dt5 dt6 dt7 dt8 ft dx0 du0 du1 du2 du3 du4 du5 du6 du7 du8 fu
          obtain ⟨dt0, dt1, dt2, dt3, dt4, dt5, dt6, dt7, dt8⟩ := cells9 Bt_70.out
          have ft := blk_frozen Bt_70.out
          obtain ⟨du0, du1, du2, du3, du4, du5, du6, du7, du8⟩ := cells9 Bu_70.out
          have fu := blk_frozen Bu_70.out
          go_upto_if 165 with fail
          go_cut [13, 14] (fun s13 s14 wx => s13 = .int .i64 nx' ∧ s14 = .int .i64 td' ∧ ∃ v : Tk, Aside0 (Snd off week closed ls.length nx' td' v) ∧ Aside0 (ClkAt wx w4.heap.size kb ab pb cb off week closed) ∧ Aside0 (Upd cb w5 wx) ∧ Aside0 (w61.heap.size < wx.heap.size) ∧ Aside0 (wx.heap[w.heap.size + 1]? = some (.cells #[.int .i64 cal, .slice A3 ls.length c3, .int .i64 re, .int .i64 ba] 49 (0, 0))) ∧ Aside0 (wx.heap[w6.heap.size]? = some (.cells #[.int .u64 v.id, .int .i64 v.co, .int .i64 v.st, .int .i64 v.lv, .int .u64 v.gn, .int .i64 v.fr, .int .i64 v.lf, .int .i64 v.du, .int .i64 v.tl] 24 (0, 0))))
          case first =>
            by_cases he : e = 0
            · subst he
              have HS3 := Aside0.mk (HE0.out rfl)
              go_wp2
              clear dt0 dt1 dt2 dt3 dt4 dt5 dt6 dt7 dt8 ft du0 du1 du2 du3 du4 du5 du6 du7 du8 fu
              obtain ⟨S1, S2, S3, S4, hs_71⟩ := step_set9 (.int .u64 y1) (.int .i64 y2) (.int .i64 y3) (.int .i64 y4) (.int .u64 y5) (.int .i64 y6) (.int .i64 y7) (.int .i64 y8) (.int .i64 y9) HC_70.out HU_70.out Bt_70.out ⟨by decide, by decide, by decide, by decide, by decide, by decide⟩ (by omega)
              have HC_71 := Aside0.mk S1
              have HU_71 := Aside0.mk S2
              have Bt_71 := Aside0.mk S3
              have Bq_71 := Aside0.mk (S4 (g := w.heap.size + 1) (by omega) Bq_70.out)
              have Bu_71 := Aside0.mk (S4 (g := w61.heap.size) (by omega) Bu_70.out)
              clear S1 S2 S3 S4
              generalize (((((((((w70.setCell ⟨w6.heap.size, 0, none⟩ (.int .u64 y1)).setCell ⟨w6.heap.size, 1, none⟩ (.int .i64 y2)).setCell ⟨w6.heap.size, 2, none⟩ (.int .i64 y3)).setCell ⟨w6.heap.size, 3, none⟩ (.int .i64 y4)).setCell ⟨w6.heap.size, 4, none⟩ (.int .u64 y5)).setCell ⟨w6.heap.size, 5, none⟩ (.int .i64 y6)).setCell ⟨w6.heap.size, 6, none⟩ (.int .i64 y7)).setCell ⟨w6.heap.size, 7, none⟩ (.int .i64 y8)).setCell ⟨w6.heap.size, 8, none⟩ (.int .i64 y9)) = w71 at HC_71 HU_71 hs_71 Bq_71 Bt_71 Bu_71 ⊢
              obtain ⟨dt0, dt1, dt2, dt3, dt4, dt5, dt6, dt7, dt8⟩ := cells9 Bt_71.out
              have ft := blk_frozen Bt_71.out
              obtain ⟨du0, du1, du2, du3, du4, du5, du6, du7, du8⟩ := cells9 Bu_71.out
              have fu := blk_frozen Bu_71.out
              go_meet
              exact ⟨rfl, rfl, ⟨y1, y2, y3, y4, y5, y6, y7, y8, y9⟩, HS3, HC_71, HU_71, ⟨by omega⟩, Bq_71, Bt_71⟩
            · have hx1 := (HE1.out he).1.symm
              have hx2 := (HE1.out he).2.symm
              subst hx1 hx2
              have fe : (e == 0) = false := beq_eq_false_iff_ne.mpr he
              go_wp2
              go_meet
              exact ⟨rfl, rfl, ⟨id, co, st, lv, gg, fr, lf, du, tl⟩, HS2, HC_70, HU_70, ⟨by omega⟩, Bq_70, Bt_70⟩
          case rest =>
            obtain ⟨rfl, rfl, v, HS4, HC_80, HU_80, HZX8, Bq_80, Bt_80⟩ := hcut
            obtain ⟨w80, rfl⟩ : ∃ x : World, x = wc := ⟨_, rfl⟩
            obtain ⟨z1, z2, z3, z4, z5, z6, z7, z8, z9⟩ := v
            obtain rfl : z9 = td' := HS4.out.tl
            dsimp only at Bt_80
            have hz_80 := HZX8.out
            have hs_80 : w5.heap.size ≤ w80.heap.size := HU_80.out.size
            clear HC_70 HU_70 Bq_70 Bt_70 Bu_70 dt0 dt1 dt2 dt3 dt4 dt5 dt6 dt7 dt8 ft du0 du1 du2 du3 du4 du5 du6 du7 du8 fu
            have hnx2 := HS4.out.nx
            have nx20 : 0 ≤ nx' := hnx2.1
            have nx21 : nx' ≤ 6 := by have := HL6.out; omega
            clear hnx2
            obtain ⟨ra, hra, ⟨ra0, ra1⟩, hra2⟩ := HS4.out.ahead HL6.out
            have HRA := Aside0.mk hra
            clear hra
            dsimp only at HRA
            have hend : (nw + wt ≤ 1125899906842624 + ((i : Int) + 1) * 4294967295) := by have := HNW.out; omega
            have HEND := Aside0.mk hend
            clear hend
            go_upto_region 36 with fail
            have hb4 : Below w80.heap.size w80 w80.drew := below_drew1 (Below.refl _ _)
            have HC_81 := Aside0.mk (HC_80.out.below hb4)
            have HU_81 := Aside0.mk (HU_80.out.then hb4)
            have hs_81 : w80.heap.size ≤ w80.drew.heap.size := hb4.size
            have Bq_81 := Aside0.mk (blk_below Bq_80.out hb4)
            have Bt_81 := Aside0.mk (blk_below Bt_80.out hb4)
            clear hb4
            have hwr : wrap64 (nx' + ra) = nx' + ra := wrap_id (by omega) (by omega)
            have hdl : decide ((ls.length : Int) < nx' + ra) = false := decide_eq_false (by omega)
            refine start_ (n := 15) (S := fun w' => w'.cell? ⟨w6.heap.size, 0, none⟩ = some (.int .u64 z1) ∧ w'.cell? ⟨w6.heap.size, 1, none⟩ = some (.int .i64 z2) ∧ w'.cell? ⟨w6.heap.size, 2, none⟩ = some (.int .i64 z3) ∧ w'.cell? ⟨w6.heap.size, 3, none⟩ = some (.int .i64 z4) ∧ w'.cell? ⟨w6.heap.size, 4, none⟩ = some (.int .u64 z5) ∧ w'.cell? ⟨w6.heap.size, 5, none⟩ = some (.int .i64 z6) ∧ w'.cell? ⟨w6.heap.size, 6, none⟩ = some (.int .i64 z7) ∧ w'.cell? ⟨w6.heap.size, 7, none⟩ = some (.int .i64 z8) ∧ w'.cell? ⟨w6.heap.size, 8, none⟩ = some (.int .i64 z9) ∧ w'.cell? ⟨w.heap.size + 1, 0, none⟩ = some (.int .i64 cal) ∧ w'.cell? ⟨w.heap.size + 1, 1, none⟩ = some (.slice A3 ls.length c3) ∧ w'.cell? ⟨w.heap.size + 1, 2, none⟩ = some (.int .i64 re) ∧ w'.cell? ⟨w.heap.size + 1, 3, none⟩ = some (.int .i64 ba)) (ds := []) #[false, false, false, false, false, false, false, false, false, false, false, false, false, false, false] (by kernel_rfl) rfl rfl ⟨(blk_cell Bt_81.out 0).trans rfl, (blk_cell Bt_81.out 1).trans rfl, (blk_cell Bt_81.out 2).trans rfl, (blk_cell Bt_81.out 3).trans rfl, (blk_cell Bt_81.out 4).trans rfl, (blk_cell Bt_81.out 5).trans rfl, (blk_cell Bt_81.out 6).trans rfl, (blk_cell Bt_81.out 7).trans rfl, (blk_cell Bt_81.out 8).trans rfl, (blk_cell Bq_81.out 0).trans rfl, (blk_cell Bq_81.out 1).trans rfl, (blk_cell Bq_81.out 2).trans rfl, (blk_cell Bq_81.out 3).trans rfl⟩ (fun hHeld => ?_); refine with_tabW tks_tab36 tks_bits36 (fun HT_ HW_ => ?_)
            generalize w80.drew = w81 at HC_81 HU_81 hs_81 Bq_81 Bt_81 hHeld ⊢
            refine pure_ (i := 0) (N := some 167) (v := ?_) (a' := ?_) #[true, false, false, false, false, false, false, false, false, false, false, false, false, false, false] rfl rfl (any_of HT_.out (by kernel_rfl)) (fun _ _ _ h => h) (Or.inl ⟨by rfl, ?_⟩) ?_ ?_
            rotate_left
            · intro w'
              go_simp
              with_reducible rfl
            rotate_left
            · simp only [Act.put, List.setIfInBounds_toArray, List.set_cons_zero, List.set_cons_succ, i64_w, i32_w]
              rfl
            refine pure_ (i := 2) (N := some 169) (v := ?_) (a' := ?_) #[true, false, true, false, false, false, false, false, false, false, false, false, false, false, false] rfl rfl (any_of HT_.out (by kernel_rfl)) (fun _ _ _ h => h) (Or.inl ⟨by rfl, ?_⟩) ?_ ?_
            rotate_left
            · intro w'
              go_simp
              with_reducible rfl
            rotate_left
            · simp only [Act.put, List.setIfInBounds_toArray, List.set_cons_zero, List.set_cons_succ, i64_w, i32_w]
              rfl
            refine take_ (i := 1) (N := some 168) (v := ?_) (a' := ?_) #[true, true, true, false, false, false, false, false, false, false, false, false, false, false, false] rfl rfl (take_ofW HT_.out HW_.out (by kernel_rfl)) (fun _ _ _ h => h) (Or.inl ⟨by rfl, ?_⟩) hHeld ?_ ?_
            rotate_left
            · rintro w' ⟨s0, s1, s2, s3, s4, s5, s6, s7, s8, s9, s10, s11, s12⟩
              go_simp
              with_reducible rfl
            rotate_left
            · simp only [Act.put, List.setIfInBounds_toArray, List.set_cons_zero, List.set_cons_succ, i64_w, i32_w]
              rfl
            refine pure_ (i := 3) (N := some 170) (v := ?_) (a' := ?_) #[true, true, true, true, false, false, false, false, false, false, false, false, false, false, false] rfl rfl (any_of HT_.out (by kernel_rfl)) (fun _ _ _ h => h) (Or.inl ⟨by rfl, ?_⟩) ?_ ?_
            rotate_left
            · intro w'
              go_simp
              with_reducible rfl
            rotate_left
            · simp only [Act.put, List.setIfInBounds_toArray, List.set_cons_zero, List.set_cons_succ, i64_w, i32_w]
              rfl
            refine pure_ (i := 4) (N := some 171) (v := ?_) (a' := ?_) #[true, true, true, true, true, false, false, false, false, false, false, false, false, false, false] rfl rfl (any_of HT_.out (by kernel_rfl)) (fun _ _ _ h => h) (Or.inl ⟨by rfl, ?_⟩) ?_ ?_
            rotate_left
            · intro w'
              go_simp
              with_reducible rfl
            rotate_left
            · simp only [Act.put, List.setIfInBounds_toArray, List.set_cons_zero, List.set_cons_succ, i64_w, i32_w]
              rfl
            refine pure_ (i := 5) (N := some 172) (v := ?_) (a' := ?_) #[true, true, true, true, true, true, false, false, false, false, false, false, false, false, false] rfl rfl (any_of HT_.out (by kernel_rfl)) (fun _ _ _ h => h) (Or.inl ⟨by rfl, ?_⟩) ?_ ?_
            rotate_left
            · intro w'
              go_simp
              with_reducible rfl
            rotate_left
            · simp only [Act.put, List.setIfInBounds_toArray, List.set_cons_zero, List.set_cons_succ, i64_w, i32_w]
              rfl
            refine pure_ (i := 10) (N := some 177) (v := ?_) (a' := ?_) #[true, true, true, true, true, true, false, false, false, false, true, false, false, false, false] rfl rfl (any_of HT_.out (by kernel_rfl)) (fun _ _ _ h => h) (Or.inl ⟨by rfl, ?_⟩) ?_ ?_
            rotate_left
            · intro w'
              go_simp
              with_reducible rfl
            rotate_left
            · simp only [Act.put, List.setIfInBounds_toArray, List.set_cons_zero, List.set_cons_succ, i64_w, i32_w]
              rfl
            refine take_ (i := 6) (N := some 173) (v := ?_) (a' := ?_) #[true, true, true, true, true, true, true, false, false, false, true, false, false, false, false] rfl rfl (take_ofW HT_.out HW_.out (by kernel_rfl)) (fun _ _ _ h => h) (Or.inl ⟨by rfl, ?_⟩) hHeld ?_ ?_
            rotate_left
            · rintro w' ⟨s0, s1, s2, s3, s4, s5, s6, s7, s8, s9, s10, s11, s12⟩
              go_simp
              with_reducible rfl
            rotate_left
            · simp only [Act.put, List.setIfInBounds_toArray, List.set_cons_zero, List.set_cons_succ, i64_w, i32_w]
              rfl
            refine take_ (i := 7) (N := some 174) (v := ?_) (a' := ?_) #[true, true, true, true, true, true, true, true, false, false, true, false, false, false, false] rfl rfl (take_ofW HT_.out HW_.out (by kernel_rfl)) (fun _ _ _ h => h) (Or.inl ⟨by rfl, ?_⟩) hHeld ?_ ?_
            rotate_left
            · rintro w' ⟨s0, s1, s2, s3, s4, s5, s6, s7, s8, s9, s10, s11, s12⟩
              go_simp
              with_reducible rfl
            rotate_left
            · simp only [Act.put, List.setIfInBounds_toArray, List.set_cons_zero, List.set_cons_succ, i64_w, i32_w]
              rfl
            refine take_ (i := 11) (N := some 178) (v := ?_) (a' := ?_) #[true, true, true, true, true, true, true, true, false, false, true, true, false, false, false] rfl rfl (take_ofW HT_.out HW_.out (by kernel_rfl)) (fun _ _ _ h => h) (Or.inl ⟨by rfl, ?_⟩) hHeld ?_ ?_
            rotate_left
            · rintro w' ⟨s0, s1, s2, s3, s4, s5, s6, s7, s8, s9, s10, s11, s12⟩
              go_simp
              with_reducible rfl
            rotate_left
            · simp only [Act.put, List.setIfInBounds_toArray, List.set_cons_zero, List.set_cons_succ, i64_w, i32_w]
              rfl
            refine pure_ (i := 12) (N := some 179) (v := ?_) (a' := ?_) #[true, true, true, true, true, true, true, true, false, false, true, true, true, false, false] rfl rfl (any_of HT_.out (by kernel_rfl)) (fun _ _ _ h => h) (Or.inl ⟨by rfl, ?_⟩) ?_ ?_
            rotate_left
            · intro w'
              go_simp
              with_reducible rfl
            rotate_left
            · simp only [Act.put, List.setIfInBounds_toArray, List.set_cons_zero, List.set_cons_succ, i64_w, i32_w]
              rfl
            refine one_ (i := 8) (N := some 175) #[true, true, true, true, true, true, true, true, true, false, true, true, true, false, false] rfl rfl (one_of HT_.out (by kernel_rfl)) (by decide) (fun K hK => ?_)
            refine goes_ Try.func29 (by kernel_rfl) rfl #[.agg #[.int .u64 z1, .int .i64 z2, .int .i64 z3, .int .i64 z4, .int .u64 z5, .int .i64 z6, .int .i64 z7, .int .i64 z8, .int .i64 z9], .agg #[.int .i64 cal, .slice A3 ls.length c3, .int .i64 re, .int .i64 ba]] (by rfl) rfl rfl (by (try simp only [List.map_toArray, List.map_cons, List.map_nil]); first | done | rfl) ?_
            refine (oahead_any z1 z2 z3 z4 z5 z6 z7 z8 z9 cal re ba ra _ HS4.out.lv.1 HS4.out.lv.2 HL6N.out HRA.out).mono ?_
            rintro e w82 ⟨rfl, q1⟩
            refine ⟨_, rfl, ?_⟩
            have HC_82 := Aside0.mk (HC_81.out.below q1)
            have HU_82 := Aside0.mk (HU_81.out.then q1)
            have hs_82 : w81.heap.size ≤ w82.heap.size := q1.size
            have Bq_82 := Aside0.mk (blk_below Bq_81.out q1)
            have Bt_82 := Aside0.mk (blk_below Bt_81.out q1)
            clear q1
            obtain ⟨dt0, dt1, dt2, dt3, dt4, dt5, dt6, dt7, dt8⟩ := cells9 Bt_82.out
            refine hK.out _ _ ⟨(blk_cell Bt_82.out 0).trans rfl, (blk_cell Bt_82.out 1).trans rfl, (blk_cell Bt_82.out 2).trans rfl, (blk_cell Bt_82.out 3).trans rfl, (blk_cell Bt_82.out 4).trans rfl, (blk_cell Bt_82.out 5).trans rfl, (blk_cell Bt_82.out 6).trans rfl, (blk_cell Bt_82.out 7).trans rfl, (blk_cell Bt_82.out 8).trans rfl, (blk_cell Bq_82.out 0).trans rfl, (blk_cell Bq_82.out 1).trans rfl, (blk_cell Bq_82.out 2).trans rfl, (blk_cell Bq_82.out 3).trans rfl⟩ (fun hHeld => ?_)
            clear hK K
            refine norm_ (a' := ?_) ?_ ?_
            rotate_left
            · show Act.put _ (some 175) _ = _
              simp only [Act.put, List.setIfInBounds_toArray, List.set_cons_zero, List.set_cons_succ, i64_w, i32_w]
              rfl
            refine pure_ (i := 9) (N := some 176) (v := ?_) (a' := ?_) #[true, true, true, true, true, true, true, true, true, true, true, true, true, false, false] rfl rfl (any_of HT_.out (by kernel_rfl)) (fun _ _ _ h => h) (Or.inl ⟨by rfl, ?_⟩) ?_ ?_
            rotate_left
            · intro w'
              go_simp
              with_reducible rfl
            rotate_left
            · simp only [Act.put, List.setIfInBounds_toArray, List.set_cons_zero, List.set_cons_succ, i64_w, i32_w]
              rfl
            refine pure_ (i := 13) (N := some 180) (v := ?_) (a' := ?_) #[true, true, true, true, true, true, true, true, true, true, true, true, true, true, false] rfl rfl (any_of HT_.out (by kernel_rfl)) (fun _ _ _ h => h) (Or.inl ⟨by rfl, ?_⟩) ?_ ?_
            rotate_left
            · intro w'
              go_simp
              with_reducible rfl
            rotate_left
            · simp only [Act.put, List.setIfInBounds_toArray, List.set_cons_zero, List.set_cons_succ, i64_w, i32_w]
              rfl
            refine pure_ (i := 14) (N := some 181) (v := ?_) (a' := ?_) #[true, true, true, true, true, true, true, true, true, true, true, true, true, true, true] rfl rfl (any_of HT_.out (by kernel_rfl)) (fun _ _ _ h => h) (Or.inl ⟨by rfl, ?_⟩) ?_ ?_
            rotate_left
            · intro w'
              go_simp
              with_reducible rfl
            rotate_left
            · simp only [Act.put, List.setIfInBounds_toArray, List.set_cons_zero, List.set_cons_succ, i64_w, i32_w]
              rfl
            refine done_ (done_of HT_.out (by kernel_rfl)) ?_
            clear HT_ HW_ hHeld
            clear hwr hdl
            go_wp2
            exact ⟨⟨i + 1, nw + wt, nx', z9, ⟨z1, z2, z3, z4, z5, z6, z7, z8, z9⟩, by go_num, rfl, rfl, rfl, by omega, ⟨by have := HEND.out; omega⟩, ⟨by have := HTD2.out; omega⟩, HS4, HC_82, HU_82, ⟨blk_lt Bt_82.out⟩, Bq_82, Bt_82⟩, by simp [intOf]; omega⟩
    · have hi2 : i = acts.length := by omega
      clear hi2 HNW HTD HS
      go_wp2_with (go_at_call 8; with_reducible refine (lives16_any w50).mono ?_; rintro e w51 ⟨rfl, q1⟩; have HU_51 := Aside0.mk (HU_50.out.then q1); clear q1)
      go_ret
      exact ⟨rfl, upd_below16 HBB.out HU_51.out HcbW.out HwB.out⟩
theorem tksnd_any {off cal re ba now : Int} {week closed : List S143} {ls : List S98} {acts : List Act2} {A1 A2 A3 A4 : Option Addr} {c1 c2 c3 c4 : Nat} (w : World) (hk1 : Kd.C k143 w A1 week.length week ∧ week.length ≤ c1) (hk2 : Kd.C k143 w A2 closed.length closed ∧ closed.length ≤ c2) (hq : Kd.C k98 w A3 ls.length ls ∧ ls.length ≤ c3) (ha : Kd.C kAct w A4 acts.length acts ∧ acts.length ≤ c4) (hw : ∀ x, x ∈ acts → 0 ≤ x.wt ∧ x.wt ≤ 4294967295) : Calls Try.prog 4 #[.agg #[.int .i64 off, .slice A1 week.length c1, .slice A2 closed.length c2], .agg #[.int .i64 cal, .slice A3 ls.length c3, .int .i64 re, .int .i64 ba], .int .i64 now, .slice A4 acts.length c4] w fun e w' => e = .returned (.bool true) ∧ Below w.heap.size w w' := by
  cases t0 : lightQ week closed with
  | false => exact tks_e0 w hk1 hk2 hq ha hw t0
  | true =>
    by_cases t1 : (60 : Int) < ls.length
    · exact tks_e1 w hk1 hk2 hq ha hw t0 t1
    by_cases t2 : (60 : Int) < acts.length
    · exact tks_e2 w hk1 hk2 hq ha hw t0 t1 t2
    by_cases t3 : calErr off week closed = 0
    rotate_left
    · exact tks_e3 w hk1 hk2 hq ha hw t0 t1 t2 t3
    cases t4 : goodP cal ls re ba with
    | false => exact tks_e4 w hk1 hk2 hq ha hw t0 t1 t2 t3 t4
    | true =>
      by_cases t5 : now < 0
      · exact tks_e5 w hk1 hk2 hq ha hw t0 t1 t2 t3 t4 t5
      by_cases t6 : 1125899906842624 < now
      · exact tks_e6 w hk1 hk2 hq ha hw t0 t1 t2 t3 t4 t5 t6
      obtain ⟨⟨a, b, c, d, e⟩, hd⟩ : ∃ p, firstP off week closed cal ls re ba now = p := ⟨_, rfl⟩
      by_cases he : e = 0
      · subst he
        exact tks_main w hk1 hk2 hq ha hw t0 t1 t2 t3 t4 t5 t6 hd
      · exact tks_open w hk1 hk2 hq ha hw t0 t1 t2 t3 t4 t5 t6 hd he
end Go.Proofs.Ytepldlnmeenlbaa.Own
namespace Go.Proofs.Ytepldlnmeenlbaa.Own
open Go.RowKit Go.Proofs Go.Proofs.YtepldlnmeenlbaaW.PrintWords Go.Proofs.YtepldlnmeenlbaaW.PrintLast Go.Proofs.YtepldlnmeenlbaaW.PrintMore Go.Proofs.Ytepldlnmeenlbaa.Base
open Go.ChangeShapes Go.WideShapes Go.ChangeAt Go.Joins Go.Deep
theorem calCells : Try.prog.cellsOf 46 = 3 := by kernel_rfl
theorem ownKnob_none : ownKnob Try.prog.godebug = none := by kernel_rfl
theorem laidOut : laidOutB Try.prog = true := by kernel_rfl
def intOf : Value → Int
  | .int _ x => x
  | _ => 0
set_option maxRecDepth 100000 in
theorem spans_open {H : Type} {enc : TypeId × Value → H} {W : World} {spare : Nat → Bool} {held : Bool} {fuel : Nat} {v : Value} {x : DataW H × List MemPlace} (h : DataW.trod enc Try.prog W 0 spare held fuel 44 [v] = some x) :
    ∃ (A : Option Addr) (c : Nat) (l : List S143), v = .slice A l.length c ∧ l.length ≤ c ∧ Kd.C k143 W A l.length l := by
  rcases open_slice_pairs Try.underlying44 Try.underlying143 (by kernel_rfl) (by rfl) (by rfl) (by kernel_rfl) (by kernel_rfl) h with ⟨hcs, _⟩ | ⟨a, len, cap, m, n, V0, V1, D0, D1, P0, P1, hcs, _, hl, hm, hmm, _, hx⟩
  · injection hcs with hv
    exact ⟨none, 0, [], hv, Nat.le_refl _, ⟨rfl, by decide, fun h => absurd h (by simp)⟩⟩
  · injection hcs with hv
    have hlm : len ≤ m := by rw [hmm]; split <;> omega
    have hint : ∀ i, i < len → V0 i = .int .i64 (intOf (V0 i)) ∧ V1 i = .int .i64 (intOf (V1 i)) := fun i hi => by
      obtain ⟨_, _, t0, t1⟩ := hx i (by omega)
      obtain ⟨a0, e0, _, _⟩ := DataW.trod_int Try.underlying2 t0
      obtain ⟨a1, e1, _, _⟩ := DataW.trod_int Try.underlying2 t1
      simp at e0 e1
      rw [e0, e1]
      exact ⟨rfl, rfl⟩
    refine ⟨some a, cap, (List.range len).map fun i => ⟨intOf (V0 i), intOf (V1 i)⟩, by simpa using hv, by simpa using hl, ?_⟩
    refine ⟨rfl, by simp; unfold maxLen at hm; omega, fun _ => ⟨a, rfl, fun j p hp => ?_⟩⟩
    have hj : j < len := by
      rcases Nat.lt_or_ge j len with h | h
      · exact h
      · rw [List.getElem?_eq_none (by simpa using h)] at hp; cases hp
    rw [List.getElem?_map, List.getElem?_range hj] at hp
    injection hp with hp
    subst hp
    obtain ⟨c0, c1, _, _⟩ := hx j (by omega)
    refine ⟨[V0 j, V1 j], rfl, ?_, fun i u hu => ?_⟩
    · rw [(hint j hj).1, (hint j hj).2]
      exact k143_mk W ⟨intOf (V0 j), intOf (V1 j)⟩
    · match i, hu with
      | 0, hu => injection hu with hu; subst hu; exact c0
      | 1, hu => injection hu with hu; subst hu; exact c1
      | (n + 2), hu => cases hu
set_option maxRecDepth 100000 in
theorem cal_open {H : Type} {enc : TypeId × Value → H} {W : World} {spare : Nat → Bool} {held : Bool} {r : Reach} {b0 : Nat} {v : Value} {d : DataW H} {p : List MemPlace} (hv : Value.okWide Try.prog W r b0 46 v) (h : DataW.Trod enc Try.prog W 0 spare held 46 v d p) :
    ∃ (off : Int) (A1 A2 : Option Addr) (c1 c2 : Nat) (week closed : List S143), v = .agg #[.int .i64 off, .slice A1 week.length c1, .slice A2 closed.length c2] ∧ (Kd.C k143 W A1 week.length week ∧ week.length ≤ c1) ∧ (Kd.C k143 W A2 closed.length closed ∧ closed.length ≤ c2) := by
  obtain ⟨v0, v1, v2, y0, y1, y2, m, rfl, _, _, t0, t1, t2⟩ := open_agg3 Try.underlying46 (by kernel_rfl) calCells hv h
  obtain ⟨a0, e0, _, _⟩ := DataW.trod_int Try.underlying2 t0
  obtain ⟨A1, c1, week, rfl, hl1, hc1⟩ := spans_open t1
  obtain ⟨A2, c2, closed, rfl, hl2, hc2⟩ := spans_open t2
  simp at e0
  subst e0
  exact ⟨a0, A1, A2, c1, c2, week, closed, rfl, ⟨hc1, hl1⟩, ⟨hc2, hl2⟩⟩
end Go.Proofs.Ytepldlnmeenlbaa.Own
namespace Go.Proofs.Ytepldlnmeenlbaa.Own
open Go.RowKit Go.Proofs Go.Proofs.YtepldlnmeenlbaaW.PrintWords Go.Proofs.YtepldlnmeenlbaaW.PrintLast Go.Proofs.YtepldlnmeenlbaaW.PrintMore Go.Proofs.Ytepldlnmeenlbaa.Base
open Go.ChangeShapes Go.WideShapes Go.ChangeAt Go.Joins Go.Deep
theorem conCells : Try.prog.cellsOf 49 = 4 := by kernel_rfl
set_option maxRecDepth 100000 in
theorem levels_open {H : Type} {enc : TypeId × Value → H} {W : World} {spare : Nat → Bool} {held : Bool} {fuel : Nat} {v : Value} {x : DataW H × List MemPlace} (h : DataW.trod enc Try.prog W 0 spare held fuel 47 [v] = some x) :
    ∃ (A : Option Addr) (c : Nat) (l : List S98), v = .slice A l.length c ∧ l.length ≤ c ∧ (Kd.C k98 W A l.length l) ∧ ∀ y, y ∈ l → (Lit.int .i64 y.f0).wf = true ∧ (Lit.int .i64 y.f1).wf = true := by
  rcases open_slice_pairs Try.underlying47 Try.underlying98 (by kernel_rfl) (by rfl) (by rfl) (by kernel_rfl) (by kernel_rfl) h with ⟨hcs, _⟩ | ⟨a, len, cap, m, n, V0, V1, D0, D1, P0, P1, hcs, _, hl, hm, hmm, _, hx⟩
  · injection hcs with hv
    exact ⟨none, 0, [], hv, Nat.le_refl _, ⟨rfl, by decide, fun h => absurd h (by simp)⟩, fun y hy => by cases hy⟩
  · injection hcs with hv
    have hlm : len ≤ m := by rw [hmm]; split <;> omega
    have hint : ∀ i, i < len → V0 i = .int .i64 (intOf (V0 i)) ∧ V1 i = .int .i64 (intOf (V1 i)) ∧ (Lit.int .i64 (intOf (V0 i))).wf = true ∧ (Lit.int .i64 (intOf (V1 i))).wf = true := fun i hi => by
      obtain ⟨_, _, t0, t1⟩ := hx i (by omega)
      obtain ⟨a0, e0, _, w0⟩ := DataW.trod_int Try.underlying2 t0
      obtain ⟨a1, e1, _, w1⟩ := DataW.trod_int Try.underlying3 t1
      simp at e0 e1
      rw [e0, e1]
      exact ⟨rfl, rfl, w0, w1⟩
    refine ⟨some a, cap, (List.range len).map fun i => ⟨intOf (V0 i), intOf (V1 i)⟩, by simpa using hv, by simpa using hl, ⟨rfl, by simp; unfold maxLen at hm; omega, fun _ => ⟨a, rfl, fun j p hp => ?_⟩⟩, fun y hy => ?_⟩
    · have hj : j < len := by
        rcases Nat.lt_or_ge j len with h | h
        · exact h
        · rw [List.getElem?_eq_none (by simpa using h)] at hp; cases hp
      rw [List.getElem?_map, List.getElem?_range hj] at hp
      injection hp with hp
      subst hp
      obtain ⟨c0, c1, _, _⟩ := hx j (by omega)
      refine ⟨[V0 j, V1 j], rfl, ?_, fun i u hu => ?_⟩
      · rw [(hint j hj).1, (hint j hj).2.1]
        exact k98_mk W ⟨intOf (V0 j), intOf (V1 j)⟩
      · match i, hu with
        | 0, hu => injection hu with hu; subst hu; exact c0
        | 1, hu => injection hu with hu; subst hu; exact c1
        | (n + 2), hu => cases hu
    · obtain ⟨i, hi, rfl⟩ := List.mem_map.1 hy
      have := hint i (List.mem_range.1 hi)
      exact ⟨this.2.2.1, this.2.2.2⟩
set_option maxRecDepth 100000 in
theorem con_open {H : Type} {enc : TypeId × Value → H} {W : World} {spare : Nat → Bool} {held : Bool} {r : Reach} {b0 : Nat} {v : Value} {d : DataW H} {p : List MemPlace} (hv : Value.okWide Try.prog W r b0 49 v) (h : DataW.Trod enc Try.prog W 0 spare held 49 v d p) :
    ∃ (cal re ba : Int) (A : Option Addr) (c : Nat) (ls : List S98), v = .agg #[.int .i64 cal, .slice A ls.length c, .int .i64 re, .int .i64 ba] ∧ (Kd.C k98 W A ls.length ls ∧ ls.length ≤ c) ∧ ((Lit.int .i64 cal).wf = true ∧ (Lit.int .i64 re).wf = true ∧ (Lit.int .i64 ba).wf = true ∧ ∀ y, y ∈ ls → (Lit.int .i64 y.f0).wf = true ∧ (Lit.int .i64 y.f1).wf = true) := by
  obtain ⟨v0, v1, v2, v3, y0, y1, y2, y3, m, rfl, _, _, t0, t1, t2, t3⟩ := open_agg4 Try.underlying49 (by kernel_rfl) conCells hv h
  obtain ⟨a0, e0, _, w0⟩ := DataW.trod_int Try.underlying3 t0
  obtain ⟨A1, c1, ls, rfl, hl1, hc1, hw⟩ := levels_open t1
  obtain ⟨a2, e2, _, w2⟩ := DataW.trod_int Try.underlying3 t2
  obtain ⟨a3, e3, _, w3⟩ := DataW.trod_int Try.underlying2 t3
  simp at e0 e2 e3
  subst e0 e2 e3
  exact ⟨a0, a2, a3, A1, c1, ls, rfl, ⟨hc1, hl1⟩, w0, w2, w3, hw⟩
end Go.Proofs.Ytepldlnmeenlbaa.Own
