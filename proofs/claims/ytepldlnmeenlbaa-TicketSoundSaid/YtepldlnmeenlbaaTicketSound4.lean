/- TicketSound, part 4: what the claim needs of Due, Pure, Pure2, Chain0, Chain, Base7, Good, ChainD, ChainW, ChainF, ChainN, Box9, Base2. -/
import Derived.Test.YtepldlnmeenlbaaTicketSound3
import Derived.Test.YtepldlnmeenlbaaProg
import Derived.Below
import Derived.Deep.Draws
import Derived.Deep.AppendLies
import Derived.Maps.AppendAt
import Derived.OwnWalk
import Derived.Laws.BytesArg
import Derived.Laws.MakeOwn
import Derived.Laws.OwnMore
import Derived.Deep.OwnRows
import Derived.Tactics
import Derived.Lib.ConvBytes
import Derived.Laws.Slices
import Derived.WalkKit
import Derived.KernelRfl
import Derived.RowKit3
import Derived.Deep.LoopGhost
import Derived.Deep.QuietTactic
import Derived.BigQuiet
import Derived.WideLaws
import Derived.Deep.DeepCutAuto
import Derived.Deep.CutBlock
import Derived.Deep.RegionHeld3
import Derived.Laws.Rows
import Derived.Lib.AppendStr
import Derived.ArgAppend
import Derived.Laws.IdiomCopy
import Derived.OrdersHeld
import Derived.Laws.BitsLemmas
import Derived.RowKit
import Derived.Laws.StructEq
import Derived.Tactics2
import Derived.Defers
import Derived.Laws.Pointers
import Derived.Laws.LoneSync
import Derived.Laws.NewBlocks
import Derived.RegionTactic
import Derived.RegionCalls
import Derived.ChangeAlike
import Derived.StillTailTactics
import Derived.Outline
import Derived.Handy
import Derived.SizedLaws
import Derived.ChangeSlices
import Derived.Laws.EntriesVeiled
import Derived.WalkSpells
import Derived.RangeFuncNested
import Derived.RangeFuncBound
import Derived.RangeFuncCalls
import Derived.RangeFuncLeaves
import Derived.Shelf.Abstract
import Derived.Shelf.RegionOpen
import Derived.OwnWalkIn
import Derived.TacticsInMore
import Derived.LoopNIn
import Derived.LoopIn
import Derived.OrdersIn
set_option linter.unusedVariables false
set_option linter.unusedSimpArgs false
namespace Go.Proofs.Ytepldlnmeenlbaa.Own
open Go.RowKit Go.Shelf Go.Proofs Go.Proofs.YtepldlnmeenlbaaW.PrintWords Go.Proofs.YtepldlnmeenlbaaW.PrintLast Go.Proofs.YtepldlnmeenlbaaW.PrintMore Go.Proofs.Ytepldlnmeenlbaa.Base
attribute [local go_sem] Oper.semAt_some max2_mx min2_mn max_two min_two
variable {w w' : World} {n kb ab pb cb : Nat} {off : Int} {week closed : List S143}
theorem R_cells {α : Type} {d : Kd α} {e : Nat} {base : Nat} {ok : Nat → Prop} {v : Value} {xs : List α} (h : d.R e w base ok v xs) (hm : ∀ (k : Nat) (o : Obj), w.heap[k]? = some o → o.isCells = true → w'.heap[k]? = some o) : d.R e w' base ok v xs :=
  Kd.R_mono (Kd.R_move (Kd.R_bound h) (fun k hk => by
    obtain ⟨_, _, _, q, hq, cells', hc⟩ := hk
    rw [hc]
    exact hm k _ hc rfl)) (fun _ hk => hk.1)
theorem ClkAt.cells (h : ClkAt w n kb ab pb cb off week closed) (hm : ∀ (k : Nat) (o : Obj), w.heap[k]? = some o → o.isCells = true → w'.heap[k]? = some o) : ClkAt w' n kb ab pb cb off week closed := by
  obtain ⟨A, c, hpb, hc, hr⟩ := h.plan.blk
  obtain ⟨A2, c2, hab, hc2, hr2⟩ := h.alm.blk
  refine ⟨h.lo, h.hi, h.nkb, h.ne, hm _ _ h.blk rfl, ⟨h.alm.ok, h.alm.nab, h.alm.ne, A2, c2, hm _ _ hab rfl, hc2, R_cells hr2 hm⟩, h.plan.ok, h.plan.npb, h.plan.ncb, h.plan.ne, ⟨A, c, hm _ _ hpb rfl, hc, R_cells hr hm⟩, ?_⟩
  obtain ⟨m, k, ⟨lv, hc⟩ | ⟨v, hc, hr⟩⟩ := h.plan.cell
  · exact ⟨m, k, .inl ⟨lv, hm _ _ hc rfl⟩⟩
  · exact ⟨m, k, .inr ⟨v, hm _ _ hc rfl, R_cells hr hm⟩⟩
theorem DueB.cells {m : Nat} {kv : Value} {B r2 r3 : Int} (h : DueB m w kv B r2 r3) (hm : ∀ (k : Nat) (o : Obj), w.heap[k]? = some o → o.isCells = true → w'.heap[k]? = some o) : DueB m w' kv B r2 r3 :=
  ⟨hm _ _ h.b0 rfl, hm _ _ h.b1 rfl, hm _ _ h.b2 rfl, hm _ _ h.b3 rfl⟩
theorem cells_kept {row : Option Nat} (hg : w.grownBy w' row) {B : Nat} (hr : ∀ r, row = some r → B ≤ r ∧ ∃ o : Obj, w.heap[r]? = some o ∧ o.isCells = false) : ∀ (k : Nat) (o : Obj), w.heap[k]? = some o → o.isCells = true → w'.heap[k]? = some o := fun k o h hc =>
  (hg.block k (blk_lt h) (fun e => by obtain ⟨_, o', h', hc'⟩ := hr k e.symm; rw [h'] at h; injection h with h; subst h; rw [hc] at hc'; cases hc')).trans h
theorem Upd.kept {W W' : World} {row : Option Nat} (hu : Upd cb w W) (hg : W.grownBy W' row) {B : Nat} (hB : w.heap.size ≤ B) (hr : ∀ r, row = some r → B ≤ r ∧ ∃ o : Obj, W.heap[r]? = some o ∧ o.isCells = false) : Upd cb w W' :=
  ⟨hg.os.trans hu.os, hg.tape.trans hu.tape, hg.output.trans hu.output, Nat.le_trans hu.size hg.size, fun k hk hne => (hg.block k (Nat.lt_of_lt_of_le hk hu.size) (fun e => by have := (hr k e.symm).1; omega)).trans (hu.block k hk hne)⟩
theorem nodefer_of {ops : Array Oper} (h : (ops.toList.all fun o => match o.op with | .defer _ => false | _ => true) = true) : ∀ (i : Nat) (o : Oper), ops[i]? = some o → ∀ c, o.op ≠ .defer c := by
  intro i o hi c e
  have h1 := List.all_eq_true.1 h o (by
    obtain ⟨hlt, rfl⟩ := Array.getElem?_eq_some_iff.1 hi
    exact Array.getElem_mem_toList hlt)
  rw [e] at h1
  cases h1
theorem Upd.box {W : World} (hu : Upd cb w W) {b : Nat} (hb : w.heap.size ≤ b) (v : Value) : Upd cb w (W.setCell ⟨b, 0, none⟩ v) :=
  ⟨hu.os, hu.tape, hu.output, by simpa using hu.size, fun k hk hne => (Below.heap_setCell _ _ _ _ (by show k ≠ b; omega)).trans (hu.block k hk hne)⟩
theorem KeepM.box1 {m fb b : Nat} {W W' : World} (hu : Upd cb W W') (hm : m ≤ W.heap.size) (hc : cb < m) (h1 : m ≤ b) (h2 : b < fb) (v : Value) : KeepM m cb fb W (W'.setCell ⟨b, 0, none⟩ v) :=
  ⟨by simpa using hu.size, fun k hk hne => (Below.heap_setCell _ _ _ _ (by show k ≠ b; omega)).trans (hu.block k (by omega) (fun e => hne (by injection e))),
    fun k o hk h3 _ => (Below.heap_setCell _ _ _ _ (by show k ≠ b; omega)).trans (hu.blk h3 (by omega))⟩
theorem KeepsFrom.box1 {B b : Nat} {W W' : World} (hu : KeepsFrom B W W') (h2 : b < B) (v : Value) : KeepsFrom B W (W'.setCell ⟨b, 0, none⟩ v) :=
  hu.trans (KeepsFrom.of_grownBy (grownBy_setCell' W' b v) (fun j e => by injection e with e; omega))
theorem ClkAt.ne_span {b : Nat} {cs : Array Value} (h : ClkAt w n kb ab pb cb off week closed) (hb : w.heap[b]? = some (.cells cs 143 (0, 0))) : b ≠ cb := by
  rintro rfl
  obtain ⟨m, k, ⟨lv, hc⟩ | ⟨v, hc, hr⟩⟩ := h.plan.cell
  · rw [hc] at hb; injection hb with hb; injection hb with _ hb; cases hb
  · rw [hc] at hb; injection hb with hb; injection hb with _ hb; cases hb
theorem due_end {W : World} {L m : Nat} {kv : Value} {B r2 r3 : Int} (o' : Obj) (hL : w.heap.size ≤ L) (hK : W.heap[L]? = some (.deferred (some []))) (D : DueB m W kv B r2 r3) (C : ClkAt W n kb ab pb cb off week closed) (U : Upd cb w W) :
    DueB m (W.putObj L o') kv B r2 r3 ∧ ClkAt (W.putObj L o') n kb ab pb cb off week closed ∧ Upd cb w (W.putObj L o') := by
  have hg := grownBy_putObj' W L o'
  have hr : ∀ r, some L = some r → L ≤ r ∧ ∃ o : Obj, W.heap[r]? = some o ∧ o.isCells = false := fun r e => by cases e; exact ⟨Nat.le_refl _, _, hK, rfl⟩
  have hk := cells_kept hg hr
  exact ⟨D.cells hk, C.cells hk, U.kept hg hL hr⟩
def DueI (w : World) (n kb ab pb cb : Nat) (off : Int) (week closed : List S143) (B : Int) (pre : List GS) (W : World) : Prop :=
  ∃ Bc, (1 ≤ Bc ∧ Bc ≤ B ∧ ∀ r, dueL off week B (pre.map (·.1) ++ r) = dueL off week Bc r) ∧ DueB w.heap.size W (.pointer (some ⟨kb, 0, none⟩)) Bc 0 0 ∧ ClkAt W n kb ab pb cb off week closed ∧ Upd cb w W
def DueX (w : World) (n kb ab pb cb : Nat) (off : Int) (week closed : List S143) (B : Int) (c : Code) (pre : List GS) (W : World) : Prop :=
  c = .ret ∧ ∃ d Bc, (∀ r, dueL off week B (pre.map (·.1) ++ r) = some d) ∧ DueB w.heap.size W (.pointer (some ⟨kb, 0, none⟩)) Bc d 0 ∧ ClkAt W n kb ab pb cb off week closed ∧ Upd cb w W
theorem DueI.own {B : Int} {m : Nat} (hm : w.heap.size ≤ m) : OwnFrom m (DueI w n kb ab pb cb off week closed B) := fun s W W' row hs hg hr => by
  obtain ⟨Bc, h1, h2, h3, h4⟩ := hs
  have hk := cells_kept hg hr
  exact ⟨Bc, h1, h2.cells hk, h3.cells hk, h4.kept hg hm hr⟩
theorem DueX.own {B : Int} {m : Nat} (hm : w.heap.size ≤ m) (c : Code) : OwnFrom m (DueX w n kb ab pb cb off week closed B c) := fun s W W' row hs hg hr => by
  obtain ⟨h0, d, Bc, h1, h2, h3, h4⟩ := hs
  have hk := cells_kept hg hr
  exact ⟨h0, d, Bc, h1, h2.cells hk, h3.cells hk, h4.kept hg hm hr⟩
def dueR : Option Int → Int × Int
  | none => (0, 10)
  | some d => (d, 0)
def due_T14 : Bool × List (List Nat × List Nat) := (true, [([], []), ([0], [0]), ([1], [1]), ([2], [2]), ([], []), ([4], [4]), ([5], [5]), ([6], [6]), ([], []), ([8], [8]), ([], []), ([10], [10]), ([11], [11]), ([12], [12]), ([9, 13], [9, 13]), ([7, 14], [7, 14]), ([], []), ([15, 16], [15, 16]), ([17], [17]), ([3, 18, 15], [3, 18]), ([19], [19]), ([20], [20]), ([20], [20]), ([21, 19, 0, 1, 2, 3, 4, 5, 6, 7, 8, 9, 10, 11, 12, 13, 14, 15, 16, 17, 18, 19, 20, 21], [21]), ([22, 23, 0, 1, 2, 3, 4, 5, 6, 7, 8, 9, 10, 11, 12, 13, 14, 15, 16, 17, 18, 19, 20, 21, 22, 23], [22])])
def due_B14 : List Nat := [0, 1, 3, 7, 0, 16, 48, 112, 0, 256, 0, 1024, 3072, 7168, 16128, 32752, 0, 131056, 262128, 524287, 1048575, 2097151, 2097151, 4194303, 16777215]
theorem due_tab14 : rtab .any (opsOf Try.f105 14) = due_T14 := by kernel_rfl
theorem due_bits14 : waitsOk due_T14.2 due_B14 = true := by kernel_rfl
set_option maxHeartbeats 8000000 in
set_option maxRecDepth 100000 in
theorem due_main (a B : Int) (w : World) (h : ClkAt w n kb ab pb cb off week closed) (hn : n ≤ w.heap.size) (hx : 0 ≤ a ∧ a ≤ 1125899906842624) (hB : 0 < B) (hB2 : B ≤ 9223372036854775807) (hs : 0 < secs week) :
    Calls Try.prog 105 #[.pointer (some ⟨kb, 0, none⟩), .int .i64 a, .int .i64 B] w fun e w' => e = .returned (.tuple #[.int .i64 (dueR (dueL off week B (freeL closed a 1125899906842624))).1, .int .i64 (dueR (dueL off week B (freeL closed a 1125899906842624))).2]) ∧ ClkAt w' n kb ab pb cb off week closed ∧ Upd cb w w' := by
  refine (callsIn_wide (n := 10)).1 ?_
  have D4 := Aside0.mk (DueB.new w (.pointer (some ⟨kb, 0, none⟩)) B)
  have HB : Aside0 (Below w.heap.size w ((((w.alloc (.cells #[.pointer (some ⟨kb, 0, none⟩)] 54)).alloc (.cells #[.int .i64 B] 2)).alloc (.cells #[.int .i64 0] 2)).alloc (.cells #[.int .i64 0] 55))) := ⟨below_alloc (below_alloc (below_alloc (below_alloc (Below.refl w.heap.size w) _) _) _) _⟩
  have HC4 := Aside0.mk (h.below HB.out)
  have HU4 := Aside0.mk (Upd.of_below (b := cb) HB.out)
  have hcb := h.lt
  have HA0 := Aside0.mk (AlmM.of h.alm)
  have hnot : ∀ (x : Bool) (w : World), (Op.unary .not (.bool x)).run Try.prog w = .ok (.bool (!x)) w := fun _ _ => rfl
  have hfn : ∀ g, Fence.wide.fn g := fun _ => trivial
  have HI : Aside0 (instB a = true) := ⟨decide_eq_true hx⟩
  have hB0 : (B == 0) = false := beq_eq_false_iff_ne.mpr (by omega)
  have hS0 : (secs week == 0) = false := beq_eq_false_iff_ne.mpr (by omega)
  have HSZ : Aside0 (w.heap.size + 4 ≤ ((((w.alloc (.cells #[.pointer (some ⟨kb, 0, none⟩)] 54)).alloc (.cells #[.int .i64 B] 2)).alloc (.cells #[.int .i64 0] 2)).alloc (.cells #[.int .i64 0] 55)).heap.size) := ⟨by simp⟩
  clear HB h
  refine callsIn_of_wp_marks Try.func105 rfl trivial ?_ rfl
  simp only [Try.ntmps105, List.size_toArray, List.length_cons, List.length_nil, Nat.reduceAdd, Nat.reduceSub, Array.replicate_succ, Array.replicate_zero, List.push_toArray, List.append_toArray, List.nil_append, List.cons_append]
  gi_wp2_with fail
  generalize ((((w.alloc (.cells #[.pointer (some ⟨kb, 0, none⟩)] 54)).alloc (.cells #[.int .i64 B] 2)).alloc (.cells #[.int .i64 0] 2)).alloc (.cells #[.int .i64 0] 55)) = w4 at D4 HC4 HU4 HSZ ⊢
  have c0 : w4.cell? ⟨w.heap.size, 0, none⟩ = some (.pointer (some ⟨kb, 0, none⟩)) := (blk_cell D4.out.b0 0).trans rfl
  have d1 : w4.cell? ⟨w.heap.size + 1, 0, none⟩ = some (.int .i64 B) := (blk_cell D4.out.b1 0).trans rfl
  have k0 : w4.cell? ⟨kb, 0, none⟩ = some (.pointer (some ⟨ab, 0, none⟩)) := (blk_cell HC4.out.blk 0).trans rfl
  have k1 : w4.cell? ⟨kb, 1, none⟩ = some (.pointer (some ⟨pb, 0, none⟩)) := (blk_cell HC4.out.blk 1).trans rfl
  gi_wp2_with (first | (gi_at_call 106; refine (callsIn_wide.2 (clknone_any _ HC4.out)).mono ?_; rintro e w5 ⟨rfl, rfl⟩) | (gi_at_call 110; refine (callsIn_wide.2 (instant_any a _)).mono ?_; rintro e w5 ⟨rfl, hb⟩; rw [HI.out]; have D5 := Aside0.mk (D4.out.below hb); have HC5 := Aside0.mk (HC4.out.below hb); have HU5 := Aside0.mk (HU4.out.then hb); have HSZ5 : Aside0 (w.heap.size + 4 ≤ w5.heap.size) := ⟨Nat.le_trans HSZ.out hb.size⟩; clear hb D4 HC4 HU4 HSZ; have c0 : w5.cell? ⟨w.heap.size, 0, none⟩ = some (.pointer (some ⟨kb, 0, none⟩)) := (blk_cell D5.out.b0 0).trans rfl; have d1 : w5.cell? ⟨w.heap.size + 1, 0, none⟩ = some (.int .i64 B) := (blk_cell D5.out.b1 0).trans rfl; have k0 : w5.cell? ⟨kb, 0, none⟩ = some (.pointer (some ⟨ab, 0, none⟩)) := (blk_cell HC5.out.blk 0).trans rfl; have k1 : w5.cell? ⟨kb, 1, none⟩ = some (.pointer (some ⟨pb, 0, none⟩)) := (blk_cell HC5.out.blk 1).trans rfl) | (gi_at_call 111; refine (callsIn_wide.2 (total_any n pb cb week _ HC5.out.plan (Nat.le_trans hn HU5.out.size))).mono ?_; rintro e w6 ⟨rfl, hp, hu⟩; have D6 := Aside0.mk (D5.out.upd hu hcb); have HC6 := Aside0.mk (HC5.out.upd hu hp); have HU6 := Aside0.mk (HU5.out.trans hu); have HSZ6 : Aside0 (w.heap.size + 4 ≤ w6.heap.size) := ⟨Nat.le_trans HSZ5.out hu.size⟩; clear hp hu D5 HC5 HU5 HSZ5; have c0 : w6.cell? ⟨w.heap.size, 0, none⟩ = some (.pointer (some ⟨kb, 0, none⟩)) := (blk_cell D6.out.b0 0).trans rfl; have d1 : w6.cell? ⟨w.heap.size + 1, 0, none⟩ = some (.int .i64 B) := (blk_cell D6.out.b1 0).trans rfl; have k0 : w6.cell? ⟨kb, 0, none⟩ = some (.pointer (some ⟨ab, 0, none⟩)) := (blk_cell HC6.out.blk 0).trans rfl; have k1 : w6.cell? ⟨kb, 1, none⟩ = some (.pointer (some ⟨pb, 0, none⟩)) := (blk_cell HC6.out.blk 1).trans rfl) | (gi_at_call 112; refine (callsIn_wide.2 (free_any ab a _ _)).mono ?_; rintro e w7 ⟨rfl, rfl⟩))
  obtain ⟨w7, hw7⟩ : ∃ w7, w7 = ((w6.alloc (Obj.cells #[Value.pointer (some { block := ab, off := 0 })] 102)).alloc (Obj.cells #[Value.int IntKind.i64 a] 2)).alloc (Obj.cells #[Value.int IntKind.i64 1125899906842624] 2) := ⟨_, rfl⟩
  have hb7 : Below w6.heap.size w6 w7 := by rw [hw7]; exact below_alloc (below_alloc (below_alloc (Below.refl _ _) _) _) _
  have B0 : w7.heap[w6.heap.size]? = some (.cells #[.pointer (some ⟨ab, 0, none⟩)] 102 (0, 0)) := by rw [hw7]; exact blk_alloc (blk_alloc (blk_new w6 _) _) _
  have B1 : w7.heap[w6.heap.size + 1]? = some (.cells #[.int .i64 a] 2 (0, 0)) := by
    rw [hw7]; exact blk_alloc (by simpa using blk_new (w6.alloc (Obj.cells #[Value.pointer (some { block := ab, off := 0 })] 102)) (Obj.cells #[Value.int IntKind.i64 a] 2)) _
  have B2 : w7.heap[w6.heap.size + 1 + 1]? = some (.cells #[.int .i64 1125899906842624] 2 (0, 0)) := by
    rw [hw7]; simpa using blk_new ((w6.alloc (Obj.cells #[Value.pointer (some { block := ab, off := 0 })] 102)).alloc (Obj.cells #[Value.int IntKind.i64 a] 2)) (Obj.cells #[Value.int IntKind.i64 1125899906842624] 2)
  have S7 : w7.heap.size = w6.heap.size + 3 := by rw [hw7]; simp
  rw [← hw7]
  have HU7 := HU6.out.then hb7
  have HS6 := HSZ6.out
  have I0 : DueI w n kb ab pb cb off week closed B [] w7 := ⟨B, ⟨by omega, Int.le_refl _, fun r => by simp⟩, D6.out.below hb7, HC6.out.below hb7, HU7⟩
  have HAM : AlmM w7 w.heap.size ab cb closed := HA0.out.keep (fun k hk hne => HU7.block k hk (fun e => hne (by injection e)))
  have HROW := HA0.out.ok
  clear hw7 D6 HC6 HU6 HSZ6 HA0 c0 d1 k0 k1 hB0 hS0 HI
  refine wpIn_rangeFunc_ownH (a := { tmps := ?T, defers := [] }) rfl (by omega) (gf := 119) (lb := #[.pointer (some ⟨w6.heap.size + 1, 0, none⟩), .pointer (some ⟨w6.heap.size + 1 + 1, 0, none⟩), .pointer (some ⟨w6.heap.size, 0, none⟩)]) ?hg trivial (enters_of Try.func119 (by kernel_rfl) rfl)
    (free_stops w.heap.size ab cb w6.heap.size closed a 1125899906842624 w7 HAM (by omega) (by omega) hx.1 hx.2 (Int.le_refl _) B0 B1 B2 (10 - 1) (by omega)) (fun h k => h.trans k) ?hkb (Below.refl _ _) ?hps
    (DueI w n kb ab pb cb off week closed B) (DueX w n kb ab pb cb off week closed B) (DueI.own (by omega)) (DueX.own (by omega)) I0
    (fun x a' W => ∃ sb, a' = { tmps := (Array.setIfInBounds ?T 40 (Value.agg #[.int .i64 x.1.f0, .int .i64 x.1.f1])).setIfInBounds 8 (.pointer (some ⟨sb, 0, none⟩)), defers := [] } ∧ W.heap[sb]? = some (.cells #[.int .i64 x.1.f0, .int .i64 x.1.f1] 143 (0, 0)))
    ?hax ?assign ?body ?done ?stop
  case hkb =>
    intro W l o o' hl ho hnc _
    have hg := grownBy_putObj' W l o'
    have hlt := blk_lt ho
    refine ⟨hg.size, fun k hk _ => hg.block k (by omega) (fun e => by injection e with e; omega), fun k oo hk h2 hc => (hg.block k (blk_lt h2) (fun e => ?_)).trans h2⟩
    injection e with e
    subst e
    rw [ho] at h2
    injection h2 with h2
    subst h2
    rw [hnc] at hc
    cases hc
  case hps => intro x; rfl
  case hg => rfl
  case hax =>
    intro x a' s W W' row hs hg hr
    obtain ⟨sb, e, hb⟩ := hs
    exact ⟨sb, e, cells_kept hg hr _ _ hb rfl⟩
  case assign =>
    intro l pre x W K hI hK
    have hsz : w.heap.size ≤ W.heap.size := by obtain ⟨_, _, _, _, U⟩ := hI; exact U.size
    gi_wp2
    refine hK _ _ (KeepsFrom.of_grownBy (World.grownBy_alloc W _ none) (fun _ e => by cases e)) (KeepM.of_below (below_alloc (Below.refl _ _) _) hsz) (DueI.own (Nat.le_refl _) _ _ _ none hI (World.grownBy_alloc W _ none) (fun _ e => by cases e)) ⟨W.heap.size, ?_, blk_new _ _⟩
    simp only [List.setIfInBounds_toArray, List.set_cons_zero, List.set_cons_succ]
  case body =>
    intro l pre x a' W hl hlr hI hAx hlen
    obtain ⟨sb, rfl, hsb⟩ := hAx
    obtain ⟨Bc, ⟨b1, b2, b3⟩, D, C, U⟩ := hI
    clear HAM B0 B1 B2 hb7 I0 HU7
    simp only [List.setIfInBounds_toArray, List.set_cons_zero, List.set_cons_succ]
    obtain ⟨⟨x0, x1⟩, hq⟩ := x
    have hx0 : 0 ≤ x0 := hq.1
    have hx1 : x0 < x1 := hq.2.1
    have hx2 : x1 ≤ 1125899906842624 := hq.2.2
    simp only at hsb b3 ⊢
    have hfl : ∀ g, (Fence.wide.inRound l).fn g := fun _ => trivial
    have hnW : n ≤ W.heap.size := Nat.le_trans hn U.size
    have c0 : W.cell? ⟨w.heap.size, 0, none⟩ = some (.pointer (some ⟨kb, 0, none⟩)) := (blk_cell D.b0 0).trans rfl
    have s0 : W.cell? ⟨sb, 0, none⟩ = some (.int .i64 x0) := (blk_cell hsb 0).trans rfl
    have s1 : W.cell? ⟨sb, 1, none⟩ = some (.int .i64 x1) := (blk_cell hsb 1).trans rfl
    have HWK := Aside0.mk (weekly_any x0 x1 W C hnW hx0 (by omega) (by omega) hx2)
    have hwb := between_bound C.plan.ok (x0 + (604800 - off)) (x1 + (604800 - off))
    have HE : Aside0 (weeklyP off week x0 x1 = weeklyP off week x0 x1) := ⟨rfl⟩
    have HHIT := Aside0.mk (fun h => due_hit C.plan.ok C.lo C.hi hs (a := x0) (z := x1) (B := Bc) hx0 (by omega) hx2 b1 h)
    change 0 ≤ weeklyP off week x0 x1 ∧ weeklyP off week x0 x1 ≤ _ at hwb
    have hsne : sb ≠ cb := C.ne_span hsb
    have hneq : week ≠ [] := fun e => by rw [e] at hs; simp [secs] at hs
    have HD := Aside0.mk D
    have HU := Aside0.mk U
    have HB3 := Aside0.mk b3
    have HSB := Aside0.mk hsb
    clear C D U hsb b3
    by_cases hlt : weeklyP off week x0 x1 < Bc
    · have hle : Bc > weeklyP off week x0 x1 := hlt
      gi_wp2_with (gi_at_call 113; refine (CallsIn.inRound l (callsIn_wide.2 HWK.out)).mono ?_; rintro e w8 ⟨rfl, C8, U8⟩; have HC8 := Aside0.mk C8; have HU8 := Aside0.mk U8; have HD8 := Aside0.mk (HD.out.upd U8 hcb); have d1 : w8.cell? ⟨w.heap.size + 1, 0, none⟩ = some (.int .i64 Bc) := (blk_cell HD8.out.b1 0).trans rfl; have f1 : w8.frozen? ⟨w.heap.size + 1, 0, none⟩ = false := blk_frozen HD8.out.b1 0; clear C8 U8)
      refine ⟨KeepsFrom.box1 (KeepsFrom.of_grownBy HU8.out (fun j e => by injection e with e; omega)) (by omega) _, KeepM.box1 HU8.out HU.out.size hcb (by omega) (by omega) _, Bc - weeklyP off week x0 x1, ⟨by omega, by omega, fun r => ?_⟩, HD8.out.set1 _, HC8.out.far HD8.out.b1 (by decide) (by decide) (fun _ => hneq) (But.set _ _ _), (HU.out.trans HU8.out).box (by omega) _⟩
      have := HB3.out (⟨x0, x1⟩ :: r)
      simp only [List.map_append, List.map_cons, List.map_nil, List.append_assoc, List.cons_append, List.nil_append]
      rw [this]
      simp only [dueL]
      rw [if_pos hlt]
    · have hle : ¬ Bc > weeklyP off week x0 x1 := hlt
      gi_wp2_with (gi_at_call 113; refine (CallsIn.inRound l (callsIn_wide.2 HWK.out)).mono ?_; rintro e w8 ⟨rfl, C8, U8⟩; have HC8 := Aside0.mk C8; have HU8 := Aside0.mk U8; have HD8 := Aside0.mk (HD.out.upd U8 hcb); have d1 : w8.cell? ⟨w.heap.size + 1, 0, none⟩ = some (.int .i64 Bc) := (blk_cell HD8.out.b1 0).trans rfl; have f1 : w8.frozen? ⟨w.heap.size + 1, 0, none⟩ = false := blk_frozen HD8.out.b1 0; clear C8 U8)
      obtain ⟨⟨p0, p1⟩, p2, p3, p4, _, _⟩ := HHIT.out (by omega)
      have HDUE : Aside0 (∀ r, dueL off week B ((pre ++ [(⟨⟨x0, x1⟩, hq⟩ : GS)]).map (·.1) ++ r) = some (nthP week (untilP week (x0 + (604800 - off)) + Bc - 1) - (604800 - off) + 1)) := ⟨fun r => by
        have := HB3.out (⟨x0, x1⟩ :: r)
        simp only [List.map_append, List.map_cons, List.map_nil, List.append_assoc, List.cons_append, List.nil_append]
        rw [this]
        simp only [dueL]
        rw [if_neg (by omega)]⟩
      have q0 := HC8.out.lo
      have q1 := HC8.out.hi
      have hu0 := (until_bound HC8.out.plan.ok (x0 + (604800 - off))).1
      have hw1 : wrap64 (x0 + (604800 - off)) = x0 + (604800 - off) := wrap_id (by omega) (by omega)
      have HUN := Aside0.mk (fun w2 h1 h2 => until_any n pb cb week (wrap64 (x0 + (604800 - off))) w2 h1 h2)
      rw [show untilP week (wrap64 (x0 + (604800 - off))) = untilP week (x0 + (604800 - off)) by rw [hw1]] at HUN
      have HNT := Aside0.mk (fun w2 h1 h2 => nth_any n pb cb week (untilP week (x0 + (604800 - off)) + Bc - 1) w2 h1 h2 hs p0 p2 (by omega) (by omega))
      generalize nthP week (untilP week (x0 + (604800 - off)) + Bc - 1) = q at HDUE HNT p3 p4
      generalize untilP week (x0 + (604800 - off)) = U at HNT HUN p0 p1 hu0
      have hw2 : wrap64 (U + Bc) = U + Bc := wrap_id (by omega) (by omega)
      have hw3 : wrap64 (U + Bc - 1) = U + Bc - 1 := wrap_id (by omega) (by omega)
      rw [← hw3] at HNT
      have hw4 : wrap64 (q - (604800 - off)) = q - (604800 - off) := wrap_id (by omega) (by omega)
      have hw5 : wrap64 (q - (604800 - off) + 1) = q - (604800 - off) + 1 := wrap_id (by omega) (by omega)
      have hb9 : Below w8.heap.size w8 w8.drew := below_drew1 (Below.refl _ _)
      have HC9 := Aside0.mk (HC8.out.below hb9)
      have HU9 := Aside0.mk (HU8.out.then hb9)
      have HD9 := Aside0.mk (HD8.out.below hb9)
      have HS9 := Aside0.mk (blk_below (HU8.out.blk HSB.out hsne) hb9)
      have HN9 : Aside0 (n ≤ w8.drew.heap.size) := ⟨Nat.le_trans hnW HU9.out.size⟩
      have z0 : w8.drew.cell? ⟨w.heap.size, 0, none⟩ = some (.pointer (some ⟨kb, 0, none⟩)) := (blk_cell HD9.out.b0 0).trans rfl
      have z1 : w8.drew.cell? ⟨w.heap.size + 1, 0, none⟩ = some (.int .i64 Bc) := (blk_cell HD9.out.b1 0).trans rfl
      have z2 : w8.drew.cell? ⟨sb, 0, none⟩ = some (.int .i64 x0) := (blk_cell HS9.out 0).trans rfl
      have z3 : w8.drew.cell? ⟨kb, 1, none⟩ = some (.pointer (some ⟨pb, 0, none⟩)) := (blk_cell HC9.out.blk 1).trans rfl
      have z4 : w8.drew.cell? ⟨kb, 2, none⟩ = some (.int .i64 (604800 - off)) := (blk_cell HC9.out.blk 2).trans rfl
      clear hb9 HC8 HU8 HD8 HB3 s0 s1 c0 d1 f1 HHIT HWK
      have hnd := nodefer_of (ops := opsOf Try.f105 14) (by kernel_rfl)
      refine startIn_ (n := 25) (S := fun w' => w'.cell? ⟨w.heap.size, 0, none⟩ = some (.pointer (some ⟨kb, 0, none⟩)) ∧ w'.cell? ⟨w.heap.size + 1, 0, none⟩ = some (.int .i64 Bc) ∧ w'.cell? ⟨sb, 0, none⟩ = some (.int .i64 x0) ∧ w'.cell? ⟨kb, 1, none⟩ = some (.pointer (some ⟨pb, 0, none⟩)) ∧ w'.cell? ⟨kb, 2, none⟩ = some (.int .i64 (604800 - off))) (ds := []) hnd (fun ⟨_, _, h⟩ => h) #[false, false, false, false, false, false, false, false, false, false, false, false, false, false, false, false, false, false, false, false, false, false, false, false, false] (by kernel_rfl) rfl rfl ⟨z0, z1, z2, z3, z4⟩ (fun hHeld => ?_); refine with_tabW due_tab14 due_bits14 (fun HT_ HW_ => ?_)
      clear z0 z1 z2 z3 z4
      generalize w8.drew = w9 at HC9 HU9 HD9 HS9 HN9 hHeld ⊢
      refine pure_ (i := 8) (N := some 62) (v := ?_) (a' := ?_) #[false, false, false, false, false, false, false, false, true, false, false, false, false, false, false, false, false, false, false, false, false, false, false, false, false] rfl rfl (any_of HT_.out (by kernel_rfl)) (fun _ _ _ h => h) (Or.inl ⟨by rfl, ?_⟩) ?_ ?_
      rotate_left
      · intro w'
        go_simp
        with_reducible rfl
      rotate_left
      · simp only [Act.put, List.setIfInBounds_toArray, List.set_cons_zero, List.set_cons_succ, i64_w, i32_w]
        rfl
      refine take_ (i := 0) (N := some 54) (v := ?_) (a' := ?_) #[true, false, false, false, false, false, false, false, true, false, false, false, false, false, false, false, false, false, false, false, false, false, false, false, false] rfl rfl (take_ofW HT_.out HW_.out (by kernel_rfl)) (fun _ _ _ h => h) (Or.inl ⟨by rfl, ?_⟩) hHeld ?_ ?_
      rotate_left
      · rintro w' ⟨s0, s1, s2, s3, s4⟩
        go_simp
        with_reducible rfl
      rotate_left
      · simp only [Act.put, List.setIfInBounds_toArray, List.set_cons_zero, List.set_cons_succ, i64_w, i32_w]
        rfl
      refine pure_ (i := 1) (N := some 55) (v := ?_) (a' := ?_) #[true, true, false, false, false, false, false, false, true, false, false, false, false, false, false, false, false, false, false, false, false, false, false, false, false] rfl rfl (any_of HT_.out (by kernel_rfl)) (fun _ _ _ h => h) (Or.inl ⟨by rfl, ?_⟩) ?_ ?_
      rotate_left
      · intro w'
        go_simp
        with_reducible rfl
      rotate_left
      · simp only [Act.put, List.setIfInBounds_toArray, List.set_cons_zero, List.set_cons_succ, i64_w, i32_w]
        rfl
      refine pure_ (i := 2) (N := some 56) (v := ?_) (a' := ?_) #[true, true, true, false, false, false, false, false, true, false, false, false, false, false, false, false, false, false, false, false, false, false, false, false, false] rfl rfl (any_of HT_.out (by kernel_rfl)) (fun _ _ _ h => h) (Or.inl ⟨by rfl, ?_⟩) ?_ ?_
      rotate_left
      · intro w'
        go_simp
        with_reducible rfl
      rotate_left
      · simp only [Act.put, List.setIfInBounds_toArray, List.set_cons_zero, List.set_cons_succ, i64_w, i32_w]
        rfl
      refine take_ (i := 3) (N := some 57) (v := ?_) (a' := ?_) #[true, true, true, true, false, false, false, false, true, false, false, false, false, false, false, false, false, false, false, false, false, false, false, false, false] rfl rfl (take_ofW HT_.out HW_.out (by kernel_rfl)) (fun _ _ _ h => h) (Or.inl ⟨by rfl, ?_⟩) hHeld ?_ ?_
      rotate_left
      · rintro w' ⟨s0, s1, s2, s3, s4⟩
        go_simp
        with_reducible rfl
      rotate_left
      · simp only [Act.put, List.setIfInBounds_toArray, List.set_cons_zero, List.set_cons_succ, i64_w, i32_w]
        rfl
      refine take_ (i := 4) (N := some 58) (v := ?_) (a' := ?_) #[true, true, true, true, true, false, false, false, true, false, false, false, false, false, false, false, false, false, false, false, false, false, false, false, false] rfl rfl (take_ofW HT_.out HW_.out (by kernel_rfl)) (fun _ _ _ h => h) (Or.inl ⟨by rfl, ?_⟩) hHeld ?_ ?_
      rotate_left
      · rintro w' ⟨s0, s1, s2, s3, s4⟩
        go_simp
        with_reducible rfl
      rotate_left
      · simp only [Act.put, List.setIfInBounds_toArray, List.set_cons_zero, List.set_cons_succ, i64_w, i32_w]
        rfl
      refine pure_ (i := 5) (N := some 59) (v := ?_) (a' := ?_) #[true, true, true, true, true, true, false, false, true, false, false, false, false, false, false, false, false, false, false, false, false, false, false, false, false] rfl rfl (any_of HT_.out (by kernel_rfl)) (fun _ _ _ h => h) (Or.inl ⟨by rfl, ?_⟩) ?_ ?_
      rotate_left
      · intro w'
        go_simp
        with_reducible rfl
      rotate_left
      · simp only [Act.put, List.setIfInBounds_toArray, List.set_cons_zero, List.set_cons_succ, i64_w, i32_w]
        rfl
      refine pure_ (i := 6) (N := some 60) (v := ?_) (a' := ?_) #[true, true, true, true, true, true, true, false, true, false, false, false, false, false, false, false, false, false, false, false, false, false, false, false, false] rfl rfl (any_of HT_.out (by kernel_rfl)) (fun _ _ _ h => h) (Or.inl ⟨by rfl, ?_⟩) ?_ ?_
      rotate_left
      · intro w'
        go_simp
        with_reducible rfl
      rotate_left
      · simp only [Act.put, List.setIfInBounds_toArray, List.set_cons_zero, List.set_cons_succ, i64_w, i32_w]
        rfl
      refine take_ (i := 7) (N := some 61) (v := ?_) (a' := ?_) #[true, true, true, true, true, true, true, true, true, false, false, false, false, false, false, false, false, false, false, false, false, false, false, false, false] rfl rfl (take_ofW HT_.out HW_.out (by kernel_rfl)) (fun _ _ _ h => h) (Or.inl ⟨by rfl, ?_⟩) hHeld ?_ ?_
      rotate_left
      · rintro w' ⟨s0, s1, s2, s3, s4⟩
        go_simp
        with_reducible rfl
      rotate_left
      · simp only [Act.put, List.setIfInBounds_toArray, List.set_cons_zero, List.set_cons_succ, i64_w, i32_w]
        rfl
      refine take_ (i := 9) (N := some 63) (v := ?_) (a' := ?_) #[true, true, true, true, true, true, true, true, true, true, false, false, false, false, false, false, false, false, false, false, false, false, false, false, false] rfl rfl (take_ofW HT_.out HW_.out (by kernel_rfl)) (fun _ _ _ h => h) (Or.inl ⟨by rfl, ?_⟩) hHeld ?_ ?_
      rotate_left
      · rintro w' ⟨s0, s1, s2, s3, s4⟩
        go_simp
        with_reducible rfl
      rotate_left
      · simp only [Act.put, List.setIfInBounds_toArray, List.set_cons_zero, List.set_cons_succ, i64_w, i32_w]
        rfl
      refine take_ (i := 10) (N := some 64) (v := ?_) (a' := ?_) #[true, true, true, true, true, true, true, true, true, true, true, false, false, false, false, false, false, false, false, false, false, false, false, false, false] rfl rfl (take_ofW HT_.out HW_.out (by kernel_rfl)) (fun _ _ _ h => h) (Or.inl ⟨by rfl, ?_⟩) hHeld ?_ ?_
      rotate_left
      · rintro w' ⟨s0, s1, s2, s3, s4⟩
        go_simp
        with_reducible rfl
      rotate_left
      · simp only [Act.put, List.setIfInBounds_toArray, List.set_cons_zero, List.set_cons_succ, i64_w, i32_w]
        rfl
      refine pure_ (i := 11) (N := some 65) (v := ?_) (a' := ?_) #[true, true, true, true, true, true, true, true, true, true, true, true, false, false, false, false, false, false, false, false, false, false, false, false, false] rfl rfl (any_of HT_.out (by kernel_rfl)) (fun _ _ _ h => h) (Or.inl ⟨by rfl, ?_⟩) ?_ ?_
      rotate_left
      · intro w'
        go_simp
        with_reducible rfl
      rotate_left
      · simp only [Act.put, List.setIfInBounds_toArray, List.set_cons_zero, List.set_cons_succ, i64_w, i32_w]
        rfl
      refine pure_ (i := 12) (N := some 66) (v := ?_) (a' := ?_) #[true, true, true, true, true, true, true, true, true, true, true, true, true, false, false, false, false, false, false, false, false, false, false, false, false] rfl rfl (any_of HT_.out (by kernel_rfl)) (fun _ _ _ h => h) (Or.inl ⟨by rfl, ?_⟩) ?_ ?_
      rotate_left
      · intro w'
        go_simp
        with_reducible rfl
      rotate_left
      · simp only [Act.put, List.setIfInBounds_toArray, List.set_cons_zero, List.set_cons_succ, i64_w, i32_w]
        rfl
      refine take_ (i := 13) (N := some 67) (v := ?_) (a' := ?_) #[true, true, true, true, true, true, true, true, true, true, true, true, true, true, false, false, false, false, false, false, false, false, false, false, false] rfl rfl (take_ofW HT_.out HW_.out (by kernel_rfl)) (fun _ _ _ h => h) (Or.inl ⟨by rfl, ?_⟩) hHeld ?_ ?_
      rotate_left
      · rintro w' ⟨s0, s1, s2, s3, s4⟩
        go_simp
        with_reducible rfl
      rotate_left
      · simp only [Act.put, List.setIfInBounds_toArray, List.set_cons_zero, List.set_cons_succ, i64_w, i32_w]
        rfl
      refine pure_ (i := 14) (N := some 68) (v := ?_) (a' := ?_) #[true, true, true, true, true, true, true, true, true, true, true, true, true, true, true, false, false, false, false, false, false, false, false, false, false] rfl rfl (any_of HT_.out (by kernel_rfl)) (fun _ _ _ h => h) (Or.inl ⟨by rfl, ?_⟩) ?_ ?_
      rotate_left
      · intro w'
        go_simp
        with_reducible rfl
      rotate_left
      · simp only [Act.put, List.setIfInBounds_toArray, List.set_cons_zero, List.set_cons_succ, i64_w, i32_w]
        rfl
      refine take_ (i := 16) (N := some 70) (v := ?_) (a' := ?_) #[true, true, true, true, true, true, true, true, true, true, true, true, true, true, true, false, true, false, false, false, false, false, false, false, false] rfl rfl (take_ofW HT_.out HW_.out (by kernel_rfl)) (fun _ _ _ h => h) (Or.inl ⟨by rfl, ?_⟩) hHeld ?_ ?_
      rotate_left
      · rintro w' ⟨s0, s1, s2, s3, s4⟩
        go_simp
        with_reducible rfl
      rotate_left
      · simp only [Act.put, List.setIfInBounds_toArray, List.set_cons_zero, List.set_cons_succ, i64_w, i32_w]
        rfl
      refine one_ (i := 15) (N := some 69) #[true, true, true, true, true, true, true, true, true, true, true, true, true, true, true, true, true, false, false, false, false, false, false, false, false] rfl rfl (one_of HT_.out (by kernel_rfl)) (by decide) (fun K hK => ?_)
      refine goes_ Try.func115 (by kernel_rfl) rfl #[.pointer (some ⟨pb, 0, none⟩), .int .i64 (wrap64 (x0 + (604800 - off)))] (by rfl) rfl rfl (by (try simp only [List.map_toArray, List.map_cons, List.map_nil]); first | done | rfl) ?_
      refine (HUN.out _ HC9.out.plan HN9.out).mono ?_
      rintro e w10 ⟨rfl, pp, uu⟩
      refine ⟨_, rfl, ?_⟩
      have HC10 := Aside0.mk (HC9.out.upd uu pp)
      have HU10 := Aside0.mk (HU9.out.trans uu)
      have HD10 := Aside0.mk (HD9.out.upd uu hcb)
      have HS10 := Aside0.mk (uu.blk HS9.out hsne)
      have HN10 : Aside0 (n ≤ w10.heap.size) := ⟨Nat.le_trans HN9.out uu.size⟩
      have e0 : w10.cell? ⟨w.heap.size, 0, none⟩ = some (.pointer (some ⟨kb, 0, none⟩)) := (blk_cell HD10.out.b0 0).trans rfl
      have e1 : w10.cell? ⟨w.heap.size + 1, 0, none⟩ = some (.int .i64 Bc) := (blk_cell HD10.out.b1 0).trans rfl
      have e2 : w10.cell? ⟨sb, 0, none⟩ = some (.int .i64 x0) := (blk_cell HS10.out 0).trans rfl
      have e3 : w10.cell? ⟨kb, 1, none⟩ = some (.pointer (some ⟨pb, 0, none⟩)) := (blk_cell HC10.out.blk 1).trans rfl
      have e4 : w10.cell? ⟨kb, 2, none⟩ = some (.int .i64 (604800 - off)) := (blk_cell HC10.out.blk 2).trans rfl
      clear uu pp
      refine hK.out _ _ ⟨e0, e1, e2, e3, e4⟩ (fun hHeld => ?_)
      clear hK K
      refine norm_ (a' := ?_) ?_ ?_
      rotate_left
      · show Act.put _ (some 69) _ = _
        simp only [Act.put, List.setIfInBounds_toArray, List.set_cons_zero, List.set_cons_succ, i64_w, i32_w]
        rfl
      refine pure_ (i := 17) (N := some 71) (v := ?_) (a' := ?_) #[true, true, true, true, true, true, true, true, true, true, true, true, true, true, true, true, true, true, false, false, false, false, false, false, false] rfl rfl (any_of HT_.out (by kernel_rfl)) (fun _ _ _ h => h) (Or.inl ⟨by rfl, ?_⟩) ?_ ?_
      rotate_left
      · intro w'
        go_simp
        with_reducible rfl
      rotate_left
      · simp only [Act.put, List.setIfInBounds_toArray, List.set_cons_zero, List.set_cons_succ, i64_w, i32_w]
        rfl
      refine pure_ (i := 18) (N := some 72) (v := ?_) (a' := ?_) #[true, true, true, true, true, true, true, true, true, true, true, true, true, true, true, true, true, true, true, false, false, false, false, false, false] rfl rfl (any_of HT_.out (by kernel_rfl)) (fun _ _ _ h => h) (Or.inl ⟨by rfl, ?_⟩) ?_ ?_
      rotate_left
      · intro w'
        go_simp
        with_reducible rfl
      rotate_left
      · simp only [Act.put, List.setIfInBounds_toArray, List.set_cons_zero, List.set_cons_succ, i64_w, i32_w]
        rfl
      refine one_ (i := 19) (N := some 73) #[true, true, true, true, true, true, true, true, true, true, true, true, true, true, true, true, true, true, true, true, false, false, false, false, false] rfl rfl (one_of HT_.out (by kernel_rfl)) (by decide) (fun K hK => ?_)
      refine goes_ Try.func114 (by kernel_rfl) rfl #[.pointer (some ⟨pb, 0, none⟩), .int .i64 (wrap64 (U + Bc - 1))] (by rfl) rfl rfl (by (try simp only [List.map_toArray, List.map_cons, List.map_nil]); first | done | rfl) ?_
      refine (HNT.out _ HC10.out.plan HN10.out).mono ?_
      rintro e w11 ⟨rfl, pp, uu⟩
      refine ⟨_, rfl, ?_⟩
      have HC11 := Aside0.mk (HC10.out.upd uu pp)
      have HU11 := Aside0.mk (HU10.out.trans uu)
      have HD11 := Aside0.mk (HD10.out.upd uu hcb)
      have HS11 := Aside0.mk (uu.blk HS10.out hsne)
      have HN11 : Aside0 (n ≤ w11.heap.size) := ⟨Nat.le_trans HN10.out uu.size⟩
      have e0 : w11.cell? ⟨w.heap.size, 0, none⟩ = some (.pointer (some ⟨kb, 0, none⟩)) := (blk_cell HD11.out.b0 0).trans rfl
      have e1 : w11.cell? ⟨w.heap.size + 1, 0, none⟩ = some (.int .i64 Bc) := (blk_cell HD11.out.b1 0).trans rfl
      have e2 : w11.cell? ⟨sb, 0, none⟩ = some (.int .i64 x0) := (blk_cell HS11.out 0).trans rfl
      have e3 : w11.cell? ⟨kb, 1, none⟩ = some (.pointer (some ⟨pb, 0, none⟩)) := (blk_cell HC11.out.blk 1).trans rfl
      have e4 : w11.cell? ⟨kb, 2, none⟩ = some (.int .i64 (604800 - off)) := (blk_cell HC11.out.blk 2).trans rfl
      clear uu pp
      refine hK.out _ _ ⟨e0, e1, e2, e3, e4⟩ (fun hHeld => ?_)
      clear hK K
      refine norm_ (a' := ?_) ?_ ?_
      rotate_left
      · show Act.put _ (some 73) _ = _
        simp only [Act.put, List.setIfInBounds_toArray, List.set_cons_zero, List.set_cons_succ, i64_w, i32_w]
        rfl
      refine pure_ (i := 20) (N := some 53) (v := ?_) (a' := ?_) #[true, true, true, true, true, true, true, true, true, true, true, true, true, true, true, true, true, true, true, true, true, false, false, false, false] rfl rfl (any_of HT_.out (by kernel_rfl)) (fun _ _ _ h => h) (Or.inl ⟨by rfl, ?_⟩) ?_ ?_
      rotate_left
      · intro w'
        go_simp
        with_reducible rfl
      rotate_left
      · simp only [Act.put, List.setIfInBounds_toArray, List.set_cons_zero, List.set_cons_succ, i64_w, i32_w]
        rfl
      refine pure_ (i := 21) (N := some 74) (v := ?_) (a' := ?_) #[true, true, true, true, true, true, true, true, true, true, true, true, true, true, true, true, true, true, true, true, true, true, false, false, false] rfl rfl (any_of HT_.out (by kernel_rfl)) (fun _ _ _ h => h) (Or.inl ⟨by rfl, ?_⟩) ?_ ?_
      rotate_left
      · intro w'
        go_simp
        with_reducible rfl
      rotate_left
      · simp only [Act.put, List.setIfInBounds_toArray, List.set_cons_zero, List.set_cons_succ, i64_w, i32_w]
        rfl
      refine pure_ (i := 22) (N := some 75) (v := ?_) (a' := ?_) #[true, true, true, true, true, true, true, true, true, true, true, true, true, true, true, true, true, true, true, true, true, true, true, false, false] rfl rfl (any_of HT_.out (by kernel_rfl)) (fun _ _ _ h => h) (Or.inl ⟨by rfl, ?_⟩) ?_ ?_
      rotate_left
      · intro w'
        go_simp
        with_reducible rfl
      rotate_left
      · simp only [Act.put, List.setIfInBounds_toArray, List.set_cons_zero, List.set_cons_succ, i64_w, i32_w]
        rfl
      refine pure_ (i := 23) (N := some 10) (v := ?_) (a' := ?_) #[true, true, true, true, true, true, true, true, true, true, true, true, true, true, true, true, true, true, true, true, true, true, true, true, false] rfl rfl (any_of HT_.out (by kernel_rfl)) (fun _ _ _ h => h) (Or.inl ⟨by rfl, ?_⟩) ?_ ?_
      rotate_left
      · intro w'
        go_simp
        with_reducible rfl
      rotate_left
      · simp only [Act.put, List.setIfInBounds_toArray, List.set_cons_zero, List.set_cons_succ, i64_w, i32_w]
        rfl
      refine pure_ (i := 24) (N := some 11) (v := ?_) (a' := ?_) #[true, true, true, true, true, true, true, true, true, true, true, true, true, true, true, true, true, true, true, true, true, true, true, true, true] rfl rfl (any_of HT_.out (by kernel_rfl)) (fun _ _ _ h => h) (Or.inl ⟨by rfl, ?_⟩) ?_ ?_
      rotate_left
      · intro w'
        go_simp
        with_reducible rfl
      rotate_left
      · simp only [Act.put, List.setIfInBounds_toArray, List.set_cons_zero, List.set_cons_succ, i64_w, i32_w]
        rfl
      refine done_ (done_of HT_.out (by kernel_rfl)) ?_
      clear HT_ HW_ hHeld
      have c0 : w11.cell? ⟨w.heap.size, 0, none⟩ = some (.pointer (some ⟨kb, 0, none⟩)) := (blk_cell HD11.out.b0 0).trans rfl
      have k2 : w11.cell? ⟨kb, 2, none⟩ = some (.int .i64 (604800 - off)) := (blk_cell HC11.out.blk 2).trans rfl
      have d2 : w11.cell? ⟨w.heap.size + 1 + 1, 0, none⟩ = some (.int .i64 0) := (blk_cell HD11.out.b2 0).trans rfl
      have d3 : w11.cell? ⟨w.heap.size + 1 + 1 + 1, 0, none⟩ = some (.int .i64 0) := (blk_cell HD11.out.b3 0).trans rfl
      have f2 : w11.frozen? ⟨w.heap.size + 1 + 1, 0, none⟩ = false := blk_frozen HD11.out.b2 0
      have f3 : w11.frozen? ⟨w.heap.size + 1 + 1 + 1, 0, none⟩ = false := blk_frozen HD11.out.b3 0
      gi_wp2
      exact ⟨KeepsFrom.box1 (KeepsFrom.box1 (KeepsFrom.of_grownBy HU11.out (fun j e => by injection e with e; omega)) (by omega) _) (by omega) _, rfl, q - (604800 - off) + 1, Bc, HDUE.out, (HD11.out.set2 _).set3 _, (HC11.out.far HD11.out.b2 (by decide) (by decide) (fun _ => hneq) (But.set _ _ _)).far (HD11.out.set2 _).b3 (by decide) (by decide) (fun _ => hneq) (But.set _ _ _), ((HU.out.trans HU11.out).box (by omega) _).box (by omega) _⟩
  case done =>
    rintro L xs W hL hS ⟨Bc, ⟨b1, b2, b3⟩, D, C, U⟩ hK
    have hdue : dueL off week B (freeL closed a 1125899906842624) = none := by
      have := b3 []
      rw [List.append_nil, hS] at this
      exact this
    have hneq : week ≠ [] := fun e => by rw [e] at hs; simp [secs] at hs
    have d2 : W.cell? ⟨w.heap.size + 1 + 1, 0, none⟩ = some (.int .i64 0) := (blk_cell D.b2 0).trans rfl
    have d3 : W.cell? ⟨w.heap.size + 1 + 1 + 1, 0, none⟩ = some (.int .i64 0) := (blk_cell D.b3 0).trans rfl
    have f2 : W.frozen? ⟨w.heap.size + 1 + 1, 0, none⟩ = false := blk_frozen D.b2 0
    have f3 : W.frozen? ⟨w.heap.size + 1 + 1 + 1, 0, none⟩ = false := blk_frozen D.b3 0
    have HL := due_left D (x := 0) (y := 10) hcb C U (.inl hneq)
    have hK3 := ((KeepsFrom.refl w7.heap.size W).trans ((KeepsFrom.box1 (KeepsFrom.refl w7.heap.size W) (b := w.heap.size + 1 + 1) (by omega) (.int .i64 0)))).same L _ hL hK rfl
    have hK4 := (KeepsFrom.box1 (KeepsFrom.refl w7.heap.size (W.setCell ⟨w.heap.size + 1 + 1, 0, none⟩ (.int .i64 0))) (b := w.heap.size + 1 + 1 + 1) (by omega) (.int .i64 10)).same L _ hL hK3 rfl
    obtain ⟨D9, C9, U9⟩ := due_end (.deferred none) (by omega) hK4 ((D.set2 0).set3 10) HL.1 HL.2
    have e2 := (blk_cell D9.b2 0).trans (rfl : _ = some (Value.int .i64 0))
    have e3 := (blk_cell D9.b3 0).trans (rfl : _ = some (Value.int .i64 10))
    clear HAM B0 B1 B2 hb7 I0 HU7 C U b3 D hK3 HL D9
    gi_wp2
    refine ⟨by simp, .inl ⟨_, _, rfl, run_takeDeferred hK4, ?_⟩⟩
    refine ⟨.tuple #[.int .i64 0, .int .i64 10], by simp [results, Try.results105, go_sem, e2, e3], ?_⟩
    rw [hdue]
    exact ⟨rfl, C9, U9⟩
  case stop =>
    rintro L c pre W hL ⟨rest, hS⟩ ⟨rfl, d, Bc, b3, D, C, U⟩ hK
    have hdue : dueL off week B (freeL closed a 1125899906842624) = some d := by rw [← hS]; exact b3 rest
    obtain ⟨D9, C9, U9⟩ := due_end (.deferred none) (by omega) hK D C U
    have e2 := (blk_cell D9.b2 0).trans (rfl : _ = some (Value.int .i64 d))
    have e3 := (blk_cell D9.b3 0).trans (rfl : _ = some (Value.int .i64 0))
    clear HAM B0 B1 B2 hb7 I0 HU7 C U b3 D D9
    gi_wp2
    refine ⟨by simp, .inl ⟨_, _, rfl, run_takeDeferred hK, ?_⟩⟩
    refine ⟨.tuple #[.int .i64 d, .int .i64 0], by simp [results, Try.results105, go_sem, e2, e3], ?_⟩
    rw [hdue]
    exact ⟨rfl, C9, U9⟩
def dueP (off : Int) (week closed : List S143) (a B : Int) : Int × Int :=
  if ¬ (0 ≤ a ∧ a ≤ 1125899906842624) ∨ B < 0 then (0, 2) else if B = 0 then (a, 0) else if secs week = 0 then (0, 40) else dueR (dueL off week B (freeL closed a 1125899906842624))
theorem due_any (a B : Int) (w : World) (h : ClkAt w n kb ab pb cb off week closed) (hn : n ≤ w.heap.size) (hB2 : B ≤ 9223372036854775807) :
    Calls Try.prog 105 #[.pointer (some ⟨kb, 0, none⟩), .int .i64 a, .int .i64 B] w fun e w' => e = .returned (.tuple #[.int .i64 (dueP off week closed a B).1, .int .i64 (dueP off week closed a B).2]) ∧ ClkAt w' n kb ab pb cb off week closed ∧ Upd cb w w' := by
  unfold dueP
  by_cases h1 : 0 ≤ a ∧ a ≤ 1125899906842624
  · by_cases h2 : B < 0
    · rw [if_pos (.inr h2)]; exact due_arg2 a B w h hn h1 h2
    · rw [if_neg (by omega)]
      by_cases h3 : B = 0
      · rw [if_pos h3]; exact due_zero a B w h hn h1 h3
      · rw [if_neg h3]
        have h5 := (h.plan.ok.secs (by omega)).1
        by_cases h4 : secs week = 0
        · rw [if_pos h4]; exact due_closed a B w h hn h1 (by omega) h4
        · rw [if_neg h4]; exact due_main a B w h hn h1 (by omega) hB2 (by omega)
  · rw [if_pos (.inl h1)]; exact due_arg1 a B w h hn h1
end Go.Proofs.Ytepldlnmeenlbaa.Own
namespace Go.Proofs.Ytepldlnmeenlbaa.Own
open Go.RowKit Go.Proofs Go.Proofs.YtepldlnmeenlbaaW.PrintWords Go.Proofs.YtepldlnmeenlbaaW.PrintLast Go.Proofs.YtepldlnmeenlbaaW.PrintMore Go.Proofs.Ytepldlnmeenlbaa.Base
variable {off : Int} {week closed : List S143}
structure CalOk (off : Int) (week closed : List S143) : Prop where
  lo : 0 ≤ off
  hi : off < 604800
  week : RowOk 604800 week
  closed : RowOk 1125899906842624 closed
theorem calErr_ok (h : calErr off week closed = 0) : CalOk off week closed := by
  unfold calErr at h
  by_cases h1 : off < 0 ∨ 604800 ≤ off
  · rw [if_pos h1] at h; cases h
  · rw [if_neg h1] at h
    by_cases h2 : weekErr week = 0
    · rw [if_pos h2] at h
      exact ⟨by omega, by omega, weekErr_ok h2, rowErr_ok h⟩
    · rw [if_neg h2] at h; exact absurd h h2
theorem secs_nil {hi : Int} {l : List S143} (h : RowOk hi l) (h0 : 0 ≤ hi) (hs : secs l = 0) : l = [] := by
  cases l with
  | nil => rfl
  | cons s r =>
    obtain ⟨_, h2, h3⟩ := h.row
    have := (secs_bound h3 (fun x hx => h.top x (by simp [hx]))).1
    simp only [secs] at hs
    omega
theorem dueP_spec (h : CalOk off week closed) {a B : Int} (ha : 0 ≤ a) (haH : a ≤ 1125899906842624) (hB : 0 ≤ B) :
    ((dueP off week closed a B).2 = 0 ∧ a ≤ (dueP off week closed a B).1 ∧ (dueP off week closed a B).1 ≤ 1125899906842624 ∧ Nn off week closed (dueP off week closed a B).1 = Nn off week closed a + B ∧ (B = 0 → (dueP off week closed a B).1 = a) ∧
      (0 < B → a < (dueP off week closed a B).1 ∧ Nn off week closed ((dueP off week closed a B).1 - 1) = Nn off week closed a + B - 1 ∧ cop off week closed ((dueP off week closed a B).1 - 1) = true)) ∨
    ((dueP off week closed a B).1 = 0 ∧ Nn off week closed 1125899906842624 - Nn off week closed a < B ∧ ((dueP off week closed a B).2 = 10 ∧ 0 < secs week ∨ (dueP off week closed a B).2 = 40 ∧ week = [])) := by
  have hN := Nn_step h.week h.closed h.lo h.hi
  unfold dueP
  rw [if_neg (by omega)]
  by_cases h0 : B = 0
  · rw [if_pos h0]
    exact .inl ⟨rfl, Int.le_refl _, haH, by simp only; omega, fun _ => rfl, fun h => by omega⟩
  · rw [if_neg h0]
    by_cases hs : secs week = 0
    · rw [if_pos hs]
      have hw := secs_nil h.week (by omega) hs
      refine .inr ⟨rfl, ?_, .inr ⟨rfl, hw⟩⟩
      have := hN.still ha haH (Int.le_refl _) (fun t _ _ => by subst hw; simp [cop, wop, inRow])
      omega
    · rw [if_neg hs]
      have hs0 := (h.week.secs (by omega)).1
      have := due_spec h.week h.lo h.hi (by omega) (Nn off week closed) closed 0 a B h.closed.row (Int.le_refl _) h.closed.top ha haH (by omega) (hN.sub ha (Int.le_refl _))
      revert this
      cases dueL off week B (freeL closed a 1125899906842624) with
      | none => intro hh; exact .inr ⟨rfl, hh, .inl ⟨rfl, by omega⟩⟩
      | some d =>
        rintro ⟨d1, d2, d3, d4, d5⟩
        exact .inl ⟨rfl, by simp only [dueR]; omega, d2, d3, fun h => by omega, fun _ => ⟨d1, d4, d5⟩⟩
end Go.Proofs.Ytepldlnmeenlbaa.Own
namespace Go.Proofs.Ytepldlnmeenlbaa.Own
open Go.RowKit Go.Proofs Go.Proofs.YtepldlnmeenlbaaW.PrintWords Go.Proofs.YtepldlnmeenlbaaW.PrintLast Go.Proofs.YtepldlnmeenlbaaW.PrintMore Go.Proofs.Ytepldlnmeenlbaa.Base
variable {off : Int} {week closed : List S143}
def restR (off : Int) (week closed : List S143) (a u b : Int) : Int × Int := if u < 0 then (0, 2) else if 0 ≤ a ∧ a ≤ b ∧ b ≤ 1125899906842624 then (mx (u - elapP off week closed a b) 0, 0) else (0, 2)
theorem dueP_inst {a B : Int} (h : (dueP off week closed a B).2 = 0) : 0 ≤ a ∧ a ≤ 1125899906842624 ∧ 0 ≤ B := by
  unfold dueP at h
  by_cases h1 : ¬ (0 ≤ a ∧ a ≤ 1125899906842624) ∨ B < 0
  · rw [if_pos h1] at h; cases h
  · omega
end Go.Proofs.Ytepldlnmeenlbaa.Own
namespace Go.Proofs.Ytepldlnmeenlbaa.Own
open Go.RowKit Go.Proofs Go.Proofs.YtepldlnmeenlbaaW.PrintWords Go.Proofs.YtepldlnmeenlbaaW.PrintLast Go.Proofs.YtepldlnmeenlbaaW.PrintMore Go.Proofs.Ytepldlnmeenlbaa.Base
variable {w w' : World} {n kb ab pb cb : Nat} {off : Int} {week closed : List S143}
def FarT (t : TypeId) : Prop := t ≠ 143 ∧ t ≠ 2 ∧ t ≠ 160 ∧ t ≠ 155 ∧ t ≠ 106 ∧ t ≠ 189
theorem ne_type {b g : Nat} {t u : TypeId} {cs ds : Array Value} (hb : w.heap[b]? = some (.cells cs t (0, 0))) (hg : w.heap[g]? = some (.cells ds u (0, 0))) (h : t ≠ u) : g ≠ b := by
  rintro rfl
  rw [hb] at hg
  injection hg with hg
  injection hg with _ hg
  exact h hg
theorem ClkAt.farT (h : ClkAt w n kb ab pb cb off week closed) {b : Nat} {t : TypeId} {cs : Array Value} (hb : w.heap[b]? = some (.cells cs t (0, 0))) (ht : FarT t) (hm : But b w w') : ClkAt w' n kb ab pb cb off week closed := by
  obtain ⟨t1, t2, t3, t4, t5, t6⟩ := ht
  obtain ⟨A, c, hpb, hc, hr⟩ := h.plan.blk
  obtain ⟨A2, c2, hab, hc2, hr2⟩ := h.alm.blk
  refine ⟨h.lo, h.hi, h.nkb, h.ne, (hm kb (blk_lt h.blk) (ne_type hb h.blk t5)).trans h.blk, ⟨h.alm.ok, h.alm.nab, h.alm.ne, A2, c2, (hm ab (blk_lt hab) (ne_type hb hab t3)).trans hab, hc2, ?_⟩, h.plan.ok, h.plan.npb, h.plan.ncb, h.plan.ne, ⟨A, c, (hm pb (blk_lt hpb) (ne_type hb hpb t4)).trans hpb, hc, ?_⟩, ?_⟩
  · exact Kd.R_mono (Kd.R_step (Kd.R_types hr2 hb (types1 rfl t1)) (fun k hk hlt => hm k hlt hk.2)) (fun _ hk => hk.1)
  · exact Kd.R_mono (Kd.R_step (Kd.R_types hr hb (types1 rfl t1)) (fun k hk hlt => hm k hlt hk.2)) (fun _ hk => hk.1)
  · obtain ⟨m, k, ⟨lv, hc⟩ | ⟨v, hc, hr⟩⟩ := h.plan.cell
    · exact ⟨m, k, .inl ⟨lv, (hm cb (blk_lt hc) (ne_type hb hc t6)).trans hc⟩⟩
    · exact ⟨m, k, .inr ⟨v, (hm cb (blk_lt hc) (ne_type hb hc t6)).trans hc, Kd.R_mono (Kd.R_step (Kd.R_types hr hb (types1 rfl t2)) (fun k hk hlt => hm k hlt hk.2)) (fun _ hk => hk.1)⟩⟩
theorem step_set {W : World} {b : Nat} {t : TypeId} {cs : Array Value} (C : ClkAt W n kb ab pb cb off week closed) (U : Upd cb w W) (hb : W.heap[b]? = some (.cells cs t (0, 0))) (ht : FarT t) (hge : w.heap.size ≤ b) (i : Nat) (x : Value) :
    ClkAt (W.setCell ⟨b, i, none⟩ x) n kb ab pb cb off week closed ∧ Upd cb w (W.setCell ⟨b, i, none⟩ x) :=
  ⟨C.farT hb ht (fun k _ hk => Below.heap_setCell _ _ _ _ hk), ⟨U.os, U.tape, U.output, by simpa using U.size, fun k hk hne => (Below.heap_setCell _ _ _ _ (by show k ≠ b; omega)).trans (U.block k hk hne)⟩⟩
end Go.Proofs.Ytepldlnmeenlbaa.Own
namespace Go.Proofs.Ytepldlnmeenlbaa.Own
open Go.RowKit Go.Proofs Go.Proofs.YtepldlnmeenlbaaW.PrintWords Go.Proofs.YtepldlnmeenlbaaW.PrintLast Go.Proofs.YtepldlnmeenlbaaW.PrintMore Go.Proofs.Ytepldlnmeenlbaa.Base
variable {w w' : World} {n kb ab pb cb : Nat} {off : Int} {week closed : List S143}
def stepCs (a b c d : Int) : Array Value := #[.int .i64 a, .int .i64 b, .int .i64 c, .int .i64 d]
def atS (off : Int) (week closed : List S143) (lv l now : Int) : Int × Int × Int × Int × Int := if (dueP off week closed now l).2 = 0 then (lv, now, l, (dueP off week closed now l).1, 0) else (0, 0, 0, 0, (dueP off week closed now l).2)
set_option maxHeartbeats 4000000 in
set_option maxRecDepth 100000 in
theorem at_ok (lv fr l du now d : Int) (w : World) (h : ClkAt w n kb ab pb cb off week closed) (hn : n ≤ w.heap.size) (hl : l ≤ 9223372036854775807) (hd : dueP off week closed now l = (d, 0)) :
    Calls Try.prog 94 #[.agg (stepCs lv fr l du), .pointer (some ⟨kb, 0, none⟩), .int .i64 now] w fun e w' => e = .returned (.tuple #[.agg (stepCs lv now l d), .int .i64 0]) ∧ ClkAt w' n kb ab pb cb off week closed ∧ Upd cb w w' := by
  unfold stepCs
  have HD := Aside0.mk hd
  have hcb := h.lt
  have B0 : Aside0 (((w.alloc (.cells #[.int .i64 lv, .int .i64 fr, .int .i64 l, .int .i64 du] 108)).alloc (.cells #[.int .i64 0, .int .i64 0, .int .i64 0, .int .i64 0] 108)).heap[w.heap.size]? = some (.cells #[.int .i64 lv, .int .i64 fr, .int .i64 l, .int .i64 du] 108 (0, 0))) := ⟨blk_alloc (blk_new w _) _⟩
  have B1 : Aside0 (((w.alloc (.cells #[.int .i64 lv, .int .i64 fr, .int .i64 l, .int .i64 du] 108)).alloc (.cells #[.int .i64 0, .int .i64 0, .int .i64 0, .int .i64 0] 108)).heap[w.heap.size + 1]? = some (.cells #[.int .i64 0, .int .i64 0, .int .i64 0, .int .i64 0] 108 (0, 0))) := ⟨by simpa using blk_new (w.alloc (.cells #[.int .i64 lv, .int .i64 fr, .int .i64 l, .int .i64 du] 108)) (.cells #[.int .i64 0, .int .i64 0, .int .i64 0, .int .i64 0] 108)⟩
  have HB := below_alloc (below_alloc (Below.refl w.heap.size w) (.cells #[.int .i64 lv, .int .i64 fr, .int .i64 l, .int .i64 du] 108)) (.cells #[.int .i64 0, .int .i64 0, .int .i64 0, .int .i64 0] 108)
  have HC := Aside0.mk (h.below HB)
  have HU := Aside0.mk (Upd.of_below (b := cb) HB)
  have HN := Aside0.mk (Nat.le_trans hn HB.size)
  clear hd h HB
  go_enter Try.func94, Try.ntmps94
  go_wp2_with fail
  generalize ((w.alloc (.cells #[.int .i64 lv, .int .i64 fr, .int .i64 l, .int .i64 du] 108)).alloc (.cells #[.int .i64 0, .int .i64 0, .int .i64 0, .int .i64 0] 108)) = w2 at B0 B1 HC HU HN ⊢
  go_wp2_with (go_at_call 105; refine (due_any now l w2 HC.out HN.out hl).mono ?_; rintro e w3 ⟨rfl, CK, UK⟩; rw [HD.out]; have C0 := Aside0.mk (UK.blk B0.out (by omega)); have C1 := Aside0.mk (UK.blk B1.out (by omega)); have HC3 := Aside0.mk CK; have HU3 := Aside0.mk (HU.out.trans UK); clear CK UK; have c0 : w3.cell? ⟨w.heap.size, 0, none⟩ = some (.int .i64 lv) := (blk_cell C0.out 0).trans rfl; have c1 : w3.cell? ⟨w.heap.size, 1, none⟩ = some (.int .i64 fr) := (blk_cell C0.out 1).trans rfl; have c2 : w3.cell? ⟨w.heap.size, 2, none⟩ = some (.int .i64 l) := (blk_cell C0.out 2).trans rfl; have c3 : w3.cell? ⟨w.heap.size, 3, none⟩ = some (.int .i64 du) := (blk_cell C0.out 3).trans rfl; have f1 : w3.frozen? ⟨w.heap.size, 1, none⟩ = false := blk_frozen C0.out 1; have f3 : w3.frozen? ⟨w.heap.size, 3, none⟩ = false := blk_frozen C0.out 3; have r0 : w3.cell? ⟨w.heap.size + 1, 0, none⟩ = some (.int .i64 0) := (blk_cell C1.out 0).trans rfl; have g0 : w3.frozen? ⟨w.heap.size + 1, 0, none⟩ = false := blk_frozen C1.out 0; have r1 : w3.cell? ⟨w.heap.size + 1, 1, none⟩ = some (.int .i64 0) := (blk_cell C1.out 1).trans rfl; have g1 : w3.frozen? ⟨w.heap.size + 1, 1, none⟩ = false := blk_frozen C1.out 1; have r2 : w3.cell? ⟨w.heap.size + 1, 2, none⟩ = some (.int .i64 0) := (blk_cell C1.out 2).trans rfl; have g2 : w3.frozen? ⟨w.heap.size + 1, 2, none⟩ = false := blk_frozen C1.out 2; have r3 : w3.cell? ⟨w.heap.size + 1, 3, none⟩ = some (.int .i64 0) := (blk_cell C1.out 3).trans rfl; have g3 : w3.frozen? ⟨w.heap.size + 1, 3, none⟩ = false := blk_frozen C1.out 3)
  have F : FarT 108 := ⟨by decide, by decide, by decide, by decide, by decide, by decide⟩
  have D0 := blk_put C0.out 1 (.int .i64 now) rfl
  have S0 := step_set HC3.out HU3.out C0.out F (Nat.le_refl _) 1 (.int .i64 now)
  have D1 := blk_put D0 3 (.int .i64 d) rfl
  have S1 := step_set S0.1 S0.2 D0 F (Nat.le_refl _) 3 (.int .i64 d)
  have E1 : ((w3.setCell ⟨w.heap.size, 1, none⟩ (.int .i64 now)).setCell ⟨w.heap.size, 3, none⟩ (.int .i64 d)).heap[w.heap.size + 1]? = _ := (Below.heap_setCell _ _ _ _ (by simp)).trans ((Below.heap_setCell _ _ _ _ (by simp)).trans C1.out)
  have E2 := blk_put E1 0 (.int .i64 lv) rfl
  have S2 := step_set S1.1 S1.2 E1 F (by omega) 0 (.int .i64 lv)
  have E3 := blk_put E2 1 (.int .i64 now) rfl
  have S3 := step_set S2.1 S2.2 E2 F (by omega) 1 (.int .i64 now)
  have E4 := blk_put E3 2 (.int .i64 l) rfl
  have S4 := step_set S3.1 S3.2 E3 F (by omega) 2 (.int .i64 l)
  have E5 := blk_put E4 3 (.int .i64 d) rfl
  have S5 := step_set S4.1 S4.2 E4 F (by omega) 3 (.int .i64 d)
  have k0 := (blk_cell E5 0).trans (rfl : _ = some (Value.int .i64 lv))
  have k1 := (blk_cell E5 1).trans (rfl : _ = some (Value.int .i64 now))
  have k2 := (blk_cell E5 2).trans (rfl : _ = some (Value.int .i64 l))
  have k3 := (blk_cell E5 3).trans (rfl : _ = some (Value.int .i64 d))
  refine bodyPost_ret (v := .tuple #[.agg #[.int .i64 lv, .int .i64 now, .int .i64 l, .int .i64 d], .int .i64 0]) (by simp [results, Try.results94, go_sem, k0, k1, k2, k3]) rfl ⟨rfl, S5⟩
set_option maxHeartbeats 4000000 in
set_option maxRecDepth 100000 in
theorem at_no (lv fr l du now x2 : Int) (w : World) (h : ClkAt w n kb ab pb cb off week closed) (hn : n ≤ w.heap.size) (hl : l ≤ 9223372036854775807) (hd : dueP off week closed now l = (0, x2)) (hx : x2 ≠ 0) :
    Calls Try.prog 94 #[.agg (stepCs lv fr l du), .pointer (some ⟨kb, 0, none⟩), .int .i64 now] w fun e w' => e = .returned (.tuple #[.agg (stepCs 0 0 0 0), .int .i64 x2]) ∧ ClkAt w' n kb ab pb cb off week closed ∧ Upd cb w w' := by
  unfold stepCs
  have HD := Aside0.mk hd
  have hx2 : (x2 != 0) = true := bne_iff_ne.mpr hx
  have hcb := h.lt
  have B0 : Aside0 (((w.alloc (.cells #[.int .i64 lv, .int .i64 fr, .int .i64 l, .int .i64 du] 108)).alloc (.cells #[.int .i64 0, .int .i64 0, .int .i64 0, .int .i64 0] 108)).heap[w.heap.size]? = some (.cells #[.int .i64 lv, .int .i64 fr, .int .i64 l, .int .i64 du] 108 (0, 0))) := ⟨blk_alloc (blk_new w _) _⟩
  have B1 : Aside0 (((w.alloc (.cells #[.int .i64 lv, .int .i64 fr, .int .i64 l, .int .i64 du] 108)).alloc (.cells #[.int .i64 0, .int .i64 0, .int .i64 0, .int .i64 0] 108)).heap[w.heap.size + 1]? = some (.cells #[.int .i64 0, .int .i64 0, .int .i64 0, .int .i64 0] 108 (0, 0))) := ⟨by simpa using blk_new (w.alloc (.cells #[.int .i64 lv, .int .i64 fr, .int .i64 l, .int .i64 du] 108)) (.cells #[.int .i64 0, .int .i64 0, .int .i64 0, .int .i64 0] 108)⟩
  have HB := below_alloc (below_alloc (Below.refl w.heap.size w) (.cells #[.int .i64 lv, .int .i64 fr, .int .i64 l, .int .i64 du] 108)) (.cells #[.int .i64 0, .int .i64 0, .int .i64 0, .int .i64 0] 108)
  have HC := Aside0.mk (h.below HB)
  have HU := Aside0.mk (Upd.of_below (b := cb) HB)
  have HN := Aside0.mk (Nat.le_trans hn HB.size)
  clear hd h HB
  go_enter Try.func94, Try.ntmps94
  go_wp2_with fail
  generalize ((w.alloc (.cells #[.int .i64 lv, .int .i64 fr, .int .i64 l, .int .i64 du] 108)).alloc (.cells #[.int .i64 0, .int .i64 0, .int .i64 0, .int .i64 0] 108)) = w2 at B0 B1 HC HU HN ⊢
  go_wp2_with (go_at_call 105; refine (due_any now l w2 HC.out HN.out hl).mono ?_; rintro e w3 ⟨rfl, CK, UK⟩; rw [HD.out]; have C0 := Aside0.mk (UK.blk B0.out (by omega)); have C1 := Aside0.mk (UK.blk B1.out (by omega)); have HC3 := Aside0.mk CK; have HU3 := Aside0.mk (HU.out.trans UK); clear CK UK; have c0 : w3.cell? ⟨w.heap.size, 0, none⟩ = some (.int .i64 lv) := (blk_cell C0.out 0).trans rfl; have c1 : w3.cell? ⟨w.heap.size, 1, none⟩ = some (.int .i64 fr) := (blk_cell C0.out 1).trans rfl; have c2 : w3.cell? ⟨w.heap.size, 2, none⟩ = some (.int .i64 l) := (blk_cell C0.out 2).trans rfl; have c3 : w3.cell? ⟨w.heap.size, 3, none⟩ = some (.int .i64 du) := (blk_cell C0.out 3).trans rfl; have f1 : w3.frozen? ⟨w.heap.size, 1, none⟩ = false := blk_frozen C0.out 1; have f3 : w3.frozen? ⟨w.heap.size, 3, none⟩ = false := blk_frozen C0.out 3; have r0 : w3.cell? ⟨w.heap.size + 1, 0, none⟩ = some (.int .i64 0) := (blk_cell C1.out 0).trans rfl; have g0 : w3.frozen? ⟨w.heap.size + 1, 0, none⟩ = false := blk_frozen C1.out 0; have r1 : w3.cell? ⟨w.heap.size + 1, 1, none⟩ = some (.int .i64 0) := (blk_cell C1.out 1).trans rfl; have g1 : w3.frozen? ⟨w.heap.size + 1, 1, none⟩ = false := blk_frozen C1.out 1; have r2 : w3.cell? ⟨w.heap.size + 1, 2, none⟩ = some (.int .i64 0) := (blk_cell C1.out 2).trans rfl; have g2 : w3.frozen? ⟨w.heap.size + 1, 2, none⟩ = false := blk_frozen C1.out 2; have r3 : w3.cell? ⟨w.heap.size + 1, 3, none⟩ = some (.int .i64 0) := (blk_cell C1.out 3).trans rfl; have g3 : w3.frozen? ⟨w.heap.size + 1, 3, none⟩ = false := blk_frozen C1.out 3)
  have F : FarT 108 := ⟨by decide, by decide, by decide, by decide, by decide, by decide⟩
  have E2 := blk_put C1.out 0 (.int .i64 0) rfl
  have S2 := step_set HC3.out HU3.out C1.out F (by omega) 0 (.int .i64 0)
  have E3 := blk_put E2 1 (.int .i64 0) rfl
  have S3 := step_set S2.1 S2.2 E2 F (by omega) 1 (.int .i64 0)
  have E4 := blk_put E3 2 (.int .i64 0) rfl
  have S4 := step_set S3.1 S3.2 E3 F (by omega) 2 (.int .i64 0)
  have E5 := blk_put E4 3 (.int .i64 0) rfl
  have S5 := step_set S4.1 S4.2 E4 F (by omega) 3 (.int .i64 0)
  have k0 := (blk_cell E5 0).trans (rfl : _ = some (Value.int .i64 0))
  have k1 := (blk_cell E5 1).trans (rfl : _ = some (Value.int .i64 0))
  have k2 := (blk_cell E5 2).trans (rfl : _ = some (Value.int .i64 0))
  have k3 := (blk_cell E5 3).trans (rfl : _ = some (Value.int .i64 0))
  refine bodyPost_ret (v := .tuple #[.agg #[.int .i64 0, .int .i64 0, .int .i64 0, .int .i64 0], .int .i64 x2]) (by simp [results, Try.results94, go_sem, k0, k1, k2, k3]) rfl ⟨rfl, S5⟩
end Go.Proofs.Ytepldlnmeenlbaa.Own
namespace Go.Proofs.Ytepldlnmeenlbaa.Base
open Go.RowKit Go.Proofs.YtepldlnmeenlbaaW.PrintWords Go.Proofs.YtepldlnmeenlbaaW.PrintLast Go.Proofs.YtepldlnmeenlbaaW.PrintMore
attribute [local go_sem] max2_int min2_int max_two min_two max_three min_three max_four min_four   -- for this text's walks alone
mutual
def curfewref14_Good.j0 : Nat → Bool → Int → List (S98) → Int → Int → Option (Bool)
  | 0, _, _, _, _, _ => none
  | k + 1, x44, x145000, x145001, x145002, x145003 => if x44 = true then (some false) else (curfewref14_Good.l0 k 0 x145000 x145001 x145002 x145003)
def curfewref14_Good.l0 : Nat → Int → Int → List (S98) → Int → Int → Option (Bool)
  | 0, _, _, _, _, _ => none
  | k + 1, x3, x145000, x145001, x145002, x145003 => if x3 < (x145001.length : Int) then (if 0 ≤ x3 then (if ((rd_T98 x145001 x3).f0) < 1 then (some false) else (if ((rd_T98 x145001 x3).f0) > 1125899906842624 then (some false) else (if ((rd_T98 x145001 x3).f1) < 0 then (some false) else (if ((rd_T98 x145001 x3).f1) > 7 then (some false) else (curfewref14_Good.l0 k (wrap64 (x3 + 1)) x145000 x145001 x145002 x145003))))) else (none)) else (some true)
end
def curfewref14_Good.f (k : Nat) (a0_0 : Int) (l0_1 : List (S98)) (a0_2 : Int) (a0_3 : Int) : Option (Bool) := if a0_0 < 0 then (curfewref14_Good.j0 k true a0_0 l0_1 a0_2 a0_3) else (if a0_0 > 7 then (curfewref14_Good.j0 k true a0_0 l0_1 a0_2 a0_3) else (if (l0_1.length : Int) < 1 then (curfewref14_Good.j0 k true a0_0 l0_1 a0_2 a0_3) else (if (l0_1.length : Int) > 6 then (curfewref14_Good.j0 k true a0_0 l0_1 a0_2 a0_3) else (if a0_2 < 1 then (curfewref14_Good.j0 k true a0_0 l0_1 a0_2 a0_3) else (if a0_2 > 8 then (curfewref14_Good.j0 k true a0_0 l0_1 a0_2 a0_3) else (if a0_3 < 1 then (curfewref14_Good.j0 k true a0_0 l0_1 a0_2 a0_3) else (curfewref14_Good.j0 k (decide (a0_3 > 1048576)) a0_0 l0_1 a0_2 a0_3)))))))
set_option maxHeartbeats 8000000 in
set_option maxRecDepth 100000 in
theorem curfewref14_Good.calls (k : Nat) (a0_0 : Int) (A0_1 : Option Addr) (c0_1 : Nat) (l0_1 : List (S98)) (a0_2 : Int) (a0_3 : Int) (r : Bool) (w : World) (hr0_1 : Kd.C k98 w A0_1 l0_1.length l0_1) (hc0_1 : l0_1.length ≤ c0_1) (h : curfewref14_Good.f k a0_0 l0_1 a0_2 a0_3 = some r) :
    Calls Try.prog 21 #[.agg #[.int .i64 a0_0, .slice A0_1 l0_1.length c0_1, .int .i64 a0_2, .int .i64 a0_3]] w fun e w' => e = .returned (.bool r) ∧ Below w.heap.size w w' := by
  have hu49 := Try.underlying49
  have hu98 := Try.underlying98
  have HR0_1 := Aside0.mk hr0_1
  have HC0_1 := Aside0.mk hc0_1
  clear hr0_1 hc0_1
  have HB := Aside0.mk (Below.refl w.heap.size w)
  have H : (if a0_0 < 0 then (curfewref14_Good.j0 k true a0_0 l0_1 a0_2 a0_3) else (if a0_0 > 7 then (curfewref14_Good.j0 k true a0_0 l0_1 a0_2 a0_3) else (if (l0_1.length : Int) < 1 then (curfewref14_Good.j0 k true a0_0 l0_1 a0_2 a0_3) else (if (l0_1.length : Int) > 6 then (curfewref14_Good.j0 k true a0_0 l0_1 a0_2 a0_3) else (if a0_2 < 1 then (curfewref14_Good.j0 k true a0_0 l0_1 a0_2 a0_3) else (if a0_2 > 8 then (curfewref14_Good.j0 k true a0_0 l0_1 a0_2 a0_3) else (if a0_3 < 1 then (curfewref14_Good.j0 k true a0_0 l0_1 a0_2 a0_3) else (curfewref14_Good.j0 k (decide (a0_3 > 1048576)) a0_0 l0_1 a0_2 a0_3)))))))) = some r := h
  clear h
  have HC2 := Aside0.mk H
  clear H
  go_enter Try.func21, Try.ntmps21
  go_upto_region 1 with (first | ((with_reducible refine gate_dst (N := 1) rfl ?_); (try (refine gate_guard (by rfl) ?_; dsimp only)); refine box_event ?hg (N := 1) ?hd (cs := #[.int .i64 a0_0, .slice A0_1 l0_1.length c0_1, .int .i64 a0_2, .int .i64 a0_3]) (t := 49) ?hr ?_; (case hd => rfl); (case hg => rfl); (case hr => first | (go_simp; done) | (go_simp; rfl)); intro gb144 hg w3 hbox hb; have n0_ := Aside0.mk (below_step (by repeat (first | (with_reducible first | exact HB.out | apply below_alloc | apply pw_below_drewN | apply below_drew1) | exact HB.out)) hb); have n1_ := Aside0.mk (hbox); have n2_ := Aside0.mk ((by rw [hg]; exact (below_size (by repeat (first | (with_reducible first | exact HB.out | apply below_alloc | apply pw_below_drewN | apply below_drew1) | exact HB.out))) : w.heap.size ≤ gb144)); have n3_ := Aside0.mk ((by rw [hg]; exact (below_size (by repeat (first | (with_reducible first | exact HB.out | apply below_alloc | apply pw_below_drewN | apply below_drew1) | exact HB.out))) : w.heap.size ≤ gb144)); clear HB; have HB := n0_; have BK144 := n1_; have GW144 := n2_; have GE144 := n3_; clear n0_ n1_ n2_ n3_; clear hb hbox hg))
  (try simp only [Act.put, List.setIfInBounds_toArray, List.set_cons_zero, List.set_cons_succ])
  go_cut [44] (fun v44 wc => ∃ (kq : Nat) (x44_1 : Bool), v44 = .bool x44_1 ∧ Aside0 (curfewref14_Good.j0 kq x44_1 a0_0 l0_1 a0_2 a0_3 = some r) ∧ Aside0 (kq ≤ k) ∧ Aside0 (wc.heap[gb144]? = some (.cells #[.int .i64 a0_0, (.slice A0_1 l0_1.length c0_1), .int .i64 a0_2, .int .i64 a0_3] 49 (0, 0))) ∧ Aside0 (Below w.heap.size w wc))
  case first =>
    have H := HC2.out
    clear HC2
    by_cases c4 : a0_0 < 0
    · rw [if_pos c4] at H
      have c4b0 : decide (a0_0 < 0) = true := decide_eq_true c4
      clear c4
      (first | rw [c4b0] | (simp only [i64_w, i32_w]; rw [c4b0]) | skip)
      have H' := Aside0.mk H
      clear H
      have hcz5_0 : w3.cell? ⟨gb144, 0, none⟩ = some (.int .i64 a0_0) := (blk_cell BK144.out 0).trans rfl
      have hcz5_1 : w3.cell? ⟨gb144, 1, none⟩ = some (.slice A0_1 l0_1.length c0_1) := (blk_cell BK144.out 1).trans rfl
      have hcz5_2 : w3.cell? ⟨gb144, 2, none⟩ = some (.int .i64 a0_2) := (blk_cell BK144.out 2).trans rfl
      have hcz5_3 : w3.cell? ⟨gb144, 3, none⟩ = some (.int .i64 a0_3) := (blk_cell BK144.out 3).trans rfl
      have hfz5_0 := blk_frozen BK144.out 0
      have hfz5_1 := blk_frozen BK144.out 1
      have hfz5_2 := blk_frozen BK144.out 2
      have hfz5_3 := blk_frozen BK144.out 3
      go_wp2
      go_meet
      case rel => exact ⟨_, (true), (by first | rfl | (simp; done) | (simp [*]; done)), H', ⟨by first | omega | exact Nat.le_refl _⟩, ⟨by (with_reducible repeat (first | refine blk_drewN ?_ _ | refine blk_drew ?_ | refine blk_alloc ?_ _)); exact BK144.out⟩, ⟨by repeat (first | (with_reducible first | exact HB.out | apply below_alloc | apply pw_below_drewN | apply below_drew1 | refine below_set ?_ GE144.out) | exact HB.out)⟩⟩
    · rw [if_neg c4] at H
      have c4b0 : decide (a0_0 < 0) = false := decide_eq_false c4
      clear c4
      (first | rw [c4b0] | (simp only [i64_w, i32_w]; rw [c4b0]) | skip)
      by_cases c6 : a0_0 > 7
      · rw [if_pos c6] at H
        have c6b0 : decide (7 < a0_0) = true := decide_eq_true c6
        clear c6
        have H' := Aside0.mk H
        clear H
        have hcz7_0 : w3.cell? ⟨gb144, 0, none⟩ = some (.int .i64 a0_0) := (blk_cell BK144.out 0).trans rfl
        have hcz7_1 : w3.cell? ⟨gb144, 1, none⟩ = some (.slice A0_1 l0_1.length c0_1) := (blk_cell BK144.out 1).trans rfl
        have hcz7_2 : w3.cell? ⟨gb144, 2, none⟩ = some (.int .i64 a0_2) := (blk_cell BK144.out 2).trans rfl
        have hcz7_3 : w3.cell? ⟨gb144, 3, none⟩ = some (.int .i64 a0_3) := (blk_cell BK144.out 3).trans rfl
        have hfz7_0 := blk_frozen BK144.out 0
        have hfz7_1 := blk_frozen BK144.out 1
        have hfz7_2 := blk_frozen BK144.out 2
        have hfz7_3 := blk_frozen BK144.out 3
        go_wp2
        go_meet
        case rel => exact ⟨_, (true), (by first | rfl | (simp; done) | (simp [*]; done)), H', ⟨by first | omega | exact Nat.le_refl _⟩, ⟨by (with_reducible repeat (first | refine blk_drewN ?_ _ | refine blk_drew ?_ | refine blk_alloc ?_ _)); exact BK144.out⟩, ⟨by repeat (first | (with_reducible first | exact HB.out | apply below_alloc | apply pw_below_drewN | apply below_drew1 | refine below_set ?_ GE144.out) | exact HB.out)⟩⟩
      · rw [if_neg c6] at H
        have c6b0 : decide (7 < a0_0) = false := decide_eq_false c6
        clear c6
        by_cases c8 : (l0_1.length : Int) < 1
        · rw [if_pos c8] at H
          have c8b0 : decide ((l0_1.length : Int) < 1) = true := decide_eq_true c8
          have c8b1 : decide (l0_1.length < 1) = true := decide_eq_true (by omega)
          clear c8
          have H' := Aside0.mk H
          clear H
          have hcz9_0 : w3.cell? ⟨gb144, 0, none⟩ = some (.int .i64 a0_0) := (blk_cell BK144.out 0).trans rfl
          have hcz9_1 : w3.cell? ⟨gb144, 1, none⟩ = some (.slice A0_1 l0_1.length c0_1) := (blk_cell BK144.out 1).trans rfl
          have hcz9_2 : w3.cell? ⟨gb144, 2, none⟩ = some (.int .i64 a0_2) := (blk_cell BK144.out 2).trans rfl
          have hcz9_3 : w3.cell? ⟨gb144, 3, none⟩ = some (.int .i64 a0_3) := (blk_cell BK144.out 3).trans rfl
          have hfz9_0 := blk_frozen BK144.out 0
          have hfz9_1 := blk_frozen BK144.out 1
          have hfz9_2 := blk_frozen BK144.out 2
          have hfz9_3 := blk_frozen BK144.out 3
          go_wp2
          go_meet
          case rel => exact ⟨_, (true), (by first | rfl | (simp; done) | (simp [*]; done)), H', ⟨by first | omega | exact Nat.le_refl _⟩, ⟨by (with_reducible repeat (first | refine blk_drewN ?_ _ | refine blk_drew ?_ | refine blk_alloc ?_ _)); exact BK144.out⟩, ⟨by repeat (first | (with_reducible first | exact HB.out | apply below_alloc | apply pw_below_drewN | apply below_drew1 | refine below_set ?_ GE144.out) | exact HB.out)⟩⟩
        · rw [if_neg c8] at H
          have c8b0 : decide ((l0_1.length : Int) < 1) = false := decide_eq_false c8
          have c8b1 : decide (l0_1.length < 1) = false := decide_eq_false (by omega)
          clear c8
          by_cases c10 : (l0_1.length : Int) > 6
          · rw [if_pos c10] at H
            have c10b0 : decide (6 < (l0_1.length : Int)) = true := decide_eq_true c10
            have c10b1 : decide (6 < l0_1.length) = true := decide_eq_true (by omega)
            clear c10
            have H' := Aside0.mk H
            clear H
            have hcz11_0 : w3.cell? ⟨gb144, 0, none⟩ = some (.int .i64 a0_0) := (blk_cell BK144.out 0).trans rfl
            have hcz11_1 : w3.cell? ⟨gb144, 1, none⟩ = some (.slice A0_1 l0_1.length c0_1) := (blk_cell BK144.out 1).trans rfl
            have hcz11_2 : w3.cell? ⟨gb144, 2, none⟩ = some (.int .i64 a0_2) := (blk_cell BK144.out 2).trans rfl
            have hcz11_3 : w3.cell? ⟨gb144, 3, none⟩ = some (.int .i64 a0_3) := (blk_cell BK144.out 3).trans rfl
            have hfz11_0 := blk_frozen BK144.out 0
            have hfz11_1 := blk_frozen BK144.out 1
            have hfz11_2 := blk_frozen BK144.out 2
            have hfz11_3 := blk_frozen BK144.out 3
            go_wp2
            go_meet
            case rel => exact ⟨_, (true), (by first | rfl | (simp; done) | (simp [*]; done)), H', ⟨by first | omega | exact Nat.le_refl _⟩, ⟨by (with_reducible repeat (first | refine blk_drewN ?_ _ | refine blk_drew ?_ | refine blk_alloc ?_ _)); exact BK144.out⟩, ⟨by repeat (first | (with_reducible first | exact HB.out | apply below_alloc | apply pw_below_drewN | apply below_drew1 | refine below_set ?_ GE144.out) | exact HB.out)⟩⟩
          · rw [if_neg c10] at H
            have c10b0 : decide (6 < (l0_1.length : Int)) = false := decide_eq_false c10
            have c10b1 : decide (6 < l0_1.length) = false := decide_eq_false (by omega)
            clear c10
            by_cases c12 : a0_2 < 1
            · rw [if_pos c12] at H
              have c12b0 : decide (a0_2 < 1) = true := decide_eq_true c12
              clear c12
              have H' := Aside0.mk H
              clear H
              have hcz13_0 : w3.cell? ⟨gb144, 0, none⟩ = some (.int .i64 a0_0) := (blk_cell BK144.out 0).trans rfl
              have hcz13_1 : w3.cell? ⟨gb144, 1, none⟩ = some (.slice A0_1 l0_1.length c0_1) := (blk_cell BK144.out 1).trans rfl
              have hcz13_2 : w3.cell? ⟨gb144, 2, none⟩ = some (.int .i64 a0_2) := (blk_cell BK144.out 2).trans rfl
              have hcz13_3 : w3.cell? ⟨gb144, 3, none⟩ = some (.int .i64 a0_3) := (blk_cell BK144.out 3).trans rfl
              have hfz13_0 := blk_frozen BK144.out 0
              have hfz13_1 := blk_frozen BK144.out 1
              have hfz13_2 := blk_frozen BK144.out 2
              have hfz13_3 := blk_frozen BK144.out 3
              go_wp2
              go_meet
              case rel => exact ⟨_, (true), (by first | rfl | (simp; done) | (simp [*]; done)), H', ⟨by first | omega | exact Nat.le_refl _⟩, ⟨by (with_reducible repeat (first | refine blk_drewN ?_ _ | refine blk_drew ?_ | refine blk_alloc ?_ _)); exact BK144.out⟩, ⟨by repeat (first | (with_reducible first | exact HB.out | apply below_alloc | apply pw_below_drewN | apply below_drew1 | refine below_set ?_ GE144.out) | exact HB.out)⟩⟩
            · rw [if_neg c12] at H
              have c12b0 : decide (a0_2 < 1) = false := decide_eq_false c12
              clear c12
              by_cases c14 : a0_2 > 8
              · rw [if_pos c14] at H
                have c14b0 : decide (8 < a0_2) = true := decide_eq_true c14
                clear c14
                have H' := Aside0.mk H
                clear H
                have hcz15_0 : w3.cell? ⟨gb144, 0, none⟩ = some (.int .i64 a0_0) := (blk_cell BK144.out 0).trans rfl
                have hcz15_1 : w3.cell? ⟨gb144, 1, none⟩ = some (.slice A0_1 l0_1.length c0_1) := (blk_cell BK144.out 1).trans rfl
                have hcz15_2 : w3.cell? ⟨gb144, 2, none⟩ = some (.int .i64 a0_2) := (blk_cell BK144.out 2).trans rfl
                have hcz15_3 : w3.cell? ⟨gb144, 3, none⟩ = some (.int .i64 a0_3) := (blk_cell BK144.out 3).trans rfl
                have hfz15_0 := blk_frozen BK144.out 0
                have hfz15_1 := blk_frozen BK144.out 1
                have hfz15_2 := blk_frozen BK144.out 2
                have hfz15_3 := blk_frozen BK144.out 3
                go_wp2
                go_meet
                case rel => exact ⟨_, (true), (by first | rfl | (simp; done) | (simp [*]; done)), H', ⟨by first | omega | exact Nat.le_refl _⟩, ⟨by (with_reducible repeat (first | refine blk_drewN ?_ _ | refine blk_drew ?_ | refine blk_alloc ?_ _)); exact BK144.out⟩, ⟨by repeat (first | (with_reducible first | exact HB.out | apply below_alloc | apply pw_below_drewN | apply below_drew1 | refine below_set ?_ GE144.out) | exact HB.out)⟩⟩
              · rw [if_neg c14] at H
                have c14b0 : decide (8 < a0_2) = false := decide_eq_false c14
                clear c14
                by_cases c16 : a0_3 < 1
                · rw [if_pos c16] at H
                  have c16b0 : decide (a0_3 < 1) = true := decide_eq_true c16
                  clear c16
                  have H' := Aside0.mk H
                  clear H
                  have hcz17_0 : w3.cell? ⟨gb144, 0, none⟩ = some (.int .i64 a0_0) := (blk_cell BK144.out 0).trans rfl
                  have hcz17_1 : w3.cell? ⟨gb144, 1, none⟩ = some (.slice A0_1 l0_1.length c0_1) := (blk_cell BK144.out 1).trans rfl
                  have hcz17_2 : w3.cell? ⟨gb144, 2, none⟩ = some (.int .i64 a0_2) := (blk_cell BK144.out 2).trans rfl
                  have hcz17_3 : w3.cell? ⟨gb144, 3, none⟩ = some (.int .i64 a0_3) := (blk_cell BK144.out 3).trans rfl
                  have hfz17_0 := blk_frozen BK144.out 0
                  have hfz17_1 := blk_frozen BK144.out 1
                  have hfz17_2 := blk_frozen BK144.out 2
                  have hfz17_3 := blk_frozen BK144.out 3
                  go_wp2
                  go_meet
                  case rel => exact ⟨_, (true), (by first | rfl | (simp; done) | (simp [*]; done)), H', ⟨by first | omega | exact Nat.le_refl _⟩, ⟨by (with_reducible repeat (first | refine blk_drewN ?_ _ | refine blk_drew ?_ | refine blk_alloc ?_ _)); exact BK144.out⟩, ⟨by repeat (first | (with_reducible first | exact HB.out | apply below_alloc | apply pw_below_drewN | apply below_drew1 | refine below_set ?_ GE144.out) | exact HB.out)⟩⟩
                · rw [if_neg c16] at H
                  have c16b0 : decide (a0_3 < 1) = false := decide_eq_false c16
                  clear c16
                  have H' := Aside0.mk H
                  clear H
                  have hcz18_0 : w3.cell? ⟨gb144, 0, none⟩ = some (.int .i64 a0_0) := (blk_cell BK144.out 0).trans rfl
                  have hcz18_1 : w3.cell? ⟨gb144, 1, none⟩ = some (.slice A0_1 l0_1.length c0_1) := (blk_cell BK144.out 1).trans rfl
                  have hcz18_2 : w3.cell? ⟨gb144, 2, none⟩ = some (.int .i64 a0_2) := (blk_cell BK144.out 2).trans rfl
                  have hcz18_3 : w3.cell? ⟨gb144, 3, none⟩ = some (.int .i64 a0_3) := (blk_cell BK144.out 3).trans rfl
                  have hfz18_0 := blk_frozen BK144.out 0
                  have hfz18_1 := blk_frozen BK144.out 1
                  have hfz18_2 := blk_frozen BK144.out 2
                  have hfz18_3 := blk_frozen BK144.out 3
                  go_wp2
                  go_meet
                  case rel => exact ⟨_, (decide (a0_3 > 1048576)), (by first | rfl | (simp; done) | (simp [*]; done)), H', ⟨by first | omega | exact Nat.le_refl _⟩, ⟨by (with_reducible repeat (first | refine blk_drewN ?_ _ | refine blk_drew ?_ | refine blk_alloc ?_ _)); exact BK144.out⟩, ⟨by repeat (first | (with_reducible first | exact HB.out | apply below_alloc | apply pw_below_drewN | apply below_drew1 | refine below_set ?_ GE144.out) | exact HB.out)⟩⟩
  case rest =>
    clear HC2
    try clear c1
    try clear c2
    try clear p2
    try clear c4
    try clear c4b0
    try clear c6
    try clear c6b0
    try clear c8
    try clear c8b0
    try clear c8b1
    try clear c10
    try clear c10b0
    try clear c10b1
    try clear c12
    try clear c12b0
    try clear c14
    try clear c14b0
    try clear c16
    try clear c16b0
    try clear hcz11_0
    try clear hcz11_1
    try clear hcz11_2
    try clear hcz11_3
    try clear hcz13_0
    try clear hcz13_1
    try clear hcz13_2
    try clear hcz13_3
    try clear hcz15_0
    try clear hcz15_1
    try clear hcz15_2
    try clear hcz15_3
    try clear hcz17_0
    try clear hcz17_1
    try clear hcz17_2
    try clear hcz17_3
    try clear hcz18_0
    try clear hcz18_1
    try clear hcz18_2
    try clear hcz18_3
    try clear hcz5_0
    try clear hcz5_1
    try clear hcz5_2
    try clear hcz5_3
    try clear hcz7_0
    try clear hcz7_1
    try clear hcz7_2
    try clear hcz7_3
    try clear hcz9_0
    try clear hcz9_1
    try clear hcz9_2
    try clear hcz9_3
    try clear hfz11_0
    try clear hfz11_1
    try clear hfz11_2
    try clear hfz11_3
    try clear hfz13_0
    try clear hfz13_1
    try clear hfz13_2
    try clear hfz13_3
    try clear hfz15_0
    try clear hfz15_1
    try clear hfz15_2
    try clear hfz15_3
    try clear hfz17_0
    try clear hfz17_1
    try clear hfz17_2
    try clear hfz17_3
    try clear hfz18_0
    try clear hfz18_1
    try clear hfz18_2
    try clear hfz18_3
    try clear hfz5_0
    try clear hfz5_1
    try clear hfz5_2
    try clear hfz5_3
    try clear hfz7_0
    try clear hfz7_1
    try clear hfz7_2
    try clear hfz7_3
    try clear hfz9_0
    try clear hfz9_1
    try clear hfz9_2
    try clear hfz9_3
    obtain ⟨kq, x44_1, rfl, HA, HJ1, BK144, HB⟩ := hcut
    cases kq with
    | zero => exact absurd HA.out (by simp [curfewref14_Good.j0])
    | succ kj1 =>
      have H := HA.out
      clear HA
      simp only [curfewref14_Good.j0] at H
      by_cases c19 : x44_1 = true
      · subst c19
        have H1 : (some false) = some r := by rw [if_pos rfl] at H; exact H
        clear H
        have H := H1
        clear H1
        obtain rfl := Option.some.inj H
        go_wp2
        go_ret
        exact ⟨by first | rfl | (simp [errW_none, errW_some] <;> rfl) | (simp [*, errW_none, errW_some] <;> rfl), by repeat (first | (with_reducible first | exact HB.out | apply below_alloc | apply pw_below_drewN | apply below_drew1 | refine below_set ?_ GE144.out) | exact HB.out)⟩
      · replace c19 := Bool.eq_false_iff.mpr c19
        subst c19
        have H1 : (curfewref14_Good.l0 kj1 0 a0_0 l0_1 a0_2 a0_3) = some r := by rw [if_neg (show ¬ (false = true) by decide)] at H; exact H
        clear H
        have H := H1
        clear H1
        have H' := Aside0.mk H
        clear H
        go_wp2
        go_loopg [3] kj1 (fun kq v3 w' => ∃ (x3_2 : Int), v3 = .int .i64 x3_2 ∧ Aside0 (curfewref14_Good.l0 kq x3_2 a0_0 l0_1 a0_2 a0_3 = some r) ∧ Aside0 (kq ≤ kj1) ∧ Aside0 (w'.heap[gb144]? = some (.cells #[.int .i64 a0_0, (.slice A0_1 l0_1.length c0_1), .int .i64 a0_2, .int .i64 a0_3] 49 (0, 0))) ∧ Aside0 (Below w.heap.size w w'))
        case atStart => exact ⟨(0), (by first | rfl | (simp; done) | (simp [*]; done)), H', ⟨Nat.le_refl _⟩, ⟨by (with_reducible repeat (first | refine blk_drewN ?_ _ | refine blk_drew ?_ | refine blk_alloc ?_ _)); exact BK144.out⟩, ⟨by repeat (first | (with_reducible first | exact HB.out | apply below_alloc | apply pw_below_drewN | apply below_drew1 | refine below_set ?_ GE144.out) | exact HB.out)⟩⟩
        case round =>
          clear H'
          try clear c1
          try clear c2
          try clear p2
          try clear c4
          try clear c4b0
          try clear c6
          try clear c6b0
          try clear c8
          try clear c8b0
          try clear c8b1
          try clear c10
          try clear c10b0
          try clear c10b1
          try clear c12
          try clear c12b0
          try clear c14
          try clear c14b0
          try clear c16
          try clear c16b0
          try clear c19
          try clear hcz11_0
          try clear hcz11_1
          try clear hcz11_2
          try clear hcz11_3
          try clear hcz13_0
          try clear hcz13_1
          try clear hcz13_2
          try clear hcz13_3
          try clear hcz15_0
          try clear hcz15_1
          try clear hcz15_2
          try clear hcz15_3
          try clear hcz17_0
          try clear hcz17_1
          try clear hcz17_2
          try clear hcz17_3
          try clear hcz18_0
          try clear hcz18_1
          try clear hcz18_2
          try clear hcz18_3
          try clear hcz5_0
          try clear hcz5_1
          try clear hcz5_2
          try clear hcz5_3
          try clear hcz7_0
          try clear hcz7_1
          try clear hcz7_2
          try clear hcz7_3
          try clear hcz9_0
          try clear hcz9_1
          try clear hcz9_2
          try clear hcz9_3
          try clear hfz11_0
          try clear hfz11_1
          try clear hfz11_2
          try clear hfz11_3
          try clear hfz13_0
          try clear hfz13_1
          try clear hfz13_2
          try clear hfz13_3
          try clear hfz15_0
          try clear hfz15_1
          try clear hfz15_2
          try clear hfz15_3
          try clear hfz17_0
          try clear hfz17_1
          try clear hfz17_2
          try clear hfz17_3
          try clear hfz18_0
          try clear hfz18_1
          try clear hfz18_2
          try clear hfz18_3
          try clear hfz5_0
          try clear hfz5_1
          try clear hfz5_2
          try clear hfz5_3
          try clear hfz7_0
          try clear hfz7_1
          try clear hfz7_2
          try clear hfz7_3
          try clear hfz9_0
          try clear hfz9_1
          try clear hfz9_2
          try clear hfz9_3
          try clear p2
          obtain ⟨x3_2, rfl, HA, HK2, BK144, HB⟩ := hrel
          cases gk with
          | zero => exact absurd HA.out (by simp [curfewref14_Good.l0])
          | succ k2 =>
            have H := HA.out
            clear HA
            simp only [curfewref14_Good.l0] at H
            by_cases c20 : x3_2 < (l0_1.length : Int)
            · rw [if_pos c20] at H
              have c20b0 : decide (x3_2 < (l0_1.length : Int)) = true := decide_eq_true c20
              clear c20
              by_cases c21 : 0 ≤ x3_2
              · rw [if_pos c21] at H
                have c21b0 : decide (0 ≤ x3_2) = true := decide_eq_true c21
                clear c21
                by_cases c22 : ((rd_T98 l0_1 x3_2).f0) < 1
                · rw [if_pos c22] at H
                  have c22b0 : decide (((rd_T98 l0_1 x3_2).f0) < 1) = true := decide_eq_true c22
                  clear c22
                  obtain rfl := Option.some.inj H
                  have hcz23_0 : wr.cell? ⟨gb144, 0, none⟩ = some (.int .i64 a0_0) := (blk_cell BK144.out 0).trans rfl
                  have hcz23_1 : wr.cell? ⟨gb144, 1, none⟩ = some (.slice A0_1 l0_1.length c0_1) := (blk_cell BK144.out 1).trans rfl
                  have hcz23_2 : wr.cell? ⟨gb144, 2, none⟩ = some (.int .i64 a0_2) := (blk_cell BK144.out 2).trans rfl
                  have hcz23_3 : wr.cell? ⟨gb144, 3, none⟩ = some (.int .i64 a0_3) := (blk_cell BK144.out 3).trans rfl
                  have hfz23_0 := blk_frozen BK144.out 0
                  have hfz23_1 := blk_frozen BK144.out 1
                  have hfz23_2 := blk_frozen BK144.out 2
                  have hfz23_3 := blk_frozen BK144.out 3
                  have p145 : 0 ≤ (x3_2 : Int) := of_decide_eq_true (by first | (with_reducible assumption) | assumption)
                  have q145 : x3_2 < (l0_1.length : Int) := of_decide_eq_true (by first | (with_reducible assumption) | assumption)
                  obtain ⟨ad145, e145, hx145_0, hx145_1⟩ := at_T98 HR0_1.out x3_2 p145 q145
                  cases e145
                  replace hx145_0 := (HB.out.cell (World.block_lt_of_cell? w _ hx145_0)).trans hx145_0
                  replace hx145_1 := (HB.out.cell (World.block_lt_of_cell? w _ hx145_1)).trans hx145_1
                  replace p145 := eq_true p145
                  replace q145 := eq_true q145
                  go_wp2_with (first | ((with_reducible refine gate_dst (N := 4) rfl ?_); (try (refine gate_guard (by rfl) ?_; dsimp only)); refine box_event ?hg (N := 4) ?hd (cs := #[.int .i64 0, .int .i64 0]) (t := 98) ?hr ?_; (case hd => rfl); (case hg => rfl); (case hr => first | (go_simp; done) | (go_simp; rfl)); intro gb146 hg w24 hbox hb; have n0_ := Aside0.mk (blk_below (g := gb144) (o := .cells #[.int .i64 a0_0, .slice (some ad145) l0_1.length c0_1, .int .i64 a0_2, .int .i64 a0_3] 49 (0, 0)) (by (with_reducible repeat (first | refine blk_drewN ?_ _ | refine blk_drew ?_ | refine blk_alloc ?_ _)); exact BK144.out) hb); have n1_ := Aside0.mk (below_step (by repeat (first | (with_reducible first | exact HB.out | apply below_alloc | apply pw_below_drewN | apply below_drew1 | refine below_set ?_ GE144.out) | exact HB.out)) hb); have n2_ := Aside0.mk (hbox); have n3_ := Aside0.mk ((by rw [hg]; exact (below_size (by repeat (first | (with_reducible first | exact HB.out | apply below_alloc | apply pw_below_drewN | apply below_drew1 | refine below_set ?_ GE144.out) | exact HB.out))) : w.heap.size ≤ gb146)); have n4_ := Aside0.mk ((by rw [hg]; exact (below_size (by repeat (first | (with_reducible first | exact HB.out | apply below_alloc | apply pw_below_drewN | apply below_drew1 | refine below_set ?_ GE144.out) | exact HB.out))) : w.heap.size ≤ gb146)); have n5_ := Aside0.mk ((by rw [hg]; exact Nat.ne_of_lt (blk_lt (g := gb144) (o := .cells #[.int .i64 a0_0, .slice (some ad145) l0_1.length c0_1, .int .i64 a0_2, .int .i64 a0_3] 49 (0, 0)) (by (with_reducible repeat (first | refine blk_drewN ?_ _ | refine blk_drew ?_ | refine blk_alloc ?_ _)); exact BK144.out)) : gb144 ≠ gb146)); have n6_ := Aside0.mk ((by rw [hg]; exact Nat.ne_of_gt (blk_lt (g := gb144) (o := .cells #[.int .i64 a0_0, .slice (some ad145) l0_1.length c0_1, .int .i64 a0_2, .int .i64 a0_3] 49 (0, 0)) (by (with_reducible repeat (first | refine blk_drewN ?_ _ | refine blk_drew ?_ | refine blk_alloc ?_ _)); exact BK144.out)) : gb146 ≠ gb144)); clear BK144; clear HB; have BK144 := n0_; have HB := n1_; have BK146 := n2_; have GW146 := n3_; have GE146 := n4_; have NB144_146 := n5_; have NB146_144 := n6_; clear n0_ n1_ n2_ n3_ n4_ n5_ n6_; clear hb hbox hg; have hnb25 := NB146_144.out; have hnc25 := NB144_146.out; have hcz26_0 : w24.cell? ⟨gb146, 0, none⟩ = some (.int .i64 0) := (blk_cell BK146.out 0).trans rfl; have hcz26_1 : w24.cell? ⟨gb146, 1, none⟩ = some (.int .i64 0) := (blk_cell BK146.out 1).trans rfl; have hfz26_0 := blk_frozen BK146.out 0; have hfz26_1 := blk_frozen BK146.out 1))
                  go_ret
                  exact ⟨by first | rfl | (simp [errW_none, errW_some] <;> rfl) | (simp [*, errW_none, errW_some] <;> rfl), by repeat (first | (with_reducible first | exact HB.out | apply below_alloc | apply pw_below_drewN | apply below_drew1 | refine below_set ?_ GE144.out | refine below_set ?_ GE146.out) | exact HB.out)⟩
                · rw [if_neg c22] at H
                  have c22b0 : decide (((rd_T98 l0_1 x3_2).f0) < 1) = false := decide_eq_false c22
                  clear c22
                  by_cases c27 : ((rd_T98 l0_1 x3_2).f0) > 1125899906842624
                  · rw [if_pos c27] at H
                    have c27b0 : decide (1125899906842624 < ((rd_T98 l0_1 x3_2).f0)) = true := decide_eq_true c27
                    clear c27
                    obtain rfl := Option.some.inj H
                    have hcz28_0 : wr.cell? ⟨gb144, 0, none⟩ = some (.int .i64 a0_0) := (blk_cell BK144.out 0).trans rfl
                    have hcz28_1 : wr.cell? ⟨gb144, 1, none⟩ = some (.slice A0_1 l0_1.length c0_1) := (blk_cell BK144.out 1).trans rfl
                    have hcz28_2 : wr.cell? ⟨gb144, 2, none⟩ = some (.int .i64 a0_2) := (blk_cell BK144.out 2).trans rfl
                    have hcz28_3 : wr.cell? ⟨gb144, 3, none⟩ = some (.int .i64 a0_3) := (blk_cell BK144.out 3).trans rfl
                    have hfz28_0 := blk_frozen BK144.out 0
                    have hfz28_1 := blk_frozen BK144.out 1
                    have hfz28_2 := blk_frozen BK144.out 2
                    have hfz28_3 := blk_frozen BK144.out 3
                    have p145 : 0 ≤ (x3_2 : Int) := of_decide_eq_true (by first | (with_reducible assumption) | assumption)
                    have q145 : x3_2 < (l0_1.length : Int) := of_decide_eq_true (by first | (with_reducible assumption) | assumption)
                    obtain ⟨ad145, e145, hx145_0, hx145_1⟩ := at_T98 HR0_1.out x3_2 p145 q145
                    cases e145
                    replace hx145_0 := (HB.out.cell (World.block_lt_of_cell? w _ hx145_0)).trans hx145_0
                    replace hx145_1 := (HB.out.cell (World.block_lt_of_cell? w _ hx145_1)).trans hx145_1
                    replace p145 := eq_true p145
                    replace q145 := eq_true q145
                    go_wp2_with (first | ((with_reducible refine gate_dst (N := 4) rfl ?_); (try (refine gate_guard (by rfl) ?_; dsimp only)); refine box_event ?hg (N := 4) ?hd (cs := #[.int .i64 0, .int .i64 0]) (t := 98) ?hr ?_; (case hd => rfl); (case hg => rfl); (case hr => first | (go_simp; done) | (go_simp; rfl)); intro gb146 hg w29 hbox hb; have n0_ := Aside0.mk (blk_below (g := gb144) (o := .cells #[.int .i64 a0_0, .slice (some ad145) l0_1.length c0_1, .int .i64 a0_2, .int .i64 a0_3] 49 (0, 0)) (by (with_reducible repeat (first | refine blk_drewN ?_ _ | refine blk_drew ?_ | refine blk_alloc ?_ _)); exact BK144.out) hb); have n1_ := Aside0.mk (below_step (by repeat (first | (with_reducible first | exact HB.out | apply below_alloc | apply pw_below_drewN | apply below_drew1 | refine below_set ?_ GE144.out) | exact HB.out)) hb); have n2_ := Aside0.mk (hbox); have n3_ := Aside0.mk ((by rw [hg]; exact (below_size (by repeat (first | (with_reducible first | exact HB.out | apply below_alloc | apply pw_below_drewN | apply below_drew1 | refine below_set ?_ GE144.out) | exact HB.out))) : w.heap.size ≤ gb146)); have n4_ := Aside0.mk ((by rw [hg]; exact (below_size (by repeat (first | (with_reducible first | exact HB.out | apply below_alloc | apply pw_below_drewN | apply below_drew1 | refine below_set ?_ GE144.out) | exact HB.out))) : w.heap.size ≤ gb146)); have n5_ := Aside0.mk ((by rw [hg]; exact Nat.ne_of_lt (blk_lt (g := gb144) (o := .cells #[.int .i64 a0_0, .slice (some ad145) l0_1.length c0_1, .int .i64 a0_2, .int .i64 a0_3] 49 (0, 0)) (by (with_reducible repeat (first | refine blk_drewN ?_ _ | refine blk_drew ?_ | refine blk_alloc ?_ _)); exact BK144.out)) : gb144 ≠ gb146)); have n6_ := Aside0.mk ((by rw [hg]; exact Nat.ne_of_gt (blk_lt (g := gb144) (o := .cells #[.int .i64 a0_0, .slice (some ad145) l0_1.length c0_1, .int .i64 a0_2, .int .i64 a0_3] 49 (0, 0)) (by (with_reducible repeat (first | refine blk_drewN ?_ _ | refine blk_drew ?_ | refine blk_alloc ?_ _)); exact BK144.out)) : gb146 ≠ gb144)); clear BK144; clear HB; have BK144 := n0_; have HB := n1_; have BK146 := n2_; have GW146 := n3_; have GE146 := n4_; have NB144_146 := n5_; have NB146_144 := n6_; clear n0_ n1_ n2_ n3_ n4_ n5_ n6_; clear hb hbox hg; have hnb30 := NB146_144.out; have hnc30 := NB144_146.out; have hcz31_0 : w29.cell? ⟨gb146, 0, none⟩ = some (.int .i64 0) := (blk_cell BK146.out 0).trans rfl; have hcz31_1 : w29.cell? ⟨gb146, 1, none⟩ = some (.int .i64 0) := (blk_cell BK146.out 1).trans rfl; have hfz31_0 := blk_frozen BK146.out 0; have hfz31_1 := blk_frozen BK146.out 1))
                    go_ret
                    exact ⟨by first | rfl | (simp [errW_none, errW_some] <;> rfl) | (simp [*, errW_none, errW_some] <;> rfl), by repeat (first | (with_reducible first | exact HB.out | apply below_alloc | apply pw_below_drewN | apply below_drew1 | refine below_set ?_ GE144.out | refine below_set ?_ GE146.out) | exact HB.out)⟩
                  · rw [if_neg c27] at H
                    have c27b0 : decide (1125899906842624 < ((rd_T98 l0_1 x3_2).f0)) = false := decide_eq_false c27
                    clear c27
                    by_cases c32 : ((rd_T98 l0_1 x3_2).f1) < 0
                    · rw [if_pos c32] at H
                      have c32b0 : decide (((rd_T98 l0_1 x3_2).f1) < 0) = true := decide_eq_true c32
                      clear c32
                      obtain rfl := Option.some.inj H
                      have hcz33_0 : wr.cell? ⟨gb144, 0, none⟩ = some (.int .i64 a0_0) := (blk_cell BK144.out 0).trans rfl
                      have hcz33_1 : wr.cell? ⟨gb144, 1, none⟩ = some (.slice A0_1 l0_1.length c0_1) := (blk_cell BK144.out 1).trans rfl
                      have hcz33_2 : wr.cell? ⟨gb144, 2, none⟩ = some (.int .i64 a0_2) := (blk_cell BK144.out 2).trans rfl
                      have hcz33_3 : wr.cell? ⟨gb144, 3, none⟩ = some (.int .i64 a0_3) := (blk_cell BK144.out 3).trans rfl
                      have hfz33_0 := blk_frozen BK144.out 0
                      have hfz33_1 := blk_frozen BK144.out 1
                      have hfz33_2 := blk_frozen BK144.out 2
                      have hfz33_3 := blk_frozen BK144.out 3
                      have p145 : 0 ≤ (x3_2 : Int) := of_decide_eq_true (by first | (with_reducible assumption) | assumption)
                      have q145 : x3_2 < (l0_1.length : Int) := of_decide_eq_true (by first | (with_reducible assumption) | assumption)
                      obtain ⟨ad145, e145, hx145_0, hx145_1⟩ := at_T98 HR0_1.out x3_2 p145 q145
                      cases e145
                      replace hx145_0 := (HB.out.cell (World.block_lt_of_cell? w _ hx145_0)).trans hx145_0
                      replace hx145_1 := (HB.out.cell (World.block_lt_of_cell? w _ hx145_1)).trans hx145_1
                      replace p145 := eq_true p145
                      replace q145 := eq_true q145
                      go_wp2_with (first | ((with_reducible refine gate_dst (N := 4) rfl ?_); (try (refine gate_guard (by rfl) ?_; dsimp only)); refine box_event ?hg (N := 4) ?hd (cs := #[.int .i64 0, .int .i64 0]) (t := 98) ?hr ?_; (case hd => rfl); (case hg => rfl); (case hr => first | (go_simp; done) | (go_simp; rfl)); intro gb146 hg w34 hbox hb; have n0_ := Aside0.mk (blk_below (g := gb144) (o := .cells #[.int .i64 a0_0, .slice (some ad145) l0_1.length c0_1, .int .i64 a0_2, .int .i64 a0_3] 49 (0, 0)) (by (with_reducible repeat (first | refine blk_drewN ?_ _ | refine blk_drew ?_ | refine blk_alloc ?_ _)); exact BK144.out) hb); have n1_ := Aside0.mk (below_step (by repeat (first | (with_reducible first | exact HB.out | apply below_alloc | apply pw_below_drewN | apply below_drew1 | refine below_set ?_ GE144.out) | exact HB.out)) hb); have n2_ := Aside0.mk (hbox); have n3_ := Aside0.mk ((by rw [hg]; exact (below_size (by repeat (first | (with_reducible first | exact HB.out | apply below_alloc | apply pw_below_drewN | apply below_drew1 | refine below_set ?_ GE144.out) | exact HB.out))) : w.heap.size ≤ gb146)); have n4_ := Aside0.mk ((by rw [hg]; exact (below_size (by repeat (first | (with_reducible first | exact HB.out | apply below_alloc | apply pw_below_drewN | apply below_drew1 | refine below_set ?_ GE144.out) | exact HB.out))) : w.heap.size ≤ gb146)); have n5_ := Aside0.mk ((by rw [hg]; exact Nat.ne_of_lt (blk_lt (g := gb144) (o := .cells #[.int .i64 a0_0, .slice (some ad145) l0_1.length c0_1, .int .i64 a0_2, .int .i64 a0_3] 49 (0, 0)) (by (with_reducible repeat (first | refine blk_drewN ?_ _ | refine blk_drew ?_ | refine blk_alloc ?_ _)); exact BK144.out)) : gb144 ≠ gb146)); have n6_ := Aside0.mk ((by rw [hg]; exact Nat.ne_of_gt (blk_lt (g := gb144) (o := .cells #[.int .i64 a0_0, .slice (some ad145) l0_1.length c0_1, .int .i64 a0_2, .int .i64 a0_3] 49 (0, 0)) (by (with_reducible repeat (first | refine blk_drewN ?_ _ | refine blk_drew ?_ | refine blk_alloc ?_ _)); exact BK144.out)) : gb146 ≠ gb144)); clear BK144; clear HB; have BK144 := n0_; have HB := n1_; have BK146 := n2_; have GW146 := n3_; have GE146 := n4_; have NB144_146 := n5_; have NB146_144 := n6_; clear n0_ n1_ n2_ n3_ n4_ n5_ n6_; clear hb hbox hg; have hnb35 := NB146_144.out; have hnc35 := NB144_146.out; have hcz36_0 : w34.cell? ⟨gb146, 0, none⟩ = some (.int .i64 0) := (blk_cell BK146.out 0).trans rfl; have hcz36_1 : w34.cell? ⟨gb146, 1, none⟩ = some (.int .i64 0) := (blk_cell BK146.out 1).trans rfl; have hfz36_0 := blk_frozen BK146.out 0; have hfz36_1 := blk_frozen BK146.out 1))
                      go_ret
                      exact ⟨by first | rfl | (simp [errW_none, errW_some] <;> rfl) | (simp [*, errW_none, errW_some] <;> rfl), by repeat (first | (with_reducible first | exact HB.out | apply below_alloc | apply pw_below_drewN | apply below_drew1 | refine below_set ?_ GE144.out | refine below_set ?_ GE146.out) | exact HB.out)⟩
                    · rw [if_neg c32] at H
                      have c32b0 : decide (((rd_T98 l0_1 x3_2).f1) < 0) = false := decide_eq_false c32
                      clear c32
                      by_cases c37 : ((rd_T98 l0_1 x3_2).f1) > 7
                      · rw [if_pos c37] at H
                        have c37b0 : decide (7 < ((rd_T98 l0_1 x3_2).f1)) = true := decide_eq_true c37
                        clear c37
                        obtain rfl := Option.some.inj H
                        have hcz38_0 : wr.cell? ⟨gb144, 0, none⟩ = some (.int .i64 a0_0) := (blk_cell BK144.out 0).trans rfl
                        have hcz38_1 : wr.cell? ⟨gb144, 1, none⟩ = some (.slice A0_1 l0_1.length c0_1) := (blk_cell BK144.out 1).trans rfl
                        have hcz38_2 : wr.cell? ⟨gb144, 2, none⟩ = some (.int .i64 a0_2) := (blk_cell BK144.out 2).trans rfl
                        have hcz38_3 : wr.cell? ⟨gb144, 3, none⟩ = some (.int .i64 a0_3) := (blk_cell BK144.out 3).trans rfl
                        have hfz38_0 := blk_frozen BK144.out 0
                        have hfz38_1 := blk_frozen BK144.out 1
                        have hfz38_2 := blk_frozen BK144.out 2
                        have hfz38_3 := blk_frozen BK144.out 3
                        have p145 : 0 ≤ (x3_2 : Int) := of_decide_eq_true (by first | (with_reducible assumption) | assumption)
                        have q145 : x3_2 < (l0_1.length : Int) := of_decide_eq_true (by first | (with_reducible assumption) | assumption)
                        obtain ⟨ad145, e145, hx145_0, hx145_1⟩ := at_T98 HR0_1.out x3_2 p145 q145
                        cases e145
                        replace hx145_0 := (HB.out.cell (World.block_lt_of_cell? w _ hx145_0)).trans hx145_0
                        replace hx145_1 := (HB.out.cell (World.block_lt_of_cell? w _ hx145_1)).trans hx145_1
                        replace p145 := eq_true p145
                        replace q145 := eq_true q145
                        go_wp2_with (first | ((with_reducible refine gate_dst (N := 4) rfl ?_); (try (refine gate_guard (by rfl) ?_; dsimp only)); refine box_event ?hg (N := 4) ?hd (cs := #[.int .i64 0, .int .i64 0]) (t := 98) ?hr ?_; (case hd => rfl); (case hg => rfl); (case hr => first | (go_simp; done) | (go_simp; rfl)); intro gb146 hg w39 hbox hb; have n0_ := Aside0.mk (blk_below (g := gb144) (o := .cells #[.int .i64 a0_0, .slice (some ad145) l0_1.length c0_1, .int .i64 a0_2, .int .i64 a0_3] 49 (0, 0)) (by (with_reducible repeat (first | refine blk_drewN ?_ _ | refine blk_drew ?_ | refine blk_alloc ?_ _)); exact BK144.out) hb); have n1_ := Aside0.mk (below_step (by repeat (first | (with_reducible first | exact HB.out | apply below_alloc | apply pw_below_drewN | apply below_drew1 | refine below_set ?_ GE144.out) | exact HB.out)) hb); have n2_ := Aside0.mk (hbox); have n3_ := Aside0.mk ((by rw [hg]; exact (below_size (by repeat (first | (with_reducible first | exact HB.out | apply below_alloc | apply pw_below_drewN | apply below_drew1 | refine below_set ?_ GE144.out) | exact HB.out))) : w.heap.size ≤ gb146)); have n4_ := Aside0.mk ((by rw [hg]; exact (below_size (by repeat (first | (with_reducible first | exact HB.out | apply below_alloc | apply pw_below_drewN | apply below_drew1 | refine below_set ?_ GE144.out) | exact HB.out))) : w.heap.size ≤ gb146)); have n5_ := Aside0.mk ((by rw [hg]; exact Nat.ne_of_lt (blk_lt (g := gb144) (o := .cells #[.int .i64 a0_0, .slice (some ad145) l0_1.length c0_1, .int .i64 a0_2, .int .i64 a0_3] 49 (0, 0)) (by (with_reducible repeat (first | refine blk_drewN ?_ _ | refine blk_drew ?_ | refine blk_alloc ?_ _)); exact BK144.out)) : gb144 ≠ gb146)); have n6_ := Aside0.mk ((by rw [hg]; exact Nat.ne_of_gt (blk_lt (g := gb144) (o := .cells #[.int .i64 a0_0, .slice (some ad145) l0_1.length c0_1, .int .i64 a0_2, .int .i64 a0_3] 49 (0, 0)) (by (with_reducible repeat (first | refine blk_drewN ?_ _ | refine blk_drew ?_ | refine blk_alloc ?_ _)); exact BK144.out)) : gb146 ≠ gb144)); clear BK144; clear HB; have BK144 := n0_; have HB := n1_; have BK146 := n2_; have GW146 := n3_; have GE146 := n4_; have NB144_146 := n5_; have NB146_144 := n6_; clear n0_ n1_ n2_ n3_ n4_ n5_ n6_; clear hb hbox hg; have hnb40 := NB146_144.out; have hnc40 := NB144_146.out; have hcz41_0 : w39.cell? ⟨gb146, 0, none⟩ = some (.int .i64 0) := (blk_cell BK146.out 0).trans rfl; have hcz41_1 : w39.cell? ⟨gb146, 1, none⟩ = some (.int .i64 0) := (blk_cell BK146.out 1).trans rfl; have hfz41_0 := blk_frozen BK146.out 0; have hfz41_1 := blk_frozen BK146.out 1))
                        go_ret
                        exact ⟨by first | rfl | (simp [errW_none, errW_some] <;> rfl) | (simp [*, errW_none, errW_some] <;> rfl), by repeat (first | (with_reducible first | exact HB.out | apply below_alloc | apply pw_below_drewN | apply below_drew1 | refine below_set ?_ GE144.out | refine below_set ?_ GE146.out) | exact HB.out)⟩
                      · rw [if_neg c37] at H
                        have c37b0 : decide (7 < ((rd_T98 l0_1 x3_2).f1)) = false := decide_eq_false c37
                        clear c37
                        have H' := Aside0.mk H
                        clear H
                        have hcz42_0 : wr.cell? ⟨gb144, 0, none⟩ = some (.int .i64 a0_0) := (blk_cell BK144.out 0).trans rfl
                        have hcz42_1 : wr.cell? ⟨gb144, 1, none⟩ = some (.slice A0_1 l0_1.length c0_1) := (blk_cell BK144.out 1).trans rfl
                        have hcz42_2 : wr.cell? ⟨gb144, 2, none⟩ = some (.int .i64 a0_2) := (blk_cell BK144.out 2).trans rfl
                        have hcz42_3 : wr.cell? ⟨gb144, 3, none⟩ = some (.int .i64 a0_3) := (blk_cell BK144.out 3).trans rfl
                        have hfz42_0 := blk_frozen BK144.out 0
                        have hfz42_1 := blk_frozen BK144.out 1
                        have hfz42_2 := blk_frozen BK144.out 2
                        have hfz42_3 := blk_frozen BK144.out 3
                        have p145 : 0 ≤ (x3_2 : Int) := of_decide_eq_true (by first | (with_reducible assumption) | assumption)
                        have q145 : x3_2 < (l0_1.length : Int) := of_decide_eq_true (by first | (with_reducible assumption) | assumption)
                        obtain ⟨ad145, e145, hx145_0, hx145_1⟩ := at_T98 HR0_1.out x3_2 p145 q145
                        cases e145
                        replace hx145_0 := (HB.out.cell (World.block_lt_of_cell? w _ hx145_0)).trans hx145_0
                        replace hx145_1 := (HB.out.cell (World.block_lt_of_cell? w _ hx145_1)).trans hx145_1
                        replace p145 := eq_true p145
                        replace q145 := eq_true q145
                        go_wp2_with (first | ((with_reducible refine gate_dst (N := 4) rfl ?_); (try (refine gate_guard (by rfl) ?_; dsimp only)); refine box_event ?hg (N := 4) ?hd (cs := #[.int .i64 0, .int .i64 0]) (t := 98) ?hr ?_; (case hd => rfl); (case hg => rfl); (case hr => first | (go_simp; done) | (go_simp; rfl)); intro gb146 hg w43 hbox hb; have n0_ := Aside0.mk (blk_below (g := gb144) (o := .cells #[.int .i64 a0_0, .slice (some ad145) l0_1.length c0_1, .int .i64 a0_2, .int .i64 a0_3] 49 (0, 0)) (by (with_reducible repeat (first | refine blk_drewN ?_ _ | refine blk_drew ?_ | refine blk_alloc ?_ _)); exact BK144.out) hb); have n1_ := Aside0.mk (below_step (by repeat (first | (with_reducible first | exact HB.out | apply below_alloc | apply pw_below_drewN | apply below_drew1 | refine below_set ?_ GE144.out) | exact HB.out)) hb); have n2_ := Aside0.mk (hbox); have n3_ := Aside0.mk ((by rw [hg]; exact (below_size (by repeat (first | (with_reducible first | exact HB.out | apply below_alloc | apply pw_below_drewN | apply below_drew1 | refine below_set ?_ GE144.out) | exact HB.out))) : w.heap.size ≤ gb146)); have n4_ := Aside0.mk ((by rw [hg]; exact (below_size (by repeat (first | (with_reducible first | exact HB.out | apply below_alloc | apply pw_below_drewN | apply below_drew1 | refine below_set ?_ GE144.out) | exact HB.out))) : w.heap.size ≤ gb146)); have n5_ := Aside0.mk ((by rw [hg]; exact Nat.ne_of_lt (blk_lt (g := gb144) (o := .cells #[.int .i64 a0_0, .slice (some ad145) l0_1.length c0_1, .int .i64 a0_2, .int .i64 a0_3] 49 (0, 0)) (by (with_reducible repeat (first | refine blk_drewN ?_ _ | refine blk_drew ?_ | refine blk_alloc ?_ _)); exact BK144.out)) : gb144 ≠ gb146)); have n6_ := Aside0.mk ((by rw [hg]; exact Nat.ne_of_gt (blk_lt (g := gb144) (o := .cells #[.int .i64 a0_0, .slice (some ad145) l0_1.length c0_1, .int .i64 a0_2, .int .i64 a0_3] 49 (0, 0)) (by (with_reducible repeat (first | refine blk_drewN ?_ _ | refine blk_drew ?_ | refine blk_alloc ?_ _)); exact BK144.out)) : gb146 ≠ gb144)); clear BK144; clear HB; have BK144 := n0_; have HB := n1_; have BK146 := n2_; have GW146 := n3_; have GE146 := n4_; have NB144_146 := n5_; have NB146_144 := n6_; clear n0_ n1_ n2_ n3_ n4_ n5_ n6_; clear hb hbox hg; have hnb44 := NB146_144.out; have hnc44 := NB144_146.out; have hcz45_0 : w43.cell? ⟨gb146, 0, none⟩ = some (.int .i64 0) := (blk_cell BK146.out 0).trans rfl; have hcz45_1 : w43.cell? ⟨gb146, 1, none⟩ = some (.int .i64 0) := (blk_cell BK146.out 1).trans rfl; have hfz45_0 := blk_frozen BK146.out 0; have hfz45_1 := blk_frozen BK146.out 1))
                        go_roundg k2
                        case measure => have := HJ1.out; have := HK2.out; omega
                        case rel => exact ⟨(wrap64 (x3_2 + 1)), (by first | rfl | (simp; done) | (simp [*]; done)), H', ⟨by have := HJ1.out; have := HK2.out; omega⟩, ⟨by (with_reducible repeat (first | refine blk_drewN ?_ _ | refine blk_drew ?_ | refine blk_alloc ?_ _)); refine blk_far ?_ NB144_146.out _; (with_reducible repeat (first | refine blk_drewN ?_ _ | refine blk_drew ?_ | refine blk_alloc ?_ _)); refine blk_far ?_ NB144_146.out _; (with_reducible repeat (first | refine blk_drewN ?_ _ | refine blk_drew ?_ | refine blk_alloc ?_ _)); exact BK144.out⟩, ⟨by repeat (first | (with_reducible first | exact HB.out | apply below_alloc | apply pw_below_drewN | apply below_drew1 | refine below_set ?_ GE144.out | refine below_set ?_ GE146.out) | exact HB.out)⟩⟩
              · rw [if_neg c21] at H
                exact absurd H (by simp)
            · rw [if_neg c20] at H
              have c20b0 : decide (x3_2 < (l0_1.length : Int)) = false := decide_eq_false c20
              clear c20
              obtain rfl := Option.some.inj H
              have hcz46_0 : wr.cell? ⟨gb144, 0, none⟩ = some (.int .i64 a0_0) := (blk_cell BK144.out 0).trans rfl
              have hcz46_1 : wr.cell? ⟨gb144, 1, none⟩ = some (.slice A0_1 l0_1.length c0_1) := (blk_cell BK144.out 1).trans rfl
              have hcz46_2 : wr.cell? ⟨gb144, 2, none⟩ = some (.int .i64 a0_2) := (blk_cell BK144.out 2).trans rfl
              have hcz46_3 : wr.cell? ⟨gb144, 3, none⟩ = some (.int .i64 a0_3) := (blk_cell BK144.out 3).trans rfl
              have hfz46_0 := blk_frozen BK144.out 0
              have hfz46_1 := blk_frozen BK144.out 1
              have hfz46_2 := blk_frozen BK144.out 2
              have hfz46_3 := blk_frozen BK144.out 3
              go_wp2
              go_ret
              exact ⟨by first | rfl | (simp [errW_none, errW_some] <;> rfl) | (simp [*, errW_none, errW_some] <;> rfl), by repeat (first | (with_reducible first | exact HB.out | apply below_alloc | apply pw_below_drewN | apply below_drew1 | refine below_set ?_ GE144.out) | exact HB.out)⟩
def chain_Step_going.f (a0_0 : Int) (a0_1 : Int) (a0_2 : Int) (a0_3 : Int) : Option (Bool) := some (a0_3 != 0)
set_option maxHeartbeats 8000000 in
set_option maxRecDepth 100000 in
theorem chain_Step_going.calls (a0_0 : Int) (a0_1 : Int) (a0_2 : Int) (a0_3 : Int) (r : Bool) (w : World) (h : chain_Step_going.f a0_0 a0_1 a0_2 a0_3 = some r) :
    Calls Try.prog 95 #[.agg #[.int .i64 a0_0, .int .i64 a0_1, .int .i64 a0_2, .int .i64 a0_3]] w fun e w' => e = .returned (.bool r) ∧ Below w.heap.size w w' := by
  have hu108 := Try.underlying108
  have HB := Aside0.mk (Below.refl w.heap.size w)
  have H : (some (a0_3 != 0)) = some r := h
  clear h
  obtain rfl := Option.some.inj H
  go_enter Try.func95, Try.ntmps95
  go_wp2_with (first | ((with_reducible refine gate_dst (N := 1) rfl ?_); refine box_event ?hg (N := 1) ?hd (cs := #[.int .i64 a0_0, .int .i64 a0_1, .int .i64 a0_2, .int .i64 a0_3]) (t := 108) ?hr ?_; (case hd => rfl); (case hg => rfl); (case hr => first | (go_simp; done) | (go_simp; rfl)); intro gb147 hg w2 hbox hb; have n0_ := Aside0.mk (below_step (by repeat (first | (with_reducible first | exact HB.out | apply below_alloc | apply pw_below_drewN | apply below_drew1) | exact HB.out)) hb); have n1_ := Aside0.mk (hbox); have n2_ := Aside0.mk ((by rw [hg]; exact (below_size (by repeat (first | (with_reducible first | exact HB.out | apply below_alloc | apply pw_below_drewN | apply below_drew1) | exact HB.out))) : w.heap.size ≤ gb147)); have n3_ := Aside0.mk ((by rw [hg]; exact (below_size (by repeat (first | (with_reducible first | exact HB.out | apply below_alloc | apply pw_below_drewN | apply below_drew1) | exact HB.out))) : w.heap.size ≤ gb147)); clear HB; have HB := n0_; have BK147 := n1_; have GW147 := n2_; have GE147 := n3_; clear n0_ n1_ n2_ n3_; clear hb hbox hg; have hcz3_0 : w2.cell? ⟨gb147, 0, none⟩ = some (.int .i64 a0_0) := (blk_cell BK147.out 0).trans rfl; have hcz3_1 : w2.cell? ⟨gb147, 1, none⟩ = some (.int .i64 a0_1) := (blk_cell BK147.out 1).trans rfl; have hcz3_2 : w2.cell? ⟨gb147, 2, none⟩ = some (.int .i64 a0_2) := (blk_cell BK147.out 2).trans rfl; have hcz3_3 : w2.cell? ⟨gb147, 3, none⟩ = some (.int .i64 a0_3) := (blk_cell BK147.out 3).trans rfl; have hfz3_0 := blk_frozen BK147.out 0; have hfz3_1 := blk_frozen BK147.out 1; have hfz3_2 := blk_frozen BK147.out 2; have hfz3_3 := blk_frozen BK147.out 3))
  go_ret
  exact ⟨by first | rfl | (simp [errW_none, errW_some] <;> rfl) | (simp [*, errW_none, errW_some] <;> rfl), by repeat (first | (with_reducible first | exact HB.out | apply below_alloc | apply pw_below_drewN | apply below_drew1 | refine below_set ?_ GE147.out) | exact HB.out)⟩
def curfewlaw15_Always.f  : Option (Int × (List (S143)) × (List (S143))) := some (0, (([(⟨0, 604800⟩ : S143)] : List (S143))), ([] : List (S143)))
set_option maxHeartbeats 8000000 in
set_option maxRecDepth 100000 in
theorem curfewlaw15_Always.calls  (r1 : Int) (r2 : List (S143)) (r3 : List (S143)) (w : World) (h : curfewlaw15_Always.f  = some (r1, r2, r3)) :
    Calls Try.prog 41 #[] w fun e w' => ∃ v1_ v2_ : Value, e = .returned (.agg #[.int .i64 r1, v1_, v2_]) ∧ Kd.R k143 143 w' w.heap.size (fun k_ => some k_ ≠ (v2_ : Value).ownBlock) v1_ r2 ∧ Kd.R k143 143 w' w.heap.size (fun k_ => some k_ ≠ (v1_ : Value).ownBlock) v2_ r3 ∧ Below w.heap.size w w' := by
  have hu46 := Try.underlying46
  have hu143 := Try.underlying143
  have HB := Aside0.mk (Below.refl w.heap.size w)
  have H : (some (0, (([(⟨0, 604800⟩ : S143)] : List (S143))), ([] : List (S143)))) = some (r1, r2, r3) := h
  clear h
  obtain ⟨y149, hy149⟩ : ∃ y_ : List (S143), y_ = (([(⟨0, 604800⟩ : S143)] : List (S143))) := ⟨_, rfl⟩
  replace H : (some (0, y149, ([] : List (S143)))) = some (r1, r2, r3) := by first | (rw [hy149]; with_reducible exact H) | (have H2_ := (Option.bind_some _ _).symm.trans H; rw [hy149]; with_reducible exact H2_) | (have H2_ := (Option.bind_some _ _).symm.trans H; with_reducible exact H2_) | with_reducible exact H | (rw [hy149]; exact H) | exact H
  have Ny149 := Aside0.mk hy149
  clear hy149
  simp only [Option.some.injEq, Prod.mk.injEq] at H
  obtain ⟨rfl, rfl, rfl⟩ := H
  go_enter Try.func41, Try.ntmps41
  go_wp2_with (first | ((with_reducible refine gate_dst (N := 0) rfl ?_); refine box_event ?hg (N := 0) ?hd (cs := #[.int .i64 0, .slice none 0 0, .slice none 0 0]) (t := 46) ?hr ?_; (case hd => rfl); (case hg => rfl); (case hr => first | (go_simp; done) | (go_simp; rfl)); intro gb148 hg w1 hbox hb; have n0_ := Aside0.mk (below_step (by repeat (first | (with_reducible first | exact HB.out | apply below_alloc | apply pw_below_drewN | apply below_drew1) | exact HB.out)) hb); have n1_ := Aside0.mk (hbox); have n2_ := Aside0.mk ((by rw [hg]; exact (below_size (by repeat (first | (with_reducible first | exact HB.out | apply below_alloc | apply pw_below_drewN | apply below_drew1) | exact HB.out))) : w.heap.size ≤ gb148)); have n3_ := Aside0.mk ((by rw [hg]; exact (below_size (by repeat (first | (with_reducible first | exact HB.out | apply below_alloc | apply pw_below_drewN | apply below_drew1) | exact HB.out))) : w.heap.size ≤ gb148)); clear HB; have HB := n0_; have BK148 := n1_; have GW148 := n2_; have GE148 := n3_; clear n0_ n1_ n2_ n3_; clear hb hbox hg) | ((with_reducible refine gate_dst (N := 2) rfl ?_); refine Kd.R_lit k143 _ 143 ?hg (N := 2) ?hd (xs := ([(⟨0, 604800⟩ : S143)] : List (S143))) (inner := [.int .i64 0, .int .i64 604800]) (ok := fun _ => True) (okp := fun _ => True) ?hr ?hp (fun _ hk => hk) trivial (Below.refl _ _) (Nat.le_refl _) (by simp) ?_; (case hd => rfl); (case hg => rfl); (case hr => first | (go_simp; done) | (go_simp; rfl)); (case hp => exact (Reps.c2 (show Kd.M k143 _ _ _ (⟨0, 604800⟩ : S143) [.int .i64 0, .int .i64 604800] from (k143_mkM _ _ _ (⟨0, 604800⟩ : S143) )) (Reps.none _ _))); intro v150 w2 ho3 hb hg_ hnew_; clear hg_ hnew_; (first | rw [← Ny149.out] at ho3 | (simp only [Int.reduceToNat] at ho3; rw [← Ny149.out] at ho3)); have n0_ := Aside0.mk (Kd.R_lower ho3 (below_size (by repeat (first | (with_reducible first | exact HB.out | apply below_alloc | apply pw_below_drewN | apply below_drew1 | refine below_set ?_ GE148.out) | exact HB.out)))); have n1_ := Aside0.mk (blk_below (g := gb148) (o := .cells #[.int .i64 0, .slice none 0 0, .slice none 0 0] 46 (0, 0)) (by (with_reducible repeat (first | refine blk_drewN ?_ _ | refine blk_drew ?_ | refine blk_alloc ?_ _)); exact BK148.out) hb); have n2_ := Aside0.mk (below_step (by repeat (first | (with_reducible first | exact HB.out | apply below_alloc | apply pw_below_drewN | apply below_drew1 | refine below_set ?_ GE148.out) | exact HB.out)) hb); clear BK148; clear HB; have HO151 := n0_; have BK148 := n1_; have HB := n2_; clear n0_ n1_ n2_; clear hb ho3; obtain ⟨Ao4, co4, eo4⟩ := Kd.R_slice HO151.out; subst eo4; have hcz5_0 : w2.cell? ⟨gb148, 0, none⟩ = some (.int .i64 0) := (blk_cell BK148.out 0).trans rfl; have hcz5_1 : w2.cell? ⟨gb148, 1, none⟩ = some (.slice none 0 0) := (blk_cell BK148.out 1).trans rfl; have hcz5_2 : w2.cell? ⟨gb148, 2, none⟩ = some (.slice none 0 0) := (blk_cell BK148.out 2).trans rfl; have hfz5_0 := blk_frozen BK148.out 0; have hfz5_1 := blk_frozen BK148.out 1; have hfz5_2 := blk_frozen BK148.out 2))
  refine bodyPost_ret (results_cell_row rfl _ _ gb148 46 #[.int .i64 0, .slice Ao4 y149.length co4, .slice none 0 0] (0, 0) _ rfl (by (with_reducible repeat (first | refine blk_drewN ?_ _ | refine blk_drew ?_ | refine blk_alloc ?_ _)); refine blk_put (cs := #[.int .i64 0, .slice Ao4 y149.length co4, .slice none 0 0]) ?_ 2 _ rfl; (with_reducible repeat (first | refine blk_drewN ?_ _ | refine blk_drew ?_ | refine blk_alloc ?_ _)); refine blk_put (cs := #[.int .i64 0, .slice none 0 0, .slice none 0 0]) ?_ 1 _ rfl; (with_reducible repeat (first | refine blk_drewN ?_ _ | refine blk_drew ?_ | refine blk_alloc ?_ _)); refine blk_put (cs := #[.int .i64 0, .slice none 0 0, .slice none 0 0]) ?_ 0 _ rfl; (with_reducible repeat (first | refine blk_drewN ?_ _ | refine blk_drew ?_ | refine blk_alloc ?_ _)); exact BK148.out) Try.underlying46 rfl (by kernel_rfl)) rfl ?_
  exact ⟨_, _, by first | rfl | (simp [errW_none, errW_some] <;> rfl) | (simp [*, errW_none, errW_some] <;> rfl), by (with_reducible repeat (first | apply Kd.R_alloc | apply Kd.R_drewN | apply Kd.R_drew)); exact Kd.R_mono (Kd.R_far (p := ⟨gb148, 2, none⟩) (Kd.R_far (p := ⟨gb148, 1, none⟩) (Kd.R_far (p := ⟨gb148, 0, none⟩) (Kd.R_types HO151.out BK148.out (by decide)) (fun _ hk => hk.2) (.int .i64 0)) (fun _ hk => hk.2) (.slice Ao4 y149.length co4)) (fun _ hk => hk.2) (.slice none 0 0)) (fun _ hk => (by simp [Value.ownBlock])), by first | exact Kd.R_nil _ _ _ _ _ | exact Kd.N_nil _ _ _ _ _ | exact Kd.V_nil _ _ _ _ _ | exact Kd.Q_nil _ _ _ _ _ | exact Kd.S_nil _ _ _ _ _, by repeat (first | (with_reducible first | exact HB.out | apply below_alloc | apply pw_below_drewN | apply below_drew1 | refine below_set ?_ GE148.out) | exact HB.out)⟩
def curfewlaw14_Plain.f  : Option (Int × (List (S98)) × Int × Int) := some (0, (([(⟨10, 0⟩ : S98), (⟨20, 1⟩ : S98)] : List (S98))), 2, 5)
set_option maxHeartbeats 8000000 in
set_option maxRecDepth 100000 in
theorem curfewlaw14_Plain.calls  (r1 : Int) (r2 : List (S98)) (r3 : Int) (r4 : Int) (w : World) (h : curfewlaw14_Plain.f  = some (r1, r2, r3, r4)) :
    Calls Try.prog 42 #[] w fun e w' => ∃ v1_ : Value, e = .returned (.agg #[.int .i64 r1, v1_, .int .i64 r3, .int .i64 r4]) ∧ Kd.R k98 98 w' w.heap.size (fun _ => True) v1_ r2 ∧ Below w.heap.size w w' := by
  have hu49 := Try.underlying49
  have hu98 := Try.underlying98
  have HB := Aside0.mk (Below.refl w.heap.size w)
  have H : (some (0, (([(⟨10, 0⟩ : S98), (⟨20, 1⟩ : S98)] : List (S98))), 2, 5)) = some (r1, r2, r3, r4) := h
  clear h
  obtain ⟨y153, hy153⟩ : ∃ y_ : List (S98), y_ = (([(⟨10, 0⟩ : S98), (⟨20, 1⟩ : S98)] : List (S98))) := ⟨_, rfl⟩
  replace H : (some (0, y153, 2, 5)) = some (r1, r2, r3, r4) := by first | (rw [hy153]; with_reducible exact H) | (have H2_ := (Option.bind_some _ _).symm.trans H; rw [hy153]; with_reducible exact H2_) | (have H2_ := (Option.bind_some _ _).symm.trans H; with_reducible exact H2_) | with_reducible exact H | (rw [hy153]; exact H) | exact H
  have Ny153 := Aside0.mk hy153
  clear hy153
  simp only [Option.some.injEq, Prod.mk.injEq] at H
  obtain ⟨rfl, rfl, rfl, rfl⟩ := H
  go_enter Try.func42, Try.ntmps42
  go_wp2_with (first | ((with_reducible refine gate_dst (N := 0) rfl ?_); refine box_event ?hg (N := 0) ?hd (cs := #[.int .i64 0, .slice none 0 0, .int .i64 0, .int .i64 0]) (t := 49) ?hr ?_; (case hd => rfl); (case hg => rfl); (case hr => first | (go_simp; done) | (go_simp; rfl)); intro gb152 hg w1 hbox hb; have n0_ := Aside0.mk (below_step (by repeat (first | (with_reducible first | exact HB.out | apply below_alloc | apply pw_below_drewN | apply below_drew1) | exact HB.out)) hb); have n1_ := Aside0.mk (hbox); have n2_ := Aside0.mk ((by rw [hg]; exact (below_size (by repeat (first | (with_reducible first | exact HB.out | apply below_alloc | apply pw_below_drewN | apply below_drew1) | exact HB.out))) : w.heap.size ≤ gb152)); have n3_ := Aside0.mk ((by rw [hg]; exact (below_size (by repeat (first | (with_reducible first | exact HB.out | apply below_alloc | apply pw_below_drewN | apply below_drew1) | exact HB.out))) : w.heap.size ≤ gb152)); clear HB; have HB := n0_; have BK152 := n1_; have GW152 := n2_; have GE152 := n3_; clear n0_ n1_ n2_ n3_; clear hb hbox hg) | ((with_reducible refine gate_dst (N := 3) rfl ?_); refine Kd.R_lit k98 _ 98 ?hg (N := 3) ?hd (xs := ([(⟨10, 0⟩ : S98), (⟨20, 1⟩ : S98)] : List (S98))) (inner := [.int .i64 10, .int .i64 0, .int .i64 20, .int .i64 1]) (ok := fun _ => True) (okp := fun _ => True) ?hr ?hp (fun _ hk => hk) trivial (Below.refl _ _) (Nat.le_refl _) (by simp) ?_; (case hd => rfl); (case hg => rfl); (case hr => first | (go_simp; done) | (go_simp; rfl)); (case hp => exact (Reps.c2 (show Kd.M k98 _ _ _ (⟨10, 0⟩ : S98) [.int .i64 10, .int .i64 0] from (k98_mkM _ _ _ (⟨10, 0⟩ : S98) )) (Reps.c2 (show Kd.M k98 _ _ _ (⟨20, 1⟩ : S98) [.int .i64 20, .int .i64 1] from (k98_mkM _ _ _ (⟨20, 1⟩ : S98) )) (Reps.none _ _)))); intro v154 w2 ho3 hb hg_ hnew_; clear hg_ hnew_; (first | rw [← Ny153.out] at ho3 | (simp only [Int.reduceToNat] at ho3; rw [← Ny153.out] at ho3)); have n0_ := Aside0.mk (Kd.R_lower ho3 (below_size (by repeat (first | (with_reducible first | exact HB.out | apply below_alloc | apply pw_below_drewN | apply below_drew1 | refine below_set ?_ GE152.out) | exact HB.out)))); have n1_ := Aside0.mk (blk_below (g := gb152) (o := .cells #[.int .i64 0, .slice none 0 0, .int .i64 0, .int .i64 0] 49 (0, 0)) (by (with_reducible repeat (first | refine blk_drewN ?_ _ | refine blk_drew ?_ | refine blk_alloc ?_ _)); exact BK152.out) hb); have n2_ := Aside0.mk (below_step (by repeat (first | (with_reducible first | exact HB.out | apply below_alloc | apply pw_below_drewN | apply below_drew1 | refine below_set ?_ GE152.out) | exact HB.out)) hb); clear BK152; clear HB; have HO155 := n0_; have BK152 := n1_; have HB := n2_; clear n0_ n1_ n2_; clear hb ho3; obtain ⟨Ao4, co4, eo4⟩ := Kd.R_slice HO155.out; subst eo4; have hcz5_0 : w2.cell? ⟨gb152, 0, none⟩ = some (.int .i64 0) := (blk_cell BK152.out 0).trans rfl; have hcz5_1 : w2.cell? ⟨gb152, 1, none⟩ = some (.slice none 0 0) := (blk_cell BK152.out 1).trans rfl; have hcz5_2 : w2.cell? ⟨gb152, 2, none⟩ = some (.int .i64 0) := (blk_cell BK152.out 2).trans rfl; have hcz5_3 : w2.cell? ⟨gb152, 3, none⟩ = some (.int .i64 0) := (blk_cell BK152.out 3).trans rfl; have hfz5_0 := blk_frozen BK152.out 0; have hfz5_1 := blk_frozen BK152.out 1; have hfz5_2 := blk_frozen BK152.out 2; have hfz5_3 := blk_frozen BK152.out 3))
  refine bodyPost_ret (results_cell_row rfl _ _ gb152 49 #[.int .i64 0, .slice Ao4 y153.length co4, .int .i64 2, .int .i64 5] (0, 0) _ rfl (by (with_reducible repeat (first | refine blk_drewN ?_ _ | refine blk_drew ?_ | refine blk_alloc ?_ _)); refine blk_put (cs := #[.int .i64 0, .slice Ao4 y153.length co4, .int .i64 2, .int .i64 0]) ?_ 3 _ rfl; (with_reducible repeat (first | refine blk_drewN ?_ _ | refine blk_drew ?_ | refine blk_alloc ?_ _)); refine blk_put (cs := #[.int .i64 0, .slice Ao4 y153.length co4, .int .i64 0, .int .i64 0]) ?_ 2 _ rfl; (with_reducible repeat (first | refine blk_drewN ?_ _ | refine blk_drew ?_ | refine blk_alloc ?_ _)); refine blk_put (cs := #[.int .i64 0, .slice none 0 0, .int .i64 0, .int .i64 0]) ?_ 1 _ rfl; (with_reducible repeat (first | refine blk_drewN ?_ _ | refine blk_drew ?_ | refine blk_alloc ?_ _)); refine blk_put (cs := #[.int .i64 0, .slice none 0 0, .int .i64 0, .int .i64 0]) ?_ 0 _ rfl; (with_reducible repeat (first | refine blk_drewN ?_ _ | refine blk_drew ?_ | refine blk_alloc ?_ _)); exact BK152.out) Try.underlying49 rfl (by kernel_rfl)) rfl ?_
  exact ⟨_, by first | rfl | (simp [errW_none, errW_some] <;> rfl) | (simp [*, errW_none, errW_some] <;> rfl), by (with_reducible repeat (first | apply Kd.R_alloc | apply Kd.R_drewN | apply Kd.R_drew)); exact Kd.R_mono (Kd.R_far (p := ⟨gb152, 3, none⟩) (Kd.R_far (p := ⟨gb152, 2, none⟩) (Kd.R_far (p := ⟨gb152, 1, none⟩) (Kd.R_far (p := ⟨gb152, 0, none⟩) (Kd.R_types HO155.out BK152.out (by decide)) (fun _ hk => hk.2) (.int .i64 0)) (fun _ hk => hk.2) (.slice Ao4 y153.length co4)) (fun _ hk => hk.2) (.int .i64 2)) (fun _ hk => hk.2) (.int .i64 5)) (fun _ hk => trivial), by repeat (first | (with_reducible first | exact HB.out | apply below_alloc | apply pw_below_drewN | apply below_drew1 | refine below_set ?_ GE152.out) | exact HB.out)⟩
end Go.Proofs.Ytepldlnmeenlbaa.Base
namespace Go.Proofs.Ytepldlnmeenlbaa.Own
open Go.RowKit Go.Proofs Go.Proofs.YtepldlnmeenlbaaW.PrintWords Go.Proofs.YtepldlnmeenlbaaW.PrintLast Go.Proofs.YtepldlnmeenlbaaW.PrintMore Go.Proofs.Ytepldlnmeenlbaa.Base
def levB (x : S98) : Bool := decide (1 ≤ x.f0 ∧ x.f0 ≤ 1125899906842624 ∧ 0 ≤ x.f1 ∧ x.f1 ≤ 7)
def goodP (cal : Int) (ls : List S98) (re ba : Int) : Bool := decide (0 ≤ cal ∧ cal ≤ 7 ∧ 1 ≤ (ls.length : Int) ∧ (ls.length : Int) ≤ 6 ∧ 1 ≤ re ∧ re ≤ 8 ∧ 1 ≤ ba ∧ ba ≤ 1048576) && ls.all levB
theorem rdL_at (l : List S98) (i : Nat) (h : i < l.length) : rd_T98 l i = l[i] := by simp [rd_T98, List.getD_eq_getElem?_getD, List.getElem?_eq_getElem h]
theorem dropL_at {l : List S98} {i : Nat} (h : i < l.length) : l.drop i = rd_T98 l i :: l.drop (i + 1) := by rw [rdL_at l i h]; exact List.drop_eq_getElem_cons h
theorem goodP_iff {cal : Int} {ls : List S98} {re ba : Int} : goodP cal ls re ba = true ↔ (0 ≤ cal ∧ cal ≤ 7 ∧ 1 ≤ (ls.length : Int) ∧ (ls.length : Int) ≤ 6 ∧ 1 ≤ re ∧ re ≤ 8 ∧ 1 ≤ ba ∧ ba ≤ 1048576) ∧ ∀ x, x ∈ ls → 1 ≤ x.f0 ∧ x.f0 ≤ 1125899906842624 ∧ 0 ≤ x.f1 ∧ x.f1 ≤ 7 := by
  unfold goodP
  rw [Bool.and_eq_true, decide_eq_true_eq, List.all_eq_true]
  simp only [levB, decide_eq_true_eq]
theorem cwithin_eq (a b c : Int) : contract_within.f a b c = some (decide (b ≤ a ∧ a ≤ c)) := by
  unfold contract_within.f
  by_cases h : b ≤ a
  · rw [if_pos h]; simp [h]
  · rw [if_neg h]; simp [h]
theorem check_l0 (l : List S98) (hl : l.length ≤ 1000000) : ∀ (d k i : Nat), i + d = l.length → d < k → contract_Check.l0 k l (l.length : Int) (i : Int) = some (if (l.drop i).all levB then 0 else 2) := by
  intro d
  induction d with
  | zero =>
    intro k i hi hk
    obtain ⟨k, rfl⟩ : ∃ m, k = m + 1 := ⟨k - 1, by omega⟩
    rw [List.drop_eq_nil_of_le (by omega)]
    simp only [contract_Check.l0]
    rw [if_neg (by omega)]
    rfl
  | succ d ih =>
    intro k i hi hk
    obtain ⟨k, rfl⟩ : ∃ m, k = m + 1 := ⟨k - 1, by omega⟩
    have hlt : i < l.length := by omega
    have ih' := ih k (i + 1) (by omega) (by omega)
    rw [show ((i + 1 : Nat) : Int) = (i : Int) + 1 by omega] at ih'
    rw [dropL_at hlt, List.all_cons]
    simp only [contract_Check.l0]
    rw [if_pos (by omega), if_pos (by omega), if_pos (by omega), cwithin_eq, cwithin_eq, wrap_id (x := (i : Int) + 1) (by omega) (by omega)]
    simp only [Option.bind_some, decide_eq_true_eq]
    by_cases h : 1 ≤ (rd_T98 l i).f0 ∧ (rd_T98 l i).f0 ≤ 1125899906842624
    · rw [if_pos h]
      by_cases h' : 0 ≤ (rd_T98 l i).f1 ∧ (rd_T98 l i).f1 ≤ 7
      · rw [if_pos h', ih', show levB (rd_T98 l i) = true from decide_eq_true ⟨h.1, h.2, h'⟩, Bool.true_and]
      · rw [if_neg h', show levB (rd_T98 l i) = false from decide_eq_false (fun x => h' x.2.2)]; rfl
    · rw [if_neg h, show levB (rd_T98 l i) = false from decide_eq_false (fun x => h ⟨x.1, x.2.1⟩)]; rfl
theorem check14_eq (cal : Int) (ls : List S98) (re ba : Int) (k : Nat) (hk : 10 < k) : contract_Check.f k cal ls re ba = some (if goodP cal ls re ba then 0 else 2) := by
  unfold contract_Check.f
  have hj1 : ∀ b, contract_Check.j0 k false b ls re ba = some 2 := fun b => by
    obtain ⟨k, rfl⟩ : ∃ m, k = m + 1 + 1 := ⟨k - 2, by omega⟩
    simp only [contract_Check.j0, contract_Check.j1]
    rfl
  rw [cwithin_eq, cwithin_eq]
  simp only [Option.bind_some, decide_eq_true_eq]
  by_cases h1 : 0 ≤ cal ∧ cal ≤ 7
  · rw [if_pos h1]
    by_cases h2 : 1 ≤ (ls.length : Int) ∧ (ls.length : Int) ≤ 6
    · rw [decide_eq_true h2]
      obtain ⟨k, rfl⟩ : ∃ m, k = m + 1 + 1 := ⟨k - 2, by omega⟩
      have hl := check_l0 ls (by omega) ls.length k 0 (by omega) (by omega)
      rw [List.drop_zero, Int.natCast_zero] at hl
      simp only [contract_Check.j0, contract_Check.j1, cwithin_eq, Option.bind_some, decide_eq_true_eq, if_true]
      by_cases h3 : 1 ≤ re ∧ re ≤ 8
      · rw [if_pos h3]
        by_cases h4 : 1 ≤ ba ∧ ba ≤ 1048576
        · simp only [decide_eq_true h4, Bool.not_true, Bool.false_eq_true, if_false]
          rw [hl]
          have : goodP cal ls re ba = ls.all levB := by unfold goodP; rw [decide_eq_true ⟨h1.1, h1.2, h2.1, h2.2, h3.1, h3.2, h4.1, h4.2⟩, Bool.true_and]
          rw [this]
        · have : goodP cal ls re ba = false := by unfold goodP; rw [decide_eq_false (fun x => h4 ⟨x.2.2.2.2.2.2.1, x.2.2.2.2.2.2.2⟩), Bool.false_and]
          simp only [decide_eq_false h4, this, Bool.not_false, if_true, Bool.false_eq_true, if_false]
      · have : goodP cal ls re ba = false := by unfold goodP; rw [decide_eq_false (fun x => h3 ⟨x.2.2.2.2.1, x.2.2.2.2.2.1⟩), Bool.false_and]
        rw [if_neg h3, this]
        rfl
    · have : goodP cal ls re ba = false := by unfold goodP; rw [decide_eq_false (fun x => h2 ⟨x.2.2.1, x.2.2.2.1⟩), Bool.false_and]
      rw [decide_eq_false h2, hj1, this]
      rfl
  · have : goodP cal ls re ba = false := by unfold goodP; rw [decide_eq_false (fun x => h1 ⟨x.1, x.2.1⟩), Bool.false_and]
    rw [if_neg h1, hj1, this]
    rfl
theorem good_l0 (l : List S98) (x y z : Int) (hl : l.length ≤ 1000000) : ∀ (d k i : Nat), i + d = l.length → d < k → curfewref14_Good.l0 k (i : Int) x l y z = some (((l.drop i).all levB)) := by
  intro d
  induction d with
  | zero =>
    intro k i hi hk
    obtain ⟨k, rfl⟩ : ∃ m, k = m + 1 := ⟨k - 1, by omega⟩
    rw [List.drop_eq_nil_of_le (by omega)]
    simp only [curfewref14_Good.l0]
    rw [if_neg (by omega)]
    rfl
  | succ d ih =>
    intro k i hi hk
    obtain ⟨k, rfl⟩ : ∃ m, k = m + 1 := ⟨k - 1, by omega⟩
    have hlt : i < l.length := by omega
    have ih' := ih k (i + 1) (by omega) (by omega)
    rw [show ((i + 1 : Nat) : Int) = (i : Int) + 1 by omega] at ih'
    rw [dropL_at hlt, List.all_cons]
    simp only [curfewref14_Good.l0]
    rw [if_pos (by omega), if_pos (by omega), wrap_id (x := (i : Int) + 1) (by omega) (by omega), ih']
    by_cases h1 : (rd_T98 l i).f0 < 1
    · rw [if_pos h1, show levB (rd_T98 l i) = false from decide_eq_false (by omega), Bool.false_and]
    · rw [if_neg h1]
      by_cases h2 : (rd_T98 l i).f0 > 1125899906842624
      · rw [if_pos h2, show levB (rd_T98 l i) = false from decide_eq_false (by omega), Bool.false_and]
      · rw [if_neg h2]
        by_cases h3 : (rd_T98 l i).f1 < 0
        · rw [if_pos h3, show levB (rd_T98 l i) = false from decide_eq_false (by omega), Bool.false_and]
        · rw [if_neg h3]
          by_cases h4 : (rd_T98 l i).f1 > 7
          · rw [if_pos h4, show levB (rd_T98 l i) = false from decide_eq_false (by omega), Bool.false_and]
          · rw [if_neg h4, show levB (rd_T98 l i) = true from decide_eq_true (by omega), Bool.true_and]
theorem good14_eq (cal : Int) (ls : List S98) (re ba : Int) (k : Nat) (hk : 10 < k) : curfewref14_Good.f k cal ls re ba = some (goodP cal ls re ba) := by
  obtain ⟨k, rfl⟩ : ∃ m, k = m + 1 := ⟨k - 1, by omega⟩
  unfold curfewref14_Good.f
  simp only [curfewref14_Good.j0, if_true]
  by_cases h1 : cal < 0
  · rw [if_pos h1]; unfold goodP; rw [decide_eq_false (by omega), Bool.false_and]
  rw [if_neg h1]
  by_cases h2 : cal > 7
  · rw [if_pos h2]; unfold goodP; rw [decide_eq_false (by omega), Bool.false_and]
  rw [if_neg h2]
  by_cases h3 : (ls.length : Int) < 1
  · rw [if_pos h3]; unfold goodP; rw [decide_eq_false (by omega), Bool.false_and]
  rw [if_neg h3]
  by_cases h4 : (ls.length : Int) > 6
  · rw [if_pos h4]; unfold goodP; rw [decide_eq_false (by omega), Bool.false_and]
  rw [if_neg h4]
  by_cases h5 : re < 1
  · rw [if_pos h5]; unfold goodP; rw [decide_eq_false (by omega), Bool.false_and]
  rw [if_neg h5]
  by_cases h6 : re > 8
  · rw [if_pos h6]; unfold goodP; rw [decide_eq_false (by omega), Bool.false_and]
  rw [if_neg h6]
  by_cases h7 : ba < 1
  · rw [if_pos h7]; unfold goodP; rw [decide_eq_false (by omega), Bool.false_and]
  rw [if_neg h7]
  by_cases h8 : ba > 1048576
  · rw [decide_eq_true h8, if_pos rfl]; unfold goodP; rw [decide_eq_false (by omega), Bool.false_and]
  rw [decide_eq_false h8, if_neg (by simp)]
  have hl := good_l0 ls cal re ba (by omega) ls.length k 0 (by omega) (by omega)
  rw [List.drop_zero, Int.natCast_zero] at hl
  rw [hl]
  unfold goodP
  rw [decide_eq_true (by omega), Bool.true_and]
variable {A1 : Option Addr} {c1 : Nat} {cal re ba : Int} {ls : List S98}
theorem check14_any (w : World) (h1 : Kd.C k98 w A1 ls.length ls ∧ ls.length ≤ c1) :
    Calls Try.prog 60 #[.agg #[.int .i64 cal, .slice A1 ls.length c1, .int .i64 re, .int .i64 ba]] w fun e w' => e = .returned (.int .i64 (if goodP cal ls re ba then 0 else 2)) ∧ Below w.heap.size w w' :=
  contract_Check.calls 40 cal A1 c1 ls re ba _ w h1.1 h1.2 (check14_eq cal ls re ba 40 (by omega))
theorem good14_any (w : World) (h1 : Kd.C k98 w A1 ls.length ls ∧ ls.length ≤ c1) :
    Calls Try.prog 21 #[.agg #[.int .i64 cal, .slice A1 ls.length c1, .int .i64 re, .int .i64 ba]] w fun e w' => e = .returned (.bool (goodP cal ls re ba)) ∧ Below w.heap.size w w' :=
  curfewref14_Good.calls 40 cal A1 c1 ls re ba _ w h1.1 h1.2 (good14_eq cal ls re ba 40 (by omega))
end Go.Proofs.Ytepldlnmeenlbaa.Own
namespace Go.Proofs.Ytepldlnmeenlbaa.Own
open Go.RowKit Go.Proofs Go.Proofs.YtepldlnmeenlbaaW.PrintWords Go.Proofs.YtepldlnmeenlbaaW.PrintLast Go.Proofs.YtepldlnmeenlbaaW.PrintMore Go.Proofs.Ytepldlnmeenlbaa.Base
variable {w w' : World} {n kb ab pb cb : Nat} {off : Int} {week closed : List S143}
theorem dueP_zero {a B : Int} (h : (dueP off week closed a B).2 ≠ 0) : (dueP off week closed a B).1 = 0 := by
  unfold dueP at h ⊢
  split
  · rfl
  · rename_i h1
    rw [if_neg h1] at h
    split
    · rename_i h2; rw [if_pos h2] at h; exact absurd rfl h
    · rename_i h2
      rw [if_neg h2] at h
      split
      · rfl
      · rename_i h3
        rw [if_neg h3] at h
        cases hd : dueL off week B (freeL closed a 1125899906842624) with
        | none => rfl
        | some d => rw [hd] at h; exact absurd rfl h
def firstP (off : Int) (week closed : List S143) (cal : Int) (ls : List S98) (re ba now : Int) : Int × Int × Int × Int × Int :=
  if goodP cal ls re ba = true then atS off week closed 0 (rd_T98 ls 0).f0 now else (0, 0, 0, 0, 2)
def nextP (off : Int) (week closed : List S143) (cal : Int) (ls : List S98) (re ba lv now : Int) : Int × Int × Int × Int × Int :=
  if goodP cal ls re ba = true ∧ 0 ≤ lv ∧ lv < (ls.length : Int) then if lv = (ls.length : Int) - 1 then (0, 0, 0, 0, 0) else atS off week closed (lv + 1) (rd_T98 ls (lv + 1)).f0 now else (0, 0, 0, 0, 2)
def moreP (off : Int) (week closed : List S143) (cal : Int) (ls : List S98) (re ba lv now : Int) : Bool :=
  decide ((nextP off week closed cal ls re ba lv now).2.2.2.2 = 0) && decide (lv ≠ (ls.length : Int) - 1)
def standP (off : Int) (week closed : List S143) (lv fr l du now : Int) : Int × Int × Int × Int × Int :=
  if du = 0 then (0, 0, 0, 0, 33) else if du ≤ now then (0, 0, 0, 0, 34) else if (restR off week closed fr l now).2 = 0 then (lv, now, (restR off week closed fr l now).1, 0, 0) else (0, 0, 0, 0, (restR off week closed fr l now).2)
def goP (off : Int) (week closed : List S143) (lv l du now : Int) : Int × Int × Int × Int × Int :=
  if du ≠ 0 then (0, 0, 0, 0, 33) else if l < 1 then (0, 0, 0, 0, 2) else atS off week closed lv l now
end Go.Proofs.Ytepldlnmeenlbaa.Own
namespace Go.Proofs.Ytepldlnmeenlbaa.Own
open Go.RowKit Go.Proofs Go.Proofs.YtepldlnmeenlbaaW.PrintWords Go.Proofs.YtepldlnmeenlbaaW.PrintLast Go.Proofs.YtepldlnmeenlbaaW.PrintMore Go.Proofs.Ytepldlnmeenlbaa.Base
variable {w w' : World} {n kb ab pb cb : Nat} {off : Int} {week closed : List S143}
theorem stepat_any (lv fr l du now a b c d e : Int) (w : World) (h : ClkAt w n kb ab pb cb off week closed) (hn : n ≤ w.heap.size) (hl : l ≤ 9223372036854775807) (hd : atS off week closed lv l now = (a, b, c, d, e)) :
    Calls Try.prog 94 #[.agg #[.int .i64 lv, .int .i64 fr, .int .i64 l, .int .i64 du], .pointer (some ⟨kb, 0, none⟩), .int .i64 now] w fun r w' => r = .returned (.tuple #[.agg #[.int .i64 a, .int .i64 b, .int .i64 c, .int .i64 d], .int .i64 e]) ∧ ClkAt w' n kb ab pb cb off week closed ∧ Upd cb w w' := by
  unfold atS at hd
  by_cases h0 : (dueP off week closed now l).2 = 0
  · rw [if_pos h0] at hd
    cases hd
    exact at_ok lv fr l du now _ w h hn hl (Prod.ext rfl h0)
  · rw [if_neg h0] at hd
    cases hd
    exact at_no lv fr l du now _ w h hn hl (Prod.ext (dueP_zero h0) rfl) h0
theorem rest2 (hk : CalOk off week closed) (a u b : Int) (w : World) (h : ClkAt w n kb ab pb cb off week closed) (hn : n ≤ w.heap.size) (hu : u ≤ 9223372036854775807) :
    Calls Try.prog 97 #[.pointer (some ⟨kb, 0, none⟩), .int .i64 a, .int .i64 u, .int .i64 b] w fun e w' => e = .returned (.tuple #[.int .i64 (restR off week closed a u b).1, .int .i64 (restR off week closed a u b).2]) ∧ ClkAt w' n kb ab pb cb off week closed ∧ Upd cb w w' := by
  unfold restR
  by_cases hu0 : u < 0
  · rw [if_pos hu0]; exact (rest_neg a u b w h hu0).mono fun e w' ⟨he, hb⟩ => by subst hb; exact ⟨he, h, Upd.refl _ _⟩
  · rw [if_neg hu0]
    by_cases hx : 0 ≤ a ∧ a ≤ b ∧ b ≤ 1125899906842624
    · rw [if_pos hx]; exact rest_any a u b w h hn hx.1 hx.2.1 hx.2.2 (by omega) hu (elap_nonneg hk.week hk.closed hk.lo hk.hi hx.1 hx.2.1 hx.2.2)
    · rw [if_neg hx]; exact (rest_arg a u b w h (by omega) hx).mono fun e w' ⟨he, hb⟩ => ⟨he, h.below hb, Upd.of_below hb⟩
theorem put4 {w W : World} {b : Nat} {x0 x1 x2 x3 : Value} (E : W.heap[b]? = some (.cells #[x0, x1, x2, x3] 108 (0, 0))) (C : ClkAt W n kb ab pb cb off week closed) (U : Upd cb w W) (hge : w.heap.size ≤ b) (v0 v1 v2 v3 : Value) :
    ClkAt ((((W.setCell ⟨b, 0, none⟩ v0).setCell ⟨b, 1, none⟩ v1).setCell ⟨b, 2, none⟩ v2).setCell ⟨b, 3, none⟩ v3) n kb ab pb cb off week closed ∧ Upd cb w ((((W.setCell ⟨b, 0, none⟩ v0).setCell ⟨b, 1, none⟩ v1).setCell ⟨b, 2, none⟩ v2).setCell ⟨b, 3, none⟩ v3) ∧
      ((((W.setCell ⟨b, 0, none⟩ v0).setCell ⟨b, 1, none⟩ v1).setCell ⟨b, 2, none⟩ v2).setCell ⟨b, 3, none⟩ v3).heap[b]? = some (.cells #[v0, v1, v2, v3] 108 (0, 0)) := by
  have F : FarT 108 := ⟨by decide, by decide, by decide, by decide, by decide, by decide⟩
  have E2 := blk_put E 0 v0 rfl
  have S2 := step_set C U E F hge 0 v0
  have E3 := blk_put E2 1 v1 rfl
  have S3 := step_set S2.1 S2.2 E2 F hge 1 v1
  have E4 := blk_put E3 2 v2 rfl
  have S4 := step_set S3.1 S3.2 E3 F hge 2 v2
  have E5 := blk_put E4 3 v3 rfl
  have S5 := step_set S4.1 S4.2 E4 F hge 3 v3
  exact ⟨S5.1, S5.2, E5⟩
set_option maxHeartbeats 4000000 in
set_option maxRecDepth 100000 in
theorem stand_state (lv fr l du now : Int) (w : World) (h : ClkAt w n kb ab pb cb off week closed) (hn : n ≤ w.heap.size) (hx : du = 0) :
    Calls Try.prog 62 #[.pointer (some ⟨kb, 0, none⟩), .agg #[.int .i64 lv, .int .i64 fr, .int .i64 l, .int .i64 du], .int .i64 now] w fun r w' => r = .returned (.tuple #[.agg #[.int .i64 0, .int .i64 0, .int .i64 0, .int .i64 0], .int .i64 33]) ∧ ClkAt w' n kb ab pb cb off week closed ∧ Upd cb w w' := by
  have hcb := h.lt
  have hnot : ∀ (x : Bool) (w : World), (Op.unary .not (.bool x)).run Try.prog w = .ok (.bool (!x)) w := fun _ _ => rfl
  have hmf : ∀ (fn : Fn) (first cap : Array Value) (w : World), (Instr.makeFunc fn first cap).run Try.prog w = .ok (.func fn first cap) w := fun _ _ _ _ => rfl
  have C0 : Aside0 (((w.alloc (.cells #[.int .i64 lv, .int .i64 fr, .int .i64 l, .int .i64 du] 108)).alloc (.cells #[.int .i64 0, .int .i64 0, .int .i64 0, .int .i64 0] 108)).heap[w.heap.size]? = some (.cells #[.int .i64 lv, .int .i64 fr, .int .i64 l, .int .i64 du] 108 (0, 0))) := ⟨blk_alloc (blk_new w _) _⟩
  have C1 : Aside0 (((w.alloc (.cells #[.int .i64 lv, .int .i64 fr, .int .i64 l, .int .i64 du] 108)).alloc (.cells #[.int .i64 0, .int .i64 0, .int .i64 0, .int .i64 0] 108)).heap[w.heap.size + 1]? = some (.cells #[.int .i64 0, .int .i64 0, .int .i64 0, .int .i64 0] 108 (0, 0))) := ⟨by simpa using blk_new (w.alloc (.cells #[.int .i64 lv, .int .i64 fr, .int .i64 l, .int .i64 du] 108)) (.cells #[.int .i64 0, .int .i64 0, .int .i64 0, .int .i64 0] 108)⟩
  have HB := below_alloc (below_alloc (Below.refl w.heap.size w) (.cells #[.int .i64 lv, .int .i64 fr, .int .i64 l, .int .i64 du] 108)) (.cells #[.int .i64 0, .int .i64 0, .int .i64 0, .int .i64 0] 108)
  have HC := Aside0.mk (h.below HB)
  have HU := Aside0.mk (Upd.of_below (b := cb) HB)
  have HN := Aside0.mk (Nat.le_trans hn HB.size)
  clear h HB
  have hd : (du != 0) = false := by simp [hx]
  clear hx
  go_enter Try.func62, Try.ntmps62
  go_wp2_with fail
  generalize ((w.alloc (.cells #[.int .i64 lv, .int .i64 fr, .int .i64 l, .int .i64 du] 108)).alloc (.cells #[.int .i64 0, .int .i64 0, .int .i64 0, .int .i64 0] 108)) = w2 at C0 C1 HC HU HN ⊢
  have c0 : w2.cell? ⟨w.heap.size, 0, none⟩ = some (.int .i64 lv) := (blk_cell C0.out 0).trans rfl
  have c1 : w2.cell? ⟨w.heap.size, 1, none⟩ = some (.int .i64 fr) := (blk_cell C0.out 1).trans rfl
  have c2 : w2.cell? ⟨w.heap.size, 2, none⟩ = some (.int .i64 l) := (blk_cell C0.out 2).trans rfl
  have c3 : w2.cell? ⟨w.heap.size, 3, none⟩ = some (.int .i64 du) := (blk_cell C0.out 3).trans rfl
  have r0 : w2.cell? ⟨w.heap.size + 1, 0, none⟩ = some (.int .i64 0) := (blk_cell C1.out 0).trans rfl
  have r1 : w2.cell? ⟨w.heap.size + 1, 1, none⟩ = some (.int .i64 0) := (blk_cell C1.out 1).trans rfl
  have r2 : w2.cell? ⟨w.heap.size + 1, 2, none⟩ = some (.int .i64 0) := (blk_cell C1.out 2).trans rfl
  have r3 : w2.cell? ⟨w.heap.size + 1, 3, none⟩ = some (.int .i64 0) := (blk_cell C1.out 3).trans rfl
  have g0 : w2.frozen? ⟨w.heap.size + 1, 0, none⟩ = false := blk_frozen C1.out 0
  have g1 : w2.frozen? ⟨w.heap.size + 1, 1, none⟩ = false := blk_frozen C1.out 1
  have g2 : w2.frozen? ⟨w.heap.size + 1, 2, none⟩ = false := blk_frozen C1.out 2
  have g3 : w2.frozen? ⟨w.heap.size + 1, 3, none⟩ = false := blk_frozen C1.out 3
  go_wp2_with (go_at_call 95; refine (chain_Step_going.calls lv fr l du _ w2 rfl).mono ?_; rintro e w3 ⟨rfl, hb⟩; have HC3 := Aside0.mk (HC.out.below hb); have HU3 := Aside0.mk (HU.out.then hb); have HN3 := Aside0.mk (Nat.le_trans HN.out hb.size); have n0 := Aside0.mk (blk_below C0.out hb); have n1 := Aside0.mk (blk_below C1.out hb); clear hb C0 C1 c0 c1 c2 c3 r0 r1 r2 r3 g0 g1 g2 g3; have C0 := n0; have C1 := n1; clear n0 n1; have c0 : w3.cell? ⟨w.heap.size, 0, none⟩ = some (.int .i64 lv) := (blk_cell C0.out 0).trans rfl; have c1 : w3.cell? ⟨w.heap.size, 1, none⟩ = some (.int .i64 fr) := (blk_cell C0.out 1).trans rfl; have c2 : w3.cell? ⟨w.heap.size, 2, none⟩ = some (.int .i64 l) := (blk_cell C0.out 2).trans rfl; have c3 : w3.cell? ⟨w.heap.size, 3, none⟩ = some (.int .i64 du) := (blk_cell C0.out 3).trans rfl; have r0 : w3.cell? ⟨w.heap.size + 1, 0, none⟩ = some (.int .i64 0) := (blk_cell C1.out 0).trans rfl; have r1 : w3.cell? ⟨w.heap.size + 1, 1, none⟩ = some (.int .i64 0) := (blk_cell C1.out 1).trans rfl; have r2 : w3.cell? ⟨w.heap.size + 1, 2, none⟩ = some (.int .i64 0) := (blk_cell C1.out 2).trans rfl; have r3 : w3.cell? ⟨w.heap.size + 1, 3, none⟩ = some (.int .i64 0) := (blk_cell C1.out 3).trans rfl; have g0 : w3.frozen? ⟨w.heap.size + 1, 0, none⟩ = false := blk_frozen C1.out 0; have g1 : w3.frozen? ⟨w.heap.size + 1, 1, none⟩ = false := blk_frozen C1.out 1; have g2 : w3.frozen? ⟨w.heap.size + 1, 2, none⟩ = false := blk_frozen C1.out 2; have g3 : w3.frozen? ⟨w.heap.size + 1, 3, none⟩ = false := blk_frozen C1.out 3)
  obtain ⟨C9, U9, E9⟩ := put4 C1.out HC3.out HU3.out (by omega) (.int .i64 0) (.int .i64 0) (.int .i64 0) (.int .i64 0)
  have k0 := (blk_cell E9 0).trans (rfl : _ = some (Value.int .i64 0))
  have k1 := (blk_cell E9 1).trans (rfl : _ = some (Value.int .i64 0))
  have k2 := (blk_cell E9 2).trans (rfl : _ = some (Value.int .i64 0))
  have k3 := (blk_cell E9 3).trans (rfl : _ = some (Value.int .i64 0))
  refine bodyPost_ret (v := .tuple #[.agg #[.int .i64 0, .int .i64 0, .int .i64 0, .int .i64 0], .int .i64 33]) (by simp [results, Try.results62, go_sem, k0, k1, k2, k3]) rfl ⟨rfl, C9, U9⟩
set_option maxHeartbeats 4000000 in
set_option maxRecDepth 100000 in
theorem stand_old (lv fr l du now : Int) (w : World) (h : ClkAt w n kb ab pb cb off week closed) (hn : n ≤ w.heap.size) (hx : du ≠ 0) (hy : du ≤ now) :
    Calls Try.prog 62 #[.pointer (some ⟨kb, 0, none⟩), .agg #[.int .i64 lv, .int .i64 fr, .int .i64 l, .int .i64 du], .int .i64 now] w fun r w' => r = .returned (.tuple #[.agg #[.int .i64 0, .int .i64 0, .int .i64 0, .int .i64 0], .int .i64 34]) ∧ ClkAt w' n kb ab pb cb off week closed ∧ Upd cb w w' := by
  have hcb := h.lt
  have hnot : ∀ (x : Bool) (w : World), (Op.unary .not (.bool x)).run Try.prog w = .ok (.bool (!x)) w := fun _ _ => rfl
  have hmf : ∀ (fn : Fn) (first cap : Array Value) (w : World), (Instr.makeFunc fn first cap).run Try.prog w = .ok (.func fn first cap) w := fun _ _ _ _ => rfl
  have C0 : Aside0 (((w.alloc (.cells #[.int .i64 lv, .int .i64 fr, .int .i64 l, .int .i64 du] 108)).alloc (.cells #[.int .i64 0, .int .i64 0, .int .i64 0, .int .i64 0] 108)).heap[w.heap.size]? = some (.cells #[.int .i64 lv, .int .i64 fr, .int .i64 l, .int .i64 du] 108 (0, 0))) := ⟨blk_alloc (blk_new w _) _⟩
  have C1 : Aside0 (((w.alloc (.cells #[.int .i64 lv, .int .i64 fr, .int .i64 l, .int .i64 du] 108)).alloc (.cells #[.int .i64 0, .int .i64 0, .int .i64 0, .int .i64 0] 108)).heap[w.heap.size + 1]? = some (.cells #[.int .i64 0, .int .i64 0, .int .i64 0, .int .i64 0] 108 (0, 0))) := ⟨by simpa using blk_new (w.alloc (.cells #[.int .i64 lv, .int .i64 fr, .int .i64 l, .int .i64 du] 108)) (.cells #[.int .i64 0, .int .i64 0, .int .i64 0, .int .i64 0] 108)⟩
  have HB := below_alloc (below_alloc (Below.refl w.heap.size w) (.cells #[.int .i64 lv, .int .i64 fr, .int .i64 l, .int .i64 du] 108)) (.cells #[.int .i64 0, .int .i64 0, .int .i64 0, .int .i64 0] 108)
  have HC := Aside0.mk (h.below HB)
  have HU := Aside0.mk (Upd.of_below (b := cb) HB)
  have HN := Aside0.mk (Nat.le_trans hn HB.size)
  clear h HB
  have hd : (du != 0) = true := by simp [hx]
  clear hx
  go_enter Try.func62, Try.ntmps62
  go_wp2_with fail
  generalize ((w.alloc (.cells #[.int .i64 lv, .int .i64 fr, .int .i64 l, .int .i64 du] 108)).alloc (.cells #[.int .i64 0, .int .i64 0, .int .i64 0, .int .i64 0] 108)) = w2 at C0 C1 HC HU HN ⊢
  have c0 : w2.cell? ⟨w.heap.size, 0, none⟩ = some (.int .i64 lv) := (blk_cell C0.out 0).trans rfl
  have c1 : w2.cell? ⟨w.heap.size, 1, none⟩ = some (.int .i64 fr) := (blk_cell C0.out 1).trans rfl
  have c2 : w2.cell? ⟨w.heap.size, 2, none⟩ = some (.int .i64 l) := (blk_cell C0.out 2).trans rfl
  have c3 : w2.cell? ⟨w.heap.size, 3, none⟩ = some (.int .i64 du) := (blk_cell C0.out 3).trans rfl
  have r0 : w2.cell? ⟨w.heap.size + 1, 0, none⟩ = some (.int .i64 0) := (blk_cell C1.out 0).trans rfl
  have r1 : w2.cell? ⟨w.heap.size + 1, 1, none⟩ = some (.int .i64 0) := (blk_cell C1.out 1).trans rfl
  have r2 : w2.cell? ⟨w.heap.size + 1, 2, none⟩ = some (.int .i64 0) := (blk_cell C1.out 2).trans rfl
  have r3 : w2.cell? ⟨w.heap.size + 1, 3, none⟩ = some (.int .i64 0) := (blk_cell C1.out 3).trans rfl
  have g0 : w2.frozen? ⟨w.heap.size + 1, 0, none⟩ = false := blk_frozen C1.out 0
  have g1 : w2.frozen? ⟨w.heap.size + 1, 1, none⟩ = false := blk_frozen C1.out 1
  have g2 : w2.frozen? ⟨w.heap.size + 1, 2, none⟩ = false := blk_frozen C1.out 2
  have g3 : w2.frozen? ⟨w.heap.size + 1, 3, none⟩ = false := blk_frozen C1.out 3
  go_wp2_with (go_at_call 95; refine (chain_Step_going.calls lv fr l du _ w2 rfl).mono ?_; rintro e w3 ⟨rfl, hb⟩; have HC3 := Aside0.mk (HC.out.below hb); have HU3 := Aside0.mk (HU.out.then hb); have HN3 := Aside0.mk (Nat.le_trans HN.out hb.size); have n0 := Aside0.mk (blk_below C0.out hb); have n1 := Aside0.mk (blk_below C1.out hb); clear hb C0 C1 c0 c1 c2 c3 r0 r1 r2 r3 g0 g1 g2 g3; have C0 := n0; have C1 := n1; clear n0 n1; have c0 : w3.cell? ⟨w.heap.size, 0, none⟩ = some (.int .i64 lv) := (blk_cell C0.out 0).trans rfl; have c1 : w3.cell? ⟨w.heap.size, 1, none⟩ = some (.int .i64 fr) := (blk_cell C0.out 1).trans rfl; have c2 : w3.cell? ⟨w.heap.size, 2, none⟩ = some (.int .i64 l) := (blk_cell C0.out 2).trans rfl; have c3 : w3.cell? ⟨w.heap.size, 3, none⟩ = some (.int .i64 du) := (blk_cell C0.out 3).trans rfl; have r0 : w3.cell? ⟨w.heap.size + 1, 0, none⟩ = some (.int .i64 0) := (blk_cell C1.out 0).trans rfl; have r1 : w3.cell? ⟨w.heap.size + 1, 1, none⟩ = some (.int .i64 0) := (blk_cell C1.out 1).trans rfl; have r2 : w3.cell? ⟨w.heap.size + 1, 2, none⟩ = some (.int .i64 0) := (blk_cell C1.out 2).trans rfl; have r3 : w3.cell? ⟨w.heap.size + 1, 3, none⟩ = some (.int .i64 0) := (blk_cell C1.out 3).trans rfl; have g0 : w3.frozen? ⟨w.heap.size + 1, 0, none⟩ = false := blk_frozen C1.out 0; have g1 : w3.frozen? ⟨w.heap.size + 1, 1, none⟩ = false := blk_frozen C1.out 1; have g2 : w3.frozen? ⟨w.heap.size + 1, 2, none⟩ = false := blk_frozen C1.out 2; have g3 : w3.frozen? ⟨w.heap.size + 1, 3, none⟩ = false := blk_frozen C1.out 3)
  obtain ⟨C9, U9, E9⟩ := put4 C1.out HC3.out HU3.out (by omega) (.int .i64 0) (.int .i64 0) (.int .i64 0) (.int .i64 0)
  have k0 := (blk_cell E9 0).trans (rfl : _ = some (Value.int .i64 0))
  have k1 := (blk_cell E9 1).trans (rfl : _ = some (Value.int .i64 0))
  have k2 := (blk_cell E9 2).trans (rfl : _ = some (Value.int .i64 0))
  have k3 := (blk_cell E9 3).trans (rfl : _ = some (Value.int .i64 0))
  refine bodyPost_ret (v := .tuple #[.agg #[.int .i64 0, .int .i64 0, .int .i64 0, .int .i64 0], .int .i64 34]) (by simp [results, Try.results62, go_sem, k0, k1, k2, k3]) rfl ⟨rfl, C9, U9⟩
set_option maxHeartbeats 4000000 in
set_option maxRecDepth 100000 in
theorem stand_no (lv fr l du now : Int) (w : World) (h : ClkAt w n kb ab pb cb off week closed) (hn : n ≤ w.heap.size) (hk : CalOk off week closed) (hl : l ≤ 9223372036854775807) (hx : du ≠ 0) (hy : ¬ du ≤ now) (x e : Int) (hr : restR off week closed fr l now = (x, e)) (he : e ≠ 0) :
    Calls Try.prog 62 #[.pointer (some ⟨kb, 0, none⟩), .agg #[.int .i64 lv, .int .i64 fr, .int .i64 l, .int .i64 du], .int .i64 now] w fun r w' => r = .returned (.tuple #[.agg #[.int .i64 0, .int .i64 0, .int .i64 0, .int .i64 0], .int .i64 e]) ∧ ClkAt w' n kb ab pb cb off week closed ∧ Upd cb w w' := by
  have hcb := h.lt
  have hnot : ∀ (x : Bool) (w : World), (Op.unary .not (.bool x)).run Try.prog w = .ok (.bool (!x)) w := fun _ _ => rfl
  have hmf : ∀ (fn : Fn) (first cap : Array Value) (w : World), (Instr.makeFunc fn first cap).run Try.prog w = .ok (.func fn first cap) w := fun _ _ _ _ => rfl
  have C0 : Aside0 (((w.alloc (.cells #[.int .i64 lv, .int .i64 fr, .int .i64 l, .int .i64 du] 108)).alloc (.cells #[.int .i64 0, .int .i64 0, .int .i64 0, .int .i64 0] 108)).heap[w.heap.size]? = some (.cells #[.int .i64 lv, .int .i64 fr, .int .i64 l, .int .i64 du] 108 (0, 0))) := ⟨blk_alloc (blk_new w _) _⟩
  have C1 : Aside0 (((w.alloc (.cells #[.int .i64 lv, .int .i64 fr, .int .i64 l, .int .i64 du] 108)).alloc (.cells #[.int .i64 0, .int .i64 0, .int .i64 0, .int .i64 0] 108)).heap[w.heap.size + 1]? = some (.cells #[.int .i64 0, .int .i64 0, .int .i64 0, .int .i64 0] 108 (0, 0))) := ⟨by simpa using blk_new (w.alloc (.cells #[.int .i64 lv, .int .i64 fr, .int .i64 l, .int .i64 du] 108)) (.cells #[.int .i64 0, .int .i64 0, .int .i64 0, .int .i64 0] 108)⟩
  have HB := below_alloc (below_alloc (Below.refl w.heap.size w) (.cells #[.int .i64 lv, .int .i64 fr, .int .i64 l, .int .i64 du] 108)) (.cells #[.int .i64 0, .int .i64 0, .int .i64 0, .int .i64 0] 108)
  have HC := Aside0.mk (h.below HB)
  have HU := Aside0.mk (Upd.of_below (b := cb) HB)
  have HN := Aside0.mk (Nat.le_trans hn HB.size)
  clear h HB
  have HK := Aside0.mk hk
  have HR := Aside0.mk hr
  have hd : (du != 0) = true := by simp [hx]
  have he2 : (e != 0) = true := bne_iff_ne.mpr he
  clear hx hr hk he
  go_enter Try.func62, Try.ntmps62
  go_wp2_with fail
  generalize ((w.alloc (.cells #[.int .i64 lv, .int .i64 fr, .int .i64 l, .int .i64 du] 108)).alloc (.cells #[.int .i64 0, .int .i64 0, .int .i64 0, .int .i64 0] 108)) = w2 at C0 C1 HC HU HN ⊢
  have c0 : w2.cell? ⟨w.heap.size, 0, none⟩ = some (.int .i64 lv) := (blk_cell C0.out 0).trans rfl
  have c1 : w2.cell? ⟨w.heap.size, 1, none⟩ = some (.int .i64 fr) := (blk_cell C0.out 1).trans rfl
  have c2 : w2.cell? ⟨w.heap.size, 2, none⟩ = some (.int .i64 l) := (blk_cell C0.out 2).trans rfl
  have c3 : w2.cell? ⟨w.heap.size, 3, none⟩ = some (.int .i64 du) := (blk_cell C0.out 3).trans rfl
  have r0 : w2.cell? ⟨w.heap.size + 1, 0, none⟩ = some (.int .i64 0) := (blk_cell C1.out 0).trans rfl
  have r1 : w2.cell? ⟨w.heap.size + 1, 1, none⟩ = some (.int .i64 0) := (blk_cell C1.out 1).trans rfl
  have r2 : w2.cell? ⟨w.heap.size + 1, 2, none⟩ = some (.int .i64 0) := (blk_cell C1.out 2).trans rfl
  have r3 : w2.cell? ⟨w.heap.size + 1, 3, none⟩ = some (.int .i64 0) := (blk_cell C1.out 3).trans rfl
  have g0 : w2.frozen? ⟨w.heap.size + 1, 0, none⟩ = false := blk_frozen C1.out 0
  have g1 : w2.frozen? ⟨w.heap.size + 1, 1, none⟩ = false := blk_frozen C1.out 1
  have g2 : w2.frozen? ⟨w.heap.size + 1, 2, none⟩ = false := blk_frozen C1.out 2
  have g3 : w2.frozen? ⟨w.heap.size + 1, 3, none⟩ = false := blk_frozen C1.out 3
  go_wp2_with (first | (go_at_call 95; refine (chain_Step_going.calls lv fr l du _ w2 rfl).mono ?_; rintro e w3 ⟨rfl, hb⟩; have HC3 := Aside0.mk (HC.out.below hb); have HU3 := Aside0.mk (HU.out.then hb); have HN3 := Aside0.mk (Nat.le_trans HN.out hb.size); have n0 := Aside0.mk (blk_below C0.out hb); have n1 := Aside0.mk (blk_below C1.out hb); clear hb C0 C1 c0 c1 c2 c3 r0 r1 r2 r3 g0 g1 g2 g3; have C0 := n0; have C1 := n1; clear n0 n1; have c0 : w3.cell? ⟨w.heap.size, 0, none⟩ = some (.int .i64 lv) := (blk_cell C0.out 0).trans rfl; have c1 : w3.cell? ⟨w.heap.size, 1, none⟩ = some (.int .i64 fr) := (blk_cell C0.out 1).trans rfl; have c2 : w3.cell? ⟨w.heap.size, 2, none⟩ = some (.int .i64 l) := (blk_cell C0.out 2).trans rfl; have c3 : w3.cell? ⟨w.heap.size, 3, none⟩ = some (.int .i64 du) := (blk_cell C0.out 3).trans rfl; have r0 : w3.cell? ⟨w.heap.size + 1, 0, none⟩ = some (.int .i64 0) := (blk_cell C1.out 0).trans rfl; have r1 : w3.cell? ⟨w.heap.size + 1, 1, none⟩ = some (.int .i64 0) := (blk_cell C1.out 1).trans rfl; have r2 : w3.cell? ⟨w.heap.size + 1, 2, none⟩ = some (.int .i64 0) := (blk_cell C1.out 2).trans rfl; have r3 : w3.cell? ⟨w.heap.size + 1, 3, none⟩ = some (.int .i64 0) := (blk_cell C1.out 3).trans rfl; have g0 : w3.frozen? ⟨w.heap.size + 1, 0, none⟩ = false := blk_frozen C1.out 0; have g1 : w3.frozen? ⟨w.heap.size + 1, 1, none⟩ = false := blk_frozen C1.out 1; have g2 : w3.frozen? ⟨w.heap.size + 1, 2, none⟩ = false := blk_frozen C1.out 2; have g3 : w3.frozen? ⟨w.heap.size + 1, 3, none⟩ = false := blk_frozen C1.out 3) | (go_at_call 97; refine (rest2 HK.out fr l now w3 HC3.out HN3.out hl).mono ?_; rintro e w4 ⟨rfl, CK, UK⟩; rw [HR.out]; have n0 := Aside0.mk (UK.blk C0.out (by omega)); have n1 := Aside0.mk (UK.blk C1.out (by omega)); have HC4 := Aside0.mk CK; have HU4 := Aside0.mk (HU3.out.trans UK); clear CK UK C0 C1 c0 c1 c2 c3 r0 r1 r2 r3 g0 g1 g2 g3; have C0 := n0; have C1 := n1; clear n0 n1; have c0 : w4.cell? ⟨w.heap.size, 0, none⟩ = some (.int .i64 lv) := (blk_cell C0.out 0).trans rfl; have c1 : w4.cell? ⟨w.heap.size, 1, none⟩ = some (.int .i64 fr) := (blk_cell C0.out 1).trans rfl; have c2 : w4.cell? ⟨w.heap.size, 2, none⟩ = some (.int .i64 l) := (blk_cell C0.out 2).trans rfl; have c3 : w4.cell? ⟨w.heap.size, 3, none⟩ = some (.int .i64 du) := (blk_cell C0.out 3).trans rfl; have r0 : w4.cell? ⟨w.heap.size + 1, 0, none⟩ = some (.int .i64 0) := (blk_cell C1.out 0).trans rfl; have r1 : w4.cell? ⟨w.heap.size + 1, 1, none⟩ = some (.int .i64 0) := (blk_cell C1.out 1).trans rfl; have r2 : w4.cell? ⟨w.heap.size + 1, 2, none⟩ = some (.int .i64 0) := (blk_cell C1.out 2).trans rfl; have r3 : w4.cell? ⟨w.heap.size + 1, 3, none⟩ = some (.int .i64 0) := (blk_cell C1.out 3).trans rfl; have g0 : w4.frozen? ⟨w.heap.size + 1, 0, none⟩ = false := blk_frozen C1.out 0; have g1 : w4.frozen? ⟨w.heap.size + 1, 1, none⟩ = false := blk_frozen C1.out 1; have g2 : w4.frozen? ⟨w.heap.size + 1, 2, none⟩ = false := blk_frozen C1.out 2; have g3 : w4.frozen? ⟨w.heap.size + 1, 3, none⟩ = false := blk_frozen C1.out 3))
  obtain ⟨C9, U9, E9⟩ := put4 C1.out HC4.out HU4.out (by omega) (.int .i64 0) (.int .i64 0) (.int .i64 0) (.int .i64 0)
  have k0 := (blk_cell E9 0).trans (rfl : _ = some (Value.int .i64 0))
  have k1 := (blk_cell E9 1).trans (rfl : _ = some (Value.int .i64 0))
  have k2 := (blk_cell E9 2).trans (rfl : _ = some (Value.int .i64 0))
  have k3 := (blk_cell E9 3).trans (rfl : _ = some (Value.int .i64 0))
  refine bodyPost_ret (v := .tuple #[.agg #[.int .i64 0, .int .i64 0, .int .i64 0, .int .i64 0], .int .i64 e]) (by simp [results, Try.results62, go_sem, k0, k1, k2, k3]) rfl ⟨rfl, C9, U9⟩
set_option maxHeartbeats 4000000 in
set_option maxRecDepth 100000 in
theorem stand_ok (lv fr l du now : Int) (w : World) (h : ClkAt w n kb ab pb cb off week closed) (hn : n ≤ w.heap.size) (hk : CalOk off week closed) (hl : l ≤ 9223372036854775807) (hx : du ≠ 0) (hy : ¬ du ≤ now) (x : Int) (hr : restR off week closed fr l now = (x, 0)) :
    Calls Try.prog 62 #[.pointer (some ⟨kb, 0, none⟩), .agg #[.int .i64 lv, .int .i64 fr, .int .i64 l, .int .i64 du], .int .i64 now] w fun r w' => r = .returned (.tuple #[.agg #[.int .i64 lv, .int .i64 now, .int .i64 x, .int .i64 0], .int .i64 0]) ∧ ClkAt w' n kb ab pb cb off week closed ∧ Upd cb w w' := by
  have hcb := h.lt
  have hnot : ∀ (x : Bool) (w : World), (Op.unary .not (.bool x)).run Try.prog w = .ok (.bool (!x)) w := fun _ _ => rfl
  have hmf : ∀ (fn : Fn) (first cap : Array Value) (w : World), (Instr.makeFunc fn first cap).run Try.prog w = .ok (.func fn first cap) w := fun _ _ _ _ => rfl
  have C0 : Aside0 (((w.alloc (.cells #[.int .i64 lv, .int .i64 fr, .int .i64 l, .int .i64 du] 108)).alloc (.cells #[.int .i64 0, .int .i64 0, .int .i64 0, .int .i64 0] 108)).heap[w.heap.size]? = some (.cells #[.int .i64 lv, .int .i64 fr, .int .i64 l, .int .i64 du] 108 (0, 0))) := ⟨blk_alloc (blk_new w _) _⟩
  have C1 : Aside0 (((w.alloc (.cells #[.int .i64 lv, .int .i64 fr, .int .i64 l, .int .i64 du] 108)).alloc (.cells #[.int .i64 0, .int .i64 0, .int .i64 0, .int .i64 0] 108)).heap[w.heap.size + 1]? = some (.cells #[.int .i64 0, .int .i64 0, .int .i64 0, .int .i64 0] 108 (0, 0))) := ⟨by simpa using blk_new (w.alloc (.cells #[.int .i64 lv, .int .i64 fr, .int .i64 l, .int .i64 du] 108)) (.cells #[.int .i64 0, .int .i64 0, .int .i64 0, .int .i64 0] 108)⟩
  have HB := below_alloc (below_alloc (Below.refl w.heap.size w) (.cells #[.int .i64 lv, .int .i64 fr, .int .i64 l, .int .i64 du] 108)) (.cells #[.int .i64 0, .int .i64 0, .int .i64 0, .int .i64 0] 108)
  have HC := Aside0.mk (h.below HB)
  have HU := Aside0.mk (Upd.of_below (b := cb) HB)
  have HN := Aside0.mk (Nat.le_trans hn HB.size)
  clear h HB
  have HK := Aside0.mk hk
  have HR := Aside0.mk hr
  have hd : (du != 0) = true := by simp [hx]
  clear hx hr hk
  go_enter Try.func62, Try.ntmps62
  go_wp2_with fail
  generalize ((w.alloc (.cells #[.int .i64 lv, .int .i64 fr, .int .i64 l, .int .i64 du] 108)).alloc (.cells #[.int .i64 0, .int .i64 0, .int .i64 0, .int .i64 0] 108)) = w2 at C0 C1 HC HU HN ⊢
  have c0 : w2.cell? ⟨w.heap.size, 0, none⟩ = some (.int .i64 lv) := (blk_cell C0.out 0).trans rfl
  have c1 : w2.cell? ⟨w.heap.size, 1, none⟩ = some (.int .i64 fr) := (blk_cell C0.out 1).trans rfl
  have c2 : w2.cell? ⟨w.heap.size, 2, none⟩ = some (.int .i64 l) := (blk_cell C0.out 2).trans rfl
  have c3 : w2.cell? ⟨w.heap.size, 3, none⟩ = some (.int .i64 du) := (blk_cell C0.out 3).trans rfl
  have r0 : w2.cell? ⟨w.heap.size + 1, 0, none⟩ = some (.int .i64 0) := (blk_cell C1.out 0).trans rfl
  have r1 : w2.cell? ⟨w.heap.size + 1, 1, none⟩ = some (.int .i64 0) := (blk_cell C1.out 1).trans rfl
  have r2 : w2.cell? ⟨w.heap.size + 1, 2, none⟩ = some (.int .i64 0) := (blk_cell C1.out 2).trans rfl
  have r3 : w2.cell? ⟨w.heap.size + 1, 3, none⟩ = some (.int .i64 0) := (blk_cell C1.out 3).trans rfl
  have g0 : w2.frozen? ⟨w.heap.size + 1, 0, none⟩ = false := blk_frozen C1.out 0
  have g1 : w2.frozen? ⟨w.heap.size + 1, 1, none⟩ = false := blk_frozen C1.out 1
  have g2 : w2.frozen? ⟨w.heap.size + 1, 2, none⟩ = false := blk_frozen C1.out 2
  have g3 : w2.frozen? ⟨w.heap.size + 1, 3, none⟩ = false := blk_frozen C1.out 3
  go_wp2_with (first | (go_at_call 95; refine (chain_Step_going.calls lv fr l du _ w2 rfl).mono ?_; rintro e w3 ⟨rfl, hb⟩; have HC3 := Aside0.mk (HC.out.below hb); have HU3 := Aside0.mk (HU.out.then hb); have HN3 := Aside0.mk (Nat.le_trans HN.out hb.size); have n0 := Aside0.mk (blk_below C0.out hb); have n1 := Aside0.mk (blk_below C1.out hb); clear hb C0 C1 c0 c1 c2 c3 r0 r1 r2 r3 g0 g1 g2 g3; have C0 := n0; have C1 := n1; clear n0 n1; have c0 : w3.cell? ⟨w.heap.size, 0, none⟩ = some (.int .i64 lv) := (blk_cell C0.out 0).trans rfl; have c1 : w3.cell? ⟨w.heap.size, 1, none⟩ = some (.int .i64 fr) := (blk_cell C0.out 1).trans rfl; have c2 : w3.cell? ⟨w.heap.size, 2, none⟩ = some (.int .i64 l) := (blk_cell C0.out 2).trans rfl; have c3 : w3.cell? ⟨w.heap.size, 3, none⟩ = some (.int .i64 du) := (blk_cell C0.out 3).trans rfl; have r0 : w3.cell? ⟨w.heap.size + 1, 0, none⟩ = some (.int .i64 0) := (blk_cell C1.out 0).trans rfl; have r1 : w3.cell? ⟨w.heap.size + 1, 1, none⟩ = some (.int .i64 0) := (blk_cell C1.out 1).trans rfl; have r2 : w3.cell? ⟨w.heap.size + 1, 2, none⟩ = some (.int .i64 0) := (blk_cell C1.out 2).trans rfl; have r3 : w3.cell? ⟨w.heap.size + 1, 3, none⟩ = some (.int .i64 0) := (blk_cell C1.out 3).trans rfl; have g0 : w3.frozen? ⟨w.heap.size + 1, 0, none⟩ = false := blk_frozen C1.out 0; have g1 : w3.frozen? ⟨w.heap.size + 1, 1, none⟩ = false := blk_frozen C1.out 1; have g2 : w3.frozen? ⟨w.heap.size + 1, 2, none⟩ = false := blk_frozen C1.out 2; have g3 : w3.frozen? ⟨w.heap.size + 1, 3, none⟩ = false := blk_frozen C1.out 3) | (go_at_call 97; refine (rest2 HK.out fr l now w3 HC3.out HN3.out hl).mono ?_; rintro e w4 ⟨rfl, CK, UK⟩; rw [HR.out]; have n0 := Aside0.mk (UK.blk C0.out (by omega)); have n1 := Aside0.mk (UK.blk C1.out (by omega)); have HC4 := Aside0.mk CK; have HU4 := Aside0.mk (HU3.out.trans UK); clear CK UK C0 C1 c0 c1 c2 c3 r0 r1 r2 r3 g0 g1 g2 g3; have C0 := n0; have C1 := n1; clear n0 n1; have c0 : w4.cell? ⟨w.heap.size, 0, none⟩ = some (.int .i64 lv) := (blk_cell C0.out 0).trans rfl; have c1 : w4.cell? ⟨w.heap.size, 1, none⟩ = some (.int .i64 fr) := (blk_cell C0.out 1).trans rfl; have c2 : w4.cell? ⟨w.heap.size, 2, none⟩ = some (.int .i64 l) := (blk_cell C0.out 2).trans rfl; have c3 : w4.cell? ⟨w.heap.size, 3, none⟩ = some (.int .i64 du) := (blk_cell C0.out 3).trans rfl; have r0 : w4.cell? ⟨w.heap.size + 1, 0, none⟩ = some (.int .i64 0) := (blk_cell C1.out 0).trans rfl; have r1 : w4.cell? ⟨w.heap.size + 1, 1, none⟩ = some (.int .i64 0) := (blk_cell C1.out 1).trans rfl; have r2 : w4.cell? ⟨w.heap.size + 1, 2, none⟩ = some (.int .i64 0) := (blk_cell C1.out 2).trans rfl; have r3 : w4.cell? ⟨w.heap.size + 1, 3, none⟩ = some (.int .i64 0) := (blk_cell C1.out 3).trans rfl; have g0 : w4.frozen? ⟨w.heap.size + 1, 0, none⟩ = false := blk_frozen C1.out 0; have g1 : w4.frozen? ⟨w.heap.size + 1, 1, none⟩ = false := blk_frozen C1.out 1; have g2 : w4.frozen? ⟨w.heap.size + 1, 2, none⟩ = false := blk_frozen C1.out 2; have g3 : w4.frozen? ⟨w.heap.size + 1, 3, none⟩ = false := blk_frozen C1.out 3))
  obtain ⟨C9, U9, E9⟩ := put4 C1.out HC4.out HU4.out (by omega) (.int .i64 lv) (.int .i64 now) (.int .i64 x) (.int .i64 0)
  have k0 := (blk_cell E9 0).trans (rfl : _ = some (Value.int .i64 lv))
  have k1 := (blk_cell E9 1).trans (rfl : _ = some (Value.int .i64 now))
  have k2 := (blk_cell E9 2).trans (rfl : _ = some (Value.int .i64 x))
  have k3 := (blk_cell E9 3).trans (rfl : _ = some (Value.int .i64 0))
  refine bodyPost_ret (v := .tuple #[.agg #[.int .i64 lv, .int .i64 now, .int .i64 x, .int .i64 0], .int .i64 0]) (by simp [results, Try.results62, go_sem, k0, k1, k2, k3]) rfl ⟨rfl, C9, U9⟩
set_option maxHeartbeats 4000000 in
set_option maxRecDepth 100000 in
theorem go_state (lv fr l du now : Int) (w : World) (h : ClkAt w n kb ab pb cb off week closed) (hn : n ≤ w.heap.size) (hx : du ≠ 0) :
    Calls Try.prog 58 #[.pointer (some ⟨kb, 0, none⟩), .agg #[.int .i64 lv, .int .i64 fr, .int .i64 l, .int .i64 du], .int .i64 now] w fun r w' => r = .returned (.tuple #[.agg #[.int .i64 0, .int .i64 0, .int .i64 0, .int .i64 0], .int .i64 33]) ∧ ClkAt w' n kb ab pb cb off week closed ∧ Upd cb w w' := by
  have hcb := h.lt
  have hnot : ∀ (x : Bool) (w : World), (Op.unary .not (.bool x)).run Try.prog w = .ok (.bool (!x)) w := fun _ _ => rfl
  have hmf : ∀ (fn : Fn) (first cap : Array Value) (w : World), (Instr.makeFunc fn first cap).run Try.prog w = .ok (.func fn first cap) w := fun _ _ _ _ => rfl
  have C0 : Aside0 (((w.alloc (.cells #[.int .i64 lv, .int .i64 fr, .int .i64 l, .int .i64 du] 108)).alloc (.cells #[.int .i64 0, .int .i64 0, .int .i64 0, .int .i64 0] 108)).heap[w.heap.size]? = some (.cells #[.int .i64 lv, .int .i64 fr, .int .i64 l, .int .i64 du] 108 (0, 0))) := ⟨blk_alloc (blk_new w _) _⟩
  have C1 : Aside0 (((w.alloc (.cells #[.int .i64 lv, .int .i64 fr, .int .i64 l, .int .i64 du] 108)).alloc (.cells #[.int .i64 0, .int .i64 0, .int .i64 0, .int .i64 0] 108)).heap[w.heap.size + 1]? = some (.cells #[.int .i64 0, .int .i64 0, .int .i64 0, .int .i64 0] 108 (0, 0))) := ⟨by simpa using blk_new (w.alloc (.cells #[.int .i64 lv, .int .i64 fr, .int .i64 l, .int .i64 du] 108)) (.cells #[.int .i64 0, .int .i64 0, .int .i64 0, .int .i64 0] 108)⟩
  have HB := below_alloc (below_alloc (Below.refl w.heap.size w) (.cells #[.int .i64 lv, .int .i64 fr, .int .i64 l, .int .i64 du] 108)) (.cells #[.int .i64 0, .int .i64 0, .int .i64 0, .int .i64 0] 108)
  have HC := Aside0.mk (h.below HB)
  have HU := Aside0.mk (Upd.of_below (b := cb) HB)
  have HN := Aside0.mk (Nat.le_trans hn HB.size)
  clear h HB
  have hd : (du != 0) = true := by simp [hx]
  clear hx
  go_enter Try.func58, Try.ntmps58
  go_wp2_with fail
  generalize ((w.alloc (.cells #[.int .i64 lv, .int .i64 fr, .int .i64 l, .int .i64 du] 108)).alloc (.cells #[.int .i64 0, .int .i64 0, .int .i64 0, .int .i64 0] 108)) = w2 at C0 C1 HC HU HN ⊢
  have c0 : w2.cell? ⟨w.heap.size, 0, none⟩ = some (.int .i64 lv) := (blk_cell C0.out 0).trans rfl
  have c1 : w2.cell? ⟨w.heap.size, 1, none⟩ = some (.int .i64 fr) := (blk_cell C0.out 1).trans rfl
  have c2 : w2.cell? ⟨w.heap.size, 2, none⟩ = some (.int .i64 l) := (blk_cell C0.out 2).trans rfl
  have c3 : w2.cell? ⟨w.heap.size, 3, none⟩ = some (.int .i64 du) := (blk_cell C0.out 3).trans rfl
  have r0 : w2.cell? ⟨w.heap.size + 1, 0, none⟩ = some (.int .i64 0) := (blk_cell C1.out 0).trans rfl
  have r1 : w2.cell? ⟨w.heap.size + 1, 1, none⟩ = some (.int .i64 0) := (blk_cell C1.out 1).trans rfl
  have r2 : w2.cell? ⟨w.heap.size + 1, 2, none⟩ = some (.int .i64 0) := (blk_cell C1.out 2).trans rfl
  have r3 : w2.cell? ⟨w.heap.size + 1, 3, none⟩ = some (.int .i64 0) := (blk_cell C1.out 3).trans rfl
  have g0 : w2.frozen? ⟨w.heap.size + 1, 0, none⟩ = false := blk_frozen C1.out 0
  have g1 : w2.frozen? ⟨w.heap.size + 1, 1, none⟩ = false := blk_frozen C1.out 1
  have g2 : w2.frozen? ⟨w.heap.size + 1, 2, none⟩ = false := blk_frozen C1.out 2
  have g3 : w2.frozen? ⟨w.heap.size + 1, 3, none⟩ = false := blk_frozen C1.out 3
  go_wp2_with (go_at_call 95; refine (chain_Step_going.calls lv fr l du _ w2 rfl).mono ?_; rintro e w3 ⟨rfl, hb⟩; have HC3 := Aside0.mk (HC.out.below hb); have HU3 := Aside0.mk (HU.out.then hb); have HN3 := Aside0.mk (Nat.le_trans HN.out hb.size); have n0 := Aside0.mk (blk_below C0.out hb); have n1 := Aside0.mk (blk_below C1.out hb); clear hb C0 C1 c0 c1 c2 c3 r0 r1 r2 r3 g0 g1 g2 g3; have C0 := n0; have C1 := n1; clear n0 n1; have c0 : w3.cell? ⟨w.heap.size, 0, none⟩ = some (.int .i64 lv) := (blk_cell C0.out 0).trans rfl; have c1 : w3.cell? ⟨w.heap.size, 1, none⟩ = some (.int .i64 fr) := (blk_cell C0.out 1).trans rfl; have c2 : w3.cell? ⟨w.heap.size, 2, none⟩ = some (.int .i64 l) := (blk_cell C0.out 2).trans rfl; have c3 : w3.cell? ⟨w.heap.size, 3, none⟩ = some (.int .i64 du) := (blk_cell C0.out 3).trans rfl; have r0 : w3.cell? ⟨w.heap.size + 1, 0, none⟩ = some (.int .i64 0) := (blk_cell C1.out 0).trans rfl; have r1 : w3.cell? ⟨w.heap.size + 1, 1, none⟩ = some (.int .i64 0) := (blk_cell C1.out 1).trans rfl; have r2 : w3.cell? ⟨w.heap.size + 1, 2, none⟩ = some (.int .i64 0) := (blk_cell C1.out 2).trans rfl; have r3 : w3.cell? ⟨w.heap.size + 1, 3, none⟩ = some (.int .i64 0) := (blk_cell C1.out 3).trans rfl; have g0 : w3.frozen? ⟨w.heap.size + 1, 0, none⟩ = false := blk_frozen C1.out 0; have g1 : w3.frozen? ⟨w.heap.size + 1, 1, none⟩ = false := blk_frozen C1.out 1; have g2 : w3.frozen? ⟨w.heap.size + 1, 2, none⟩ = false := blk_frozen C1.out 2; have g3 : w3.frozen? ⟨w.heap.size + 1, 3, none⟩ = false := blk_frozen C1.out 3)
  obtain ⟨C9, U9, E9⟩ := put4 C1.out HC3.out HU3.out (by omega) (.int .i64 0) (.int .i64 0) (.int .i64 0) (.int .i64 0)
  have k0 := (blk_cell E9 0).trans (rfl : _ = some (Value.int .i64 0))
  have k1 := (blk_cell E9 1).trans (rfl : _ = some (Value.int .i64 0))
  have k2 := (blk_cell E9 2).trans (rfl : _ = some (Value.int .i64 0))
  have k3 := (blk_cell E9 3).trans (rfl : _ = some (Value.int .i64 0))
  refine bodyPost_ret (v := .tuple #[.agg #[.int .i64 0, .int .i64 0, .int .i64 0, .int .i64 0], .int .i64 33]) (by simp [results, Try.results58, go_sem, k0, k1, k2, k3]) rfl ⟨rfl, C9, U9⟩
set_option maxHeartbeats 4000000 in
set_option maxRecDepth 100000 in
theorem go_arg (lv fr l du now : Int) (w : World) (h : ClkAt w n kb ab pb cb off week closed) (hn : n ≤ w.heap.size) (hx : du = 0) (hy : l < 1) :
    Calls Try.prog 58 #[.pointer (some ⟨kb, 0, none⟩), .agg #[.int .i64 lv, .int .i64 fr, .int .i64 l, .int .i64 du], .int .i64 now] w fun r w' => r = .returned (.tuple #[.agg #[.int .i64 0, .int .i64 0, .int .i64 0, .int .i64 0], .int .i64 2]) ∧ ClkAt w' n kb ab pb cb off week closed ∧ Upd cb w w' := by
  have hcb := h.lt
  have hnot : ∀ (x : Bool) (w : World), (Op.unary .not (.bool x)).run Try.prog w = .ok (.bool (!x)) w := fun _ _ => rfl
  have hmf : ∀ (fn : Fn) (first cap : Array Value) (w : World), (Instr.makeFunc fn first cap).run Try.prog w = .ok (.func fn first cap) w := fun _ _ _ _ => rfl
  have C0 : Aside0 (((w.alloc (.cells #[.int .i64 lv, .int .i64 fr, .int .i64 l, .int .i64 du] 108)).alloc (.cells #[.int .i64 0, .int .i64 0, .int .i64 0, .int .i64 0] 108)).heap[w.heap.size]? = some (.cells #[.int .i64 lv, .int .i64 fr, .int .i64 l, .int .i64 du] 108 (0, 0))) := ⟨blk_alloc (blk_new w _) _⟩
  have C1 : Aside0 (((w.alloc (.cells #[.int .i64 lv, .int .i64 fr, .int .i64 l, .int .i64 du] 108)).alloc (.cells #[.int .i64 0, .int .i64 0, .int .i64 0, .int .i64 0] 108)).heap[w.heap.size + 1]? = some (.cells #[.int .i64 0, .int .i64 0, .int .i64 0, .int .i64 0] 108 (0, 0))) := ⟨by simpa using blk_new (w.alloc (.cells #[.int .i64 lv, .int .i64 fr, .int .i64 l, .int .i64 du] 108)) (.cells #[.int .i64 0, .int .i64 0, .int .i64 0, .int .i64 0] 108)⟩
  have HB := below_alloc (below_alloc (Below.refl w.heap.size w) (.cells #[.int .i64 lv, .int .i64 fr, .int .i64 l, .int .i64 du] 108)) (.cells #[.int .i64 0, .int .i64 0, .int .i64 0, .int .i64 0] 108)
  have HC := Aside0.mk (h.below HB)
  have HU := Aside0.mk (Upd.of_below (b := cb) HB)
  have HN := Aside0.mk (Nat.le_trans hn HB.size)
  clear h HB
  have hd : (du != 0) = false := by simp [hx]
  clear hx
  go_enter Try.func58, Try.ntmps58
  go_wp2_with fail
  generalize ((w.alloc (.cells #[.int .i64 lv, .int .i64 fr, .int .i64 l, .int .i64 du] 108)).alloc (.cells #[.int .i64 0, .int .i64 0, .int .i64 0, .int .i64 0] 108)) = w2 at C0 C1 HC HU HN ⊢
  have c0 : w2.cell? ⟨w.heap.size, 0, none⟩ = some (.int .i64 lv) := (blk_cell C0.out 0).trans rfl
  have c1 : w2.cell? ⟨w.heap.size, 1, none⟩ = some (.int .i64 fr) := (blk_cell C0.out 1).trans rfl
  have c2 : w2.cell? ⟨w.heap.size, 2, none⟩ = some (.int .i64 l) := (blk_cell C0.out 2).trans rfl
  have c3 : w2.cell? ⟨w.heap.size, 3, none⟩ = some (.int .i64 du) := (blk_cell C0.out 3).trans rfl
  have r0 : w2.cell? ⟨w.heap.size + 1, 0, none⟩ = some (.int .i64 0) := (blk_cell C1.out 0).trans rfl
  have r1 : w2.cell? ⟨w.heap.size + 1, 1, none⟩ = some (.int .i64 0) := (blk_cell C1.out 1).trans rfl
  have r2 : w2.cell? ⟨w.heap.size + 1, 2, none⟩ = some (.int .i64 0) := (blk_cell C1.out 2).trans rfl
  have r3 : w2.cell? ⟨w.heap.size + 1, 3, none⟩ = some (.int .i64 0) := (blk_cell C1.out 3).trans rfl
  have g0 : w2.frozen? ⟨w.heap.size + 1, 0, none⟩ = false := blk_frozen C1.out 0
  have g1 : w2.frozen? ⟨w.heap.size + 1, 1, none⟩ = false := blk_frozen C1.out 1
  have g2 : w2.frozen? ⟨w.heap.size + 1, 2, none⟩ = false := blk_frozen C1.out 2
  have g3 : w2.frozen? ⟨w.heap.size + 1, 3, none⟩ = false := blk_frozen C1.out 3
  go_wp2_with (go_at_call 95; refine (chain_Step_going.calls lv fr l du _ w2 rfl).mono ?_; rintro e w3 ⟨rfl, hb⟩; have HC3 := Aside0.mk (HC.out.below hb); have HU3 := Aside0.mk (HU.out.then hb); have HN3 := Aside0.mk (Nat.le_trans HN.out hb.size); have n0 := Aside0.mk (blk_below C0.out hb); have n1 := Aside0.mk (blk_below C1.out hb); clear hb C0 C1 c0 c1 c2 c3 r0 r1 r2 r3 g0 g1 g2 g3; have C0 := n0; have C1 := n1; clear n0 n1; have c0 : w3.cell? ⟨w.heap.size, 0, none⟩ = some (.int .i64 lv) := (blk_cell C0.out 0).trans rfl; have c1 : w3.cell? ⟨w.heap.size, 1, none⟩ = some (.int .i64 fr) := (blk_cell C0.out 1).trans rfl; have c2 : w3.cell? ⟨w.heap.size, 2, none⟩ = some (.int .i64 l) := (blk_cell C0.out 2).trans rfl; have c3 : w3.cell? ⟨w.heap.size, 3, none⟩ = some (.int .i64 du) := (blk_cell C0.out 3).trans rfl; have r0 : w3.cell? ⟨w.heap.size + 1, 0, none⟩ = some (.int .i64 0) := (blk_cell C1.out 0).trans rfl; have r1 : w3.cell? ⟨w.heap.size + 1, 1, none⟩ = some (.int .i64 0) := (blk_cell C1.out 1).trans rfl; have r2 : w3.cell? ⟨w.heap.size + 1, 2, none⟩ = some (.int .i64 0) := (blk_cell C1.out 2).trans rfl; have r3 : w3.cell? ⟨w.heap.size + 1, 3, none⟩ = some (.int .i64 0) := (blk_cell C1.out 3).trans rfl; have g0 : w3.frozen? ⟨w.heap.size + 1, 0, none⟩ = false := blk_frozen C1.out 0; have g1 : w3.frozen? ⟨w.heap.size + 1, 1, none⟩ = false := blk_frozen C1.out 1; have g2 : w3.frozen? ⟨w.heap.size + 1, 2, none⟩ = false := blk_frozen C1.out 2; have g3 : w3.frozen? ⟨w.heap.size + 1, 3, none⟩ = false := blk_frozen C1.out 3)
  obtain ⟨C9, U9, E9⟩ := put4 C1.out HC3.out HU3.out (by omega) (.int .i64 0) (.int .i64 0) (.int .i64 0) (.int .i64 0)
  have k0 := (blk_cell E9 0).trans (rfl : _ = some (Value.int .i64 0))
  have k1 := (blk_cell E9 1).trans (rfl : _ = some (Value.int .i64 0))
  have k2 := (blk_cell E9 2).trans (rfl : _ = some (Value.int .i64 0))
  have k3 := (blk_cell E9 3).trans (rfl : _ = some (Value.int .i64 0))
  refine bodyPost_ret (v := .tuple #[.agg #[.int .i64 0, .int .i64 0, .int .i64 0, .int .i64 0], .int .i64 2]) (by simp [results, Try.results58, go_sem, k0, k1, k2, k3]) rfl ⟨rfl, C9, U9⟩
set_option maxHeartbeats 4000000 in
set_option maxRecDepth 100000 in
theorem go_ok (lv fr l du now : Int) (w : World) (h : ClkAt w n kb ab pb cb off week closed) (hn : n ≤ w.heap.size) (hl : l ≤ 9223372036854775807) (hx : du = 0) (hy : ¬ l < 1) (a b c d e : Int) (ha : atS off week closed lv l now = (a, b, c, d, e)) :
    Calls Try.prog 58 #[.pointer (some ⟨kb, 0, none⟩), .agg #[.int .i64 lv, .int .i64 fr, .int .i64 l, .int .i64 du], .int .i64 now] w fun r w' => r = .returned (.tuple #[.agg #[.int .i64 a, .int .i64 b, .int .i64 c, .int .i64 d], .int .i64 e]) ∧ ClkAt w' n kb ab pb cb off week closed ∧ Upd cb w w' := by
  have hcb := h.lt
  have hnot : ∀ (x : Bool) (w : World), (Op.unary .not (.bool x)).run Try.prog w = .ok (.bool (!x)) w := fun _ _ => rfl
  have hmf : ∀ (fn : Fn) (first cap : Array Value) (w : World), (Instr.makeFunc fn first cap).run Try.prog w = .ok (.func fn first cap) w := fun _ _ _ _ => rfl
  have C0 : Aside0 (((w.alloc (.cells #[.int .i64 lv, .int .i64 fr, .int .i64 l, .int .i64 du] 108)).alloc (.cells #[.int .i64 0, .int .i64 0, .int .i64 0, .int .i64 0] 108)).heap[w.heap.size]? = some (.cells #[.int .i64 lv, .int .i64 fr, .int .i64 l, .int .i64 du] 108 (0, 0))) := ⟨blk_alloc (blk_new w _) _⟩
  have C1 : Aside0 (((w.alloc (.cells #[.int .i64 lv, .int .i64 fr, .int .i64 l, .int .i64 du] 108)).alloc (.cells #[.int .i64 0, .int .i64 0, .int .i64 0, .int .i64 0] 108)).heap[w.heap.size + 1]? = some (.cells #[.int .i64 0, .int .i64 0, .int .i64 0, .int .i64 0] 108 (0, 0))) := ⟨by simpa using blk_new (w.alloc (.cells #[.int .i64 lv, .int .i64 fr, .int .i64 l, .int .i64 du] 108)) (.cells #[.int .i64 0, .int .i64 0, .int .i64 0, .int .i64 0] 108)⟩
  have HB := below_alloc (below_alloc (Below.refl w.heap.size w) (.cells #[.int .i64 lv, .int .i64 fr, .int .i64 l, .int .i64 du] 108)) (.cells #[.int .i64 0, .int .i64 0, .int .i64 0, .int .i64 0] 108)
  have HC := Aside0.mk (h.below HB)
  have HU := Aside0.mk (Upd.of_below (b := cb) HB)
  have HN := Aside0.mk (Nat.le_trans hn HB.size)
  clear h HB
  have HA := Aside0.mk ha
  have hd : (du != 0) = false := by simp [hx]
  clear hx ha
  go_enter Try.func58, Try.ntmps58
  go_wp2_with fail
  generalize ((w.alloc (.cells #[.int .i64 lv, .int .i64 fr, .int .i64 l, .int .i64 du] 108)).alloc (.cells #[.int .i64 0, .int .i64 0, .int .i64 0, .int .i64 0] 108)) = w2 at C0 C1 HC HU HN ⊢
  have c0 : w2.cell? ⟨w.heap.size, 0, none⟩ = some (.int .i64 lv) := (blk_cell C0.out 0).trans rfl
  have c1 : w2.cell? ⟨w.heap.size, 1, none⟩ = some (.int .i64 fr) := (blk_cell C0.out 1).trans rfl
  have c2 : w2.cell? ⟨w.heap.size, 2, none⟩ = some (.int .i64 l) := (blk_cell C0.out 2).trans rfl
  have c3 : w2.cell? ⟨w.heap.size, 3, none⟩ = some (.int .i64 du) := (blk_cell C0.out 3).trans rfl
  have r0 : w2.cell? ⟨w.heap.size + 1, 0, none⟩ = some (.int .i64 0) := (blk_cell C1.out 0).trans rfl
  have r1 : w2.cell? ⟨w.heap.size + 1, 1, none⟩ = some (.int .i64 0) := (blk_cell C1.out 1).trans rfl
  have r2 : w2.cell? ⟨w.heap.size + 1, 2, none⟩ = some (.int .i64 0) := (blk_cell C1.out 2).trans rfl
  have r3 : w2.cell? ⟨w.heap.size + 1, 3, none⟩ = some (.int .i64 0) := (blk_cell C1.out 3).trans rfl
  have g0 : w2.frozen? ⟨w.heap.size + 1, 0, none⟩ = false := blk_frozen C1.out 0
  have g1 : w2.frozen? ⟨w.heap.size + 1, 1, none⟩ = false := blk_frozen C1.out 1
  have g2 : w2.frozen? ⟨w.heap.size + 1, 2, none⟩ = false := blk_frozen C1.out 2
  have g3 : w2.frozen? ⟨w.heap.size + 1, 3, none⟩ = false := blk_frozen C1.out 3
  go_wp2_with (first | (go_at_call 95; refine (chain_Step_going.calls lv fr l du _ w2 rfl).mono ?_; rintro e w3 ⟨rfl, hb⟩; have HC3 := Aside0.mk (HC.out.below hb); have HU3 := Aside0.mk (HU.out.then hb); have HN3 := Aside0.mk (Nat.le_trans HN.out hb.size); have n0 := Aside0.mk (blk_below C0.out hb); have n1 := Aside0.mk (blk_below C1.out hb); clear hb C0 C1 c0 c1 c2 c3 r0 r1 r2 r3 g0 g1 g2 g3; have C0 := n0; have C1 := n1; clear n0 n1; have c0 : w3.cell? ⟨w.heap.size, 0, none⟩ = some (.int .i64 lv) := (blk_cell C0.out 0).trans rfl; have c1 : w3.cell? ⟨w.heap.size, 1, none⟩ = some (.int .i64 fr) := (blk_cell C0.out 1).trans rfl; have c2 : w3.cell? ⟨w.heap.size, 2, none⟩ = some (.int .i64 l) := (blk_cell C0.out 2).trans rfl; have c3 : w3.cell? ⟨w.heap.size, 3, none⟩ = some (.int .i64 du) := (blk_cell C0.out 3).trans rfl; have r0 : w3.cell? ⟨w.heap.size + 1, 0, none⟩ = some (.int .i64 0) := (blk_cell C1.out 0).trans rfl; have r1 : w3.cell? ⟨w.heap.size + 1, 1, none⟩ = some (.int .i64 0) := (blk_cell C1.out 1).trans rfl; have r2 : w3.cell? ⟨w.heap.size + 1, 2, none⟩ = some (.int .i64 0) := (blk_cell C1.out 2).trans rfl; have r3 : w3.cell? ⟨w.heap.size + 1, 3, none⟩ = some (.int .i64 0) := (blk_cell C1.out 3).trans rfl; have g0 : w3.frozen? ⟨w.heap.size + 1, 0, none⟩ = false := blk_frozen C1.out 0; have g1 : w3.frozen? ⟨w.heap.size + 1, 1, none⟩ = false := blk_frozen C1.out 1; have g2 : w3.frozen? ⟨w.heap.size + 1, 2, none⟩ = false := blk_frozen C1.out 2; have g3 : w3.frozen? ⟨w.heap.size + 1, 3, none⟩ = false := blk_frozen C1.out 3) | (go_at_call 94; refine (stepat_any lv fr l du now a b c d e w3 HC3.out HN3.out hl HA.out).mono ?_; rintro r w4 ⟨rfl, CK, UK⟩; have n0 := Aside0.mk (UK.blk C0.out (by omega)); have n1 := Aside0.mk (UK.blk C1.out (by omega)); have HC4 := Aside0.mk CK; have HU4 := Aside0.mk (HU3.out.trans UK); clear CK UK C0 C1 c0 c1 c2 c3 r0 r1 r2 r3 g0 g1 g2 g3; have C0 := n0; have C1 := n1; clear n0 n1; have c0 : w4.cell? ⟨w.heap.size, 0, none⟩ = some (.int .i64 lv) := (blk_cell C0.out 0).trans rfl; have c1 : w4.cell? ⟨w.heap.size, 1, none⟩ = some (.int .i64 fr) := (blk_cell C0.out 1).trans rfl; have c2 : w4.cell? ⟨w.heap.size, 2, none⟩ = some (.int .i64 l) := (blk_cell C0.out 2).trans rfl; have c3 : w4.cell? ⟨w.heap.size, 3, none⟩ = some (.int .i64 du) := (blk_cell C0.out 3).trans rfl; have r0 : w4.cell? ⟨w.heap.size + 1, 0, none⟩ = some (.int .i64 0) := (blk_cell C1.out 0).trans rfl; have r1 : w4.cell? ⟨w.heap.size + 1, 1, none⟩ = some (.int .i64 0) := (blk_cell C1.out 1).trans rfl; have r2 : w4.cell? ⟨w.heap.size + 1, 2, none⟩ = some (.int .i64 0) := (blk_cell C1.out 2).trans rfl; have r3 : w4.cell? ⟨w.heap.size + 1, 3, none⟩ = some (.int .i64 0) := (blk_cell C1.out 3).trans rfl; have g0 : w4.frozen? ⟨w.heap.size + 1, 0, none⟩ = false := blk_frozen C1.out 0; have g1 : w4.frozen? ⟨w.heap.size + 1, 1, none⟩ = false := blk_frozen C1.out 1; have g2 : w4.frozen? ⟨w.heap.size + 1, 2, none⟩ = false := blk_frozen C1.out 2; have g3 : w4.frozen? ⟨w.heap.size + 1, 3, none⟩ = false := blk_frozen C1.out 3))
  obtain ⟨C9, U9, E9⟩ := put4 C1.out HC4.out HU4.out (by omega) (.int .i64 a) (.int .i64 b) (.int .i64 c) (.int .i64 d)
  have k0 := (blk_cell E9 0).trans (rfl : _ = some (Value.int .i64 a))
  have k1 := (blk_cell E9 1).trans (rfl : _ = some (Value.int .i64 b))
  have k2 := (blk_cell E9 2).trans (rfl : _ = some (Value.int .i64 c))
  have k3 := (blk_cell E9 3).trans (rfl : _ = some (Value.int .i64 d))
  refine bodyPost_ret (v := .tuple #[.agg #[.int .i64 a, .int .i64 b, .int .i64 c, .int .i64 d], .int .i64 e]) (by simp [results, Try.results58, go_sem, k0, k1, k2, k3]) rfl ⟨rfl, C9, U9⟩
theorem stand_any (hk : CalOk off week closed) (lv fr l du now a b c d e : Int) (w : World) (h : ClkAt w n kb ab pb cb off week closed) (hn : n ≤ w.heap.size) (hl : l ≤ 9223372036854775807) (hd : standP off week closed lv fr l du now = (a, b, c, d, e)) :
    Calls Try.prog 62 #[.pointer (some ⟨kb, 0, none⟩), .agg #[.int .i64 lv, .int .i64 fr, .int .i64 l, .int .i64 du], .int .i64 now] w fun r w' => r = .returned (.tuple #[.agg #[.int .i64 a, .int .i64 b, .int .i64 c, .int .i64 d], .int .i64 e]) ∧ ClkAt w' n kb ab pb cb off week closed ∧ Upd cb w w' := by
  unfold standP at hd
  by_cases h1 : du = 0
  · rw [if_pos h1] at hd; cases hd; exact stand_state lv fr l du now w h hn h1
  · rw [if_neg h1] at hd
    by_cases h2 : du ≤ now
    · rw [if_pos h2] at hd; cases hd; exact stand_old lv fr l du now w h hn h1 h2
    · rw [if_neg h2] at hd
      by_cases h3 : (restR off week closed fr l now).2 = 0
      · rw [if_pos h3] at hd; cases hd; exact stand_ok lv fr l du now w h hn hk hl h1 h2 _ (Prod.ext rfl h3)
      · rw [if_neg h3] at hd; cases hd; exact stand_no lv fr l du now w h hn hk hl h1 h2 _ _ rfl h3
theorem go_any (lv fr l du now a b c d e : Int) (w : World) (h : ClkAt w n kb ab pb cb off week closed) (hn : n ≤ w.heap.size) (hl : l ≤ 9223372036854775807) (hd : goP off week closed lv l du now = (a, b, c, d, e)) :
    Calls Try.prog 58 #[.pointer (some ⟨kb, 0, none⟩), .agg #[.int .i64 lv, .int .i64 fr, .int .i64 l, .int .i64 du], .int .i64 now] w fun r w' => r = .returned (.tuple #[.agg #[.int .i64 a, .int .i64 b, .int .i64 c, .int .i64 d], .int .i64 e]) ∧ ClkAt w' n kb ab pb cb off week closed ∧ Upd cb w w' := by
  unfold goP at hd
  by_cases h1 : du = 0
  · rw [if_neg (show ¬ du ≠ 0 by simpa using h1)] at hd
    by_cases h2 : l < 1
    · rw [if_pos h2] at hd; cases hd; exact go_arg lv fr l du now w h hn h1 h2
    · rw [if_neg h2] at hd; exact go_ok lv fr l du now w h hn hl h1 h2 a b c d e hd
  · rw [if_pos h1] at hd; cases hd; exact go_state lv fr l du now w h hn h1
end Go.Proofs.Ytepldlnmeenlbaa.Own
namespace Go.Proofs.Ytepldlnmeenlbaa.Own
open Go.RowKit Go.Proofs Go.Proofs.YtepldlnmeenlbaaW.PrintWords Go.Proofs.YtepldlnmeenlbaaW.PrintLast Go.Proofs.YtepldlnmeenlbaaW.PrintMore Go.Proofs.Ytepldlnmeenlbaa.Base
variable {w w' : World} {n kb ab pb cb : Nat} {off : Int} {week closed : List S143} {A : Option Addr} {k : Nat} {ls : List S98}
set_option maxHeartbeats 4000000 in
set_option maxRecDepth 100000 in
theorem first_no (cal re ba now : Int) (w : World) (h : ClkAt w n kb ab pb cb off week closed) (hn : n ≤ w.heap.size) (h1 : Kd.C k98 w A ls.length ls ∧ ls.length ≤ k) (hg : goodP cal ls re ba = false) :
    Calls Try.prog 56 #[.pointer (some ⟨kb, 0, none⟩), .agg #[.int .i64 cal, .slice A ls.length k, .int .i64 re, .int .i64 ba], .int .i64 now] w fun r w' => r = .returned (.tuple #[.agg #[.int .i64 0, .int .i64 0, .int .i64 0, .int .i64 0], .int .i64 2]) ∧ ClkAt w' n kb ab pb cb off week closed ∧ Upd cb w w' := by
  have HG := Aside0.mk (show (if goodP cal ls re ba = true then (0 : Int) else 2) = 2 by rw [hg]; rfl)
  clear hg
  have hcb := h.lt
  have C0 : Aside0 (((w.alloc (.cells #[.int .i64 cal, .slice A ls.length k, .int .i64 re, .int .i64 ba] 49)).alloc (.cells #[.int .i64 0, .int .i64 0, .int .i64 0, .int .i64 0] 108)).heap[w.heap.size]? = some (.cells #[.int .i64 cal, .slice A ls.length k, .int .i64 re, .int .i64 ba] 49 (0, 0))) := ⟨blk_alloc (blk_new w _) _⟩
  have C1 : Aside0 (((w.alloc (.cells #[.int .i64 cal, .slice A ls.length k, .int .i64 re, .int .i64 ba] 49)).alloc (.cells #[.int .i64 0, .int .i64 0, .int .i64 0, .int .i64 0] 108)).heap[w.heap.size + 1]? = some (.cells #[.int .i64 0, .int .i64 0, .int .i64 0, .int .i64 0] 108 (0, 0))) := ⟨by simpa using blk_new (w.alloc (.cells #[.int .i64 cal, .slice A ls.length k, .int .i64 re, .int .i64 ba] 49)) (.cells #[.int .i64 0, .int .i64 0, .int .i64 0, .int .i64 0] 108)⟩
  have HB := below_alloc (below_alloc (Below.refl w.heap.size w) (.cells #[.int .i64 cal, .slice A ls.length k, .int .i64 re, .int .i64 ba] 49)) (.cells #[.int .i64 0, .int .i64 0, .int .i64 0, .int .i64 0] 108)
  have HC := Aside0.mk (h.below HB)
  have HU := Aside0.mk (Upd.of_below (b := cb) HB)
  have HN := Aside0.mk (Nat.le_trans hn HB.size)
  have HL : Aside0 (Kd.C k98 _ A ls.length ls ∧ ls.length ≤ k) := ⟨⟨Kd.C_below h1.1 HB, h1.2⟩⟩
  clear h HB h1
  go_enter Try.func56, Try.ntmps56
  go_wp2_with fail
  generalize ((w.alloc (.cells #[.int .i64 cal, .slice A ls.length k, .int .i64 re, .int .i64 ba] 49)).alloc (.cells #[.int .i64 0, .int .i64 0, .int .i64 0, .int .i64 0] 108)) = w2 at C0 C1 HC HU HN HL ⊢
  have c0 : w2.cell? ⟨w.heap.size, 0, none⟩ = some (.int .i64 cal) := (blk_cell C0.out 0).trans rfl
  have c1 : w2.cell? ⟨w.heap.size, 1, none⟩ = some (.slice A ls.length k) := (blk_cell C0.out 1).trans rfl
  have c2 : w2.cell? ⟨w.heap.size, 2, none⟩ = some (.int .i64 re) := (blk_cell C0.out 2).trans rfl
  have c3 : w2.cell? ⟨w.heap.size, 3, none⟩ = some (.int .i64 ba) := (blk_cell C0.out 3).trans rfl
  have r0 : w2.cell? ⟨w.heap.size + 1, 0, none⟩ = some (.int .i64 0) := (blk_cell C1.out 0).trans rfl
  have r1 : w2.cell? ⟨w.heap.size + 1, 1, none⟩ = some (.int .i64 0) := (blk_cell C1.out 1).trans rfl
  have r2 : w2.cell? ⟨w.heap.size + 1, 2, none⟩ = some (.int .i64 0) := (blk_cell C1.out 2).trans rfl
  have r3 : w2.cell? ⟨w.heap.size + 1, 3, none⟩ = some (.int .i64 0) := (blk_cell C1.out 3).trans rfl
  have g0 : w2.frozen? ⟨w.heap.size + 1, 0, none⟩ = false := blk_frozen C1.out 0
  have g1 : w2.frozen? ⟨w.heap.size + 1, 1, none⟩ = false := blk_frozen C1.out 1
  have g2 : w2.frozen? ⟨w.heap.size + 1, 2, none⟩ = false := blk_frozen C1.out 2
  have g3 : w2.frozen? ⟨w.heap.size + 1, 3, none⟩ = false := blk_frozen C1.out 3
  go_wp2_with (go_at_call 60; refine (check14_any w2 HL.out).mono ?_; rintro e w3 ⟨rfl, hb⟩; rw [HG.out]; have HC3 := Aside0.mk (HC.out.below hb); have HU3 := Aside0.mk (HU.out.then hb); have HN3 := Aside0.mk (Nat.le_trans HN.out hb.size); have HL3 : Aside0 (Kd.C k98 w3 A ls.length ls ∧ ls.length ≤ k) := ⟨⟨Kd.C_below HL.out.1 hb, HL.out.2⟩⟩; have n0 := Aside0.mk (blk_below C0.out hb); have n1 := Aside0.mk (blk_below C1.out hb); clear hb; clear C0 C1 c0 c1 c2 c3 r0 r1 r2 r3 g0 g1 g2 g3; have C0 := n0; have C1 := n1; clear n0 n1; have c0 : w3.cell? ⟨w.heap.size, 0, none⟩ = some (.int .i64 cal) := (blk_cell C0.out 0).trans rfl; have c1 : w3.cell? ⟨w.heap.size, 1, none⟩ = some (.slice A ls.length k) := (blk_cell C0.out 1).trans rfl; have c2 : w3.cell? ⟨w.heap.size, 2, none⟩ = some (.int .i64 re) := (blk_cell C0.out 2).trans rfl; have c3 : w3.cell? ⟨w.heap.size, 3, none⟩ = some (.int .i64 ba) := (blk_cell C0.out 3).trans rfl; have r0 : w3.cell? ⟨w.heap.size + 1, 0, none⟩ = some (.int .i64 0) := (blk_cell C1.out 0).trans rfl; have r1 : w3.cell? ⟨w.heap.size + 1, 1, none⟩ = some (.int .i64 0) := (blk_cell C1.out 1).trans rfl; have r2 : w3.cell? ⟨w.heap.size + 1, 2, none⟩ = some (.int .i64 0) := (blk_cell C1.out 2).trans rfl; have r3 : w3.cell? ⟨w.heap.size + 1, 3, none⟩ = some (.int .i64 0) := (blk_cell C1.out 3).trans rfl; have g0 : w3.frozen? ⟨w.heap.size + 1, 0, none⟩ = false := blk_frozen C1.out 0; have g1 : w3.frozen? ⟨w.heap.size + 1, 1, none⟩ = false := blk_frozen C1.out 1; have g2 : w3.frozen? ⟨w.heap.size + 1, 2, none⟩ = false := blk_frozen C1.out 2; have g3 : w3.frozen? ⟨w.heap.size + 1, 3, none⟩ = false := blk_frozen C1.out 3)
  obtain ⟨C9, U9, E9⟩ := put4 C1.out HC3.out HU3.out (by omega) (.int .i64 0) (.int .i64 0) (.int .i64 0) (.int .i64 0)
  have k0 := (blk_cell E9 0).trans (rfl : _ = some (Value.int .i64 0))
  have k1 := (blk_cell E9 1).trans (rfl : _ = some (Value.int .i64 0))
  have k2 := (blk_cell E9 2).trans (rfl : _ = some (Value.int .i64 0))
  have k3 := (blk_cell E9 3).trans (rfl : _ = some (Value.int .i64 0))
  refine bodyPost_ret (v := .tuple #[.agg #[.int .i64 0, .int .i64 0, .int .i64 0, .int .i64 0], .int .i64 2]) (by simp [results, Try.results56, go_sem, k0, k1, k2, k3]) rfl ⟨rfl, C9, U9⟩
set_option maxHeartbeats 4000000 in
set_option maxRecDepth 100000 in
theorem first_ok (cal re ba now : Int) (w : World) (h : ClkAt w n kb ab pb cb off week closed) (hn : n ≤ w.heap.size) (h1 : Kd.C k98 w A ls.length ls ∧ ls.length ≤ k) (hg : goodP cal ls re ba = true) (a b c d e : Int) (ha : atS off week closed 0 (rd_T98 ls 0).f0 now = (a, b, c, d, e)) :
    Calls Try.prog 56 #[.pointer (some ⟨kb, 0, none⟩), .agg #[.int .i64 cal, .slice A ls.length k, .int .i64 re, .int .i64 ba], .int .i64 now] w fun r w' => r = .returned (.tuple #[.agg #[.int .i64 a, .int .i64 b, .int .i64 c, .int .i64 d], .int .i64 e]) ∧ ClkAt w' n kb ab pb cb off week closed ∧ Upd cb w w' := by
  have HG := Aside0.mk (show (if goodP cal ls re ba = true then (0 : Int) else 2) = 0 by rw [hg]; rfl)
  obtain ⟨gg, gl⟩ := goodP_iff.1 hg
  have p0 : (0 : Int) < ls.length := by omega
  have p1 : 0 < ls.length := by omega
  have hm := gl (rd_T98 ls ((0 : Nat) : Int)) (by rw [rdL_at ls 0 (by omega)]; exact List.getElem_mem _)
  rw [Int.natCast_zero] at hm
  obtain ⟨b0, b1, _, _⟩ := hm
  obtain ⟨ad, e1, hx0, hx1⟩ := at_T98 h1.1 0 (Int.le_refl _) (by omega)
  subst e1
  generalize (rd_T98 ls 0).f0 = B at ha b0 b1 hx0
  have HA := Aside0.mk ha
  have HX : Aside0 (w.cell? ad = some (.int .i64 B)) := ⟨by have := hx0; rwa [show ad.add ((0 : Int).toNat * 2) = ad from by simp [Addr.add]] at this⟩
  clear hg gg gl hx0 hx1 ha
  have hcb := h.lt
  have C0 : Aside0 (((w.alloc (.cells #[.int .i64 cal, .slice (some ad) ls.length k, .int .i64 re, .int .i64 ba] 49)).alloc (.cells #[.int .i64 0, .int .i64 0, .int .i64 0, .int .i64 0] 108)).heap[w.heap.size]? = some (.cells #[.int .i64 cal, .slice (some ad) ls.length k, .int .i64 re, .int .i64 ba] 49 (0, 0))) := ⟨blk_alloc (blk_new w _) _⟩
  have C1 : Aside0 (((w.alloc (.cells #[.int .i64 cal, .slice (some ad) ls.length k, .int .i64 re, .int .i64 ba] 49)).alloc (.cells #[.int .i64 0, .int .i64 0, .int .i64 0, .int .i64 0] 108)).heap[w.heap.size + 1]? = some (.cells #[.int .i64 0, .int .i64 0, .int .i64 0, .int .i64 0] 108 (0, 0))) := ⟨by simpa using blk_new (w.alloc (.cells #[.int .i64 cal, .slice (some ad) ls.length k, .int .i64 re, .int .i64 ba] 49)) (.cells #[.int .i64 0, .int .i64 0, .int .i64 0, .int .i64 0] 108)⟩
  have HB := below_alloc (below_alloc (Below.refl w.heap.size w) (.cells #[.int .i64 cal, .slice (some ad) ls.length k, .int .i64 re, .int .i64 ba] 49)) (.cells #[.int .i64 0, .int .i64 0, .int .i64 0, .int .i64 0] 108)
  have HC := Aside0.mk (h.below HB)
  have HU := Aside0.mk (Upd.of_below (b := cb) HB)
  have HN := Aside0.mk (Nat.le_trans hn HB.size)
  have HL : Aside0 (Kd.C k98 _ (some ad) ls.length ls ∧ ls.length ≤ k) := ⟨⟨Kd.C_below h1.1 HB, h1.2⟩⟩
  have X0 := Aside0.mk ((HB.cell (World.block_lt_of_cell? w _ HX.out)).trans HX.out)
  clear h HB h1 HX
  go_enter Try.func56, Try.ntmps56
  go_wp2_with fail
  generalize ((w.alloc (.cells #[.int .i64 cal, .slice (some ad) ls.length k, .int .i64 re, .int .i64 ba] 49)).alloc (.cells #[.int .i64 0, .int .i64 0, .int .i64 0, .int .i64 0] 108)) = w2 at C0 C1 HC HU HN HL X0 ⊢
  have c0 : w2.cell? ⟨w.heap.size, 0, none⟩ = some (.int .i64 cal) := (blk_cell C0.out 0).trans rfl
  have c1 : w2.cell? ⟨w.heap.size, 1, none⟩ = some (.slice (some ad) ls.length k) := (blk_cell C0.out 1).trans rfl
  have c2 : w2.cell? ⟨w.heap.size, 2, none⟩ = some (.int .i64 re) := (blk_cell C0.out 2).trans rfl
  have c3 : w2.cell? ⟨w.heap.size, 3, none⟩ = some (.int .i64 ba) := (blk_cell C0.out 3).trans rfl
  have r0 : w2.cell? ⟨w.heap.size + 1, 0, none⟩ = some (.int .i64 0) := (blk_cell C1.out 0).trans rfl
  have r1 : w2.cell? ⟨w.heap.size + 1, 1, none⟩ = some (.int .i64 0) := (blk_cell C1.out 1).trans rfl
  have r2 : w2.cell? ⟨w.heap.size + 1, 2, none⟩ = some (.int .i64 0) := (blk_cell C1.out 2).trans rfl
  have r3 : w2.cell? ⟨w.heap.size + 1, 3, none⟩ = some (.int .i64 0) := (blk_cell C1.out 3).trans rfl
  have g0 : w2.frozen? ⟨w.heap.size + 1, 0, none⟩ = false := blk_frozen C1.out 0
  have g1 : w2.frozen? ⟨w.heap.size + 1, 1, none⟩ = false := blk_frozen C1.out 1
  have g2 : w2.frozen? ⟨w.heap.size + 1, 2, none⟩ = false := blk_frozen C1.out 2
  have g3 : w2.frozen? ⟨w.heap.size + 1, 3, none⟩ = false := blk_frozen C1.out 3
  go_wp2_with (first | (go_at_call 60; refine (check14_any w2 HL.out).mono ?_; rintro e w3 ⟨rfl, hb⟩; rw [HG.out]; have HC3 := Aside0.mk (HC.out.below hb); have HU3 := Aside0.mk (HU.out.then hb); have HN3 := Aside0.mk (Nat.le_trans HN.out hb.size); have HL3 : Aside0 (Kd.C k98 w3 (some ad) ls.length ls ∧ ls.length ≤ k) := ⟨⟨Kd.C_below HL.out.1 hb, HL.out.2⟩⟩; have n0 := Aside0.mk (blk_below C0.out hb); have n1 := Aside0.mk (blk_below C1.out hb); have y0 : w3.cell? ad = some (.int .i64 B) := (hb.cell (World.block_lt_of_cell? w2 _ X0.out)).trans X0.out; clear hb X0; clear C0 C1 c0 c1 c2 c3 r0 r1 r2 r3 g0 g1 g2 g3; have C0 := n0; have C1 := n1; clear n0 n1; have c0 : w3.cell? ⟨w.heap.size, 0, none⟩ = some (.int .i64 cal) := (blk_cell C0.out 0).trans rfl; have c1 : w3.cell? ⟨w.heap.size, 1, none⟩ = some (.slice (some ad) ls.length k) := (blk_cell C0.out 1).trans rfl; have c2 : w3.cell? ⟨w.heap.size, 2, none⟩ = some (.int .i64 re) := (blk_cell C0.out 2).trans rfl; have c3 : w3.cell? ⟨w.heap.size, 3, none⟩ = some (.int .i64 ba) := (blk_cell C0.out 3).trans rfl; have r0 : w3.cell? ⟨w.heap.size + 1, 0, none⟩ = some (.int .i64 0) := (blk_cell C1.out 0).trans rfl; have r1 : w3.cell? ⟨w.heap.size + 1, 1, none⟩ = some (.int .i64 0) := (blk_cell C1.out 1).trans rfl; have r2 : w3.cell? ⟨w.heap.size + 1, 2, none⟩ = some (.int .i64 0) := (blk_cell C1.out 2).trans rfl; have r3 : w3.cell? ⟨w.heap.size + 1, 3, none⟩ = some (.int .i64 0) := (blk_cell C1.out 3).trans rfl; have g0 : w3.frozen? ⟨w.heap.size + 1, 0, none⟩ = false := blk_frozen C1.out 0; have g1 : w3.frozen? ⟨w.heap.size + 1, 1, none⟩ = false := blk_frozen C1.out 1; have g2 : w3.frozen? ⟨w.heap.size + 1, 2, none⟩ = false := blk_frozen C1.out 2; have g3 : w3.frozen? ⟨w.heap.size + 1, 3, none⟩ = false := blk_frozen C1.out 3) | (go_at_call 94; refine (stepat_any 0 0 B 0 now a b c d e w3 HC3.out HN3.out (by omega) HA.out).mono ?_; rintro r w4 ⟨rfl, CK, UK⟩; have n0 := Aside0.mk (UK.blk C0.out (by omega)); have n1 := Aside0.mk (UK.blk C1.out (by omega)); have HC4 := Aside0.mk CK; have HU4 := Aside0.mk (HU3.out.trans UK); clear CK UK; clear C0 y0 C1 c0 c1 c2 c3 r0 r1 r2 r3 g0 g1 g2 g3; have C0 := n0; have C1 := n1; clear n0 n1; have c0 : w4.cell? ⟨w.heap.size, 0, none⟩ = some (.int .i64 cal) := (blk_cell C0.out 0).trans rfl; have c1 : w4.cell? ⟨w.heap.size, 1, none⟩ = some (.slice (some ad) ls.length k) := (blk_cell C0.out 1).trans rfl; have c2 : w4.cell? ⟨w.heap.size, 2, none⟩ = some (.int .i64 re) := (blk_cell C0.out 2).trans rfl; have c3 : w4.cell? ⟨w.heap.size, 3, none⟩ = some (.int .i64 ba) := (blk_cell C0.out 3).trans rfl; have r0 : w4.cell? ⟨w.heap.size + 1, 0, none⟩ = some (.int .i64 0) := (blk_cell C1.out 0).trans rfl; have r1 : w4.cell? ⟨w.heap.size + 1, 1, none⟩ = some (.int .i64 0) := (blk_cell C1.out 1).trans rfl; have r2 : w4.cell? ⟨w.heap.size + 1, 2, none⟩ = some (.int .i64 0) := (blk_cell C1.out 2).trans rfl; have r3 : w4.cell? ⟨w.heap.size + 1, 3, none⟩ = some (.int .i64 0) := (blk_cell C1.out 3).trans rfl; have g0 : w4.frozen? ⟨w.heap.size + 1, 0, none⟩ = false := blk_frozen C1.out 0; have g1 : w4.frozen? ⟨w.heap.size + 1, 1, none⟩ = false := blk_frozen C1.out 1; have g2 : w4.frozen? ⟨w.heap.size + 1, 2, none⟩ = false := blk_frozen C1.out 2; have g3 : w4.frozen? ⟨w.heap.size + 1, 3, none⟩ = false := blk_frozen C1.out 3))
  obtain ⟨C9, U9, E9⟩ := put4 C1.out HC4.out HU4.out (by omega) (.int .i64 a) (.int .i64 b) (.int .i64 c) (.int .i64 d)
  have k0 := (blk_cell E9 0).trans (rfl : _ = some (Value.int .i64 a))
  have k1 := (blk_cell E9 1).trans (rfl : _ = some (Value.int .i64 b))
  have k2 := (blk_cell E9 2).trans (rfl : _ = some (Value.int .i64 c))
  have k3 := (blk_cell E9 3).trans (rfl : _ = some (Value.int .i64 d))
  refine bodyPost_ret (v := .tuple #[.agg #[.int .i64 a, .int .i64 b, .int .i64 c, .int .i64 d], .int .i64 e]) (by simp [results, Try.results56, go_sem, k0, k1, k2, k3]) rfl ⟨rfl, C9, U9⟩
theorem first_any (cal re ba now a b c d e : Int) (w : World) (h : ClkAt w n kb ab pb cb off week closed) (hn : n ≤ w.heap.size) (h1 : Kd.C k98 w A ls.length ls ∧ ls.length ≤ k) (hd : firstP off week closed cal ls re ba now = (a, b, c, d, e)) :
    Calls Try.prog 56 #[.pointer (some ⟨kb, 0, none⟩), .agg #[.int .i64 cal, .slice A ls.length k, .int .i64 re, .int .i64 ba], .int .i64 now] w fun r w' => r = .returned (.tuple #[.agg #[.int .i64 a, .int .i64 b, .int .i64 c, .int .i64 d], .int .i64 e]) ∧ ClkAt w' n kb ab pb cb off week closed ∧ Upd cb w w' := by
  unfold firstP at hd
  by_cases h0 : goodP cal ls re ba = true
  · rw [if_pos h0] at hd; exact first_ok cal re ba now w h hn h1 h0 a b c d e hd
  · rw [if_neg h0] at hd; cases hd; exact first_no cal re ba now w h hn h1 (by simpa using h0)
end Go.Proofs.Ytepldlnmeenlbaa.Own
namespace Go.Proofs.Ytepldlnmeenlbaa.Own
open Go.RowKit Go.Proofs Go.Proofs.YtepldlnmeenlbaaW.PrintWords Go.Proofs.YtepldlnmeenlbaaW.PrintLast Go.Proofs.YtepldlnmeenlbaaW.PrintMore Go.Proofs.Ytepldlnmeenlbaa.Base
variable {w w' : World} {n kb ab pb cb : Nat} {off : Int} {week closed : List S143} {A : Option Addr} {k : Nat} {ls : List S98}
theorem far4 {W : World} {b k : Nat} {o : Option Obj} (h : W.heap[k]? = o) (hk : k ≠ b) (v0 v1 v2 v3 : Value) : ((((W.setCell ⟨b, 0, none⟩ v0).setCell ⟨b, 1, none⟩ v1).setCell ⟨b, 2, none⟩ v2).setCell ⟨b, 3, none⟩ v3).heap[k]? = o :=
  (Below.heap_setCell _ _ _ _ hk).trans ((Below.heap_setCell _ _ _ _ hk).trans ((Below.heap_setCell _ _ _ _ hk).trans ((Below.heap_setCell _ _ _ _ hk).trans h)))
def next_T9 : Bool × List (List Nat × List Nat) := (true, [([], []), ([0], [0]), ([1], [1]), ([], []), ([3], [3]), ([], []), ([5], [5]), ([6], [6]), ([4, 7], [4, 7]), ([8], [8]), ([9], [9]), ([2, 10], [2, 10]), ([], []), ([], []), ([11, 12, 13], [11, 12, 13]), ([14], [14]), ([15], [15]), ([15], [15]), ([16, 14, 0, 1, 2, 3, 4, 5, 6, 7, 8, 9, 10, 11, 12, 13, 14, 15, 16], [16]), ([17, 18, 0, 1, 2, 3, 4, 5, 6, 7, 8, 9, 10, 11, 12, 13, 14, 15, 16, 17, 18], [17])])
def next_B9 : List Nat := [0, 1, 3, 0, 8, 0, 32, 96, 248, 504, 1016, 2047, 0, 0, 16383, 32767, 65535, 65535, 131071, 524287]
theorem next_tab9 : rtab .any (opsOf Try.f61 9) = next_T9 := by kernel_rfl
theorem next_bits9 : waitsOk next_T9.2 next_B9 = true := by kernel_rfl
set_option maxHeartbeats 4000000 in
set_option maxRecDepth 100000 in
theorem next_no (cal re ba lv fr l du now : Int) (w : World) (h : ClkAt w n kb ab pb cb off week closed) (hn : n ≤ w.heap.size) (h1 : Kd.C k98 w A ls.length ls ∧ ls.length ≤ k) (hg : goodP cal ls re ba = false) :
    Calls Try.prog 61 #[.pointer (some ⟨kb, 0, none⟩), .agg #[.int .i64 cal, .slice A ls.length k, .int .i64 re, .int .i64 ba], .agg #[.int .i64 lv, .int .i64 fr, .int .i64 l, .int .i64 du], .int .i64 now] w fun r w' => r = .returned (.tuple #[.agg #[.int .i64 0, .int .i64 0, .int .i64 0, .int .i64 0], .bool false, .int .i64 2]) ∧ ClkAt w' n kb ab pb cb off week closed ∧ Upd cb w w' := by
  have HG := Aside0.mk (show (if goodP cal ls re ba = true then (0 : Int) else 2) = 2 by rw [hg]; rfl)
  clear hg
  have hcb := h.lt
  have C0 : Aside0 ((((w.alloc (.cells #[.int .i64 cal, .slice A ls.length k, .int .i64 re, .int .i64 ba] 49)).alloc (.cells #[.int .i64 lv, .int .i64 fr, .int .i64 l, .int .i64 du] 108)).alloc (.cells #[.int .i64 0, .int .i64 0, .int .i64 0, .int .i64 0] 108)).heap[w.heap.size]? = some (.cells #[.int .i64 cal, .slice A ls.length k, .int .i64 re, .int .i64 ba] 49 (0, 0))) := ⟨blk_alloc (blk_alloc (blk_new w _) _) _⟩
  have C1 : Aside0 ((((w.alloc (.cells #[.int .i64 cal, .slice A ls.length k, .int .i64 re, .int .i64 ba] 49)).alloc (.cells #[.int .i64 lv, .int .i64 fr, .int .i64 l, .int .i64 du] 108)).alloc (.cells #[.int .i64 0, .int .i64 0, .int .i64 0, .int .i64 0] 108)).heap[w.heap.size + 1]? = some (.cells #[.int .i64 lv, .int .i64 fr, .int .i64 l, .int .i64 du] 108 (0, 0))) := ⟨blk_alloc (by simpa using blk_new (w.alloc (.cells #[.int .i64 cal, .slice A ls.length k, .int .i64 re, .int .i64 ba] 49)) (.cells #[.int .i64 lv, .int .i64 fr, .int .i64 l, .int .i64 du] 108)) _⟩
  have C2 : Aside0 ((((w.alloc (.cells #[.int .i64 cal, .slice A ls.length k, .int .i64 re, .int .i64 ba] 49)).alloc (.cells #[.int .i64 lv, .int .i64 fr, .int .i64 l, .int .i64 du] 108)).alloc (.cells #[.int .i64 0, .int .i64 0, .int .i64 0, .int .i64 0] 108)).heap[w.heap.size + 1 + 1]? = some (.cells #[.int .i64 0, .int .i64 0, .int .i64 0, .int .i64 0] 108 (0, 0))) := ⟨by simpa using blk_new ((w.alloc (.cells #[.int .i64 cal, .slice A ls.length k, .int .i64 re, .int .i64 ba] 49)).alloc (.cells #[.int .i64 lv, .int .i64 fr, .int .i64 l, .int .i64 du] 108)) (.cells #[.int .i64 0, .int .i64 0, .int .i64 0, .int .i64 0] 108)⟩
  have HB := below_alloc (below_alloc (below_alloc (Below.refl w.heap.size w) (.cells #[.int .i64 cal, .slice A ls.length k, .int .i64 re, .int .i64 ba] 49)) (.cells #[.int .i64 lv, .int .i64 fr, .int .i64 l, .int .i64 du] 108)) (.cells #[.int .i64 0, .int .i64 0, .int .i64 0, .int .i64 0] 108)
  have HC := Aside0.mk (h.below HB)
  have HU := Aside0.mk (Upd.of_below (b := cb) HB)
  have HN := Aside0.mk (Nat.le_trans hn HB.size)
  have HL : Aside0 (Kd.C k98 _ A ls.length ls ∧ ls.length ≤ k) := ⟨⟨Kd.C_below h1.1 HB, h1.2⟩⟩
  clear h HB h1
  go_enter Try.func61, Try.ntmps61
  go_wp2_with fail
  generalize (((w.alloc (.cells #[.int .i64 cal, .slice A ls.length k, .int .i64 re, .int .i64 ba] 49)).alloc (.cells #[.int .i64 lv, .int .i64 fr, .int .i64 l, .int .i64 du] 108)).alloc (.cells #[.int .i64 0, .int .i64 0, .int .i64 0, .int .i64 0] 108)) = w2 at C0 C1 C2 HC HU HN HL ⊢
  have c0 : w2.cell? ⟨w.heap.size, 0, none⟩ = some (.int .i64 cal) := (blk_cell C0.out 0).trans rfl
  have c1 : w2.cell? ⟨w.heap.size, 1, none⟩ = some (.slice A ls.length k) := (blk_cell C0.out 1).trans rfl
  have c2 : w2.cell? ⟨w.heap.size, 2, none⟩ = some (.int .i64 re) := (blk_cell C0.out 2).trans rfl
  have c3 : w2.cell? ⟨w.heap.size, 3, none⟩ = some (.int .i64 ba) := (blk_cell C0.out 3).trans rfl
  have s0 : w2.cell? ⟨w.heap.size + 1, 0, none⟩ = some (.int .i64 lv) := (blk_cell C1.out 0).trans rfl
  have s1 : w2.cell? ⟨w.heap.size + 1, 1, none⟩ = some (.int .i64 fr) := (blk_cell C1.out 1).trans rfl
  have s2 : w2.cell? ⟨w.heap.size + 1, 2, none⟩ = some (.int .i64 l) := (blk_cell C1.out 2).trans rfl
  have s3 : w2.cell? ⟨w.heap.size + 1, 3, none⟩ = some (.int .i64 du) := (blk_cell C1.out 3).trans rfl
  have r0 : w2.cell? ⟨w.heap.size + 1 + 1, 0, none⟩ = some (.int .i64 0) := (blk_cell C2.out 0).trans rfl
  have r1 : w2.cell? ⟨w.heap.size + 1 + 1, 1, none⟩ = some (.int .i64 0) := (blk_cell C2.out 1).trans rfl
  have r2 : w2.cell? ⟨w.heap.size + 1 + 1, 2, none⟩ = some (.int .i64 0) := (blk_cell C2.out 2).trans rfl
  have r3 : w2.cell? ⟨w.heap.size + 1 + 1, 3, none⟩ = some (.int .i64 0) := (blk_cell C2.out 3).trans rfl
  have g0 : w2.frozen? ⟨w.heap.size + 1 + 1, 0, none⟩ = false := blk_frozen C2.out 0
  have g1 : w2.frozen? ⟨w.heap.size + 1 + 1, 1, none⟩ = false := blk_frozen C2.out 1
  have g2 : w2.frozen? ⟨w.heap.size + 1 + 1, 2, none⟩ = false := blk_frozen C2.out 2
  have g3 : w2.frozen? ⟨w.heap.size + 1 + 1, 3, none⟩ = false := blk_frozen C2.out 3
  go_wp2_with (go_at_call 60; refine (check14_any w2 HL.out).mono ?_; rintro e w3 ⟨rfl, hb⟩; rw [HG.out]; have HC3 := Aside0.mk (HC.out.below hb); have HU3 := Aside0.mk (HU.out.then hb); have HN3 := Aside0.mk (Nat.le_trans HN.out hb.size); have HL3 : Aside0 (Kd.C k98 w3 A ls.length ls ∧ ls.length ≤ k) := ⟨⟨Kd.C_below HL.out.1 hb, HL.out.2⟩⟩; have n0 := Aside0.mk (blk_below C0.out hb); have n1 := Aside0.mk (blk_below C1.out hb); have n2 := Aside0.mk (blk_below C2.out hb); clear hb; clear C0 C1 C2 c0 c1 c2 c3 s0 s1 s2 s3 r0 r1 r2 r3 g0 g1 g2 g3; have C0 := n0; have C1 := n1; have C2 := n2; clear n0 n1 n2; have c0 : w3.cell? ⟨w.heap.size, 0, none⟩ = some (.int .i64 cal) := (blk_cell C0.out 0).trans rfl; have c1 : w3.cell? ⟨w.heap.size, 1, none⟩ = some (.slice A ls.length k) := (blk_cell C0.out 1).trans rfl; have c2 : w3.cell? ⟨w.heap.size, 2, none⟩ = some (.int .i64 re) := (blk_cell C0.out 2).trans rfl; have c3 : w3.cell? ⟨w.heap.size, 3, none⟩ = some (.int .i64 ba) := (blk_cell C0.out 3).trans rfl; have s0 : w3.cell? ⟨w.heap.size + 1, 0, none⟩ = some (.int .i64 lv) := (blk_cell C1.out 0).trans rfl; have s1 : w3.cell? ⟨w.heap.size + 1, 1, none⟩ = some (.int .i64 fr) := (blk_cell C1.out 1).trans rfl; have s2 : w3.cell? ⟨w.heap.size + 1, 2, none⟩ = some (.int .i64 l) := (blk_cell C1.out 2).trans rfl; have s3 : w3.cell? ⟨w.heap.size + 1, 3, none⟩ = some (.int .i64 du) := (blk_cell C1.out 3).trans rfl; have r0 : w3.cell? ⟨w.heap.size + 1 + 1, 0, none⟩ = some (.int .i64 0) := (blk_cell C2.out 0).trans rfl; have r1 : w3.cell? ⟨w.heap.size + 1 + 1, 1, none⟩ = some (.int .i64 0) := (blk_cell C2.out 1).trans rfl; have r2 : w3.cell? ⟨w.heap.size + 1 + 1, 2, none⟩ = some (.int .i64 0) := (blk_cell C2.out 2).trans rfl; have r3 : w3.cell? ⟨w.heap.size + 1 + 1, 3, none⟩ = some (.int .i64 0) := (blk_cell C2.out 3).trans rfl; have g0 : w3.frozen? ⟨w.heap.size + 1 + 1, 0, none⟩ = false := blk_frozen C2.out 0; have g1 : w3.frozen? ⟨w.heap.size + 1 + 1, 1, none⟩ = false := blk_frozen C2.out 1; have g2 : w3.frozen? ⟨w.heap.size + 1 + 1, 2, none⟩ = false := blk_frozen C2.out 2; have g3 : w3.frozen? ⟨w.heap.size + 1 + 1, 3, none⟩ = false := blk_frozen C2.out 3)
  obtain ⟨C9, U9, E9⟩ := put4 C2.out HC3.out HU3.out (by omega) (.int .i64 0) (.int .i64 0) (.int .i64 0) (.int .i64 0)
  have k0 := (blk_cell E9 0).trans (rfl : _ = some (Value.int .i64 0))
  have k1 := (blk_cell E9 1).trans (rfl : _ = some (Value.int .i64 0))
  have k2 := (blk_cell E9 2).trans (rfl : _ = some (Value.int .i64 0))
  have k3 := (blk_cell E9 3).trans (rfl : _ = some (Value.int .i64 0))
  refine bodyPost_ret (v := .tuple #[.agg #[.int .i64 0, .int .i64 0, .int .i64 0, .int .i64 0], .bool false, .int .i64 2]) (by simp [results, Try.results61, go_sem, k0, k1, k2, k3]) rfl ⟨rfl, C9, U9⟩
set_option maxHeartbeats 4000000 in
set_option maxRecDepth 100000 in
theorem next_lo (cal re ba lv fr l du now : Int) (w : World) (h : ClkAt w n kb ab pb cb off week closed) (hn : n ≤ w.heap.size) (h1 : Kd.C k98 w A ls.length ls ∧ ls.length ≤ k) (hg : goodP cal ls re ba = true) (hx : lv < 0) :
    Calls Try.prog 61 #[.pointer (some ⟨kb, 0, none⟩), .agg #[.int .i64 cal, .slice A ls.length k, .int .i64 re, .int .i64 ba], .agg #[.int .i64 lv, .int .i64 fr, .int .i64 l, .int .i64 du], .int .i64 now] w fun r w' => r = .returned (.tuple #[.agg #[.int .i64 0, .int .i64 0, .int .i64 0, .int .i64 0], .bool false, .int .i64 2]) ∧ ClkAt w' n kb ab pb cb off week closed ∧ Upd cb w w' := by
  have HG := Aside0.mk (show (if goodP cal ls re ba = true then (0 : Int) else 2) = 0 by rw [hg]; rfl)
  have hd : decide (lv < 0) = true := decide_eq_true hx
  clear hg
  have hcb := h.lt
  have C0 : Aside0 ((((w.alloc (.cells #[.int .i64 cal, .slice A ls.length k, .int .i64 re, .int .i64 ba] 49)).alloc (.cells #[.int .i64 lv, .int .i64 fr, .int .i64 l, .int .i64 du] 108)).alloc (.cells #[.int .i64 0, .int .i64 0, .int .i64 0, .int .i64 0] 108)).heap[w.heap.size]? = some (.cells #[.int .i64 cal, .slice A ls.length k, .int .i64 re, .int .i64 ba] 49 (0, 0))) := ⟨blk_alloc (blk_alloc (blk_new w _) _) _⟩
  have C1 : Aside0 ((((w.alloc (.cells #[.int .i64 cal, .slice A ls.length k, .int .i64 re, .int .i64 ba] 49)).alloc (.cells #[.int .i64 lv, .int .i64 fr, .int .i64 l, .int .i64 du] 108)).alloc (.cells #[.int .i64 0, .int .i64 0, .int .i64 0, .int .i64 0] 108)).heap[w.heap.size + 1]? = some (.cells #[.int .i64 lv, .int .i64 fr, .int .i64 l, .int .i64 du] 108 (0, 0))) := ⟨blk_alloc (by simpa using blk_new (w.alloc (.cells #[.int .i64 cal, .slice A ls.length k, .int .i64 re, .int .i64 ba] 49)) (.cells #[.int .i64 lv, .int .i64 fr, .int .i64 l, .int .i64 du] 108)) _⟩
  have C2 : Aside0 ((((w.alloc (.cells #[.int .i64 cal, .slice A ls.length k, .int .i64 re, .int .i64 ba] 49)).alloc (.cells #[.int .i64 lv, .int .i64 fr, .int .i64 l, .int .i64 du] 108)).alloc (.cells #[.int .i64 0, .int .i64 0, .int .i64 0, .int .i64 0] 108)).heap[w.heap.size + 1 + 1]? = some (.cells #[.int .i64 0, .int .i64 0, .int .i64 0, .int .i64 0] 108 (0, 0))) := ⟨by simpa using blk_new ((w.alloc (.cells #[.int .i64 cal, .slice A ls.length k, .int .i64 re, .int .i64 ba] 49)).alloc (.cells #[.int .i64 lv, .int .i64 fr, .int .i64 l, .int .i64 du] 108)) (.cells #[.int .i64 0, .int .i64 0, .int .i64 0, .int .i64 0] 108)⟩
  have HB := below_alloc (below_alloc (below_alloc (Below.refl w.heap.size w) (.cells #[.int .i64 cal, .slice A ls.length k, .int .i64 re, .int .i64 ba] 49)) (.cells #[.int .i64 lv, .int .i64 fr, .int .i64 l, .int .i64 du] 108)) (.cells #[.int .i64 0, .int .i64 0, .int .i64 0, .int .i64 0] 108)
  have HC := Aside0.mk (h.below HB)
  have HU := Aside0.mk (Upd.of_below (b := cb) HB)
  have HN := Aside0.mk (Nat.le_trans hn HB.size)
  have HL : Aside0 (Kd.C k98 _ A ls.length ls ∧ ls.length ≤ k) := ⟨⟨Kd.C_below h1.1 HB, h1.2⟩⟩
  clear h HB h1
  go_enter Try.func61, Try.ntmps61
  go_wp2_with fail
  generalize (((w.alloc (.cells #[.int .i64 cal, .slice A ls.length k, .int .i64 re, .int .i64 ba] 49)).alloc (.cells #[.int .i64 lv, .int .i64 fr, .int .i64 l, .int .i64 du] 108)).alloc (.cells #[.int .i64 0, .int .i64 0, .int .i64 0, .int .i64 0] 108)) = w2 at C0 C1 C2 HC HU HN HL ⊢
  have c0 : w2.cell? ⟨w.heap.size, 0, none⟩ = some (.int .i64 cal) := (blk_cell C0.out 0).trans rfl
  have c1 : w2.cell? ⟨w.heap.size, 1, none⟩ = some (.slice A ls.length k) := (blk_cell C0.out 1).trans rfl
  have c2 : w2.cell? ⟨w.heap.size, 2, none⟩ = some (.int .i64 re) := (blk_cell C0.out 2).trans rfl
  have c3 : w2.cell? ⟨w.heap.size, 3, none⟩ = some (.int .i64 ba) := (blk_cell C0.out 3).trans rfl
  have s0 : w2.cell? ⟨w.heap.size + 1, 0, none⟩ = some (.int .i64 lv) := (blk_cell C1.out 0).trans rfl
  have s1 : w2.cell? ⟨w.heap.size + 1, 1, none⟩ = some (.int .i64 fr) := (blk_cell C1.out 1).trans rfl
  have s2 : w2.cell? ⟨w.heap.size + 1, 2, none⟩ = some (.int .i64 l) := (blk_cell C1.out 2).trans rfl
  have s3 : w2.cell? ⟨w.heap.size + 1, 3, none⟩ = some (.int .i64 du) := (blk_cell C1.out 3).trans rfl
  have r0 : w2.cell? ⟨w.heap.size + 1 + 1, 0, none⟩ = some (.int .i64 0) := (blk_cell C2.out 0).trans rfl
  have r1 : w2.cell? ⟨w.heap.size + 1 + 1, 1, none⟩ = some (.int .i64 0) := (blk_cell C2.out 1).trans rfl
  have r2 : w2.cell? ⟨w.heap.size + 1 + 1, 2, none⟩ = some (.int .i64 0) := (blk_cell C2.out 2).trans rfl
  have r3 : w2.cell? ⟨w.heap.size + 1 + 1, 3, none⟩ = some (.int .i64 0) := (blk_cell C2.out 3).trans rfl
  have g0 : w2.frozen? ⟨w.heap.size + 1 + 1, 0, none⟩ = false := blk_frozen C2.out 0
  have g1 : w2.frozen? ⟨w.heap.size + 1 + 1, 1, none⟩ = false := blk_frozen C2.out 1
  have g2 : w2.frozen? ⟨w.heap.size + 1 + 1, 2, none⟩ = false := blk_frozen C2.out 2
  have g3 : w2.frozen? ⟨w.heap.size + 1 + 1, 3, none⟩ = false := blk_frozen C2.out 3
  go_wp2_with (go_at_call 60; refine (check14_any w2 HL.out).mono ?_; rintro e w3 ⟨rfl, hb⟩; rw [HG.out]; have HC3 := Aside0.mk (HC.out.below hb); have HU3 := Aside0.mk (HU.out.then hb); have HN3 := Aside0.mk (Nat.le_trans HN.out hb.size); have HL3 : Aside0 (Kd.C k98 w3 A ls.length ls ∧ ls.length ≤ k) := ⟨⟨Kd.C_below HL.out.1 hb, HL.out.2⟩⟩; have n0 := Aside0.mk (blk_below C0.out hb); have n1 := Aside0.mk (blk_below C1.out hb); have n2 := Aside0.mk (blk_below C2.out hb); clear hb; clear C0 C1 C2 c0 c1 c2 c3 s0 s1 s2 s3 r0 r1 r2 r3 g0 g1 g2 g3; have C0 := n0; have C1 := n1; have C2 := n2; clear n0 n1 n2; have c0 : w3.cell? ⟨w.heap.size, 0, none⟩ = some (.int .i64 cal) := (blk_cell C0.out 0).trans rfl; have c1 : w3.cell? ⟨w.heap.size, 1, none⟩ = some (.slice A ls.length k) := (blk_cell C0.out 1).trans rfl; have c2 : w3.cell? ⟨w.heap.size, 2, none⟩ = some (.int .i64 re) := (blk_cell C0.out 2).trans rfl; have c3 : w3.cell? ⟨w.heap.size, 3, none⟩ = some (.int .i64 ba) := (blk_cell C0.out 3).trans rfl; have s0 : w3.cell? ⟨w.heap.size + 1, 0, none⟩ = some (.int .i64 lv) := (blk_cell C1.out 0).trans rfl; have s1 : w3.cell? ⟨w.heap.size + 1, 1, none⟩ = some (.int .i64 fr) := (blk_cell C1.out 1).trans rfl; have s2 : w3.cell? ⟨w.heap.size + 1, 2, none⟩ = some (.int .i64 l) := (blk_cell C1.out 2).trans rfl; have s3 : w3.cell? ⟨w.heap.size + 1, 3, none⟩ = some (.int .i64 du) := (blk_cell C1.out 3).trans rfl; have r0 : w3.cell? ⟨w.heap.size + 1 + 1, 0, none⟩ = some (.int .i64 0) := (blk_cell C2.out 0).trans rfl; have r1 : w3.cell? ⟨w.heap.size + 1 + 1, 1, none⟩ = some (.int .i64 0) := (blk_cell C2.out 1).trans rfl; have r2 : w3.cell? ⟨w.heap.size + 1 + 1, 2, none⟩ = some (.int .i64 0) := (blk_cell C2.out 2).trans rfl; have r3 : w3.cell? ⟨w.heap.size + 1 + 1, 3, none⟩ = some (.int .i64 0) := (blk_cell C2.out 3).trans rfl; have g0 : w3.frozen? ⟨w.heap.size + 1 + 1, 0, none⟩ = false := blk_frozen C2.out 0; have g1 : w3.frozen? ⟨w.heap.size + 1 + 1, 1, none⟩ = false := blk_frozen C2.out 1; have g2 : w3.frozen? ⟨w.heap.size + 1 + 1, 2, none⟩ = false := blk_frozen C2.out 2; have g3 : w3.frozen? ⟨w.heap.size + 1 + 1, 3, none⟩ = false := blk_frozen C2.out 3)
  obtain ⟨C9, U9, E9⟩ := put4 C2.out HC3.out HU3.out (by omega) (.int .i64 0) (.int .i64 0) (.int .i64 0) (.int .i64 0)
  have k0 := (blk_cell E9 0).trans (rfl : _ = some (Value.int .i64 0))
  have k1 := (blk_cell E9 1).trans (rfl : _ = some (Value.int .i64 0))
  have k2 := (blk_cell E9 2).trans (rfl : _ = some (Value.int .i64 0))
  have k3 := (blk_cell E9 3).trans (rfl : _ = some (Value.int .i64 0))
  refine bodyPost_ret (v := .tuple #[.agg #[.int .i64 0, .int .i64 0, .int .i64 0, .int .i64 0], .bool false, .int .i64 2]) (by simp [results, Try.results61, go_sem, k0, k1, k2, k3]) rfl ⟨rfl, C9, U9⟩
set_option maxHeartbeats 4000000 in
set_option maxRecDepth 100000 in
theorem next_hi (cal re ba lv fr l du now : Int) (w : World) (h : ClkAt w n kb ab pb cb off week closed) (hn : n ≤ w.heap.size) (h1 : Kd.C k98 w A ls.length ls ∧ ls.length ≤ k) (hg : goodP cal ls re ba = true) (hx : 0 ≤ lv) (hy : (ls.length : Int) ≤ lv) :
    Calls Try.prog 61 #[.pointer (some ⟨kb, 0, none⟩), .agg #[.int .i64 cal, .slice A ls.length k, .int .i64 re, .int .i64 ba], .agg #[.int .i64 lv, .int .i64 fr, .int .i64 l, .int .i64 du], .int .i64 now] w fun r w' => r = .returned (.tuple #[.agg #[.int .i64 0, .int .i64 0, .int .i64 0, .int .i64 0], .bool false, .int .i64 2]) ∧ ClkAt w' n kb ab pb cb off week closed ∧ Upd cb w w' := by
  have HG := Aside0.mk (show (if goodP cal ls re ba = true then (0 : Int) else 2) = 0 by rw [hg]; rfl)
  have hd : decide (lv < 0) = false := decide_eq_false (by omega)
  have hd2 : decide ((ls.length : Int) ≤ lv) = true := decide_eq_true hy
  clear hg
  have hcb := h.lt
  have C0 : Aside0 ((((w.alloc (.cells #[.int .i64 cal, .slice A ls.length k, .int .i64 re, .int .i64 ba] 49)).alloc (.cells #[.int .i64 lv, .int .i64 fr, .int .i64 l, .int .i64 du] 108)).alloc (.cells #[.int .i64 0, .int .i64 0, .int .i64 0, .int .i64 0] 108)).heap[w.heap.size]? = some (.cells #[.int .i64 cal, .slice A ls.length k, .int .i64 re, .int .i64 ba] 49 (0, 0))) := ⟨blk_alloc (blk_alloc (blk_new w _) _) _⟩
  have C1 : Aside0 ((((w.alloc (.cells #[.int .i64 cal, .slice A ls.length k, .int .i64 re, .int .i64 ba] 49)).alloc (.cells #[.int .i64 lv, .int .i64 fr, .int .i64 l, .int .i64 du] 108)).alloc (.cells #[.int .i64 0, .int .i64 0, .int .i64 0, .int .i64 0] 108)).heap[w.heap.size + 1]? = some (.cells #[.int .i64 lv, .int .i64 fr, .int .i64 l, .int .i64 du] 108 (0, 0))) := ⟨blk_alloc (by simpa using blk_new (w.alloc (.cells #[.int .i64 cal, .slice A ls.length k, .int .i64 re, .int .i64 ba] 49)) (.cells #[.int .i64 lv, .int .i64 fr, .int .i64 l, .int .i64 du] 108)) _⟩
  have C2 : Aside0 ((((w.alloc (.cells #[.int .i64 cal, .slice A ls.length k, .int .i64 re, .int .i64 ba] 49)).alloc (.cells #[.int .i64 lv, .int .i64 fr, .int .i64 l, .int .i64 du] 108)).alloc (.cells #[.int .i64 0, .int .i64 0, .int .i64 0, .int .i64 0] 108)).heap[w.heap.size + 1 + 1]? = some (.cells #[.int .i64 0, .int .i64 0, .int .i64 0, .int .i64 0] 108 (0, 0))) := ⟨by simpa using blk_new ((w.alloc (.cells #[.int .i64 cal, .slice A ls.length k, .int .i64 re, .int .i64 ba] 49)).alloc (.cells #[.int .i64 lv, .int .i64 fr, .int .i64 l, .int .i64 du] 108)) (.cells #[.int .i64 0, .int .i64 0, .int .i64 0, .int .i64 0] 108)⟩
  have HB := below_alloc (below_alloc (below_alloc (Below.refl w.heap.size w) (.cells #[.int .i64 cal, .slice A ls.length k, .int .i64 re, .int .i64 ba] 49)) (.cells #[.int .i64 lv, .int .i64 fr, .int .i64 l, .int .i64 du] 108)) (.cells #[.int .i64 0, .int .i64 0, .int .i64 0, .int .i64 0] 108)
  have HC := Aside0.mk (h.below HB)
  have HU := Aside0.mk (Upd.of_below (b := cb) HB)
  have HN := Aside0.mk (Nat.le_trans hn HB.size)
  have HL : Aside0 (Kd.C k98 _ A ls.length ls ∧ ls.length ≤ k) := ⟨⟨Kd.C_below h1.1 HB, h1.2⟩⟩
  clear h HB h1
  go_enter Try.func61, Try.ntmps61
  go_wp2_with fail
  generalize (((w.alloc (.cells #[.int .i64 cal, .slice A ls.length k, .int .i64 re, .int .i64 ba] 49)).alloc (.cells #[.int .i64 lv, .int .i64 fr, .int .i64 l, .int .i64 du] 108)).alloc (.cells #[.int .i64 0, .int .i64 0, .int .i64 0, .int .i64 0] 108)) = w2 at C0 C1 C2 HC HU HN HL ⊢
  have c0 : w2.cell? ⟨w.heap.size, 0, none⟩ = some (.int .i64 cal) := (blk_cell C0.out 0).trans rfl
  have c1 : w2.cell? ⟨w.heap.size, 1, none⟩ = some (.slice A ls.length k) := (blk_cell C0.out 1).trans rfl
  have c2 : w2.cell? ⟨w.heap.size, 2, none⟩ = some (.int .i64 re) := (blk_cell C0.out 2).trans rfl
  have c3 : w2.cell? ⟨w.heap.size, 3, none⟩ = some (.int .i64 ba) := (blk_cell C0.out 3).trans rfl
  have s0 : w2.cell? ⟨w.heap.size + 1, 0, none⟩ = some (.int .i64 lv) := (blk_cell C1.out 0).trans rfl
  have s1 : w2.cell? ⟨w.heap.size + 1, 1, none⟩ = some (.int .i64 fr) := (blk_cell C1.out 1).trans rfl
  have s2 : w2.cell? ⟨w.heap.size + 1, 2, none⟩ = some (.int .i64 l) := (blk_cell C1.out 2).trans rfl
  have s3 : w2.cell? ⟨w.heap.size + 1, 3, none⟩ = some (.int .i64 du) := (blk_cell C1.out 3).trans rfl
  have r0 : w2.cell? ⟨w.heap.size + 1 + 1, 0, none⟩ = some (.int .i64 0) := (blk_cell C2.out 0).trans rfl
  have r1 : w2.cell? ⟨w.heap.size + 1 + 1, 1, none⟩ = some (.int .i64 0) := (blk_cell C2.out 1).trans rfl
  have r2 : w2.cell? ⟨w.heap.size + 1 + 1, 2, none⟩ = some (.int .i64 0) := (blk_cell C2.out 2).trans rfl
  have r3 : w2.cell? ⟨w.heap.size + 1 + 1, 3, none⟩ = some (.int .i64 0) := (blk_cell C2.out 3).trans rfl
  have g0 : w2.frozen? ⟨w.heap.size + 1 + 1, 0, none⟩ = false := blk_frozen C2.out 0
  have g1 : w2.frozen? ⟨w.heap.size + 1 + 1, 1, none⟩ = false := blk_frozen C2.out 1
  have g2 : w2.frozen? ⟨w.heap.size + 1 + 1, 2, none⟩ = false := blk_frozen C2.out 2
  have g3 : w2.frozen? ⟨w.heap.size + 1 + 1, 3, none⟩ = false := blk_frozen C2.out 3
  go_wp2_with (go_at_call 60; refine (check14_any w2 HL.out).mono ?_; rintro e w3 ⟨rfl, hb⟩; rw [HG.out]; have HC3 := Aside0.mk (HC.out.below hb); have HU3 := Aside0.mk (HU.out.then hb); have HN3 := Aside0.mk (Nat.le_trans HN.out hb.size); have HL3 : Aside0 (Kd.C k98 w3 A ls.length ls ∧ ls.length ≤ k) := ⟨⟨Kd.C_below HL.out.1 hb, HL.out.2⟩⟩; have n0 := Aside0.mk (blk_below C0.out hb); have n1 := Aside0.mk (blk_below C1.out hb); have n2 := Aside0.mk (blk_below C2.out hb); clear hb; clear C0 C1 C2 c0 c1 c2 c3 s0 s1 s2 s3 r0 r1 r2 r3 g0 g1 g2 g3; have C0 := n0; have C1 := n1; have C2 := n2; clear n0 n1 n2; have c0 : w3.cell? ⟨w.heap.size, 0, none⟩ = some (.int .i64 cal) := (blk_cell C0.out 0).trans rfl; have c1 : w3.cell? ⟨w.heap.size, 1, none⟩ = some (.slice A ls.length k) := (blk_cell C0.out 1).trans rfl; have c2 : w3.cell? ⟨w.heap.size, 2, none⟩ = some (.int .i64 re) := (blk_cell C0.out 2).trans rfl; have c3 : w3.cell? ⟨w.heap.size, 3, none⟩ = some (.int .i64 ba) := (blk_cell C0.out 3).trans rfl; have s0 : w3.cell? ⟨w.heap.size + 1, 0, none⟩ = some (.int .i64 lv) := (blk_cell C1.out 0).trans rfl; have s1 : w3.cell? ⟨w.heap.size + 1, 1, none⟩ = some (.int .i64 fr) := (blk_cell C1.out 1).trans rfl; have s2 : w3.cell? ⟨w.heap.size + 1, 2, none⟩ = some (.int .i64 l) := (blk_cell C1.out 2).trans rfl; have s3 : w3.cell? ⟨w.heap.size + 1, 3, none⟩ = some (.int .i64 du) := (blk_cell C1.out 3).trans rfl; have r0 : w3.cell? ⟨w.heap.size + 1 + 1, 0, none⟩ = some (.int .i64 0) := (blk_cell C2.out 0).trans rfl; have r1 : w3.cell? ⟨w.heap.size + 1 + 1, 1, none⟩ = some (.int .i64 0) := (blk_cell C2.out 1).trans rfl; have r2 : w3.cell? ⟨w.heap.size + 1 + 1, 2, none⟩ = some (.int .i64 0) := (blk_cell C2.out 2).trans rfl; have r3 : w3.cell? ⟨w.heap.size + 1 + 1, 3, none⟩ = some (.int .i64 0) := (blk_cell C2.out 3).trans rfl; have g0 : w3.frozen? ⟨w.heap.size + 1 + 1, 0, none⟩ = false := blk_frozen C2.out 0; have g1 : w3.frozen? ⟨w.heap.size + 1 + 1, 1, none⟩ = false := blk_frozen C2.out 1; have g2 : w3.frozen? ⟨w.heap.size + 1 + 1, 2, none⟩ = false := blk_frozen C2.out 2; have g3 : w3.frozen? ⟨w.heap.size + 1 + 1, 3, none⟩ = false := blk_frozen C2.out 3)
  obtain ⟨C9, U9, E9⟩ := put4 C2.out HC3.out HU3.out (by omega) (.int .i64 0) (.int .i64 0) (.int .i64 0) (.int .i64 0)
  have k0 := (blk_cell E9 0).trans (rfl : _ = some (Value.int .i64 0))
  have k1 := (blk_cell E9 1).trans (rfl : _ = some (Value.int .i64 0))
  have k2 := (blk_cell E9 2).trans (rfl : _ = some (Value.int .i64 0))
  have k3 := (blk_cell E9 3).trans (rfl : _ = some (Value.int .i64 0))
  refine bodyPost_ret (v := .tuple #[.agg #[.int .i64 0, .int .i64 0, .int .i64 0, .int .i64 0], .bool false, .int .i64 2]) (by simp [results, Try.results61, go_sem, k0, k1, k2, k3]) rfl ⟨rfl, C9, U9⟩
set_option maxHeartbeats 4000000 in
set_option maxRecDepth 100000 in
theorem next_last (cal re ba lv fr l du now : Int) (w : World) (h : ClkAt w n kb ab pb cb off week closed) (hn : n ≤ w.heap.size) (h1 : Kd.C k98 w A ls.length ls ∧ ls.length ≤ k) (hg : goodP cal ls re ba = true) (hx : 0 ≤ lv) (hy : lv < (ls.length : Int)) (hz : lv = (ls.length : Int) - 1) :
    Calls Try.prog 61 #[.pointer (some ⟨kb, 0, none⟩), .agg #[.int .i64 cal, .slice A ls.length k, .int .i64 re, .int .i64 ba], .agg #[.int .i64 lv, .int .i64 fr, .int .i64 l, .int .i64 du], .int .i64 now] w fun r w' => r = .returned (.tuple #[.agg #[.int .i64 0, .int .i64 0, .int .i64 0, .int .i64 0], .bool false, .int .i64 0]) ∧ ClkAt w' n kb ab pb cb off week closed ∧ Upd cb w w' := by
  have HG := Aside0.mk (show (if goodP cal ls re ba = true then (0 : Int) else 2) = 0 by rw [hg]; rfl)
  obtain ⟨gg, gl⟩ := goodP_iff.1 hg
  have p0 : 1 ≤ (ls.length : Int) := gg.2.2.1
  have p1 : (ls.length : Int) ≤ 6 := gg.2.2.2.1
  have hd : decide (lv < 0) = false := decide_eq_false (by omega)
  have hd2 : decide ((ls.length : Int) ≤ lv) = false := decide_eq_false (by omega)
  clear gg
  have he : (lv == (ls.length : Int) - 1) = true := by simpa using hz
  clear hg gl hz
  have hcb := h.lt
  have C0 : Aside0 ((((w.alloc (.cells #[.int .i64 cal, .slice A ls.length k, .int .i64 re, .int .i64 ba] 49)).alloc (.cells #[.int .i64 lv, .int .i64 fr, .int .i64 l, .int .i64 du] 108)).alloc (.cells #[.int .i64 0, .int .i64 0, .int .i64 0, .int .i64 0] 108)).heap[w.heap.size]? = some (.cells #[.int .i64 cal, .slice A ls.length k, .int .i64 re, .int .i64 ba] 49 (0, 0))) := ⟨blk_alloc (blk_alloc (blk_new w _) _) _⟩
  have C1 : Aside0 ((((w.alloc (.cells #[.int .i64 cal, .slice A ls.length k, .int .i64 re, .int .i64 ba] 49)).alloc (.cells #[.int .i64 lv, .int .i64 fr, .int .i64 l, .int .i64 du] 108)).alloc (.cells #[.int .i64 0, .int .i64 0, .int .i64 0, .int .i64 0] 108)).heap[w.heap.size + 1]? = some (.cells #[.int .i64 lv, .int .i64 fr, .int .i64 l, .int .i64 du] 108 (0, 0))) := ⟨blk_alloc (by simpa using blk_new (w.alloc (.cells #[.int .i64 cal, .slice A ls.length k, .int .i64 re, .int .i64 ba] 49)) (.cells #[.int .i64 lv, .int .i64 fr, .int .i64 l, .int .i64 du] 108)) _⟩
  have C2 : Aside0 ((((w.alloc (.cells #[.int .i64 cal, .slice A ls.length k, .int .i64 re, .int .i64 ba] 49)).alloc (.cells #[.int .i64 lv, .int .i64 fr, .int .i64 l, .int .i64 du] 108)).alloc (.cells #[.int .i64 0, .int .i64 0, .int .i64 0, .int .i64 0] 108)).heap[w.heap.size + 1 + 1]? = some (.cells #[.int .i64 0, .int .i64 0, .int .i64 0, .int .i64 0] 108 (0, 0))) := ⟨by simpa using blk_new ((w.alloc (.cells #[.int .i64 cal, .slice A ls.length k, .int .i64 re, .int .i64 ba] 49)).alloc (.cells #[.int .i64 lv, .int .i64 fr, .int .i64 l, .int .i64 du] 108)) (.cells #[.int .i64 0, .int .i64 0, .int .i64 0, .int .i64 0] 108)⟩
  have HB := below_alloc (below_alloc (below_alloc (Below.refl w.heap.size w) (.cells #[.int .i64 cal, .slice A ls.length k, .int .i64 re, .int .i64 ba] 49)) (.cells #[.int .i64 lv, .int .i64 fr, .int .i64 l, .int .i64 du] 108)) (.cells #[.int .i64 0, .int .i64 0, .int .i64 0, .int .i64 0] 108)
  have HC := Aside0.mk (h.below HB)
  have HU := Aside0.mk (Upd.of_below (b := cb) HB)
  have HN := Aside0.mk (Nat.le_trans hn HB.size)
  have HL : Aside0 (Kd.C k98 _ A ls.length ls ∧ ls.length ≤ k) := ⟨⟨Kd.C_below h1.1 HB, h1.2⟩⟩
  clear h HB h1
  go_enter Try.func61, Try.ntmps61
  go_wp2_with fail
  generalize (((w.alloc (.cells #[.int .i64 cal, .slice A ls.length k, .int .i64 re, .int .i64 ba] 49)).alloc (.cells #[.int .i64 lv, .int .i64 fr, .int .i64 l, .int .i64 du] 108)).alloc (.cells #[.int .i64 0, .int .i64 0, .int .i64 0, .int .i64 0] 108)) = w2 at C0 C1 C2 HC HU HN HL ⊢
  have c0 : w2.cell? ⟨w.heap.size, 0, none⟩ = some (.int .i64 cal) := (blk_cell C0.out 0).trans rfl
  have c1 : w2.cell? ⟨w.heap.size, 1, none⟩ = some (.slice A ls.length k) := (blk_cell C0.out 1).trans rfl
  have c2 : w2.cell? ⟨w.heap.size, 2, none⟩ = some (.int .i64 re) := (blk_cell C0.out 2).trans rfl
  have c3 : w2.cell? ⟨w.heap.size, 3, none⟩ = some (.int .i64 ba) := (blk_cell C0.out 3).trans rfl
  have s0 : w2.cell? ⟨w.heap.size + 1, 0, none⟩ = some (.int .i64 lv) := (blk_cell C1.out 0).trans rfl
  have s1 : w2.cell? ⟨w.heap.size + 1, 1, none⟩ = some (.int .i64 fr) := (blk_cell C1.out 1).trans rfl
  have s2 : w2.cell? ⟨w.heap.size + 1, 2, none⟩ = some (.int .i64 l) := (blk_cell C1.out 2).trans rfl
  have s3 : w2.cell? ⟨w.heap.size + 1, 3, none⟩ = some (.int .i64 du) := (blk_cell C1.out 3).trans rfl
  have r0 : w2.cell? ⟨w.heap.size + 1 + 1, 0, none⟩ = some (.int .i64 0) := (blk_cell C2.out 0).trans rfl
  have r1 : w2.cell? ⟨w.heap.size + 1 + 1, 1, none⟩ = some (.int .i64 0) := (blk_cell C2.out 1).trans rfl
  have r2 : w2.cell? ⟨w.heap.size + 1 + 1, 2, none⟩ = some (.int .i64 0) := (blk_cell C2.out 2).trans rfl
  have r3 : w2.cell? ⟨w.heap.size + 1 + 1, 3, none⟩ = some (.int .i64 0) := (blk_cell C2.out 3).trans rfl
  have g0 : w2.frozen? ⟨w.heap.size + 1 + 1, 0, none⟩ = false := blk_frozen C2.out 0
  have g1 : w2.frozen? ⟨w.heap.size + 1 + 1, 1, none⟩ = false := blk_frozen C2.out 1
  have g2 : w2.frozen? ⟨w.heap.size + 1 + 1, 2, none⟩ = false := blk_frozen C2.out 2
  have g3 : w2.frozen? ⟨w.heap.size + 1 + 1, 3, none⟩ = false := blk_frozen C2.out 3
  go_wp2_with (go_at_call 60; refine (check14_any w2 HL.out).mono ?_; rintro e w3 ⟨rfl, hb⟩; rw [HG.out]; have HC3 := Aside0.mk (HC.out.below hb); have HU3 := Aside0.mk (HU.out.then hb); have HN3 := Aside0.mk (Nat.le_trans HN.out hb.size); have HL3 : Aside0 (Kd.C k98 w3 A ls.length ls ∧ ls.length ≤ k) := ⟨⟨Kd.C_below HL.out.1 hb, HL.out.2⟩⟩; have n0 := Aside0.mk (blk_below C0.out hb); have n1 := Aside0.mk (blk_below C1.out hb); have n2 := Aside0.mk (blk_below C2.out hb); clear hb; clear C0 C1 C2 c0 c1 c2 c3 s0 s1 s2 s3 r0 r1 r2 r3 g0 g1 g2 g3; have C0 := n0; have C1 := n1; have C2 := n2; clear n0 n1 n2; have c0 : w3.cell? ⟨w.heap.size, 0, none⟩ = some (.int .i64 cal) := (blk_cell C0.out 0).trans rfl; have c1 : w3.cell? ⟨w.heap.size, 1, none⟩ = some (.slice A ls.length k) := (blk_cell C0.out 1).trans rfl; have c2 : w3.cell? ⟨w.heap.size, 2, none⟩ = some (.int .i64 re) := (blk_cell C0.out 2).trans rfl; have c3 : w3.cell? ⟨w.heap.size, 3, none⟩ = some (.int .i64 ba) := (blk_cell C0.out 3).trans rfl; have s0 : w3.cell? ⟨w.heap.size + 1, 0, none⟩ = some (.int .i64 lv) := (blk_cell C1.out 0).trans rfl; have s1 : w3.cell? ⟨w.heap.size + 1, 1, none⟩ = some (.int .i64 fr) := (blk_cell C1.out 1).trans rfl; have s2 : w3.cell? ⟨w.heap.size + 1, 2, none⟩ = some (.int .i64 l) := (blk_cell C1.out 2).trans rfl; have s3 : w3.cell? ⟨w.heap.size + 1, 3, none⟩ = some (.int .i64 du) := (blk_cell C1.out 3).trans rfl; have r0 : w3.cell? ⟨w.heap.size + 1 + 1, 0, none⟩ = some (.int .i64 0) := (blk_cell C2.out 0).trans rfl; have r1 : w3.cell? ⟨w.heap.size + 1 + 1, 1, none⟩ = some (.int .i64 0) := (blk_cell C2.out 1).trans rfl; have r2 : w3.cell? ⟨w.heap.size + 1 + 1, 2, none⟩ = some (.int .i64 0) := (blk_cell C2.out 2).trans rfl; have r3 : w3.cell? ⟨w.heap.size + 1 + 1, 3, none⟩ = some (.int .i64 0) := (blk_cell C2.out 3).trans rfl; have g0 : w3.frozen? ⟨w.heap.size + 1 + 1, 0, none⟩ = false := blk_frozen C2.out 0; have g1 : w3.frozen? ⟨w.heap.size + 1 + 1, 1, none⟩ = false := blk_frozen C2.out 1; have g2 : w3.frozen? ⟨w.heap.size + 1 + 1, 2, none⟩ = false := blk_frozen C2.out 2; have g3 : w3.frozen? ⟨w.heap.size + 1 + 1, 3, none⟩ = false := blk_frozen C2.out 3)
  obtain ⟨C9, U9, E9⟩ := put4 C2.out HC3.out HU3.out (by omega) (.int .i64 0) (.int .i64 0) (.int .i64 0) (.int .i64 0)
  have k0 := (blk_cell E9 0).trans (rfl : _ = some (Value.int .i64 0))
  have k1 := (blk_cell E9 1).trans (rfl : _ = some (Value.int .i64 0))
  have k2 := (blk_cell E9 2).trans (rfl : _ = some (Value.int .i64 0))
  have k3 := (blk_cell E9 3).trans (rfl : _ = some (Value.int .i64 0))
  refine bodyPost_ret (v := .tuple #[.agg #[.int .i64 0, .int .i64 0, .int .i64 0, .int .i64 0], .bool false, .int .i64 0]) (by simp [results, Try.results61, go_sem, k0, k1, k2, k3]) rfl ⟨rfl, C9, U9⟩
set_option maxHeartbeats 4000000 in
set_option maxRecDepth 100000 in
theorem next_main (cal re ba lv fr l du now : Int) (w : World) (h : ClkAt w n kb ab pb cb off week closed) (hn : n ≤ w.heap.size) (h1 : Kd.C k98 w A ls.length ls ∧ ls.length ≤ k) (hg : goodP cal ls re ba = true) (hx : 0 ≤ lv) (hy : lv < (ls.length : Int)) (hz : lv ≠ (ls.length : Int) - 1) (a b c d e : Int) (ha : atS off week closed (lv + 1) (rd_T98 ls (lv + 1)).f0 now = (a, b, c, d, e)) :
    Calls Try.prog 61 #[.pointer (some ⟨kb, 0, none⟩), .agg #[.int .i64 cal, .slice A ls.length k, .int .i64 re, .int .i64 ba], .agg #[.int .i64 lv, .int .i64 fr, .int .i64 l, .int .i64 du], .int .i64 now] w fun r w' => r = .returned (.tuple #[.agg #[.int .i64 a, .int .i64 b, .int .i64 c, .int .i64 d], .bool (e == 0), .int .i64 e]) ∧ ClkAt w' n kb ab pb cb off week closed ∧ Upd cb w w' := by
  have HG := Aside0.mk (show (if goodP cal ls re ba = true then (0 : Int) else 2) = 0 by rw [hg]; rfl)
  obtain ⟨gg, gl⟩ := goodP_iff.1 hg
  have p0 : 1 ≤ (ls.length : Int) := gg.2.2.1
  have p1 : (ls.length : Int) ≤ 6 := gg.2.2.2.1
  have hd : decide (lv < 0) = false := decide_eq_false (by omega)
  have hd2 : decide ((ls.length : Int) ≤ lv) = false := decide_eq_false (by omega)
  clear gg
  have he : (lv == (ls.length : Int) - 1) = false := by simpa using hz
  have q0 : 0 ≤ lv + 1 := by omega
  have q1 : lv + 1 < (ls.length : Int) := by omega
  have hm := gl (rd_T98 ls ((lv.toNat + 1 : Nat) : Int)) (by rw [rdL_at ls (lv.toNat + 1) (by omega)]; exact List.getElem_mem _)
  rw [show ((lv.toNat + 1 : Nat) : Int) = lv + 1 by omega] at hm
  obtain ⟨b0, b1, _, _⟩ := hm
  obtain ⟨ad, e1, hx0, hx1⟩ := at_T98 h1.1 (lv + 1) q0 q1
  subst e1
  generalize (rd_T98 ls (lv + 1)).f0 = B at ha b0 b1 hx0
  have HA := Aside0.mk ha
  have HX : Aside0 (w.cell? (ad.add ((lv + 1).toNat * 2)) = some (.int .i64 B)) := ⟨hx0⟩
  have hw : wrap64 (lv + 1) = lv + 1 := wrap_id (by omega) (by omega)
  clear hg gl hx0 hx1 ha hz
  have hcb := h.lt
  have C0 : Aside0 ((((w.alloc (.cells #[.int .i64 cal, .slice (some ad) ls.length k, .int .i64 re, .int .i64 ba] 49)).alloc (.cells #[.int .i64 lv, .int .i64 fr, .int .i64 l, .int .i64 du] 108)).alloc (.cells #[.int .i64 0, .int .i64 0, .int .i64 0, .int .i64 0] 108)).heap[w.heap.size]? = some (.cells #[.int .i64 cal, .slice (some ad) ls.length k, .int .i64 re, .int .i64 ba] 49 (0, 0))) := ⟨blk_alloc (blk_alloc (blk_new w _) _) _⟩
  have C1 : Aside0 ((((w.alloc (.cells #[.int .i64 cal, .slice (some ad) ls.length k, .int .i64 re, .int .i64 ba] 49)).alloc (.cells #[.int .i64 lv, .int .i64 fr, .int .i64 l, .int .i64 du] 108)).alloc (.cells #[.int .i64 0, .int .i64 0, .int .i64 0, .int .i64 0] 108)).heap[w.heap.size + 1]? = some (.cells #[.int .i64 lv, .int .i64 fr, .int .i64 l, .int .i64 du] 108 (0, 0))) := ⟨blk_alloc (by simpa using blk_new (w.alloc (.cells #[.int .i64 cal, .slice (some ad) ls.length k, .int .i64 re, .int .i64 ba] 49)) (.cells #[.int .i64 lv, .int .i64 fr, .int .i64 l, .int .i64 du] 108)) _⟩
  have C2 : Aside0 ((((w.alloc (.cells #[.int .i64 cal, .slice (some ad) ls.length k, .int .i64 re, .int .i64 ba] 49)).alloc (.cells #[.int .i64 lv, .int .i64 fr, .int .i64 l, .int .i64 du] 108)).alloc (.cells #[.int .i64 0, .int .i64 0, .int .i64 0, .int .i64 0] 108)).heap[w.heap.size + 1 + 1]? = some (.cells #[.int .i64 0, .int .i64 0, .int .i64 0, .int .i64 0] 108 (0, 0))) := ⟨by simpa using blk_new ((w.alloc (.cells #[.int .i64 cal, .slice (some ad) ls.length k, .int .i64 re, .int .i64 ba] 49)).alloc (.cells #[.int .i64 lv, .int .i64 fr, .int .i64 l, .int .i64 du] 108)) (.cells #[.int .i64 0, .int .i64 0, .int .i64 0, .int .i64 0] 108)⟩
  have HB := below_alloc (below_alloc (below_alloc (Below.refl w.heap.size w) (.cells #[.int .i64 cal, .slice (some ad) ls.length k, .int .i64 re, .int .i64 ba] 49)) (.cells #[.int .i64 lv, .int .i64 fr, .int .i64 l, .int .i64 du] 108)) (.cells #[.int .i64 0, .int .i64 0, .int .i64 0, .int .i64 0] 108)
  have HC := Aside0.mk (h.below HB)
  have HU := Aside0.mk (Upd.of_below (b := cb) HB)
  have HN := Aside0.mk (Nat.le_trans hn HB.size)
  have HL : Aside0 (Kd.C k98 _ (some ad) ls.length ls ∧ ls.length ≤ k) := ⟨⟨Kd.C_below h1.1 HB, h1.2⟩⟩
  have X0 := Aside0.mk ((HB.cell (World.block_lt_of_cell? w _ HX.out)).trans HX.out)
  clear h HB h1 HX
  go_enter Try.func61, Try.ntmps61
  go_wp2_with fail
  generalize (((w.alloc (.cells #[.int .i64 cal, .slice (some ad) ls.length k, .int .i64 re, .int .i64 ba] 49)).alloc (.cells #[.int .i64 lv, .int .i64 fr, .int .i64 l, .int .i64 du] 108)).alloc (.cells #[.int .i64 0, .int .i64 0, .int .i64 0, .int .i64 0] 108)) = w2 at C0 C1 C2 HC HU HN HL X0 ⊢
  have c0 : w2.cell? ⟨w.heap.size, 0, none⟩ = some (.int .i64 cal) := (blk_cell C0.out 0).trans rfl
  have c1 : w2.cell? ⟨w.heap.size, 1, none⟩ = some (.slice (some ad) ls.length k) := (blk_cell C0.out 1).trans rfl
  have c2 : w2.cell? ⟨w.heap.size, 2, none⟩ = some (.int .i64 re) := (blk_cell C0.out 2).trans rfl
  have c3 : w2.cell? ⟨w.heap.size, 3, none⟩ = some (.int .i64 ba) := (blk_cell C0.out 3).trans rfl
  have s0 : w2.cell? ⟨w.heap.size + 1, 0, none⟩ = some (.int .i64 lv) := (blk_cell C1.out 0).trans rfl
  have s1 : w2.cell? ⟨w.heap.size + 1, 1, none⟩ = some (.int .i64 fr) := (blk_cell C1.out 1).trans rfl
  have s2 : w2.cell? ⟨w.heap.size + 1, 2, none⟩ = some (.int .i64 l) := (blk_cell C1.out 2).trans rfl
  have s3 : w2.cell? ⟨w.heap.size + 1, 3, none⟩ = some (.int .i64 du) := (blk_cell C1.out 3).trans rfl
  have r0 : w2.cell? ⟨w.heap.size + 1 + 1, 0, none⟩ = some (.int .i64 0) := (blk_cell C2.out 0).trans rfl
  have r1 : w2.cell? ⟨w.heap.size + 1 + 1, 1, none⟩ = some (.int .i64 0) := (blk_cell C2.out 1).trans rfl
  have r2 : w2.cell? ⟨w.heap.size + 1 + 1, 2, none⟩ = some (.int .i64 0) := (blk_cell C2.out 2).trans rfl
  have r3 : w2.cell? ⟨w.heap.size + 1 + 1, 3, none⟩ = some (.int .i64 0) := (blk_cell C2.out 3).trans rfl
  have g0 : w2.frozen? ⟨w.heap.size + 1 + 1, 0, none⟩ = false := blk_frozen C2.out 0
  have g1 : w2.frozen? ⟨w.heap.size + 1 + 1, 1, none⟩ = false := blk_frozen C2.out 1
  have g2 : w2.frozen? ⟨w.heap.size + 1 + 1, 2, none⟩ = false := blk_frozen C2.out 2
  have g3 : w2.frozen? ⟨w.heap.size + 1 + 1, 3, none⟩ = false := blk_frozen C2.out 3
  go_wp2_with (go_at_call 60; refine (check14_any w2 HL.out).mono ?_; rintro e w3 ⟨rfl, hb⟩; rw [HG.out]; have HC3 := Aside0.mk (HC.out.below hb); have HU3 := Aside0.mk (HU.out.then hb); have HN3 := Aside0.mk (Nat.le_trans HN.out hb.size); have HL3 : Aside0 (Kd.C k98 w3 (some ad) ls.length ls ∧ ls.length ≤ k) := ⟨⟨Kd.C_below HL.out.1 hb, HL.out.2⟩⟩; have n0 := Aside0.mk (blk_below C0.out hb); have n1 := Aside0.mk (blk_below C1.out hb); have n2 := Aside0.mk (blk_below C2.out hb); have X3 := Aside0.mk ((hb.cell (World.block_lt_of_cell? w2 _ X0.out)).trans X0.out); clear hb X0; clear C0 C1 C2 c0 c1 c2 c3 s0 s1 s2 s3 r0 r1 r2 r3 g0 g1 g2 g3; have C0 := n0; have C1 := n1; have C2 := n2; clear n0 n1 n2; have c0 : w3.cell? ⟨w.heap.size, 0, none⟩ = some (.int .i64 cal) := (blk_cell C0.out 0).trans rfl; have c1 : w3.cell? ⟨w.heap.size, 1, none⟩ = some (.slice (some ad) ls.length k) := (blk_cell C0.out 1).trans rfl; have c2 : w3.cell? ⟨w.heap.size, 2, none⟩ = some (.int .i64 re) := (blk_cell C0.out 2).trans rfl; have c3 : w3.cell? ⟨w.heap.size, 3, none⟩ = some (.int .i64 ba) := (blk_cell C0.out 3).trans rfl; have s0 : w3.cell? ⟨w.heap.size + 1, 0, none⟩ = some (.int .i64 lv) := (blk_cell C1.out 0).trans rfl; have s1 : w3.cell? ⟨w.heap.size + 1, 1, none⟩ = some (.int .i64 fr) := (blk_cell C1.out 1).trans rfl; have s2 : w3.cell? ⟨w.heap.size + 1, 2, none⟩ = some (.int .i64 l) := (blk_cell C1.out 2).trans rfl; have s3 : w3.cell? ⟨w.heap.size + 1, 3, none⟩ = some (.int .i64 du) := (blk_cell C1.out 3).trans rfl; have r0 : w3.cell? ⟨w.heap.size + 1 + 1, 0, none⟩ = some (.int .i64 0) := (blk_cell C2.out 0).trans rfl; have r1 : w3.cell? ⟨w.heap.size + 1 + 1, 1, none⟩ = some (.int .i64 0) := (blk_cell C2.out 1).trans rfl; have r2 : w3.cell? ⟨w.heap.size + 1 + 1, 2, none⟩ = some (.int .i64 0) := (blk_cell C2.out 2).trans rfl; have r3 : w3.cell? ⟨w.heap.size + 1 + 1, 3, none⟩ = some (.int .i64 0) := (blk_cell C2.out 3).trans rfl; have g0 : w3.frozen? ⟨w.heap.size + 1 + 1, 0, none⟩ = false := blk_frozen C2.out 0; have g1 : w3.frozen? ⟨w.heap.size + 1 + 1, 1, none⟩ = false := blk_frozen C2.out 1; have g2 : w3.frozen? ⟨w.heap.size + 1 + 1, 2, none⟩ = false := blk_frozen C2.out 2; have g3 : w3.frozen? ⟨w.heap.size + 1 + 1, 3, none⟩ = false := blk_frozen C2.out 3)
  have hb4 : Below w3.heap.size w3 w3.drew := below_drew1 (Below.refl _ _)
  have HC4 := Aside0.mk (HC3.out.below hb4)
  have HU4 := Aside0.mk (HU3.out.then hb4)
  have HN4 : Aside0 (n ≤ w3.drew.heap.size) := ⟨HN3.out⟩
  have D0 := Aside0.mk (blk_below C0.out hb4)
  have D1 := Aside0.mk (blk_below C1.out hb4)
  have D2 := Aside0.mk (blk_below C2.out hb4)
  have z0 : w3.drew.cell? ⟨w.heap.size + 1, 0, none⟩ = some (.int .i64 lv) := (blk_cell D1.out 0).trans rfl
  have z1 : w3.drew.cell? ⟨w.heap.size, 1, none⟩ = some (.slice (some ad) ls.length k) := (blk_cell D0.out 1).trans rfl
  have z2 : w3.drew.cell? (ad.add ((lv + 1).toNat * 2)) = some (.int .i64 B) := X3.out
  clear hb4 C0 C1 C2 HC3 HU3 HN3 X3 c0 c1 c2 c3 s0 s1 s2 s3 r0 r1 r2 r3 g0 g1 g2 g3
  refine start_ (n := 20) (S := fun w' => w'.cell? ⟨w.heap.size + 1, 0, none⟩ = some (.int .i64 lv) ∧ w'.cell? ⟨w.heap.size, 1, none⟩ = some (.slice (some ad) ls.length k) ∧ w'.cell? (ad.add ((lv + 1).toNat * 2)) = some (.int .i64 B)) (ds := [14, 18]) #[false, false, false, false, false, false, false, false, false, false, false, false, false, false, false, false, false, false, false, false] (by kernel_rfl) rfl rfl ⟨z0, z1, z2⟩ (fun hHeld => ?_); refine with_tabW next_tab9 next_bits9 (fun HT_ HW_ => ?_)
  clear z0 z1 z2
  generalize w3.drew = w4 at HC4 HU4 HN4 D0 D1 D2 hHeld ⊢
  refine pure_ (i := 0) (N := some 45) (v := ?_) (a' := ?_) #[true, false, false, false, false, false, false, false, false, false, false, false, false, false, false, false, false, false, false, false] rfl rfl (any_of HT_.out (by kernel_rfl)) (fun _ _ _ h => h) (Or.inl ⟨by rfl, ?_⟩) ?_ ?_
  rotate_left
  · intro w'
    go_simp
    with_reducible rfl
  rotate_left
  · simp only [Act.put, List.setIfInBounds_toArray, List.set_cons_zero, List.set_cons_succ, i64_w, i32_w]
    rfl
  refine pure_ (i := 3) (N := some 48) (v := ?_) (a' := ?_) #[true, false, false, true, false, false, false, false, false, false, false, false, false, false, false, false, false, false, false, false] rfl rfl (any_of HT_.out (by kernel_rfl)) (fun _ _ _ h => h) (Or.inl ⟨by rfl, ?_⟩) ?_ ?_
  rotate_left
  · intro w'
    go_simp
    with_reducible rfl
  rotate_left
  · simp only [Act.put, List.setIfInBounds_toArray, List.set_cons_zero, List.set_cons_succ, i64_w, i32_w]
    rfl
  refine pure_ (i := 5) (N := some 50) (v := ?_) (a' := ?_) #[true, false, false, true, false, true, false, false, false, false, false, false, false, false, false, false, false, false, false, false] rfl rfl (any_of HT_.out (by kernel_rfl)) (fun _ _ _ h => h) (Or.inl ⟨by rfl, ?_⟩) ?_ ?_
  rotate_left
  · intro w'
    go_simp
    with_reducible rfl
  rotate_left
  · simp only [Act.put, List.setIfInBounds_toArray, List.set_cons_zero, List.set_cons_succ, i64_w, i32_w]
    rfl
  refine pure_ (i := 12) (N := some 57) (v := ?_) (a' := ?_) #[true, false, false, true, false, true, false, false, false, false, false, false, true, false, false, false, false, false, false, false] rfl rfl (any_of HT_.out (by kernel_rfl)) (fun _ _ _ h => h) (Or.inl ⟨by rfl, ?_⟩) ?_ ?_
  rotate_left
  · intro w'
    go_simp
    with_reducible rfl
  rotate_left
  · simp only [Act.put, List.setIfInBounds_toArray, List.set_cons_zero, List.set_cons_succ, i64_w, i32_w]
    rfl
  refine pure_ (i := 13) (N := some 58) (v := ?_) (a' := ?_) #[true, false, false, true, false, true, false, false, false, false, false, false, true, true, false, false, false, false, false, false] rfl rfl (any_of HT_.out (by kernel_rfl)) (fun _ _ _ h => h) (Or.inl ⟨by rfl, ?_⟩) ?_ ?_
  rotate_left
  · intro w'
    go_simp
    with_reducible rfl
  rotate_left
  · simp only [Act.put, List.setIfInBounds_toArray, List.set_cons_zero, List.set_cons_succ, i64_w, i32_w]
    rfl
  refine take_ (i := 1) (N := some 46) (v := ?_) (a' := ?_) #[true, true, false, true, false, true, false, false, false, false, false, false, true, true, false, false, false, false, false, false] rfl rfl (take_ofW HT_.out HW_.out (by kernel_rfl)) (fun _ _ _ h => h) (Or.inl ⟨by rfl, ?_⟩) hHeld ?_ ?_
  rotate_left
  · rintro w' ⟨s0, s1, s2⟩
    go_simp
    with_reducible rfl
  rotate_left
  · simp only [Act.put, List.setIfInBounds_toArray, List.set_cons_zero, List.set_cons_succ, i64_w, i32_w]
    rfl
  refine pure_ (i := 2) (N := some 47) (v := ?_) (a' := ?_) #[true, true, true, true, false, true, false, false, false, false, false, false, true, true, false, false, false, false, false, false] rfl rfl (any_of HT_.out (by kernel_rfl)) (fun _ _ _ h => h) (Or.inl ⟨by rfl, ?_⟩) ?_ ?_
  rotate_left
  · intro w'
    go_simp
    with_reducible rfl
  rotate_left
  · simp only [Act.put, List.setIfInBounds_toArray, List.set_cons_zero, List.set_cons_succ, i64_w, i32_w]
    rfl
  refine take_ (i := 4) (N := some 49) (v := ?_) (a' := ?_) #[true, true, true, true, true, true, false, false, false, false, false, false, true, true, false, false, false, false, false, false] rfl rfl (take_ofW HT_.out HW_.out (by kernel_rfl)) (fun _ _ _ h => h) (Or.inl ⟨by rfl, ?_⟩) hHeld ?_ ?_
  rotate_left
  · rintro w' ⟨s0, s1, s2⟩
    go_simp
    with_reducible rfl
  rotate_left
  · simp only [Act.put, List.setIfInBounds_toArray, List.set_cons_zero, List.set_cons_succ, i64_w, i32_w]
    rfl
  refine take_ (i := 6) (N := some 51) (v := ?_) (a' := ?_) #[true, true, true, true, true, true, true, false, false, false, false, false, true, true, false, false, false, false, false, false] rfl rfl (take_ofW HT_.out HW_.out (by kernel_rfl)) (fun _ _ _ h => h) (Or.inl ⟨by rfl, ?_⟩) hHeld ?_ ?_
  rotate_left
  · rintro w' ⟨s0, s1, s2⟩
    go_simp
    with_reducible rfl
  rotate_left
  · simp only [Act.put, List.setIfInBounds_toArray, List.set_cons_zero, List.set_cons_succ, i64_w, i32_w]
    rfl
  refine pure_ (i := 7) (N := some 52) (v := ?_) (a' := ?_) #[true, true, true, true, true, true, true, true, false, false, false, false, true, true, false, false, false, false, false, false] rfl rfl (any_of HT_.out (by kernel_rfl)) (fun _ _ _ h => h) (Or.inl ⟨by rfl, ?_⟩) ?_ ?_
  rotate_left
  · intro w'
    go_simp
    with_reducible rfl
  rotate_left
  · simp only [Act.put, List.setIfInBounds_toArray, List.set_cons_zero, List.set_cons_succ, i64_w, i32_w]
    rfl
  refine pure_ (i := 8) (N := some 53) (v := ?_) (a' := ?_) #[true, true, true, true, true, true, true, true, true, false, false, false, true, true, false, false, false, false, false, false] rfl rfl (any_of HT_.out (by kernel_rfl)) (fun _ _ _ h => h) (Or.inl ⟨by rfl, ?_⟩) ?_ ?_
  rotate_left
  · intro w'
    go_simp
    with_reducible rfl
  rotate_left
  · simp only [Act.put, List.setIfInBounds_toArray, List.set_cons_zero, List.set_cons_succ, i64_w, i32_w]
    rfl
  refine pure_ (i := 9) (N := some 54) (v := ?_) (a' := ?_) #[true, true, true, true, true, true, true, true, true, true, false, false, true, true, false, false, false, false, false, false] rfl rfl (any_of HT_.out (by kernel_rfl)) (fun _ _ _ h => h) (Or.inl ⟨by rfl, ?_⟩) ?_ ?_
  rotate_left
  · intro w'
    go_simp
    with_reducible rfl
  rotate_left
  · simp only [Act.put, List.setIfInBounds_toArray, List.set_cons_zero, List.set_cons_succ, i64_w, i32_w]
    rfl
  refine take_ (i := 10) (N := some 55) (v := ?_) (a' := ?_) #[true, true, true, true, true, true, true, true, true, true, true, false, true, true, false, false, false, false, false, false] rfl rfl (take_ofW HT_.out HW_.out (by kernel_rfl)) (fun _ _ _ h => h) (Or.inl ⟨by rfl, ?_⟩) hHeld ?_ ?_
  rotate_left
  · rintro w' ⟨s0, s1, s2⟩
    go_simp
    with_reducible rfl
  rotate_left
  · simp only [Act.put, List.setIfInBounds_toArray, List.set_cons_zero, List.set_cons_succ, i64_w, i32_w]
    rfl
  refine pure_ (i := 11) (N := some 56) (v := ?_) (a' := ?_) #[true, true, true, true, true, true, true, true, true, true, true, true, true, true, false, false, false, false, false, false] rfl rfl (any_of HT_.out (by kernel_rfl)) (fun _ _ _ h => h) (Or.inl ⟨by rfl, ?_⟩) ?_ ?_
  rotate_left
  · intro w'
    go_simp
    with_reducible rfl
  rotate_left
  · simp only [Act.put, List.setIfInBounds_toArray, List.set_cons_zero, List.set_cons_succ, i64_w, i32_w]
    rfl
  refine last_ (i := 14) (N := some 59) #[true, true, true, true, true, true, true, true, true, true, true, true, true, true, true, false, false, false, false, false] rfl rfl (one_of HT_.out (by kernel_rfl)) (by decide) (fun K hK => ?_)
  refine goes_ Try.func94 (by kernel_rfl) rfl #[.agg #[.int .i64 (lv + 1), .int .i64 0, .int .i64 B, .int .i64 0], .pointer (some ⟨kb, 0, none⟩), .int .i64 now] (by rfl) rfl rfl (by (try simp only [List.map_toArray, List.map_cons, List.map_nil]); first | done | rfl) ?_
  refine (stepat_any (lv + 1) 0 B 0 now a b c d e _ HC4.out HN4.out (by omega) HA.out).mono ?_
  rintro e w5 ⟨rfl, CK, UK⟩
  refine ⟨_, rfl, ?_⟩
  have HC5 := Aside0.mk CK
  have HU5 := Aside0.mk (HU4.out.trans UK)
  have E1 := Aside0.mk (UK.blk D1.out (by omega))
  have E2 := Aside0.mk (UK.blk D2.out (by omega))
  clear CK UK
  have u0 : w5.cell? ⟨w.heap.size + 1, 0, none⟩ = some (.int .i64 lv) := (blk_cell E1.out 0).trans rfl
  have u1 : w5.cell? ⟨w.heap.size + 1, 1, none⟩ = some (.int .i64 fr) := (blk_cell E1.out 1).trans rfl
  have u2 : w5.cell? ⟨w.heap.size + 1, 2, none⟩ = some (.int .i64 l) := (blk_cell E1.out 2).trans rfl
  have u3 : w5.cell? ⟨w.heap.size + 1, 3, none⟩ = some (.int .i64 du) := (blk_cell E1.out 3).trans rfl
  have f0 : w5.frozen? ⟨w.heap.size + 1, 0, none⟩ = false := blk_frozen E1.out 0
  have f1 : w5.frozen? ⟨w.heap.size + 1, 1, none⟩ = false := blk_frozen E1.out 1
  have f2 : w5.frozen? ⟨w.heap.size + 1, 2, none⟩ = false := blk_frozen E1.out 2
  have f3 : w5.frozen? ⟨w.heap.size + 1, 3, none⟩ = false := blk_frozen E1.out 3
  refine hK.out _ _ ?_
  clear hK K
  refine norm_ (a' := ?_) ?_ ?_
  rotate_left
  · show Act.put _ (some 59) _ = _
    simp only [Act.put, List.setIfInBounds_toArray, List.set_cons_zero, List.set_cons_succ, i64_w, i32_w]
    rfl
  refine pure_ (i := 15) (N := some 44) (v := ?_) (a' := ?_) #[true, true, true, true, true, true, true, true, true, true, true, true, true, true, true, true, false, false, false, false] rfl rfl (any_of HT_.out (by kernel_rfl)) (fun _ _ _ h => h) (Or.inl ⟨by rfl, ?_⟩) ?_ ?_
  rotate_left
  · intro w'
    go_simp
    with_reducible rfl
  rotate_left
  · simp only [Act.put, List.setIfInBounds_toArray, List.set_cons_zero, List.set_cons_succ, i64_w, i32_w]
    rfl
  refine pure_ (i := 16) (N := some 60) (v := ?_) (a' := ?_) #[true, true, true, true, true, true, true, true, true, true, true, true, true, true, true, true, true, false, false, false] rfl rfl (any_of HT_.out (by kernel_rfl)) (fun _ _ _ h => h) (Or.inl ⟨by rfl, ?_⟩) ?_ ?_
  rotate_left
  · intro w'
    go_simp
    with_reducible rfl
  rotate_left
  · simp only [Act.put, List.setIfInBounds_toArray, List.set_cons_zero, List.set_cons_succ, i64_w, i32_w]
    rfl
  refine pure_ (i := 17) (N := some 61) (v := ?_) (a' := ?_) #[true, true, true, true, true, true, true, true, true, true, true, true, true, true, true, true, true, true, false, false] rfl rfl (any_of HT_.out (by kernel_rfl)) (fun _ _ _ h => h) (Or.inl ⟨by rfl, ?_⟩) ?_ ?_
  rotate_left
  · intro w'
    go_simp
    with_reducible rfl
  rotate_left
  · simp only [Act.put, List.setIfInBounds_toArray, List.set_cons_zero, List.set_cons_succ, i64_w, i32_w]
    rfl
  refine last_ (i := 18) (N := none) #[true, true, true, true, true, true, true, true, true, true, true, true, true, true, true, true, true, true, true, false] rfl rfl (one_of HT_.out (by kernel_rfl)) (by decide) (fun K hK => ?_)
  refine skip_ (w1 := ?_) (by rfl) rfl ?_ ?_
  rotate_left 1
  · go_simp
    rfl
  refine hK.out _ _ ?_
  clear hK K
  refine pure_ (i := 19) (N := some 11) (v := ?_) (a' := ?_) #[true, true, true, true, true, true, true, true, true, true, true, true, true, true, true, true, true, true, true, true] rfl rfl (any_of HT_.out (by kernel_rfl)) (fun _ _ _ h => h) (Or.inl ⟨by rfl, ?_⟩) ?_ ?_
  rotate_left
  · intro w'
    go_simp
    with_reducible rfl
  rotate_left
  · simp only [Act.put, List.setIfInBounds_toArray, List.set_cons_zero, List.set_cons_succ, i64_w, i32_w]
    rfl
  refine done_ (done_of HT_.out (by kernel_rfl)) ?_
  clear HT_ HW_ hHeld u0 u1 u2 u3 f0 f1 f2 f3
  obtain ⟨C6, U6, E6⟩ := put4 E1.out HC5.out HU5.out (by omega) (.int .i64 a) (.int .i64 b) (.int .i64 c) (.int .i64 d)
  have HC6 := Aside0.mk C6
  have HU6 := Aside0.mk U6
  have C1 := Aside0.mk E6
  have C2 := Aside0.mk (far4 (b := w.heap.size + 1) E2.out (by omega) (.int .i64 a) (.int .i64 b) (.int .i64 c) (.int .i64 d))
  clear C6 U6 E6
  generalize ((((w5.setCell ⟨w.heap.size + 1, 0, none⟩ (.int .i64 a)).setCell ⟨w.heap.size + 1, 1, none⟩ (.int .i64 b)).setCell ⟨w.heap.size + 1, 2, none⟩ (.int .i64 c)).setCell ⟨w.heap.size + 1, 3, none⟩ (.int .i64 d)) = w6 at HC6 HU6 C1 C2 ⊢
  have s0 : w6.cell? ⟨w.heap.size + 1, 0, none⟩ = some (.int .i64 a) := (blk_cell C1.out 0).trans rfl
  have s1 : w6.cell? ⟨w.heap.size + 1, 1, none⟩ = some (.int .i64 b) := (blk_cell C1.out 1).trans rfl
  have s2 : w6.cell? ⟨w.heap.size + 1, 2, none⟩ = some (.int .i64 c) := (blk_cell C1.out 2).trans rfl
  have s3 : w6.cell? ⟨w.heap.size + 1, 3, none⟩ = some (.int .i64 d) := (blk_cell C1.out 3).trans rfl
  have r0 : w6.cell? ⟨w.heap.size + 1 + 1, 0, none⟩ = some (.int .i64 0) := (blk_cell C2.out 0).trans rfl
  have r1 : w6.cell? ⟨w.heap.size + 1 + 1, 1, none⟩ = some (.int .i64 0) := (blk_cell C2.out 1).trans rfl
  have r2 : w6.cell? ⟨w.heap.size + 1 + 1, 2, none⟩ = some (.int .i64 0) := (blk_cell C2.out 2).trans rfl
  have r3 : w6.cell? ⟨w.heap.size + 1 + 1, 3, none⟩ = some (.int .i64 0) := (blk_cell C2.out 3).trans rfl
  have g0 : w6.frozen? ⟨w.heap.size + 1 + 1, 0, none⟩ = false := blk_frozen C2.out 0
  have g1 : w6.frozen? ⟨w.heap.size + 1 + 1, 1, none⟩ = false := blk_frozen C2.out 1
  have g2 : w6.frozen? ⟨w.heap.size + 1 + 1, 2, none⟩ = false := blk_frozen C2.out 2
  have g3 : w6.frozen? ⟨w.heap.size + 1 + 1, 3, none⟩ = false := blk_frozen C2.out 3
  go_wp2
  obtain ⟨C9, U9, E9⟩ := put4 C2.out HC6.out HU6.out (by omega) (.int .i64 a) (.int .i64 b) (.int .i64 c) (.int .i64 d)
  have k0 := (blk_cell E9 0).trans (rfl : _ = some (Value.int .i64 a))
  have k1 := (blk_cell E9 1).trans (rfl : _ = some (Value.int .i64 b))
  have k2 := (blk_cell E9 2).trans (rfl : _ = some (Value.int .i64 c))
  have k3 := (blk_cell E9 3).trans (rfl : _ = some (Value.int .i64 d))
  refine bodyPost_ret (v := .tuple #[.agg #[.int .i64 a, .int .i64 b, .int .i64 c, .int .i64 d], .bool (e == 0), .int .i64 e]) (by simp [results, Try.results61, go_sem, k0, k1, k2, k3]) rfl ⟨rfl, C9, U9⟩
theorem stepnext_any (cal re ba lv fr l du now a b c d e : Int) (m : Bool) (w : World) (h : ClkAt w n kb ab pb cb off week closed) (hn : n ≤ w.heap.size) (h1 : Kd.C k98 w A ls.length ls ∧ ls.length ≤ k) (hd : nextP off week closed cal ls re ba lv now = (a, b, c, d, e)) (hm : moreP off week closed cal ls re ba lv now = m) :
    Calls Try.prog 61 #[.pointer (some ⟨kb, 0, none⟩), .agg #[.int .i64 cal, .slice A ls.length k, .int .i64 re, .int .i64 ba], .agg #[.int .i64 lv, .int .i64 fr, .int .i64 l, .int .i64 du], .int .i64 now] w fun r w' => r = .returned (.tuple #[.agg #[.int .i64 a, .int .i64 b, .int .i64 c, .int .i64 d], .bool m, .int .i64 e]) ∧ ClkAt w' n kb ab pb cb off week closed ∧ Upd cb w w' := by
  subst hm
  have hm : moreP off week closed cal ls re ba lv now = (decide (e = 0) && decide (lv ≠ (ls.length : Int) - 1)) := by unfold moreP; rw [hd]
  rw [hm]
  clear hm
  unfold nextP at hd
  by_cases h0 : goodP cal ls re ba = true
  · by_cases h2 : lv < 0
    · rw [if_neg (by omega)] at hd; cases hd
      exact next_lo cal re ba lv fr l du now w h hn h1 h0 h2
    · by_cases h3 : (ls.length : Int) ≤ lv
      · rw [if_neg (by omega)] at hd; cases hd
        exact next_hi cal re ba lv fr l du now w h hn h1 h0 (by omega) h3
      · rw [if_pos ⟨h0, by omega, by omega⟩] at hd
        by_cases h4 : lv = (ls.length : Int) - 1
        · rw [if_pos h4] at hd; cases hd
          rw [decide_eq_false (p := lv ≠ _) (by simpa using h4), Bool.and_false]
          exact next_last cal re ba lv fr l du now w h hn h1 h0 (by omega) (by omega) h4
        · rw [if_neg h4] at hd
          rw [decide_eq_true (p := lv ≠ _) h4, Bool.and_true]
          exact next_main cal re ba lv fr l du now w h hn h1 h0 (by omega) (by omega) h4 a b c d e hd
  · rw [if_neg (fun x => h0 x.1)] at hd; cases hd
    exact next_no cal re ba lv fr l du now w h hn h1 (by simpa using h0)
end Go.Proofs.Ytepldlnmeenlbaa.Own
namespace Go.Proofs.Ytepldlnmeenlbaa.Own
open Go.RowKit Go.Proofs Go.Proofs.YtepldlnmeenlbaaW.PrintWords Go.Proofs.YtepldlnmeenlbaaW.PrintLast Go.Proofs.YtepldlnmeenlbaaW.PrintMore Go.Proofs.Ytepldlnmeenlbaa.Base
variable {w w' : World} {n kb ab pb cb : Nat} {off : Int} {week closed : List S143}
theorem cells3 {W : World} {b t : Nat} {v0 v1 v2 : Value} (h : W.heap[b]? = some (.cells #[v0, v1, v2] t (0, 0))) : W.cell? ⟨b, 0, none⟩ = some v0 ∧ W.cell? ⟨b, 1, none⟩ = some v1 ∧ W.cell? ⟨b, 2, none⟩ = some v2 :=
  ⟨(blk_cell h 0).trans rfl, (blk_cell h 1).trans rfl, (blk_cell h 2).trans rfl⟩
theorem cells4 {W : World} {b t : Nat} {v0 v1 v2 v3 : Value} (h : W.heap[b]? = some (.cells #[v0, v1, v2, v3] t (0, 0))) : W.cell? ⟨b, 0, none⟩ = some v0 ∧ W.cell? ⟨b, 1, none⟩ = some v1 ∧ W.cell? ⟨b, 2, none⟩ = some v2 ∧ W.cell? ⟨b, 3, none⟩ = some v3 :=
  ⟨(blk_cell h 0).trans rfl, (blk_cell h 1).trans rfl, (blk_cell h 2).trans rfl, (blk_cell h 3).trans rfl⟩
theorem step_set4 {W : World} {b t : Nat} {o0 o1 o2 o3 : Value} (v0 v1 v2 v3 : Value) (C : ClkAt W n kb ab pb cb off week closed) (U : Upd cb w W) (hb : W.heap[b]? = some (.cells #[o0, o1, o2, o3] t (0, 0))) (ht : FarT t) (hge : w.heap.size ≤ b) :
    ClkAt ((((W.setCell ⟨b, 0, none⟩ v0).setCell ⟨b, 1, none⟩ v1).setCell ⟨b, 2, none⟩ v2).setCell ⟨b, 3, none⟩ v3) n kb ab pb cb off week closed ∧ Upd cb w ((((W.setCell ⟨b, 0, none⟩ v0).setCell ⟨b, 1, none⟩ v1).setCell ⟨b, 2, none⟩ v2).setCell ⟨b, 3, none⟩ v3) ∧ ((((W.setCell ⟨b, 0, none⟩ v0).setCell ⟨b, 1, none⟩ v1).setCell ⟨b, 2, none⟩ v2).setCell ⟨b, 3, none⟩ v3).heap[b]? = some (.cells #[v0, v1, v2, v3] t (0, 0)) ∧ (∀ {g : Nat} {o : Obj}, g ≠ b → W.heap[g]? = some o → ((((W.setCell ⟨b, 0, none⟩ v0).setCell ⟨b, 1, none⟩ v1).setCell ⟨b, 2, none⟩ v2).setCell ⟨b, 3, none⟩ v3).heap[g]? = some o) ∧ W.heap.size ≤ ((((W.setCell ⟨b, 0, none⟩ v0).setCell ⟨b, 1, none⟩ v1).setCell ⟨b, 2, none⟩ v2).setCell ⟨b, 3, none⟩ v3).heap.size := by
  have S_0 := And.intro C U
  have S_1 := step_set S_0.1 S_0.2 hb ht hge 0 v0
  have G_1 := blk_put (cs' := #[v0, o1, o2, o3]) hb 0 v0 rfl
  have S_2 := step_set S_1.1 S_1.2 G_1 ht hge 1 v1
  have G_2 := blk_put (cs' := #[v0, v1, o2, o3]) G_1 1 v1 rfl
  have S_3 := step_set S_2.1 S_2.2 G_2 ht hge 2 v2
  have G_3 := blk_put (cs' := #[v0, v1, v2, o3]) G_2 2 v2 rfl
  have S_4 := step_set S_3.1 S_3.2 G_3 ht hge 3 v3
  have G_4 := blk_put (cs' := #[v0, v1, v2, v3]) G_3 3 v3 rfl
  exact ⟨S_4.1, S_4.2, G_4, fun {g} {o} hne hg => ((Below.heap_setCell _ _ _ _ hne).trans ((Below.heap_setCell _ _ _ _ hne).trans ((Below.heap_setCell _ _ _ _ hne).trans ((Below.heap_setCell _ _ _ _ hne).trans hg)))), by simp⟩
theorem cells9 {W : World} {b t : Nat} {v0 v1 v2 v3 v4 v5 v6 v7 v8 : Value} (h : W.heap[b]? = some (.cells #[v0, v1, v2, v3, v4, v5, v6, v7, v8] t (0, 0))) : W.cell? ⟨b, 0, none⟩ = some v0 ∧ W.cell? ⟨b, 1, none⟩ = some v1 ∧ W.cell? ⟨b, 2, none⟩ = some v2 ∧ W.cell? ⟨b, 3, none⟩ = some v3 ∧ W.cell? ⟨b, 4, none⟩ = some v4 ∧ W.cell? ⟨b, 5, none⟩ = some v5 ∧ W.cell? ⟨b, 6, none⟩ = some v6 ∧ W.cell? ⟨b, 7, none⟩ = some v7 ∧ W.cell? ⟨b, 8, none⟩ = some v8 :=
  ⟨(blk_cell h 0).trans rfl, (blk_cell h 1).trans rfl, (blk_cell h 2).trans rfl, (blk_cell h 3).trans rfl, (blk_cell h 4).trans rfl, (blk_cell h 5).trans rfl, (blk_cell h 6).trans rfl, (blk_cell h 7).trans rfl, (blk_cell h 8).trans rfl⟩
theorem step_set9 {W : World} {b t : Nat} {o0 o1 o2 o3 o4 o5 o6 o7 o8 : Value} (v0 v1 v2 v3 v4 v5 v6 v7 v8 : Value) (C : ClkAt W n kb ab pb cb off week closed) (U : Upd cb w W) (hb : W.heap[b]? = some (.cells #[o0, o1, o2, o3, o4, o5, o6, o7, o8] t (0, 0))) (ht : FarT t) (hge : w.heap.size ≤ b) :
    ClkAt (((((((((W.setCell ⟨b, 0, none⟩ v0).setCell ⟨b, 1, none⟩ v1).setCell ⟨b, 2, none⟩ v2).setCell ⟨b, 3, none⟩ v3).setCell ⟨b, 4, none⟩ v4).setCell ⟨b, 5, none⟩ v5).setCell ⟨b, 6, none⟩ v6).setCell ⟨b, 7, none⟩ v7).setCell ⟨b, 8, none⟩ v8) n kb ab pb cb off week closed ∧ Upd cb w (((((((((W.setCell ⟨b, 0, none⟩ v0).setCell ⟨b, 1, none⟩ v1).setCell ⟨b, 2, none⟩ v2).setCell ⟨b, 3, none⟩ v3).setCell ⟨b, 4, none⟩ v4).setCell ⟨b, 5, none⟩ v5).setCell ⟨b, 6, none⟩ v6).setCell ⟨b, 7, none⟩ v7).setCell ⟨b, 8, none⟩ v8) ∧ (((((((((W.setCell ⟨b, 0, none⟩ v0).setCell ⟨b, 1, none⟩ v1).setCell ⟨b, 2, none⟩ v2).setCell ⟨b, 3, none⟩ v3).setCell ⟨b, 4, none⟩ v4).setCell ⟨b, 5, none⟩ v5).setCell ⟨b, 6, none⟩ v6).setCell ⟨b, 7, none⟩ v7).setCell ⟨b, 8, none⟩ v8).heap[b]? = some (.cells #[v0, v1, v2, v3, v4, v5, v6, v7, v8] t (0, 0)) ∧ (∀ {g : Nat} {o : Obj}, g ≠ b → W.heap[g]? = some o → (((((((((W.setCell ⟨b, 0, none⟩ v0).setCell ⟨b, 1, none⟩ v1).setCell ⟨b, 2, none⟩ v2).setCell ⟨b, 3, none⟩ v3).setCell ⟨b, 4, none⟩ v4).setCell ⟨b, 5, none⟩ v5).setCell ⟨b, 6, none⟩ v6).setCell ⟨b, 7, none⟩ v7).setCell ⟨b, 8, none⟩ v8).heap[g]? = some o) ∧ W.heap.size ≤ (((((((((W.setCell ⟨b, 0, none⟩ v0).setCell ⟨b, 1, none⟩ v1).setCell ⟨b, 2, none⟩ v2).setCell ⟨b, 3, none⟩ v3).setCell ⟨b, 4, none⟩ v4).setCell ⟨b, 5, none⟩ v5).setCell ⟨b, 6, none⟩ v6).setCell ⟨b, 7, none⟩ v7).setCell ⟨b, 8, none⟩ v8).heap.size := by
  have S_0 := And.intro C U
  have S_1 := step_set S_0.1 S_0.2 hb ht hge 0 v0
  have G_1 := blk_put (cs' := #[v0, o1, o2, o3, o4, o5, o6, o7, o8]) hb 0 v0 rfl
  have S_2 := step_set S_1.1 S_1.2 G_1 ht hge 1 v1
  have G_2 := blk_put (cs' := #[v0, v1, o2, o3, o4, o5, o6, o7, o8]) G_1 1 v1 rfl
  have S_3 := step_set S_2.1 S_2.2 G_2 ht hge 2 v2
  have G_3 := blk_put (cs' := #[v0, v1, v2, o3, o4, o5, o6, o7, o8]) G_2 2 v2 rfl
  have S_4 := step_set S_3.1 S_3.2 G_3 ht hge 3 v3
  have G_4 := blk_put (cs' := #[v0, v1, v2, v3, o4, o5, o6, o7, o8]) G_3 3 v3 rfl
  have S_5 := step_set S_4.1 S_4.2 G_4 ht hge 4 v4
  have G_5 := blk_put (cs' := #[v0, v1, v2, v3, v4, o5, o6, o7, o8]) G_4 4 v4 rfl
  have S_6 := step_set S_5.1 S_5.2 G_5 ht hge 5 v5
  have G_6 := blk_put (cs' := #[v0, v1, v2, v3, v4, v5, o6, o7, o8]) G_5 5 v5 rfl
  have S_7 := step_set S_6.1 S_6.2 G_6 ht hge 6 v6
  have G_7 := blk_put (cs' := #[v0, v1, v2, v3, v4, v5, v6, o7, o8]) G_6 6 v6 rfl
  have S_8 := step_set S_7.1 S_7.2 G_7 ht hge 7 v7
  have G_8 := blk_put (cs' := #[v0, v1, v2, v3, v4, v5, v6, v7, o8]) G_7 7 v7 rfl
  have S_9 := step_set S_8.1 S_8.2 G_8 ht hge 8 v8
  have G_9 := blk_put (cs' := #[v0, v1, v2, v3, v4, v5, v6, v7, v8]) G_8 8 v8 rfl
  exact ⟨S_9.1, S_9.2, G_9, fun {g} {o} hne hg => ((Below.heap_setCell _ _ _ _ hne).trans ((Below.heap_setCell _ _ _ _ hne).trans ((Below.heap_setCell _ _ _ _ hne).trans ((Below.heap_setCell _ _ _ _ hne).trans ((Below.heap_setCell _ _ _ _ hne).trans ((Below.heap_setCell _ _ _ _ hne).trans ((Below.heap_setCell _ _ _ _ hne).trans ((Below.heap_setCell _ _ _ _ hne).trans ((Below.heap_setCell _ _ _ _ hne).trans hg))))))))), by simp⟩
end Go.Proofs.Ytepldlnmeenlbaa.Own
namespace Go.Proofs.Ytepldlnmeenlbaa.Base
open Go.RowKit Go.Proofs.YtepldlnmeenlbaaW.PrintWords Go.Proofs.YtepldlnmeenlbaaW.PrintLast Go.Proofs.YtepldlnmeenlbaaW.PrintMore
attribute [local go_sem] max2_int min2_int max_two min_two max_three min_three max_four min_four   -- for this text's walks alone
theorem eqA143 (d : Nat) (w : World) (x0 y0 : Int) (x1 y1 : Int) :
    (Op.equalIn (d + 2) 143 (.agg #[.int .i64 x0, .int .i64 x1]) (.agg #[.int .i64 y0, .int .i64 y1])).run Try.prog w = .ok (x0 == y0 && (x1 == y1)) w := by
  refine eqA_of Try.underlying143 (by kernel_rfl) ?_
  refine eqf_cons (by rfl) (by go_simp; rfl) (by go_simp; rfl) (by go_simp) ?_
  exact eqf_last (by rfl) (by go_simp; rfl) (by go_simp; rfl) (by go_simp)
end Go.Proofs.Ytepldlnmeenlbaa.Base
