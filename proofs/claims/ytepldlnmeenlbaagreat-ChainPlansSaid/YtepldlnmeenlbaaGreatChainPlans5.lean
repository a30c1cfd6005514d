/- ChainPlans, part 5: what the claim needs of Due, Pure, Pure2, Chain0, Chain, Base10, Good, ChainD, Ref0, Ref2, Base1, Base11, Base12. -/
import Derived.Test.YtepldlnmeenlbaaGreatChainPlans4
import Derived.Test.YtepldlnmeenlbaaGreatProg
import Derived.Below
import Derived.Deep.Draws
import Derived.Deep.AppendLies
import Derived.Maps.AppendAt
import Derived.OwnWalk
import Derived.Laws.BytesArg
import Derived.Laws.MakeOwn
import Derived.Laws.OwnMore
import Derived.Deep.OwnRows
import Derived.Tactics
import Derived.Lib.ConvBytes
import Derived.Laws.Slices
import Derived.WalkKit
import Derived.KernelRfl
import Derived.RowKit3
import Derived.Deep.LoopGhost
import Derived.Deep.QuietTactic
import Derived.BigQuiet
import Derived.WideLaws
import Derived.Deep.DeepCutAuto
import Derived.Deep.CutBlock
import Derived.Deep.RegionHeld3
import Derived.Laws.Rows
import Derived.Lib.AppendStr
import Derived.ArgAppend
import Derived.Laws.IdiomCopy
import Derived.OrdersHeld
import Derived.Laws.BitsLemmas
import Derived.RowKit
import Derived.Laws.StructEq
import Derived.Tactics2
import Derived.Defers
import Derived.Laws.Pointers
import Derived.Laws.LoneSync
import Derived.Laws.NewBlocks
import Derived.RegionTactic
import Derived.RegionCalls
import Derived.ChangeAlike
import Derived.StillTailTactics
import Derived.Outline
import Derived.Handy
import Derived.SizedLaws
import Derived.ChangeSlices
import Derived.Laws.EntriesVeiled
import Derived.WalkSpells
import Derived.RangeFuncNested
import Derived.RangeFuncBound
import Derived.RangeFuncCalls
import Derived.RangeFuncLeaves
import Derived.Shelf.Abstract
import Derived.Shelf.RegionOpen
import Derived.OwnWalkIn
import Derived.TacticsInMore
import Derived.LoopNIn
import Derived.LoopIn
import Derived.OrdersIn
set_option linter.unusedVariables false
set_option linter.unusedSimpArgs false
namespace Go.Proofs.YtepldlnmeenlbaaGreat.Own
open Go.RowKit Go.Shelf Go.Proofs Go.Proofs.YtepldlnmeenlbaaGreatW.PrintWords Go.Proofs.YtepldlnmeenlbaaGreatW.PrintLast Go.Proofs.YtepldlnmeenlbaaGreatW.PrintMore Go.Proofs.YtepldlnmeenlbaaGreat.Base
attribute [local go_sem] Oper.semAt_some max2_mx min2_mn max_two min_two
variable {w w' : World} {n kb ab pb cb : Nat} {off : Int} {week closed : List S114}
theorem R_cells {α : Type} {d : Kd α} {e : Nat} {base : Nat} {ok : Nat → Prop} {v : Value} {xs : List α} (h : d.R e w base ok v xs) (hm : ∀ (k : Nat) (o : Obj), w.heap[k]? = some o → o.isCells = true → w'.heap[k]? = some o) : d.R e w' base ok v xs :=
  Kd.R_mono (Kd.R_move (Kd.R_bound h) (fun k hk => by
    obtain ⟨_, _, _, q, hq, cells', hc⟩ := hk
    rw [hc]
    exact hm k _ hc rfl)) (fun _ hk => hk.1)
theorem ClkAt.cells (h : ClkAt w n kb ab pb cb off week closed) (hm : ∀ (k : Nat) (o : Obj), w.heap[k]? = some o → o.isCells = true → w'.heap[k]? = some o) : ClkAt w' n kb ab pb cb off week closed := by
  obtain ⟨A, c, hpb, hc, hr⟩ := h.plan.blk
  obtain ⟨A2, c2, hab, hc2, hr2⟩ := h.alm.blk
  refine ⟨h.lo, h.hi, h.nkb, h.ne, hm _ _ h.blk rfl, ⟨h.alm.ok, h.alm.nab, h.alm.ne, A2, c2, hm _ _ hab rfl, hc2, R_cells hr2 hm⟩, h.plan.ok, h.plan.npb, h.plan.ncb, h.plan.ne, ⟨A, c, hm _ _ hpb rfl, hc, R_cells hr hm⟩, ?_⟩
  obtain ⟨m, k, ⟨lv, hc⟩ | ⟨v, hc, hr⟩⟩ := h.plan.cell
  · exact ⟨m, k, .inl ⟨lv, hm _ _ hc rfl⟩⟩
  · exact ⟨m, k, .inr ⟨v, hm _ _ hc rfl, R_cells hr hm⟩⟩
theorem DueB.cells {m : Nat} {kv : Value} {B r2 r3 : Int} (h : DueB m w kv B r2 r3) (hm : ∀ (k : Nat) (o : Obj), w.heap[k]? = some o → o.isCells = true → w'.heap[k]? = some o) : DueB m w' kv B r2 r3 :=
  ⟨hm _ _ h.b0 rfl, hm _ _ h.b1 rfl, hm _ _ h.b2 rfl, hm _ _ h.b3 rfl⟩
theorem cells_kept {row : Option Nat} (hg : w.grownBy w' row) {B : Nat} (hr : ∀ r, row = some r → B ≤ r ∧ ∃ o : Obj, w.heap[r]? = some o ∧ o.isCells = false) : ∀ (k : Nat) (o : Obj), w.heap[k]? = some o → o.isCells = true → w'.heap[k]? = some o := fun k o h hc =>
  (hg.block k (blk_lt h) (fun e => by obtain ⟨_, o', h', hc'⟩ := hr k e.symm; rw [h'] at h; injection h with h; subst h; rw [hc] at hc'; cases hc')).trans h
theorem Upd.kept {W W' : World} {row : Option Nat} (hu : Upd cb w W) (hg : W.grownBy W' row) {B : Nat} (hB : w.heap.size ≤ B) (hr : ∀ r, row = some r → B ≤ r ∧ ∃ o : Obj, W.heap[r]? = some o ∧ o.isCells = false) : Upd cb w W' :=
  ⟨hg.os.trans hu.os, hg.tape.trans hu.tape, hg.output.trans hu.output, Nat.le_trans hu.size hg.size, fun k hk hne => (hg.block k (Nat.lt_of_lt_of_le hk hu.size) (fun e => by have := (hr k e.symm).1; omega)).trans (hu.block k hk hne)⟩
theorem nodefer_of {ops : Array Oper} (h : (ops.toList.all fun o => match o.op with | .defer _ => false | _ => true) = true) : ∀ (i : Nat) (o : Oper), ops[i]? = some o → ∀ c, o.op ≠ .defer c := by
  intro i o hi c e
  have h1 := List.all_eq_true.1 h o (by
    obtain ⟨hlt, rfl⟩ := Array.getElem?_eq_some_iff.1 hi
    exact Array.getElem_mem_toList hlt)
  rw [e] at h1
  cases h1
theorem Upd.box {W : World} (hu : Upd cb w W) {b : Nat} (hb : w.heap.size ≤ b) (v : Value) : Upd cb w (W.setCell ⟨b, 0, none⟩ v) :=
  ⟨hu.os, hu.tape, hu.output, by simpa using hu.size, fun k hk hne => (Below.heap_setCell _ _ _ _ (by show k ≠ b; omega)).trans (hu.block k hk hne)⟩
theorem KeepM.box1 {m fb b : Nat} {W W' : World} (hu : Upd cb W W') (hm : m ≤ W.heap.size) (hc : cb < m) (h1 : m ≤ b) (h2 : b < fb) (v : Value) : KeepM m cb fb W (W'.setCell ⟨b, 0, none⟩ v) :=
  ⟨by simpa using hu.size, fun k hk hne => (Below.heap_setCell _ _ _ _ (by show k ≠ b; omega)).trans (hu.block k (by omega) (fun e => hne (by injection e))),
    fun k o hk h3 _ => (Below.heap_setCell _ _ _ _ (by show k ≠ b; omega)).trans (hu.blk h3 (by omega))⟩
theorem KeepsFrom.box1 {B b : Nat} {W W' : World} (hu : KeepsFrom B W W') (h2 : b < B) (v : Value) : KeepsFrom B W (W'.setCell ⟨b, 0, none⟩ v) :=
  hu.trans (KeepsFrom.of_grownBy (grownBy_setCell' W' b v) (fun j e => by injection e with e; omega))
theorem ClkAt.ne_span {b : Nat} {cs : Array Value} (h : ClkAt w n kb ab pb cb off week closed) (hb : w.heap[b]? = some (.cells cs 114 (0, 0))) : b ≠ cb := by
  rintro rfl
  obtain ⟨m, k, ⟨lv, hc⟩ | ⟨v, hc, hr⟩⟩ := h.plan.cell
  · rw [hc] at hb; injection hb with hb; injection hb with _ hb; cases hb
  · rw [hc] at hb; injection hb with hb; injection hb with _ hb; cases hb
theorem due_end {W : World} {L m : Nat} {kv : Value} {B r2 r3 : Int} (o' : Obj) (hL : w.heap.size ≤ L) (hK : W.heap[L]? = some (.deferred (some []))) (D : DueB m W kv B r2 r3) (C : ClkAt W n kb ab pb cb off week closed) (U : Upd cb w W) :
    DueB m (W.putObj L o') kv B r2 r3 ∧ ClkAt (W.putObj L o') n kb ab pb cb off week closed ∧ Upd cb w (W.putObj L o') := by
  have hg := grownBy_putObj' W L o'
  have hr : ∀ r, some L = some r → L ≤ r ∧ ∃ o : Obj, W.heap[r]? = some o ∧ o.isCells = false := fun r e => by cases e; exact ⟨Nat.le_refl _, _, hK, rfl⟩
  have hk := cells_kept hg hr
  exact ⟨D.cells hk, C.cells hk, U.kept hg hL hr⟩
def DueI (w : World) (n kb ab pb cb : Nat) (off : Int) (week closed : List S114) (B : Int) (pre : List GS) (W : World) : Prop :=
  ∃ Bc, (1 ≤ Bc ∧ Bc ≤ B ∧ ∀ r, dueL off week B (pre.map (·.1) ++ r) = dueL off week Bc r) ∧ DueB w.heap.size W (.pointer (some ⟨kb, 0, none⟩)) Bc 0 0 ∧ ClkAt W n kb ab pb cb off week closed ∧ Upd cb w W
def DueX (w : World) (n kb ab pb cb : Nat) (off : Int) (week closed : List S114) (B : Int) (c : Code) (pre : List GS) (W : World) : Prop :=
  c = .ret ∧ ∃ d Bc, (∀ r, dueL off week B (pre.map (·.1) ++ r) = some d) ∧ DueB w.heap.size W (.pointer (some ⟨kb, 0, none⟩)) Bc d 0 ∧ ClkAt W n kb ab pb cb off week closed ∧ Upd cb w W
theorem DueI.own {B : Int} {m : Nat} (hm : w.heap.size ≤ m) : OwnFrom m (DueI w n kb ab pb cb off week closed B) := fun s W W' row hs hg hr => by
  obtain ⟨Bc, h1, h2, h3, h4⟩ := hs
  have hk := cells_kept hg hr
  exact ⟨Bc, h1, h2.cells hk, h3.cells hk, h4.kept hg hm hr⟩
theorem DueX.own {B : Int} {m : Nat} (hm : w.heap.size ≤ m) (c : Code) : OwnFrom m (DueX w n kb ab pb cb off week closed B c) := fun s W W' row hs hg hr => by
  obtain ⟨h0, d, Bc, h1, h2, h3, h4⟩ := hs
  have hk := cells_kept hg hr
  exact ⟨h0, d, Bc, h1, h2.cells hk, h3.cells hk, h4.kept hg hm hr⟩
def dueR : Option Int → Int × Int
  | none => (0, 10)
  | some d => (d, 0)
def due_T14 : Bool × List (List Nat × List Nat) := (true, [([], []), ([0], [0]), ([1], [1]), ([2], [2]), ([], []), ([4], [4]), ([5], [5]), ([6], [6]), ([], []), ([8], [8]), ([], []), ([10], [10]), ([11], [11]), ([12], [12]), ([9, 13], [9, 13]), ([7, 14], [7, 14]), ([], []), ([15, 16], [15, 16]), ([17], [17]), ([3, 18, 15], [3, 18]), ([19], [19]), ([20], [20]), ([20], [20]), ([21, 19, 0, 1, 2, 3, 4, 5, 6, 7, 8, 9, 10, 11, 12, 13, 14, 15, 16, 17, 18, 19, 20, 21], [21]), ([22, 23, 0, 1, 2, 3, 4, 5, 6, 7, 8, 9, 10, 11, 12, 13, 14, 15, 16, 17, 18, 19, 20, 21, 22, 23], [22])])
def due_B14 : List Nat := [0, 1, 3, 7, 0, 16, 48, 112, 0, 256, 0, 1024, 3072, 7168, 16128, 32752, 0, 131056, 262128, 524287, 1048575, 2097151, 2097151, 4194303, 16777215]
theorem due_tab14 : rtab .any (opsOf Tryz.f53 14) = due_T14 := by kernel_rfl
theorem due_bits14 : waitsOk due_T14.2 due_B14 = true := by kernel_rfl
set_option maxHeartbeats 8000000 in
set_option maxRecDepth 100000 in
theorem due_main (a B : Int) (w : World) (h : ClkAt w n kb ab pb cb off week closed) (hn : n ≤ w.heap.size) (hx : 0 ≤ a ∧ a ≤ 1125899906842624) (hB : 0 < B) (hB2 : B ≤ 9223372036854775807) (hs : 0 < secs week) :
    Calls Tryz.prog 53 #[.pointer (some ⟨kb, 0, none⟩), .int .i64 a, .int .i64 B] w fun e w' => e = .returned (.tuple #[.int .i64 (dueR (dueL off week B (freeL closed a 1125899906842624))).1, .int .i64 (dueR (dueL off week B (freeL closed a 1125899906842624))).2]) ∧ ClkAt w' n kb ab pb cb off week closed ∧ Upd cb w w' := by
  refine (callsIn_wide (n := 10)).1 ?_
  have D4 := Aside0.mk (DueB.new w (.pointer (some ⟨kb, 0, none⟩)) B)
  have HB : Aside0 (Below w.heap.size w ((((w.alloc (.cells #[.pointer (some ⟨kb, 0, none⟩)] 61)).alloc (.cells #[.int .i64 B] 2)).alloc (.cells #[.int .i64 0] 2)).alloc (.cells #[.int .i64 0] 49))) := ⟨below_alloc (below_alloc (below_alloc (below_alloc (Below.refl w.heap.size w) _) _) _) _⟩
  have HC4 := Aside0.mk (h.below HB.out)
  have HU4 := Aside0.mk (Upd.of_below (b := cb) HB.out)
  have hcb := h.lt
  have HA0 := Aside0.mk (AlmM.of h.alm)
  have hnot : ∀ (x : Bool) (w : World), (Op.unary .not (.bool x)).run Tryz.prog w = .ok (.bool (!x)) w := fun _ _ => rfl
  have hfn : ∀ g, Fence.wide.fn g := fun _ => trivial
  have HI : Aside0 (instB a = true) := ⟨decide_eq_true hx⟩
  have hB0 : (B == 0) = false := beq_eq_false_iff_ne.mpr (by omega)
  have hS0 : (secs week == 0) = false := beq_eq_false_iff_ne.mpr (by omega)
  have HSZ : Aside0 (w.heap.size + 4 ≤ ((((w.alloc (.cells #[.pointer (some ⟨kb, 0, none⟩)] 61)).alloc (.cells #[.int .i64 B] 2)).alloc (.cells #[.int .i64 0] 2)).alloc (.cells #[.int .i64 0] 49)).heap.size) := ⟨by simp⟩
  clear HB h
  refine callsIn_of_wp_marks Tryz.func53 rfl trivial ?_ rfl
  simp only [Tryz.ntmps53, List.size_toArray, List.length_cons, List.length_nil, Nat.reduceAdd, Nat.reduceSub, Array.replicate_succ, Array.replicate_zero, List.push_toArray, List.append_toArray, List.nil_append, List.cons_append]
  gi_wp2_with fail
  generalize ((((w.alloc (.cells #[.pointer (some ⟨kb, 0, none⟩)] 61)).alloc (.cells #[.int .i64 B] 2)).alloc (.cells #[.int .i64 0] 2)).alloc (.cells #[.int .i64 0] 49)) = w4 at D4 HC4 HU4 HSZ ⊢
  have c0 : w4.cell? ⟨w.heap.size, 0, none⟩ = some (.pointer (some ⟨kb, 0, none⟩)) := (blk_cell D4.out.b0 0).trans rfl
  have d1 : w4.cell? ⟨w.heap.size + 1, 0, none⟩ = some (.int .i64 B) := (blk_cell D4.out.b1 0).trans rfl
  have k0 : w4.cell? ⟨kb, 0, none⟩ = some (.pointer (some ⟨ab, 0, none⟩)) := (blk_cell HC4.out.blk 0).trans rfl
  have k1 : w4.cell? ⟨kb, 1, none⟩ = some (.pointer (some ⟨pb, 0, none⟩)) := (blk_cell HC4.out.blk 1).trans rfl
  gi_wp2_with (first | (gi_at_call 86; refine (callsIn_wide.2 (clknone_any _ HC4.out)).mono ?_; rintro e w5 ⟨rfl, rfl⟩) | (gi_at_call 87; refine (callsIn_wide.2 (instant_any a _)).mono ?_; rintro e w5 ⟨rfl, hb⟩; rw [HI.out]; have D5 := Aside0.mk (D4.out.below hb); have HC5 := Aside0.mk (HC4.out.below hb); have HU5 := Aside0.mk (HU4.out.then hb); have HSZ5 : Aside0 (w.heap.size + 4 ≤ w5.heap.size) := ⟨Nat.le_trans HSZ.out hb.size⟩; clear hb D4 HC4 HU4 HSZ; have c0 : w5.cell? ⟨w.heap.size, 0, none⟩ = some (.pointer (some ⟨kb, 0, none⟩)) := (blk_cell D5.out.b0 0).trans rfl; have d1 : w5.cell? ⟨w.heap.size + 1, 0, none⟩ = some (.int .i64 B) := (blk_cell D5.out.b1 0).trans rfl; have k0 : w5.cell? ⟨kb, 0, none⟩ = some (.pointer (some ⟨ab, 0, none⟩)) := (blk_cell HC5.out.blk 0).trans rfl; have k1 : w5.cell? ⟨kb, 1, none⟩ = some (.pointer (some ⟨pb, 0, none⟩)) := (blk_cell HC5.out.blk 1).trans rfl) | (gi_at_call 105; refine (callsIn_wide.2 (total_any n pb cb week _ HC5.out.plan (Nat.le_trans hn HU5.out.size))).mono ?_; rintro e w6 ⟨rfl, hp, hu⟩; have D6 := Aside0.mk (D5.out.upd hu hcb); have HC6 := Aside0.mk (HC5.out.upd hu hp); have HU6 := Aside0.mk (HU5.out.trans hu); have HSZ6 : Aside0 (w.heap.size + 4 ≤ w6.heap.size) := ⟨Nat.le_trans HSZ5.out hu.size⟩; clear hp hu D5 HC5 HU5 HSZ5; have c0 : w6.cell? ⟨w.heap.size, 0, none⟩ = some (.pointer (some ⟨kb, 0, none⟩)) := (blk_cell D6.out.b0 0).trans rfl; have d1 : w6.cell? ⟨w.heap.size + 1, 0, none⟩ = some (.int .i64 B) := (blk_cell D6.out.b1 0).trans rfl; have k0 : w6.cell? ⟨kb, 0, none⟩ = some (.pointer (some ⟨ab, 0, none⟩)) := (blk_cell HC6.out.blk 0).trans rfl; have k1 : w6.cell? ⟨kb, 1, none⟩ = some (.pointer (some ⟨pb, 0, none⟩)) := (blk_cell HC6.out.blk 1).trans rfl) | (gi_at_call 106; refine (callsIn_wide.2 (free_any ab a _ _)).mono ?_; rintro e w7 ⟨rfl, rfl⟩))
  obtain ⟨w7, hw7⟩ : ∃ w7, w7 = ((w6.alloc (Obj.cells #[Value.pointer (some { block := ab, off := 0 })] 145)).alloc (Obj.cells #[Value.int IntKind.i64 a] 2)).alloc (Obj.cells #[Value.int IntKind.i64 1125899906842624] 2) := ⟨_, rfl⟩
  have hb7 : Below w6.heap.size w6 w7 := by rw [hw7]; exact below_alloc (below_alloc (below_alloc (Below.refl _ _) _) _) _
  have B0 : w7.heap[w6.heap.size]? = some (.cells #[.pointer (some ⟨ab, 0, none⟩)] 145 (0, 0)) := by rw [hw7]; exact blk_alloc (blk_alloc (blk_new w6 _) _) _
  have B1 : w7.heap[w6.heap.size + 1]? = some (.cells #[.int .i64 a] 2 (0, 0)) := by
    rw [hw7]; exact blk_alloc (by simpa using blk_new (w6.alloc (Obj.cells #[Value.pointer (some { block := ab, off := 0 })] 145)) (Obj.cells #[Value.int IntKind.i64 a] 2)) _
  have B2 : w7.heap[w6.heap.size + 1 + 1]? = some (.cells #[.int .i64 1125899906842624] 2 (0, 0)) := by
    rw [hw7]; simpa using blk_new ((w6.alloc (Obj.cells #[Value.pointer (some { block := ab, off := 0 })] 145)).alloc (Obj.cells #[Value.int IntKind.i64 a] 2)) (Obj.cells #[Value.int IntKind.i64 1125899906842624] 2)
  have S7 : w7.heap.size = w6.heap.size + 3 := by rw [hw7]; simp
  rw [← hw7]
  have HU7 := HU6.out.then hb7
  have HS6 := HSZ6.out
  have I0 : DueI w n kb ab pb cb off week closed B [] w7 := ⟨B, ⟨by omega, Int.le_refl _, fun r => by simp⟩, D6.out.below hb7, HC6.out.below hb7, HU7⟩
  have HAM : AlmM w7 w.heap.size ab cb closed := HA0.out.keep (fun k hk hne => HU7.block k hk (fun e => hne (by injection e)))
  have HROW := HA0.out.ok
  clear hw7 D6 HC6 HU6 HSZ6 HA0 c0 d1 k0 k1 hB0 hS0 HI
  refine wpIn_rangeFunc_ownH (a := { tmps := ?T, defers := [] }) rfl (by omega) (gf := 138) (lb := #[.pointer (some ⟨w6.heap.size + 1, 0, none⟩), .pointer (some ⟨w6.heap.size + 1 + 1, 0, none⟩), .pointer (some ⟨w6.heap.size, 0, none⟩)]) ?hg trivial (enters_of Tryz.func138 (by kernel_rfl) rfl)
    (free_stops w.heap.size ab cb w6.heap.size closed a 1125899906842624 w7 HAM (by omega) (by omega) hx.1 hx.2 (Int.le_refl _) B0 B1 B2 (10 - 1) (by omega)) (fun h k => h.trans k) ?hkb (Below.refl _ _) ?hps
    (DueI w n kb ab pb cb off week closed B) (DueX w n kb ab pb cb off week closed B) (DueI.own (by omega)) (DueX.own (by omega)) I0
    (fun x a' W => ∃ sb, a' = { tmps := (Array.setIfInBounds ?T 40 (Value.agg #[.int .i64 x.1.f0, .int .i64 x.1.f1])).setIfInBounds 8 (.pointer (some ⟨sb, 0, none⟩)), defers := [] } ∧ W.heap[sb]? = some (.cells #[.int .i64 x.1.f0, .int .i64 x.1.f1] 114 (0, 0)))
    ?hax ?assign ?body ?done ?stop
  case hkb =>
    intro W l o o' hl ho hnc _
    have hg := grownBy_putObj' W l o'
    have hlt := blk_lt ho
    refine ⟨hg.size, fun k hk _ => hg.block k (by omega) (fun e => by injection e with e; omega), fun k oo hk h2 hc => (hg.block k (blk_lt h2) (fun e => ?_)).trans h2⟩
    injection e with e
    subst e
    rw [ho] at h2
    injection h2 with h2
    subst h2
    rw [hnc] at hc
    cases hc
  case hps => intro x; rfl
  case hg => rfl
  case hax =>
    intro x a' s W W' row hs hg hr
    obtain ⟨sb, e, hb⟩ := hs
    exact ⟨sb, e, cells_kept hg hr _ _ hb rfl⟩
  case assign =>
    intro l pre x W K hI hK
    have hsz : w.heap.size ≤ W.heap.size := by obtain ⟨_, _, _, _, U⟩ := hI; exact U.size
    gi_wp2
    refine hK _ _ (KeepsFrom.of_grownBy (World.grownBy_alloc W _ none) (fun _ e => by cases e)) (KeepM.of_below (below_alloc (Below.refl _ _) _) hsz) (DueI.own (Nat.le_refl _) _ _ _ none hI (World.grownBy_alloc W _ none) (fun _ e => by cases e)) ⟨W.heap.size, ?_, blk_new _ _⟩
    simp only [List.setIfInBounds_toArray, List.set_cons_zero, List.set_cons_succ]
  case body =>
    intro l pre x a' W hl hlr hI hAx hlen
    obtain ⟨sb, rfl, hsb⟩ := hAx
    obtain ⟨Bc, ⟨b1, b2, b3⟩, D, C, U⟩ := hI
    clear HAM B0 B1 B2 hb7 I0 HU7
    simp only [List.setIfInBounds_toArray, List.set_cons_zero, List.set_cons_succ]
    obtain ⟨⟨x0, x1⟩, hq⟩ := x
    have hx0 : 0 ≤ x0 := hq.1
    have hx1 : x0 < x1 := hq.2.1
    have hx2 : x1 ≤ 1125899906842624 := hq.2.2
    simp only at hsb b3 ⊢
    have hfl : ∀ g, (Fence.wide.inRound l).fn g := fun _ => trivial
    have hnW : n ≤ W.heap.size := Nat.le_trans hn U.size
    have c0 : W.cell? ⟨w.heap.size, 0, none⟩ = some (.pointer (some ⟨kb, 0, none⟩)) := (blk_cell D.b0 0).trans rfl
    have s0 : W.cell? ⟨sb, 0, none⟩ = some (.int .i64 x0) := (blk_cell hsb 0).trans rfl
    have s1 : W.cell? ⟨sb, 1, none⟩ = some (.int .i64 x1) := (blk_cell hsb 1).trans rfl
    have HWK := Aside0.mk (weekly_any x0 x1 W C hnW hx0 (by omega) (by omega) hx2)
    have hwb := between_bound C.plan.ok (x0 + (604800 - off)) (x1 + (604800 - off))
    have HE : Aside0 (weeklyP off week x0 x1 = weeklyP off week x0 x1) := ⟨rfl⟩
    have HHIT := Aside0.mk (fun h => due_hit C.plan.ok C.lo C.hi hs (a := x0) (z := x1) (B := Bc) hx0 (by omega) hx2 b1 h)
    change 0 ≤ weeklyP off week x0 x1 ∧ weeklyP off week x0 x1 ≤ _ at hwb
    have hsne : sb ≠ cb := C.ne_span hsb
    have hneq : week ≠ [] := fun e => by rw [e] at hs; simp [secs] at hs
    have HD := Aside0.mk D
    have HU := Aside0.mk U
    have HB3 := Aside0.mk b3
    have HSB := Aside0.mk hsb
    clear C D U hsb b3
    by_cases hlt : weeklyP off week x0 x1 < Bc
    · have hle : Bc > weeklyP off week x0 x1 := hlt
      gi_wp2_with (gi_at_call 88; refine (CallsIn.inRound l (callsIn_wide.2 HWK.out)).mono ?_; rintro e w8 ⟨rfl, C8, U8⟩; have HC8 := Aside0.mk C8; have HU8 := Aside0.mk U8; have HD8 := Aside0.mk (HD.out.upd U8 hcb); have d1 : w8.cell? ⟨w.heap.size + 1, 0, none⟩ = some (.int .i64 Bc) := (blk_cell HD8.out.b1 0).trans rfl; have f1 : w8.frozen? ⟨w.heap.size + 1, 0, none⟩ = false := blk_frozen HD8.out.b1 0; clear C8 U8)
      refine ⟨KeepsFrom.box1 (KeepsFrom.of_grownBy HU8.out (fun j e => by injection e with e; omega)) (by omega) _, KeepM.box1 HU8.out HU.out.size hcb (by omega) (by omega) _, Bc - weeklyP off week x0 x1, ⟨by omega, by omega, fun r => ?_⟩, HD8.out.set1 _, HC8.out.far HD8.out.b1 (by decide) (by decide) (fun _ => hneq) (But.set _ _ _), (HU.out.trans HU8.out).box (by omega) _⟩
      have := HB3.out (⟨x0, x1⟩ :: r)
      simp only [List.map_append, List.map_cons, List.map_nil, List.append_assoc, List.cons_append, List.nil_append]
      rw [this]
      simp only [dueL]
      rw [if_pos hlt]
    · have hle : ¬ Bc > weeklyP off week x0 x1 := hlt
      gi_wp2_with (gi_at_call 88; refine (CallsIn.inRound l (callsIn_wide.2 HWK.out)).mono ?_; rintro e w8 ⟨rfl, C8, U8⟩; have HC8 := Aside0.mk C8; have HU8 := Aside0.mk U8; have HD8 := Aside0.mk (HD.out.upd U8 hcb); have d1 : w8.cell? ⟨w.heap.size + 1, 0, none⟩ = some (.int .i64 Bc) := (blk_cell HD8.out.b1 0).trans rfl; have f1 : w8.frozen? ⟨w.heap.size + 1, 0, none⟩ = false := blk_frozen HD8.out.b1 0; clear C8 U8)
      obtain ⟨⟨p0, p1⟩, p2, p3, p4, _, _⟩ := HHIT.out (by omega)
      have HDUE : Aside0 (∀ r, dueL off week B ((pre ++ [(⟨⟨x0, x1⟩, hq⟩ : GS)]).map (·.1) ++ r) = some (nthP week (untilP week (x0 + (604800 - off)) + Bc - 1) - (604800 - off) + 1)) := ⟨fun r => by
        have := HB3.out (⟨x0, x1⟩ :: r)
        simp only [List.map_append, List.map_cons, List.map_nil, List.append_assoc, List.cons_append, List.nil_append]
        rw [this]
        simp only [dueL]
        rw [if_neg (by omega)]⟩
      have q0 := HC8.out.lo
      have q1 := HC8.out.hi
      have hu0 := (until_bound HC8.out.plan.ok (x0 + (604800 - off))).1
      have hw1 : wrap64 (x0 + (604800 - off)) = x0 + (604800 - off) := wrap_id (by omega) (by omega)
      have HUN := Aside0.mk (fun w2 h1 h2 => until_any n pb cb week (wrap64 (x0 + (604800 - off))) w2 h1 h2)
      rw [show untilP week (wrap64 (x0 + (604800 - off))) = untilP week (x0 + (604800 - off)) by rw [hw1]] at HUN
      have HNT := Aside0.mk (fun w2 h1 h2 => nth_any n pb cb week (untilP week (x0 + (604800 - off)) + Bc - 1) w2 h1 h2 hs p0 p2 (by omega) (by omega))
      generalize nthP week (untilP week (x0 + (604800 - off)) + Bc - 1) = q at HDUE HNT p3 p4
      generalize untilP week (x0 + (604800 - off)) = U at HNT HUN p0 p1 hu0
      have hw2 : wrap64 (U + Bc) = U + Bc := wrap_id (by omega) (by omega)
      have hw3 : wrap64 (U + Bc - 1) = U + Bc - 1 := wrap_id (by omega) (by omega)
      rw [← hw3] at HNT
      have hw4 : wrap64 (q - (604800 - off)) = q - (604800 - off) := wrap_id (by omega) (by omega)
      have hw5 : wrap64 (q - (604800 - off) + 1) = q - (604800 - off) + 1 := wrap_id (by omega) (by omega)
      have hb9 : Below w8.heap.size w8 w8.drew := below_drew1 (Below.refl _ _)
      have HC9 := Aside0.mk (HC8.out.below hb9)
      have HU9 := Aside0.mk (HU8.out.then hb9)
      have HD9 := Aside0.mk (HD8.out.below hb9)
      have HS9 := Aside0.mk (blk_below (HU8.out.blk HSB.out hsne) hb9)
      have HN9 : Aside0 (n ≤ w8.drew.heap.size) := ⟨Nat.le_trans hnW HU9.out.size⟩
      have z0 : w8.drew.cell? ⟨w.heap.size, 0, none⟩ = some (.pointer (some ⟨kb, 0, none⟩)) := (blk_cell HD9.out.b0 0).trans rfl
      have z1 : w8.drew.cell? ⟨w.heap.size + 1, 0, none⟩ = some (.int .i64 Bc) := (blk_cell HD9.out.b1 0).trans rfl
      have z2 : w8.drew.cell? ⟨sb, 0, none⟩ = some (.int .i64 x0) := (blk_cell HS9.out 0).trans rfl
      have z3 : w8.drew.cell? ⟨kb, 1, none⟩ = some (.pointer (some ⟨pb, 0, none⟩)) := (blk_cell HC9.out.blk 1).trans rfl
      have z4 : w8.drew.cell? ⟨kb, 2, none⟩ = some (.int .i64 (604800 - off)) := (blk_cell HC9.out.blk 2).trans rfl
      clear hb9 HC8 HU8 HD8 HB3 s0 s1 c0 d1 f1 HHIT HWK
      have hnd := nodefer_of (ops := opsOf Tryz.f53 14) (by kernel_rfl)
      refine startIn_ (n := 25) (S := fun w' => w'.cell? ⟨w.heap.size, 0, none⟩ = some (.pointer (some ⟨kb, 0, none⟩)) ∧ w'.cell? ⟨w.heap.size + 1, 0, none⟩ = some (.int .i64 Bc) ∧ w'.cell? ⟨sb, 0, none⟩ = some (.int .i64 x0) ∧ w'.cell? ⟨kb, 1, none⟩ = some (.pointer (some ⟨pb, 0, none⟩)) ∧ w'.cell? ⟨kb, 2, none⟩ = some (.int .i64 (604800 - off))) (ds := []) hnd (fun ⟨_, _, h⟩ => h) #[false, false, false, false, false, false, false, false, false, false, false, false, false, false, false, false, false, false, false, false, false, false, false, false, false] (by kernel_rfl) rfl rfl ⟨z0, z1, z2, z3, z4⟩ (fun hHeld => ?_); refine with_tabW due_tab14 due_bits14 (fun HT_ HW_ => ?_)
      clear z0 z1 z2 z3 z4
      generalize w8.drew = w9 at HC9 HU9 HD9 HS9 HN9 hHeld ⊢
      refine pure_ (i := 8) (N := some 62) (v := ?_) (a' := ?_) #[false, false, false, false, false, false, false, false, true, false, false, false, false, false, false, false, false, false, false, false, false, false, false, false, false] rfl rfl (any_of HT_.out (by kernel_rfl)) (fun _ _ _ h => h) (Or.inl ⟨by rfl, ?_⟩) ?_ ?_
      rotate_left
      · intro w'
        go_simp
        with_reducible rfl
      rotate_left
      · simp only [Act.put, List.setIfInBounds_toArray, List.set_cons_zero, List.set_cons_succ, i64_w, i32_w]
        rfl
      refine take_ (i := 0) (N := some 54) (v := ?_) (a' := ?_) #[true, false, false, false, false, false, false, false, true, false, false, false, false, false, false, false, false, false, false, false, false, false, false, false, false] rfl rfl (take_ofW HT_.out HW_.out (by kernel_rfl)) (fun _ _ _ h => h) (Or.inl ⟨by rfl, ?_⟩) hHeld ?_ ?_
      rotate_left
      · rintro w' ⟨s0, s1, s2, s3, s4⟩
        go_simp
        with_reducible rfl
      rotate_left
      · simp only [Act.put, List.setIfInBounds_toArray, List.set_cons_zero, List.set_cons_succ, i64_w, i32_w]
        rfl
      refine pure_ (i := 1) (N := some 55) (v := ?_) (a' := ?_) #[true, true, false, false, false, false, false, false, true, false, false, false, false, false, false, false, false, false, false, false, false, false, false, false, false] rfl rfl (any_of HT_.out (by kernel_rfl)) (fun _ _ _ h => h) (Or.inl ⟨by rfl, ?_⟩) ?_ ?_
      rotate_left
      · intro w'
        go_simp
        with_reducible rfl
      rotate_left
      · simp only [Act.put, List.setIfInBounds_toArray, List.set_cons_zero, List.set_cons_succ, i64_w, i32_w]
        rfl
      refine pure_ (i := 2) (N := some 56) (v := ?_) (a' := ?_) #[true, true, true, false, false, false, false, false, true, false, false, false, false, false, false, false, false, false, false, false, false, false, false, false, false] rfl rfl (any_of HT_.out (by kernel_rfl)) (fun _ _ _ h => h) (Or.inl ⟨by rfl, ?_⟩) ?_ ?_
      rotate_left
      · intro w'
        go_simp
        with_reducible rfl
      rotate_left
      · simp only [Act.put, List.setIfInBounds_toArray, List.set_cons_zero, List.set_cons_succ, i64_w, i32_w]
        rfl
      refine take_ (i := 3) (N := some 57) (v := ?_) (a' := ?_) #[true, true, true, true, false, false, false, false, true, false, false, false, false, false, false, false, false, false, false, false, false, false, false, false, false] rfl rfl (take_ofW HT_.out HW_.out (by kernel_rfl)) (fun _ _ _ h => h) (Or.inl ⟨by rfl, ?_⟩) hHeld ?_ ?_
      rotate_left
      · rintro w' ⟨s0, s1, s2, s3, s4⟩
        go_simp
        with_reducible rfl
      rotate_left
      · simp only [Act.put, List.setIfInBounds_toArray, List.set_cons_zero, List.set_cons_succ, i64_w, i32_w]
        rfl
      refine take_ (i := 4) (N := some 58) (v := ?_) (a' := ?_) #[true, true, true, true, true, false, false, false, true, false, false, false, false, false, false, false, false, false, false, false, false, false, false, false, false] rfl rfl (take_ofW HT_.out HW_.out (by kernel_rfl)) (fun _ _ _ h => h) (Or.inl ⟨by rfl, ?_⟩) hHeld ?_ ?_
      rotate_left
      · rintro w' ⟨s0, s1, s2, s3, s4⟩
        go_simp
        with_reducible rfl
      rotate_left
      · simp only [Act.put, List.setIfInBounds_toArray, List.set_cons_zero, List.set_cons_succ, i64_w, i32_w]
        rfl
      refine pure_ (i := 5) (N := some 59) (v := ?_) (a' := ?_) #[true, true, true, true, true, true, false, false, true, false, false, false, false, false, false, false, false, false, false, false, false, false, false, false, false] rfl rfl (any_of HT_.out (by kernel_rfl)) (fun _ _ _ h => h) (Or.inl ⟨by rfl, ?_⟩) ?_ ?_
      rotate_left
      · intro w'
        go_simp
        with_reducible rfl
      rotate_left
      · simp only [Act.put, List.setIfInBounds_toArray, List.set_cons_zero, List.set_cons_succ, i64_w, i32_w]
        rfl
      refine pure_ (i := 6) (N := some 60) (v := ?_) (a' := ?_) #[true, true, true, true, true, true, true, false, true, false, false, false, false, false, false, false, false, false, false, false, false, false, false, false, false] rfl rfl (any_of HT_.out (by kernel_rfl)) (fun _ _ _ h => h) (Or.inl ⟨by rfl, ?_⟩) ?_ ?_
      rotate_left
      · intro w'
        go_simp
        with_reducible rfl
      rotate_left
      · simp only [Act.put, List.setIfInBounds_toArray, List.set_cons_zero, List.set_cons_succ, i64_w, i32_w]
        rfl
      refine take_ (i := 7) (N := some 61) (v := ?_) (a' := ?_) #[true, true, true, true, true, true, true, true, true, false, false, false, false, false, false, false, false, false, false, false, false, false, false, false, false] rfl rfl (take_ofW HT_.out HW_.out (by kernel_rfl)) (fun _ _ _ h => h) (Or.inl ⟨by rfl, ?_⟩) hHeld ?_ ?_
      rotate_left
      · rintro w' ⟨s0, s1, s2, s3, s4⟩
        go_simp
        with_reducible rfl
      rotate_left
      · simp only [Act.put, List.setIfInBounds_toArray, List.set_cons_zero, List.set_cons_succ, i64_w, i32_w]
        rfl
      refine take_ (i := 9) (N := some 63) (v := ?_) (a' := ?_) #[true, true, true, true, true, true, true, true, true, true, false, false, false, false, false, false, false, false, false, false, false, false, false, false, false] rfl rfl (take_ofW HT_.out HW_.out (by kernel_rfl)) (fun _ _ _ h => h) (Or.inl ⟨by rfl, ?_⟩) hHeld ?_ ?_
      rotate_left
      · rintro w' ⟨s0, s1, s2, s3, s4⟩
        go_simp
        with_reducible rfl
      rotate_left
      · simp only [Act.put, List.setIfInBounds_toArray, List.set_cons_zero, List.set_cons_succ, i64_w, i32_w]
        rfl
      refine take_ (i := 10) (N := some 64) (v := ?_) (a' := ?_) #[true, true, true, true, true, true, true, true, true, true, true, false, false, false, false, false, false, false, false, false, false, false, false, false, false] rfl rfl (take_ofW HT_.out HW_.out (by kernel_rfl)) (fun _ _ _ h => h) (Or.inl ⟨by rfl, ?_⟩) hHeld ?_ ?_
      rotate_left
      · rintro w' ⟨s0, s1, s2, s3, s4⟩
        go_simp
        with_reducible rfl
      rotate_left
      · simp only [Act.put, List.setIfInBounds_toArray, List.set_cons_zero, List.set_cons_succ, i64_w, i32_w]
        rfl
      refine pure_ (i := 11) (N := some 65) (v := ?_) (a' := ?_) #[true, true, true, true, true, true, true, true, true, true, true, true, false, false, false, false, false, false, false, false, false, false, false, false, false] rfl rfl (any_of HT_.out (by kernel_rfl)) (fun _ _ _ h => h) (Or.inl ⟨by rfl, ?_⟩) ?_ ?_
      rotate_left
      · intro w'
        go_simp
        with_reducible rfl
      rotate_left
      · simp only [Act.put, List.setIfInBounds_toArray, List.set_cons_zero, List.set_cons_succ, i64_w, i32_w]
        rfl
      refine pure_ (i := 12) (N := some 66) (v := ?_) (a' := ?_) #[true, true, true, true, true, true, true, true, true, true, true, true, true, false, false, false, false, false, false, false, false, false, false, false, false] rfl rfl (any_of HT_.out (by kernel_rfl)) (fun _ _ _ h => h) (Or.inl ⟨by rfl, ?_⟩) ?_ ?_
      rotate_left
      · intro w'
        go_simp
        with_reducible rfl
      rotate_left
      · simp only [Act.put, List.setIfInBounds_toArray, List.set_cons_zero, List.set_cons_succ, i64_w, i32_w]
        rfl
      refine take_ (i := 13) (N := some 67) (v := ?_) (a' := ?_) #[true, true, true, true, true, true, true, true, true, true, true, true, true, true, false, false, false, false, false, false, false, false, false, false, false] rfl rfl (take_ofW HT_.out HW_.out (by kernel_rfl)) (fun _ _ _ h => h) (Or.inl ⟨by rfl, ?_⟩) hHeld ?_ ?_
      rotate_left
      · rintro w' ⟨s0, s1, s2, s3, s4⟩
        go_simp
        with_reducible rfl
      rotate_left
      · simp only [Act.put, List.setIfInBounds_toArray, List.set_cons_zero, List.set_cons_succ, i64_w, i32_w]
        rfl
      refine pure_ (i := 14) (N := some 68) (v := ?_) (a' := ?_) #[true, true, true, true, true, true, true, true, true, true, true, true, true, true, true, false, false, false, false, false, false, false, false, false, false] rfl rfl (any_of HT_.out (by kernel_rfl)) (fun _ _ _ h => h) (Or.inl ⟨by rfl, ?_⟩) ?_ ?_
      rotate_left
      · intro w'
        go_simp
        with_reducible rfl
      rotate_left
      · simp only [Act.put, List.setIfInBounds_toArray, List.set_cons_zero, List.set_cons_succ, i64_w, i32_w]
        rfl
      refine take_ (i := 16) (N := some 70) (v := ?_) (a' := ?_) #[true, true, true, true, true, true, true, true, true, true, true, true, true, true, true, false, true, false, false, false, false, false, false, false, false] rfl rfl (take_ofW HT_.out HW_.out (by kernel_rfl)) (fun _ _ _ h => h) (Or.inl ⟨by rfl, ?_⟩) hHeld ?_ ?_
      rotate_left
      · rintro w' ⟨s0, s1, s2, s3, s4⟩
        go_simp
        with_reducible rfl
      rotate_left
      · simp only [Act.put, List.setIfInBounds_toArray, List.set_cons_zero, List.set_cons_succ, i64_w, i32_w]
        rfl
      refine one_ (i := 15) (N := some 69) #[true, true, true, true, true, true, true, true, true, true, true, true, true, true, true, true, true, false, false, false, false, false, false, false, false] rfl rfl (one_of HT_.out (by kernel_rfl)) (by decide) (fun K hK => ?_)
      refine goes_ Tryz.func108 (by kernel_rfl) rfl #[.pointer (some ⟨pb, 0, none⟩), .int .i64 (wrap64 (x0 + (604800 - off)))] (by rfl) rfl rfl (by (try simp only [List.map_toArray, List.map_cons, List.map_nil]); first | done | rfl) ?_
      refine (HUN.out _ HC9.out.plan HN9.out).mono ?_
      rintro e w10 ⟨rfl, pp, uu⟩
      refine ⟨_, rfl, ?_⟩
      have HC10 := Aside0.mk (HC9.out.upd uu pp)
      have HU10 := Aside0.mk (HU9.out.trans uu)
      have HD10 := Aside0.mk (HD9.out.upd uu hcb)
      have HS10 := Aside0.mk (uu.blk HS9.out hsne)
      have HN10 : Aside0 (n ≤ w10.heap.size) := ⟨Nat.le_trans HN9.out uu.size⟩
      have e0 : w10.cell? ⟨w.heap.size, 0, none⟩ = some (.pointer (some ⟨kb, 0, none⟩)) := (blk_cell HD10.out.b0 0).trans rfl
      have e1 : w10.cell? ⟨w.heap.size + 1, 0, none⟩ = some (.int .i64 Bc) := (blk_cell HD10.out.b1 0).trans rfl
      have e2 : w10.cell? ⟨sb, 0, none⟩ = some (.int .i64 x0) := (blk_cell HS10.out 0).trans rfl
      have e3 : w10.cell? ⟨kb, 1, none⟩ = some (.pointer (some ⟨pb, 0, none⟩)) := (blk_cell HC10.out.blk 1).trans rfl
      have e4 : w10.cell? ⟨kb, 2, none⟩ = some (.int .i64 (604800 - off)) := (blk_cell HC10.out.blk 2).trans rfl
      clear uu pp
      refine hK.out _ _ ⟨e0, e1, e2, e3, e4⟩ (fun hHeld => ?_)
      clear hK K
      refine norm_ (a' := ?_) ?_ ?_
      rotate_left
      · show Act.put _ (some 69) _ = _
        simp only [Act.put, List.setIfInBounds_toArray, List.set_cons_zero, List.set_cons_succ, i64_w, i32_w]
        rfl
      refine pure_ (i := 17) (N := some 71) (v := ?_) (a' := ?_) #[true, true, true, true, true, true, true, true, true, true, true, true, true, true, true, true, true, true, false, false, false, false, false, false, false] rfl rfl (any_of HT_.out (by kernel_rfl)) (fun _ _ _ h => h) (Or.inl ⟨by rfl, ?_⟩) ?_ ?_
      rotate_left
      · intro w'
        go_simp
        with_reducible rfl
      rotate_left
      · simp only [Act.put, List.setIfInBounds_toArray, List.set_cons_zero, List.set_cons_succ, i64_w, i32_w]
        rfl
      refine pure_ (i := 18) (N := some 72) (v := ?_) (a' := ?_) #[true, true, true, true, true, true, true, true, true, true, true, true, true, true, true, true, true, true, true, false, false, false, false, false, false] rfl rfl (any_of HT_.out (by kernel_rfl)) (fun _ _ _ h => h) (Or.inl ⟨by rfl, ?_⟩) ?_ ?_
      rotate_left
      · intro w'
        go_simp
        with_reducible rfl
      rotate_left
      · simp only [Act.put, List.setIfInBounds_toArray, List.set_cons_zero, List.set_cons_succ, i64_w, i32_w]
        rfl
      refine one_ (i := 19) (N := some 73) #[true, true, true, true, true, true, true, true, true, true, true, true, true, true, true, true, true, true, true, true, false, false, false, false, false] rfl rfl (one_of HT_.out (by kernel_rfl)) (by decide) (fun K hK => ?_)
      refine goes_ Tryz.func107 (by kernel_rfl) rfl #[.pointer (some ⟨pb, 0, none⟩), .int .i64 (wrap64 (U + Bc - 1))] (by rfl) rfl rfl (by (try simp only [List.map_toArray, List.map_cons, List.map_nil]); first | done | rfl) ?_
      refine (HNT.out _ HC10.out.plan HN10.out).mono ?_
      rintro e w11 ⟨rfl, pp, uu⟩
      refine ⟨_, rfl, ?_⟩
      have HC11 := Aside0.mk (HC10.out.upd uu pp)
      have HU11 := Aside0.mk (HU10.out.trans uu)
      have HD11 := Aside0.mk (HD10.out.upd uu hcb)
      have HS11 := Aside0.mk (uu.blk HS10.out hsne)
      have HN11 : Aside0 (n ≤ w11.heap.size) := ⟨Nat.le_trans HN10.out uu.size⟩
      have e0 : w11.cell? ⟨w.heap.size, 0, none⟩ = some (.pointer (some ⟨kb, 0, none⟩)) := (blk_cell HD11.out.b0 0).trans rfl
      have e1 : w11.cell? ⟨w.heap.size + 1, 0, none⟩ = some (.int .i64 Bc) := (blk_cell HD11.out.b1 0).trans rfl
      have e2 : w11.cell? ⟨sb, 0, none⟩ = some (.int .i64 x0) := (blk_cell HS11.out 0).trans rfl
      have e3 : w11.cell? ⟨kb, 1, none⟩ = some (.pointer (some ⟨pb, 0, none⟩)) := (blk_cell HC11.out.blk 1).trans rfl
      have e4 : w11.cell? ⟨kb, 2, none⟩ = some (.int .i64 (604800 - off)) := (blk_cell HC11.out.blk 2).trans rfl
      clear uu pp
      refine hK.out _ _ ⟨e0, e1, e2, e3, e4⟩ (fun hHeld => ?_)
      clear hK K
      refine norm_ (a' := ?_) ?_ ?_
      rotate_left
      · show Act.put _ (some 73) _ = _
        simp only [Act.put, List.setIfInBounds_toArray, List.set_cons_zero, List.set_cons_succ, i64_w, i32_w]
        rfl
      refine pure_ (i := 20) (N := some 53) (v := ?_) (a' := ?_) #[true, true, true, true, true, true, true, true, true, true, true, true, true, true, true, true, true, true, true, true, true, false, false, false, false] rfl rfl (any_of HT_.out (by kernel_rfl)) (fun _ _ _ h => h) (Or.inl ⟨by rfl, ?_⟩) ?_ ?_
      rotate_left
      · intro w'
        go_simp
        with_reducible rfl
      rotate_left
      · simp only [Act.put, List.setIfInBounds_toArray, List.set_cons_zero, List.set_cons_succ, i64_w, i32_w]
        rfl
      refine pure_ (i := 21) (N := some 74) (v := ?_) (a' := ?_) #[true, true, true, true, true, true, true, true, true, true, true, true, true, true, true, true, true, true, true, true, true, true, false, false, false] rfl rfl (any_of HT_.out (by kernel_rfl)) (fun _ _ _ h => h) (Or.inl ⟨by rfl, ?_⟩) ?_ ?_
      rotate_left
      · intro w'
        go_simp
        with_reducible rfl
      rotate_left
      · simp only [Act.put, List.setIfInBounds_toArray, List.set_cons_zero, List.set_cons_succ, i64_w, i32_w]
        rfl
      refine pure_ (i := 22) (N := some 75) (v := ?_) (a' := ?_) #[true, true, true, true, true, true, true, true, true, true, true, true, true, true, true, true, true, true, true, true, true, true, true, false, false] rfl rfl (any_of HT_.out (by kernel_rfl)) (fun _ _ _ h => h) (Or.inl ⟨by rfl, ?_⟩) ?_ ?_
      rotate_left
      · intro w'
        go_simp
        with_reducible rfl
      rotate_left
      · simp only [Act.put, List.setIfInBounds_toArray, List.set_cons_zero, List.set_cons_succ, i64_w, i32_w]
        rfl
      refine pure_ (i := 23) (N := some 10) (v := ?_) (a' := ?_) #[true, true, true, true, true, true, true, true, true, true, true, true, true, true, true, true, true, true, true, true, true, true, true, true, false] rfl rfl (any_of HT_.out (by kernel_rfl)) (fun _ _ _ h => h) (Or.inl ⟨by rfl, ?_⟩) ?_ ?_
      rotate_left
      · intro w'
        go_simp
        with_reducible rfl
      rotate_left
      · simp only [Act.put, List.setIfInBounds_toArray, List.set_cons_zero, List.set_cons_succ, i64_w, i32_w]
        rfl
      refine pure_ (i := 24) (N := some 11) (v := ?_) (a' := ?_) #[true, true, true, true, true, true, true, true, true, true, true, true, true, true, true, true, true, true, true, true, true, true, true, true, true] rfl rfl (any_of HT_.out (by kernel_rfl)) (fun _ _ _ h => h) (Or.inl ⟨by rfl, ?_⟩) ?_ ?_
      rotate_left
      · intro w'
        go_simp
        with_reducible rfl
      rotate_left
      · simp only [Act.put, List.setIfInBounds_toArray, List.set_cons_zero, List.set_cons_succ, i64_w, i32_w]
        rfl
      refine done_ (done_of HT_.out (by kernel_rfl)) ?_
      clear HT_ HW_ hHeld
      have c0 : w11.cell? ⟨w.heap.size, 0, none⟩ = some (.pointer (some ⟨kb, 0, none⟩)) := (blk_cell HD11.out.b0 0).trans rfl
      have k2 : w11.cell? ⟨kb, 2, none⟩ = some (.int .i64 (604800 - off)) := (blk_cell HC11.out.blk 2).trans rfl
      have d2 : w11.cell? ⟨w.heap.size + 1 + 1, 0, none⟩ = some (.int .i64 0) := (blk_cell HD11.out.b2 0).trans rfl
      have d3 : w11.cell? ⟨w.heap.size + 1 + 1 + 1, 0, none⟩ = some (.int .i64 0) := (blk_cell HD11.out.b3 0).trans rfl
      have f2 : w11.frozen? ⟨w.heap.size + 1 + 1, 0, none⟩ = false := blk_frozen HD11.out.b2 0
      have f3 : w11.frozen? ⟨w.heap.size + 1 + 1 + 1, 0, none⟩ = false := blk_frozen HD11.out.b3 0
      gi_wp2
      exact ⟨KeepsFrom.box1 (KeepsFrom.box1 (KeepsFrom.of_grownBy HU11.out (fun j e => by injection e with e; omega)) (by omega) _) (by omega) _, rfl, q - (604800 - off) + 1, Bc, HDUE.out, (HD11.out.set2 _).set3 _, (HC11.out.far HD11.out.b2 (by decide) (by decide) (fun _ => hneq) (But.set _ _ _)).far (HD11.out.set2 _).b3 (by decide) (by decide) (fun _ => hneq) (But.set _ _ _), ((HU.out.trans HU11.out).box (by omega) _).box (by omega) _⟩
  case done =>
    rintro L xs W hL hS ⟨Bc, ⟨b1, b2, b3⟩, D, C, U⟩ hK
    have hdue : dueL off week B (freeL closed a 1125899906842624) = none := by
      have := b3 []
      rw [List.append_nil, hS] at this
      exact this
    have hneq : week ≠ [] := fun e => by rw [e] at hs; simp [secs] at hs
    have d2 : W.cell? ⟨w.heap.size + 1 + 1, 0, none⟩ = some (.int .i64 0) := (blk_cell D.b2 0).trans rfl
    have d3 : W.cell? ⟨w.heap.size + 1 + 1 + 1, 0, none⟩ = some (.int .i64 0) := (blk_cell D.b3 0).trans rfl
    have f2 : W.frozen? ⟨w.heap.size + 1 + 1, 0, none⟩ = false := blk_frozen D.b2 0
    have f3 : W.frozen? ⟨w.heap.size + 1 + 1 + 1, 0, none⟩ = false := blk_frozen D.b3 0
    have HL := due_left D (x := 0) (y := 10) hcb C U (.inl hneq)
    have hK3 := ((KeepsFrom.refl w7.heap.size W).trans ((KeepsFrom.box1 (KeepsFrom.refl w7.heap.size W) (b := w.heap.size + 1 + 1) (by omega) (.int .i64 0)))).same L _ hL hK rfl
    have hK4 := (KeepsFrom.box1 (KeepsFrom.refl w7.heap.size (W.setCell ⟨w.heap.size + 1 + 1, 0, none⟩ (.int .i64 0))) (b := w.heap.size + 1 + 1 + 1) (by omega) (.int .i64 10)).same L _ hL hK3 rfl
    obtain ⟨D9, C9, U9⟩ := due_end (.deferred none) (by omega) hK4 ((D.set2 0).set3 10) HL.1 HL.2
    have e2 := (blk_cell D9.b2 0).trans (rfl : _ = some (Value.int .i64 0))
    have e3 := (blk_cell D9.b3 0).trans (rfl : _ = some (Value.int .i64 10))
    clear HAM B0 B1 B2 hb7 I0 HU7 C U b3 D hK3 HL D9
    gi_wp2
    refine ⟨by simp, .inl ⟨_, _, rfl, run_takeDeferred hK4, ?_⟩⟩
    refine ⟨.tuple #[.int .i64 0, .int .i64 10], by simp [results, Tryz.results53, go_sem, e2, e3], ?_⟩
    rw [hdue]
    exact ⟨rfl, C9, U9⟩
  case stop =>
    rintro L c pre W hL ⟨rest, hS⟩ ⟨rfl, d, Bc, b3, D, C, U⟩ hK
    have hdue : dueL off week B (freeL closed a 1125899906842624) = some d := by rw [← hS]; exact b3 rest
    obtain ⟨D9, C9, U9⟩ := due_end (.deferred none) (by omega) hK D C U
    have e2 := (blk_cell D9.b2 0).trans (rfl : _ = some (Value.int .i64 d))
    have e3 := (blk_cell D9.b3 0).trans (rfl : _ = some (Value.int .i64 0))
    clear HAM B0 B1 B2 hb7 I0 HU7 C U b3 D D9
    gi_wp2
    refine ⟨by simp, .inl ⟨_, _, rfl, run_takeDeferred hK, ?_⟩⟩
    refine ⟨.tuple #[.int .i64 d, .int .i64 0], by simp [results, Tryz.results53, go_sem, e2, e3], ?_⟩
    rw [hdue]
    exact ⟨rfl, C9, U9⟩
def dueP (off : Int) (week closed : List S114) (a B : Int) : Int × Int :=
  if ¬ (0 ≤ a ∧ a ≤ 1125899906842624) ∨ B < 0 then (0, 2) else if B = 0 then (a, 0) else if secs week = 0 then (0, 40) else dueR (dueL off week B (freeL closed a 1125899906842624))
theorem due_any (a B : Int) (w : World) (h : ClkAt w n kb ab pb cb off week closed) (hn : n ≤ w.heap.size) (hB2 : B ≤ 9223372036854775807) :
    Calls Tryz.prog 53 #[.pointer (some ⟨kb, 0, none⟩), .int .i64 a, .int .i64 B] w fun e w' => e = .returned (.tuple #[.int .i64 (dueP off week closed a B).1, .int .i64 (dueP off week closed a B).2]) ∧ ClkAt w' n kb ab pb cb off week closed ∧ Upd cb w w' := by
  unfold dueP
  by_cases h1 : 0 ≤ a ∧ a ≤ 1125899906842624
  · by_cases h2 : B < 0
    · rw [if_pos (.inr h2)]; exact due_arg2 a B w h hn h1 h2
    · rw [if_neg (by omega)]
      by_cases h3 : B = 0
      · rw [if_pos h3]; exact due_zero a B w h hn h1 h3
      · rw [if_neg h3]
        have h5 := (h.plan.ok.secs (by omega)).1
        by_cases h4 : secs week = 0
        · rw [if_pos h4]; exact due_closed a B w h hn h1 (by omega) h4
        · rw [if_neg h4]; exact due_main a B w h hn h1 (by omega) hB2 (by omega)
  · rw [if_pos (.inl h1)]; exact due_arg1 a B w h hn h1
end Go.Proofs.YtepldlnmeenlbaaGreat.Own
namespace Go.Proofs.YtepldlnmeenlbaaGreat.Own
open Go.RowKit Go.Proofs Go.Proofs.YtepldlnmeenlbaaGreatW.PrintWords Go.Proofs.YtepldlnmeenlbaaGreatW.PrintLast Go.Proofs.YtepldlnmeenlbaaGreatW.PrintMore Go.Proofs.YtepldlnmeenlbaaGreat.Base
variable {off : Int} {week closed : List S114}
structure CalOk (off : Int) (week closed : List S114) : Prop where
  lo : 0 ≤ off
  hi : off < 604800
  week : RowOk 604800 week
  closed : RowOk 1125899906842624 closed
theorem calErr_ok (h : calErr off week closed = 0) : CalOk off week closed := by
  unfold calErr at h
  by_cases h1 : off < 0 ∨ 604800 ≤ off
  · rw [if_pos h1] at h; cases h
  · rw [if_neg h1] at h
    by_cases h2 : weekErr week = 0
    · rw [if_pos h2] at h
      exact ⟨by omega, by omega, weekErr_ok h2, rowErr_ok h⟩
    · rw [if_neg h2] at h; exact absurd h h2
theorem secs_nil {hi : Int} {l : List S114} (h : RowOk hi l) (h0 : 0 ≤ hi) (hs : secs l = 0) : l = [] := by
  cases l with
  | nil => rfl
  | cons s r =>
    obtain ⟨_, h2, h3⟩ := h.row
    have := (secs_bound h3 (fun x hx => h.top x (by simp [hx]))).1
    simp only [secs] at hs
    omega
theorem dueP_spec (h : CalOk off week closed) {a B : Int} (ha : 0 ≤ a) (haH : a ≤ 1125899906842624) (hB : 0 ≤ B) :
    ((dueP off week closed a B).2 = 0 ∧ a ≤ (dueP off week closed a B).1 ∧ (dueP off week closed a B).1 ≤ 1125899906842624 ∧ Nn off week closed (dueP off week closed a B).1 = Nn off week closed a + B ∧ (B = 0 → (dueP off week closed a B).1 = a) ∧
      (0 < B → a < (dueP off week closed a B).1 ∧ Nn off week closed ((dueP off week closed a B).1 - 1) = Nn off week closed a + B - 1 ∧ cop off week closed ((dueP off week closed a B).1 - 1) = true)) ∨
    ((dueP off week closed a B).1 = 0 ∧ Nn off week closed 1125899906842624 - Nn off week closed a < B ∧ ((dueP off week closed a B).2 = 10 ∧ 0 < secs week ∨ (dueP off week closed a B).2 = 40 ∧ week = [])) := by
  have hN := Nn_step h.week h.closed h.lo h.hi
  unfold dueP
  rw [if_neg (by omega)]
  by_cases h0 : B = 0
  · rw [if_pos h0]
    exact .inl ⟨rfl, Int.le_refl _, haH, by simp only; omega, fun _ => rfl, fun h => by omega⟩
  · rw [if_neg h0]
    by_cases hs : secs week = 0
    · rw [if_pos hs]
      have hw := secs_nil h.week (by omega) hs
      refine .inr ⟨rfl, ?_, .inr ⟨rfl, hw⟩⟩
      have := hN.still ha haH (Int.le_refl _) (fun t _ _ => by subst hw; simp [cop, wop, inRow])
      omega
    · rw [if_neg hs]
      have hs0 := (h.week.secs (by omega)).1
      have := due_spec h.week h.lo h.hi (by omega) (Nn off week closed) closed 0 a B h.closed.row (Int.le_refl _) h.closed.top ha haH (by omega) (hN.sub ha (Int.le_refl _))
      revert this
      cases dueL off week B (freeL closed a 1125899906842624) with
      | none => intro hh; exact .inr ⟨rfl, hh, .inl ⟨rfl, by omega⟩⟩
      | some d =>
        rintro ⟨d1, d2, d3, d4, d5⟩
        exact .inl ⟨rfl, by simp only [dueR]; omega, d2, d3, fun h => by omega, fun _ => ⟨d1, d4, d5⟩⟩
end Go.Proofs.YtepldlnmeenlbaaGreat.Own
namespace Go.Proofs.YtepldlnmeenlbaaGreat.Own
open Go.RowKit Go.Proofs Go.Proofs.YtepldlnmeenlbaaGreatW.PrintWords Go.Proofs.YtepldlnmeenlbaaGreatW.PrintLast Go.Proofs.YtepldlnmeenlbaaGreatW.PrintMore Go.Proofs.YtepldlnmeenlbaaGreat.Base
variable {off : Int} {week closed : List S114}
theorem RowOk.big {l : List S114} (h : RowOk 604800 l) : RowOk 1125899906842624 l := ⟨h.len, h.row, fun s hs => by have := h.top s hs; omega⟩
def restR (off : Int) (week closed : List S114) (a u b : Int) : Int × Int := if u < 0 then (0, 2) else if 0 ≤ a ∧ a ≤ b ∧ b ≤ 1125899906842624 then (mx (u - elapP off week closed a b) 0, 0) else (0, 2)
theorem dueP_inst {a B : Int} (h : (dueP off week closed a B).2 = 0) : 0 ≤ a ∧ a ≤ 1125899906842624 ∧ 0 ≤ B := by
  unfold dueP at h
  by_cases h1 : ¬ (0 ≤ a ∧ a ≤ 1125899906842624) ∨ B < 0
  · rw [if_pos h1] at h; cases h
  · omega
end Go.Proofs.YtepldlnmeenlbaaGreat.Own
namespace Go.Proofs.YtepldlnmeenlbaaGreat.Own
open Go.RowKit Go.Proofs Go.Proofs.YtepldlnmeenlbaaGreatW.PrintWords Go.Proofs.YtepldlnmeenlbaaGreatW.PrintLast Go.Proofs.YtepldlnmeenlbaaGreatW.PrintMore Go.Proofs.YtepldlnmeenlbaaGreat.Base
variable {w w' : World} {n kb ab pb cb : Nat} {off : Int} {week closed : List S114}
def FarT (t : TypeId) : Prop := t ≠ 114 ∧ t ≠ 2 ∧ t ≠ 203 ∧ t ≠ 199 ∧ t ≠ 149 ∧ t ≠ 239
theorem ne_type {b g : Nat} {t u : TypeId} {cs ds : Array Value} (hb : w.heap[b]? = some (.cells cs t (0, 0))) (hg : w.heap[g]? = some (.cells ds u (0, 0))) (h : t ≠ u) : g ≠ b := by
  rintro rfl
  rw [hb] at hg
  injection hg with hg
  injection hg with _ hg
  exact h hg
theorem ClkAt.farT (h : ClkAt w n kb ab pb cb off week closed) {b : Nat} {t : TypeId} {cs : Array Value} (hb : w.heap[b]? = some (.cells cs t (0, 0))) (ht : FarT t) (hm : But b w w') : ClkAt w' n kb ab pb cb off week closed := by
  obtain ⟨t1, t2, t3, t4, t5, t6⟩ := ht
  obtain ⟨A, c, hpb, hc, hr⟩ := h.plan.blk
  obtain ⟨A2, c2, hab, hc2, hr2⟩ := h.alm.blk
  refine ⟨h.lo, h.hi, h.nkb, h.ne, (hm kb (blk_lt h.blk) (ne_type hb h.blk t5)).trans h.blk, ⟨h.alm.ok, h.alm.nab, h.alm.ne, A2, c2, (hm ab (blk_lt hab) (ne_type hb hab t3)).trans hab, hc2, ?_⟩, h.plan.ok, h.plan.npb, h.plan.ncb, h.plan.ne, ⟨A, c, (hm pb (blk_lt hpb) (ne_type hb hpb t4)).trans hpb, hc, ?_⟩, ?_⟩
  · exact Kd.R_mono (Kd.R_step (Kd.R_types hr2 hb (types1 rfl t1)) (fun k hk hlt => hm k hlt hk.2)) (fun _ hk => hk.1)
  · exact Kd.R_mono (Kd.R_step (Kd.R_types hr hb (types1 rfl t1)) (fun k hk hlt => hm k hlt hk.2)) (fun _ hk => hk.1)
  · obtain ⟨m, k, ⟨lv, hc⟩ | ⟨v, hc, hr⟩⟩ := h.plan.cell
    · exact ⟨m, k, .inl ⟨lv, (hm cb (blk_lt hc) (ne_type hb hc t6)).trans hc⟩⟩
    · exact ⟨m, k, .inr ⟨v, (hm cb (blk_lt hc) (ne_type hb hc t6)).trans hc, Kd.R_mono (Kd.R_step (Kd.R_types hr hb (types1 rfl t2)) (fun k hk hlt => hm k hlt hk.2)) (fun _ hk => hk.1)⟩⟩
theorem step_set {W : World} {b : Nat} {t : TypeId} {cs : Array Value} (C : ClkAt W n kb ab pb cb off week closed) (U : Upd cb w W) (hb : W.heap[b]? = some (.cells cs t (0, 0))) (ht : FarT t) (hge : w.heap.size ≤ b) (i : Nat) (x : Value) :
    ClkAt (W.setCell ⟨b, i, none⟩ x) n kb ab pb cb off week closed ∧ Upd cb w (W.setCell ⟨b, i, none⟩ x) :=
  ⟨C.farT hb ht (fun k _ hk => Below.heap_setCell _ _ _ _ hk), ⟨U.os, U.tape, U.output, by simpa using U.size, fun k hk hne => (Below.heap_setCell _ _ _ _ (by show k ≠ b; omega)).trans (U.block k hk hne)⟩⟩
end Go.Proofs.YtepldlnmeenlbaaGreat.Own
namespace Go.Proofs.YtepldlnmeenlbaaGreat.Own
open Go.RowKit Go.Proofs Go.Proofs.YtepldlnmeenlbaaGreatW.PrintWords Go.Proofs.YtepldlnmeenlbaaGreatW.PrintLast Go.Proofs.YtepldlnmeenlbaaGreatW.PrintMore Go.Proofs.YtepldlnmeenlbaaGreat.Base
variable {w w' : World} {n kb ab pb cb : Nat} {off : Int} {week closed : List S114}
def stepCs (a b c d : Int) : Array Value := #[.int .i64 a, .int .i64 b, .int .i64 c, .int .i64 d]
def atS (off : Int) (week closed : List S114) (lv l now : Int) : Int × Int × Int × Int × Int := if (dueP off week closed now l).2 = 0 then (lv, now, l, (dueP off week closed now l).1, 0) else (0, 0, 0, 0, (dueP off week closed now l).2)
set_option maxHeartbeats 4000000 in
set_option maxRecDepth 100000 in
theorem at_ok (lv fr l du now d : Int) (w : World) (h : ClkAt w n kb ab pb cb off week closed) (hn : n ≤ w.heap.size) (hl : l ≤ 9223372036854775807) (hd : dueP off week closed now l = (d, 0)) :
    Calls Tryz.prog 116 #[.agg (stepCs lv fr l du), .pointer (some ⟨kb, 0, none⟩), .int .i64 now] w fun e w' => e = .returned (.tuple #[.agg (stepCs lv now l d), .int .i64 0]) ∧ ClkAt w' n kb ab pb cb off week closed ∧ Upd cb w w' := by
  unfold stepCs
  have HD := Aside0.mk hd
  have hcb := h.lt
  have B0 : Aside0 (((w.alloc (.cells #[.int .i64 lv, .int .i64 fr, .int .i64 l, .int .i64 du] 75)).alloc (.cells #[.int .i64 0, .int .i64 0, .int .i64 0, .int .i64 0] 75)).heap[w.heap.size]? = some (.cells #[.int .i64 lv, .int .i64 fr, .int .i64 l, .int .i64 du] 75 (0, 0))) := ⟨blk_alloc (blk_new w _) _⟩
  have B1 : Aside0 (((w.alloc (.cells #[.int .i64 lv, .int .i64 fr, .int .i64 l, .int .i64 du] 75)).alloc (.cells #[.int .i64 0, .int .i64 0, .int .i64 0, .int .i64 0] 75)).heap[w.heap.size + 1]? = some (.cells #[.int .i64 0, .int .i64 0, .int .i64 0, .int .i64 0] 75 (0, 0))) := ⟨by simpa using blk_new (w.alloc (.cells #[.int .i64 lv, .int .i64 fr, .int .i64 l, .int .i64 du] 75)) (.cells #[.int .i64 0, .int .i64 0, .int .i64 0, .int .i64 0] 75)⟩
  have HB := below_alloc (below_alloc (Below.refl w.heap.size w) (.cells #[.int .i64 lv, .int .i64 fr, .int .i64 l, .int .i64 du] 75)) (.cells #[.int .i64 0, .int .i64 0, .int .i64 0, .int .i64 0] 75)
  have HC := Aside0.mk (h.below HB)
  have HU := Aside0.mk (Upd.of_below (b := cb) HB)
  have HN := Aside0.mk (Nat.le_trans hn HB.size)
  clear hd h HB
  go_enter Tryz.func116, Tryz.ntmps116
  go_wp2_with fail
  generalize ((w.alloc (.cells #[.int .i64 lv, .int .i64 fr, .int .i64 l, .int .i64 du] 75)).alloc (.cells #[.int .i64 0, .int .i64 0, .int .i64 0, .int .i64 0] 75)) = w2 at B0 B1 HC HU HN ⊢
  go_wp2_with (go_at_call 53; refine (due_any now l w2 HC.out HN.out hl).mono ?_; rintro e w3 ⟨rfl, CK, UK⟩; rw [HD.out]; have C0 := Aside0.mk (UK.blk B0.out (by omega)); have C1 := Aside0.mk (UK.blk B1.out (by omega)); have HC3 := Aside0.mk CK; have HU3 := Aside0.mk (HU.out.trans UK); clear CK UK; have c0 : w3.cell? ⟨w.heap.size, 0, none⟩ = some (.int .i64 lv) := (blk_cell C0.out 0).trans rfl; have c1 : w3.cell? ⟨w.heap.size, 1, none⟩ = some (.int .i64 fr) := (blk_cell C0.out 1).trans rfl; have c2 : w3.cell? ⟨w.heap.size, 2, none⟩ = some (.int .i64 l) := (blk_cell C0.out 2).trans rfl; have c3 : w3.cell? ⟨w.heap.size, 3, none⟩ = some (.int .i64 du) := (blk_cell C0.out 3).trans rfl; have f1 : w3.frozen? ⟨w.heap.size, 1, none⟩ = false := blk_frozen C0.out 1; have f3 : w3.frozen? ⟨w.heap.size, 3, none⟩ = false := blk_frozen C0.out 3; have r0 : w3.cell? ⟨w.heap.size + 1, 0, none⟩ = some (.int .i64 0) := (blk_cell C1.out 0).trans rfl; have g0 : w3.frozen? ⟨w.heap.size + 1, 0, none⟩ = false := blk_frozen C1.out 0; have r1 : w3.cell? ⟨w.heap.size + 1, 1, none⟩ = some (.int .i64 0) := (blk_cell C1.out 1).trans rfl; have g1 : w3.frozen? ⟨w.heap.size + 1, 1, none⟩ = false := blk_frozen C1.out 1; have r2 : w3.cell? ⟨w.heap.size + 1, 2, none⟩ = some (.int .i64 0) := (blk_cell C1.out 2).trans rfl; have g2 : w3.frozen? ⟨w.heap.size + 1, 2, none⟩ = false := blk_frozen C1.out 2; have r3 : w3.cell? ⟨w.heap.size + 1, 3, none⟩ = some (.int .i64 0) := (blk_cell C1.out 3).trans rfl; have g3 : w3.frozen? ⟨w.heap.size + 1, 3, none⟩ = false := blk_frozen C1.out 3)
  have F : FarT 75 := ⟨by decide, by decide, by decide, by decide, by decide, by decide⟩
  have D0 := blk_put C0.out 1 (.int .i64 now) rfl
  have S0 := step_set HC3.out HU3.out C0.out F (Nat.le_refl _) 1 (.int .i64 now)
  have D1 := blk_put D0 3 (.int .i64 d) rfl
  have S1 := step_set S0.1 S0.2 D0 F (Nat.le_refl _) 3 (.int .i64 d)
  have E1 : ((w3.setCell ⟨w.heap.size, 1, none⟩ (.int .i64 now)).setCell ⟨w.heap.size, 3, none⟩ (.int .i64 d)).heap[w.heap.size + 1]? = _ := (Below.heap_setCell _ _ _ _ (by simp)).trans ((Below.heap_setCell _ _ _ _ (by simp)).trans C1.out)
  have E2 := blk_put E1 0 (.int .i64 lv) rfl
  have S2 := step_set S1.1 S1.2 E1 F (by omega) 0 (.int .i64 lv)
  have E3 := blk_put E2 1 (.int .i64 now) rfl
  have S3 := step_set S2.1 S2.2 E2 F (by omega) 1 (.int .i64 now)
  have E4 := blk_put E3 2 (.int .i64 l) rfl
  have S4 := step_set S3.1 S3.2 E3 F (by omega) 2 (.int .i64 l)
  have E5 := blk_put E4 3 (.int .i64 d) rfl
  have S5 := step_set S4.1 S4.2 E4 F (by omega) 3 (.int .i64 d)
  have k0 := (blk_cell E5 0).trans (rfl : _ = some (Value.int .i64 lv))
  have k1 := (blk_cell E5 1).trans (rfl : _ = some (Value.int .i64 now))
  have k2 := (blk_cell E5 2).trans (rfl : _ = some (Value.int .i64 l))
  have k3 := (blk_cell E5 3).trans (rfl : _ = some (Value.int .i64 d))
  refine bodyPost_ret (v := .tuple #[.agg #[.int .i64 lv, .int .i64 now, .int .i64 l, .int .i64 d], .int .i64 0]) (by simp [results, Tryz.results116, go_sem, k0, k1, k2, k3]) rfl ⟨rfl, S5⟩
set_option maxHeartbeats 4000000 in
set_option maxRecDepth 100000 in
theorem at_no (lv fr l du now x2 : Int) (w : World) (h : ClkAt w n kb ab pb cb off week closed) (hn : n ≤ w.heap.size) (hl : l ≤ 9223372036854775807) (hd : dueP off week closed now l = (0, x2)) (hx : x2 ≠ 0) :
    Calls Tryz.prog 116 #[.agg (stepCs lv fr l du), .pointer (some ⟨kb, 0, none⟩), .int .i64 now] w fun e w' => e = .returned (.tuple #[.agg (stepCs 0 0 0 0), .int .i64 x2]) ∧ ClkAt w' n kb ab pb cb off week closed ∧ Upd cb w w' := by
  unfold stepCs
  have HD := Aside0.mk hd
  have hx2 : (x2 != 0) = true := bne_iff_ne.mpr hx
  have hcb := h.lt
  have B0 : Aside0 (((w.alloc (.cells #[.int .i64 lv, .int .i64 fr, .int .i64 l, .int .i64 du] 75)).alloc (.cells #[.int .i64 0, .int .i64 0, .int .i64 0, .int .i64 0] 75)).heap[w.heap.size]? = some (.cells #[.int .i64 lv, .int .i64 fr, .int .i64 l, .int .i64 du] 75 (0, 0))) := ⟨blk_alloc (blk_new w _) _⟩
  have B1 : Aside0 (((w.alloc (.cells #[.int .i64 lv, .int .i64 fr, .int .i64 l, .int .i64 du] 75)).alloc (.cells #[.int .i64 0, .int .i64 0, .int .i64 0, .int .i64 0] 75)).heap[w.heap.size + 1]? = some (.cells #[.int .i64 0, .int .i64 0, .int .i64 0, .int .i64 0] 75 (0, 0))) := ⟨by simpa using blk_new (w.alloc (.cells #[.int .i64 lv, .int .i64 fr, .int .i64 l, .int .i64 du] 75)) (.cells #[.int .i64 0, .int .i64 0, .int .i64 0, .int .i64 0] 75)⟩
  have HB := below_alloc (below_alloc (Below.refl w.heap.size w) (.cells #[.int .i64 lv, .int .i64 fr, .int .i64 l, .int .i64 du] 75)) (.cells #[.int .i64 0, .int .i64 0, .int .i64 0, .int .i64 0] 75)
  have HC := Aside0.mk (h.below HB)
  have HU := Aside0.mk (Upd.of_below (b := cb) HB)
  have HN := Aside0.mk (Nat.le_trans hn HB.size)
  clear hd h HB
  go_enter Tryz.func116, Tryz.ntmps116
  go_wp2_with fail
  generalize ((w.alloc (.cells #[.int .i64 lv, .int .i64 fr, .int .i64 l, .int .i64 du] 75)).alloc (.cells #[.int .i64 0, .int .i64 0, .int .i64 0, .int .i64 0] 75)) = w2 at B0 B1 HC HU HN ⊢
  go_wp2_with (go_at_call 53; refine (due_any now l w2 HC.out HN.out hl).mono ?_; rintro e w3 ⟨rfl, CK, UK⟩; rw [HD.out]; have C0 := Aside0.mk (UK.blk B0.out (by omega)); have C1 := Aside0.mk (UK.blk B1.out (by omega)); have HC3 := Aside0.mk CK; have HU3 := Aside0.mk (HU.out.trans UK); clear CK UK; have c0 : w3.cell? ⟨w.heap.size, 0, none⟩ = some (.int .i64 lv) := (blk_cell C0.out 0).trans rfl; have c1 : w3.cell? ⟨w.heap.size, 1, none⟩ = some (.int .i64 fr) := (blk_cell C0.out 1).trans rfl; have c2 : w3.cell? ⟨w.heap.size, 2, none⟩ = some (.int .i64 l) := (blk_cell C0.out 2).trans rfl; have c3 : w3.cell? ⟨w.heap.size, 3, none⟩ = some (.int .i64 du) := (blk_cell C0.out 3).trans rfl; have f1 : w3.frozen? ⟨w.heap.size, 1, none⟩ = false := blk_frozen C0.out 1; have f3 : w3.frozen? ⟨w.heap.size, 3, none⟩ = false := blk_frozen C0.out 3; have r0 : w3.cell? ⟨w.heap.size + 1, 0, none⟩ = some (.int .i64 0) := (blk_cell C1.out 0).trans rfl; have g0 : w3.frozen? ⟨w.heap.size + 1, 0, none⟩ = false := blk_frozen C1.out 0; have r1 : w3.cell? ⟨w.heap.size + 1, 1, none⟩ = some (.int .i64 0) := (blk_cell C1.out 1).trans rfl; have g1 : w3.frozen? ⟨w.heap.size + 1, 1, none⟩ = false := blk_frozen C1.out 1; have r2 : w3.cell? ⟨w.heap.size + 1, 2, none⟩ = some (.int .i64 0) := (blk_cell C1.out 2).trans rfl; have g2 : w3.frozen? ⟨w.heap.size + 1, 2, none⟩ = false := blk_frozen C1.out 2; have r3 : w3.cell? ⟨w.heap.size + 1, 3, none⟩ = some (.int .i64 0) := (blk_cell C1.out 3).trans rfl; have g3 : w3.frozen? ⟨w.heap.size + 1, 3, none⟩ = false := blk_frozen C1.out 3)
  have F : FarT 75 := ⟨by decide, by decide, by decide, by decide, by decide, by decide⟩
  have E2 := blk_put C1.out 0 (.int .i64 0) rfl
  have S2 := step_set HC3.out HU3.out C1.out F (by omega) 0 (.int .i64 0)
  have E3 := blk_put E2 1 (.int .i64 0) rfl
  have S3 := step_set S2.1 S2.2 E2 F (by omega) 1 (.int .i64 0)
  have E4 := blk_put E3 2 (.int .i64 0) rfl
  have S4 := step_set S3.1 S3.2 E3 F (by omega) 2 (.int .i64 0)
  have E5 := blk_put E4 3 (.int .i64 0) rfl
  have S5 := step_set S4.1 S4.2 E4 F (by omega) 3 (.int .i64 0)
  have k0 := (blk_cell E5 0).trans (rfl : _ = some (Value.int .i64 0))
  have k1 := (blk_cell E5 1).trans (rfl : _ = some (Value.int .i64 0))
  have k2 := (blk_cell E5 2).trans (rfl : _ = some (Value.int .i64 0))
  have k3 := (blk_cell E5 3).trans (rfl : _ = some (Value.int .i64 0))
  refine bodyPost_ret (v := .tuple #[.agg #[.int .i64 0, .int .i64 0, .int .i64 0, .int .i64 0], .int .i64 x2]) (by simp [results, Tryz.results116, go_sem, k0, k1, k2, k3]) rfl ⟨rfl, S5⟩
end Go.Proofs.YtepldlnmeenlbaaGreat.Own
namespace Go.Proofs.YtepldlnmeenlbaaGreat.Base
open Go.RowKit Go.Proofs.YtepldlnmeenlbaaGreatW.PrintWords Go.Proofs.YtepldlnmeenlbaaGreatW.PrintLast Go.Proofs.YtepldlnmeenlbaaGreatW.PrintMore
attribute [local go_sem] max2_int min2_int max_two min_two max_three min_three max_four min_four   -- for this text's walks alone
mutual
def curfewref14_Good.j0 : Nat → Bool → Int → List (S71) → Int → Int → Option (Bool)
  | 0, _, _, _, _, _ => none
  | k + 1, x44, x245000, x245001, x245002, x245003 => if x44 = true then (some false) else (curfewref14_Good.l0 k 0 x245000 x245001 x245002 x245003)
def curfewref14_Good.l0 : Nat → Int → Int → List (S71) → Int → Int → Option (Bool)
  | 0, _, _, _, _, _ => none
  | k + 1, x3, x245000, x245001, x245002, x245003 => if x3 < (x245001.length : Int) then (if 0 ≤ x3 then (if ((rd_T71 x245001 x3).f0) < 1 then (some false) else (if ((rd_T71 x245001 x3).f0) > 1125899906842624 then (some false) else (if ((rd_T71 x245001 x3).f1) < 0 then (some false) else (if ((rd_T71 x245001 x3).f1) > 7 then (some false) else (curfewref14_Good.l0 k (wrap64 (x3 + 1)) x245000 x245001 x245002 x245003))))) else (none)) else (some true)
end
def curfewref14_Good.f (k : Nat) (a0_0 : Int) (l0_1 : List (S71)) (a0_2 : Int) (a0_3 : Int) : Option (Bool) := if a0_0 < 0 then (curfewref14_Good.j0 k true a0_0 l0_1 a0_2 a0_3) else (if a0_0 > 7 then (curfewref14_Good.j0 k true a0_0 l0_1 a0_2 a0_3) else (if (l0_1.length : Int) < 1 then (curfewref14_Good.j0 k true a0_0 l0_1 a0_2 a0_3) else (if (l0_1.length : Int) > 6 then (curfewref14_Good.j0 k true a0_0 l0_1 a0_2 a0_3) else (if a0_2 < 1 then (curfewref14_Good.j0 k true a0_0 l0_1 a0_2 a0_3) else (if a0_2 > 8 then (curfewref14_Good.j0 k true a0_0 l0_1 a0_2 a0_3) else (if a0_3 < 1 then (curfewref14_Good.j0 k true a0_0 l0_1 a0_2 a0_3) else (curfewref14_Good.j0 k (decide (a0_3 > 1048576)) a0_0 l0_1 a0_2 a0_3)))))))
theorem curfewref14_Good.mono_l : ∀ k, (∀ y0 y1 y2 y3 y4, LeO (curfewref14_Good.j0 k y0 y1 y2 y3 y4) (curfewref14_Good.j0 (k + 1) y0 y1 y2 y3 y4)) ∧ (∀ y0 y1 y2 y3 y4, LeO (curfewref14_Good.l0 k y0 y1 y2 y3 y4) (curfewref14_Good.l0 (k + 1) y0 y1 y2 y3 y4))
  | 0 => ⟨fun _ _ _ _ _ r h => by simp [curfewref14_Good.j0] at h, fun _ _ _ _ _ r h => by simp [curfewref14_Good.l0] at h⟩
  | k + 1 => by
    obtain ⟨ih0, ih1⟩ := curfewref14_Good.mono_l k
    refine ⟨?_, ?_⟩
    · intro y0 y1 y2 y3 y4
      unfold curfewref14_Good.j0
      repeat' first
      | (with_reducible exact ih0 _ _ _ _ _)
      | (with_reducible exact ih1 _ _ _ _ _)
      | (with_reducible exact LeO.refl _)
      | (with_reducible exact LeO.none _)
      | (with_reducible refine LeO.ite ?_ ?_)
      | (with_reducible refine LeO.bind ?_ (fun _ => ?_))
      | exact ih0 _ _ _ _ _
      | exact ih1 _ _ _ _ _
      | exact LeO.none _
      | refine LeO.ite ?_ ?_
      | refine LeO.bind ?_ (fun _ => ?_)
    · intro y0 y1 y2 y3 y4
      unfold curfewref14_Good.l0
      repeat' first
      | (with_reducible exact ih0 _ _ _ _ _)
      | (with_reducible exact ih1 _ _ _ _ _)
      | (with_reducible exact LeO.refl _)
      | (with_reducible exact LeO.none _)
      | (with_reducible refine LeO.ite ?_ ?_)
      | (with_reducible refine LeO.bind ?_ (fun _ => ?_))
      | exact ih0 _ _ _ _ _
      | exact ih1 _ _ _ _ _
      | exact LeO.none _
      | refine LeO.ite ?_ ?_
      | refine LeO.bind ?_ (fun _ => ?_)
theorem curfewref14_Good.mono : ∀ a0 a1 a2 a3 k, LeO (curfewref14_Good.f k a0 a1 a2 a3) (curfewref14_Good.f (k + 1) a0 a1 a2 a3) := by
  intro a0 a1 a2 a3 k
  obtain ⟨ih0, ih1⟩ := curfewref14_Good.mono_l k
  unfold curfewref14_Good.f
  repeat' first
      | (with_reducible exact ih0 _ _ _ _ _)
      | (with_reducible exact ih1 _ _ _ _ _)
      | (with_reducible exact LeO.refl _)
      | (with_reducible exact LeO.none _)
      | (with_reducible refine LeO.ite ?_ ?_)
      | (with_reducible refine LeO.bind ?_ (fun _ => ?_))
      | exact ih0 _ _ _ _ _
      | exact ih1 _ _ _ _ _
      | exact LeO.none _
      | refine LeO.ite ?_ ?_
      | refine LeO.bind ?_ (fun _ => ?_)
set_option maxHeartbeats 8000000 in
set_option maxRecDepth 100000 in
theorem curfewref14_Good.calls (k : Nat) (a0_0 : Int) (A0_1 : Option Addr) (c0_1 : Nat) (l0_1 : List (S71)) (a0_2 : Int) (a0_3 : Int) (r : Bool) (w : World) (hr0_1 : Kd.C k71 w A0_1 l0_1.length l0_1) (hc0_1 : l0_1.length ≤ c0_1) (h : curfewref14_Good.f k a0_0 l0_1 a0_2 a0_3 = some r) :
    Calls Tryz.prog 25 #[.agg #[.int .i64 a0_0, .slice A0_1 l0_1.length c0_1, .int .i64 a0_2, .int .i64 a0_3]] w fun e w' => e = .returned (.bool r) ∧ Below w.heap.size w w' := by
  have hu48 := Tryz.underlying48
  have hu71 := Tryz.underlying71
  have HR0_1 := Aside0.mk hr0_1
  have HC0_1 := Aside0.mk hc0_1
  clear hr0_1 hc0_1
  have HB := Aside0.mk (Below.refl w.heap.size w)
  have H : (if a0_0 < 0 then (curfewref14_Good.j0 k true a0_0 l0_1 a0_2 a0_3) else (if a0_0 > 7 then (curfewref14_Good.j0 k true a0_0 l0_1 a0_2 a0_3) else (if (l0_1.length : Int) < 1 then (curfewref14_Good.j0 k true a0_0 l0_1 a0_2 a0_3) else (if (l0_1.length : Int) > 6 then (curfewref14_Good.j0 k true a0_0 l0_1 a0_2 a0_3) else (if a0_2 < 1 then (curfewref14_Good.j0 k true a0_0 l0_1 a0_2 a0_3) else (if a0_2 > 8 then (curfewref14_Good.j0 k true a0_0 l0_1 a0_2 a0_3) else (if a0_3 < 1 then (curfewref14_Good.j0 k true a0_0 l0_1 a0_2 a0_3) else (curfewref14_Good.j0 k (decide (a0_3 > 1048576)) a0_0 l0_1 a0_2 a0_3)))))))) = some r := h
  clear h
  have HC2 := Aside0.mk H
  clear H
  go_enter Tryz.func25, Tryz.ntmps25
  go_upto_region 1 with (first | ((with_reducible refine gate_dst (N := 1) rfl ?_); (try (refine gate_guard (by rfl) ?_; dsimp only)); refine box_event ?hg (N := 1) ?hd (cs := #[.int .i64 a0_0, .slice A0_1 l0_1.length c0_1, .int .i64 a0_2, .int .i64 a0_3]) (t := 48) ?hr ?_; (case hd => rfl); (case hg => rfl); (case hr => first | (go_simp; done) | (go_simp; rfl)); intro gb244 hg w3 hbox hb; have n0_ := Aside0.mk (below_step (by repeat (first | (with_reducible first | exact HB.out | apply below_alloc | apply pw_below_drewN | apply below_drew1) | exact HB.out)) hb); have n1_ := Aside0.mk (hbox); have n2_ := Aside0.mk ((by rw [hg]; exact (below_size (by repeat (first | (with_reducible first | exact HB.out | apply below_alloc | apply pw_below_drewN | apply below_drew1) | exact HB.out))) : w.heap.size ≤ gb244)); have n3_ := Aside0.mk ((by rw [hg]; exact (below_size (by repeat (first | (with_reducible first | exact HB.out | apply below_alloc | apply pw_below_drewN | apply below_drew1) | exact HB.out))) : w.heap.size ≤ gb244)); clear HB; have HB := n0_; have BK244 := n1_; have GW244 := n2_; have GE244 := n3_; clear n0_ n1_ n2_ n3_; clear hb hbox hg))
  (try simp only [Act.put, List.setIfInBounds_toArray, List.set_cons_zero, List.set_cons_succ])
  go_cut [44] (fun v44 wc => ∃ (kq : Nat) (x44_1 : Bool), v44 = .bool x44_1 ∧ Aside0 (curfewref14_Good.j0 kq x44_1 a0_0 l0_1 a0_2 a0_3 = some r) ∧ Aside0 (kq ≤ k) ∧ Aside0 (wc.heap[gb244]? = some (.cells #[.int .i64 a0_0, (.slice A0_1 l0_1.length c0_1), .int .i64 a0_2, .int .i64 a0_3] 48 (0, 0))) ∧ Aside0 (Below w.heap.size w wc))
  case first =>
    have H := HC2.out
    clear HC2
    by_cases c4 : a0_0 < 0
    · rw [if_pos c4] at H
      have c4b0 : decide (a0_0 < 0) = true := decide_eq_true c4
      clear c4
      (first | rw [c4b0] | (simp only [i64_w, i32_w]; rw [c4b0]) | skip)
      have H' := Aside0.mk H
      clear H
      have hcz5_0 : w3.cell? ⟨gb244, 0, none⟩ = some (.int .i64 a0_0) := (blk_cell BK244.out 0).trans rfl
      have hcz5_1 : w3.cell? ⟨gb244, 1, none⟩ = some (.slice A0_1 l0_1.length c0_1) := (blk_cell BK244.out 1).trans rfl
      have hcz5_2 : w3.cell? ⟨gb244, 2, none⟩ = some (.int .i64 a0_2) := (blk_cell BK244.out 2).trans rfl
      have hcz5_3 : w3.cell? ⟨gb244, 3, none⟩ = some (.int .i64 a0_3) := (blk_cell BK244.out 3).trans rfl
      have hfz5_0 := blk_frozen BK244.out 0
      have hfz5_1 := blk_frozen BK244.out 1
      have hfz5_2 := blk_frozen BK244.out 2
      have hfz5_3 := blk_frozen BK244.out 3
      go_wp2
      go_meet
      case rel => exact ⟨_, (true), (by first | rfl | (simp; done) | (simp [*]; done)), H', ⟨by first | omega | exact Nat.le_refl _⟩, ⟨by (with_reducible repeat (first | refine blk_drewN ?_ _ | refine blk_drew ?_ | refine blk_alloc ?_ _)); exact BK244.out⟩, ⟨by repeat (first | (with_reducible first | exact HB.out | apply below_alloc | apply pw_below_drewN | apply below_drew1 | refine below_set ?_ GE244.out) | exact HB.out)⟩⟩
    · rw [if_neg c4] at H
      have c4b0 : decide (a0_0 < 0) = false := decide_eq_false c4
      clear c4
      (first | rw [c4b0] | (simp only [i64_w, i32_w]; rw [c4b0]) | skip)
      by_cases c6 : a0_0 > 7
      · rw [if_pos c6] at H
        have c6b0 : decide (7 < a0_0) = true := decide_eq_true c6
        clear c6
        have H' := Aside0.mk H
        clear H
        have hcz7_0 : w3.cell? ⟨gb244, 0, none⟩ = some (.int .i64 a0_0) := (blk_cell BK244.out 0).trans rfl
        have hcz7_1 : w3.cell? ⟨gb244, 1, none⟩ = some (.slice A0_1 l0_1.length c0_1) := (blk_cell BK244.out 1).trans rfl
        have hcz7_2 : w3.cell? ⟨gb244, 2, none⟩ = some (.int .i64 a0_2) := (blk_cell BK244.out 2).trans rfl
        have hcz7_3 : w3.cell? ⟨gb244, 3, none⟩ = some (.int .i64 a0_3) := (blk_cell BK244.out 3).trans rfl
        have hfz7_0 := blk_frozen BK244.out 0
        have hfz7_1 := blk_frozen BK244.out 1
        have hfz7_2 := blk_frozen BK244.out 2
        have hfz7_3 := blk_frozen BK244.out 3
        go_wp2
        go_meet
        case rel => exact ⟨_, (true), (by first | rfl | (simp; done) | (simp [*]; done)), H', ⟨by first | omega | exact Nat.le_refl _⟩, ⟨by (with_reducible repeat (first | refine blk_drewN ?_ _ | refine blk_drew ?_ | refine blk_alloc ?_ _)); exact BK244.out⟩, ⟨by repeat (first | (with_reducible first | exact HB.out | apply below_alloc | apply pw_below_drewN | apply below_drew1 | refine below_set ?_ GE244.out) | exact HB.out)⟩⟩
      · rw [if_neg c6] at H
        have c6b0 : decide (7 < a0_0) = false := decide_eq_false c6
        clear c6
        by_cases c8 : (l0_1.length : Int) < 1
        · rw [if_pos c8] at H
          have c8b0 : decide ((l0_1.length : Int) < 1) = true := decide_eq_true c8
          have c8b1 : decide (l0_1.length < 1) = true := decide_eq_true (by omega)
          clear c8
          have H' := Aside0.mk H
          clear H
          have hcz9_0 : w3.cell? ⟨gb244, 0, none⟩ = some (.int .i64 a0_0) := (blk_cell BK244.out 0).trans rfl
          have hcz9_1 : w3.cell? ⟨gb244, 1, none⟩ = some (.slice A0_1 l0_1.length c0_1) := (blk_cell BK244.out 1).trans rfl
          have hcz9_2 : w3.cell? ⟨gb244, 2, none⟩ = some (.int .i64 a0_2) := (blk_cell BK244.out 2).trans rfl
          have hcz9_3 : w3.cell? ⟨gb244, 3, none⟩ = some (.int .i64 a0_3) := (blk_cell BK244.out 3).trans rfl
          have hfz9_0 := blk_frozen BK244.out 0
          have hfz9_1 := blk_frozen BK244.out 1
          have hfz9_2 := blk_frozen BK244.out 2
          have hfz9_3 := blk_frozen BK244.out 3
          go_wp2
          go_meet
          case rel => exact ⟨_, (true), (by first | rfl | (simp; done) | (simp [*]; done)), H', ⟨by first | omega | exact Nat.le_refl _⟩, ⟨by (with_reducible repeat (first | refine blk_drewN ?_ _ | refine blk_drew ?_ | refine blk_alloc ?_ _)); exact BK244.out⟩, ⟨by repeat (first | (with_reducible first | exact HB.out | apply below_alloc | apply pw_below_drewN | apply below_drew1 | refine below_set ?_ GE244.out) | exact HB.out)⟩⟩
        · rw [if_neg c8] at H
          have c8b0 : decide ((l0_1.length : Int) < 1) = false := decide_eq_false c8
          have c8b1 : decide (l0_1.length < 1) = false := decide_eq_false (by omega)
          clear c8
          by_cases c10 : (l0_1.length : Int) > 6
          · rw [if_pos c10] at H
            have c10b0 : decide (6 < (l0_1.length : Int)) = true := decide_eq_true c10
            have c10b1 : decide (6 < l0_1.length) = true := decide_eq_true (by omega)
            clear c10
            have H' := Aside0.mk H
            clear H
            have hcz11_0 : w3.cell? ⟨gb244, 0, none⟩ = some (.int .i64 a0_0) := (blk_cell BK244.out 0).trans rfl
            have hcz11_1 : w3.cell? ⟨gb244, 1, none⟩ = some (.slice A0_1 l0_1.length c0_1) := (blk_cell BK244.out 1).trans rfl
            have hcz11_2 : w3.cell? ⟨gb244, 2, none⟩ = some (.int .i64 a0_2) := (blk_cell BK244.out 2).trans rfl
            have hcz11_3 : w3.cell? ⟨gb244, 3, none⟩ = some (.int .i64 a0_3) := (blk_cell BK244.out 3).trans rfl
            have hfz11_0 := blk_frozen BK244.out 0
            have hfz11_1 := blk_frozen BK244.out 1
            have hfz11_2 := blk_frozen BK244.out 2
            have hfz11_3 := blk_frozen BK244.out 3
            go_wp2
            go_meet
            case rel => exact ⟨_, (true), (by first | rfl | (simp; done) | (simp [*]; done)), H', ⟨by first | omega | exact Nat.le_refl _⟩, ⟨by (with_reducible repeat (first | refine blk_drewN ?_ _ | refine blk_drew ?_ | refine blk_alloc ?_ _)); exact BK244.out⟩, ⟨by repeat (first | (with_reducible first | exact HB.out | apply below_alloc | apply pw_below_drewN | apply below_drew1 | refine below_set ?_ GE244.out) | exact HB.out)⟩⟩
          · rw [if_neg c10] at H
            have c10b0 : decide (6 < (l0_1.length : Int)) = false := decide_eq_false c10
            have c10b1 : decide (6 < l0_1.length) = false := decide_eq_false (by omega)
            clear c10
            by_cases c12 : a0_2 < 1
            · rw [if_pos c12] at H
              have c12b0 : decide (a0_2 < 1) = true := decide_eq_true c12
              clear c12
              have H' := Aside0.mk H
              clear H
              have hcz13_0 : w3.cell? ⟨gb244, 0, none⟩ = some (.int .i64 a0_0) := (blk_cell BK244.out 0).trans rfl
              have hcz13_1 : w3.cell? ⟨gb244, 1, none⟩ = some (.slice A0_1 l0_1.length c0_1) := (blk_cell BK244.out 1).trans rfl
              have hcz13_2 : w3.cell? ⟨gb244, 2, none⟩ = some (.int .i64 a0_2) := (blk_cell BK244.out 2).trans rfl
              have hcz13_3 : w3.cell? ⟨gb244, 3, none⟩ = some (.int .i64 a0_3) := (blk_cell BK244.out 3).trans rfl
              have hfz13_0 := blk_frozen BK244.out 0
              have hfz13_1 := blk_frozen BK244.out 1
              have hfz13_2 := blk_frozen BK244.out 2
              have hfz13_3 := blk_frozen BK244.out 3
              go_wp2
              go_meet
              case rel => exact ⟨_, (true), (by first | rfl | (simp; done) | (simp [*]; done)), H', ⟨by first | omega | exact Nat.le_refl _⟩, ⟨by (with_reducible repeat (first | refine blk_drewN ?_ _ | refine blk_drew ?_ | refine blk_alloc ?_ _)); exact BK244.out⟩, ⟨by repeat (first | (with_reducible first | exact HB.out | apply below_alloc | apply pw_below_drewN | apply below_drew1 | refine below_set ?_ GE244.out) | exact HB.out)⟩⟩
            · rw [if_neg c12] at H
              have c12b0 : decide (a0_2 < 1) = false := decide_eq_false c12
              clear c12
              by_cases c14 : a0_2 > 8
              · rw [if_pos c14] at H
                have c14b0 : decide (8 < a0_2) = true := decide_eq_true c14
                clear c14
                have H' := Aside0.mk H
                clear H
                have hcz15_0 : w3.cell? ⟨gb244, 0, none⟩ = some (.int .i64 a0_0) := (blk_cell BK244.out 0).trans rfl
                have hcz15_1 : w3.cell? ⟨gb244, 1, none⟩ = some (.slice A0_1 l0_1.length c0_1) := (blk_cell BK244.out 1).trans rfl
                have hcz15_2 : w3.cell? ⟨gb244, 2, none⟩ = some (.int .i64 a0_2) := (blk_cell BK244.out 2).trans rfl
                have hcz15_3 : w3.cell? ⟨gb244, 3, none⟩ = some (.int .i64 a0_3) := (blk_cell BK244.out 3).trans rfl
                have hfz15_0 := blk_frozen BK244.out 0
                have hfz15_1 := blk_frozen BK244.out 1
                have hfz15_2 := blk_frozen BK244.out 2
                have hfz15_3 := blk_frozen BK244.out 3
                go_wp2
                go_meet
                case rel => exact ⟨_, (true), (by first | rfl | (simp; done) | (simp [*]; done)), H', ⟨by first | omega | exact Nat.le_refl _⟩, ⟨by (with_reducible repeat (first | refine blk_drewN ?_ _ | refine blk_drew ?_ | refine blk_alloc ?_ _)); exact BK244.out⟩, ⟨by repeat (first | (with_reducible first | exact HB.out | apply below_alloc | apply pw_below_drewN | apply below_drew1 | refine below_set ?_ GE244.out) | exact HB.out)⟩⟩
              · rw [if_neg c14] at H
                have c14b0 : decide (8 < a0_2) = false := decide_eq_false c14
                clear c14
                by_cases c16 : a0_3 < 1
                · rw [if_pos c16] at H
                  have c16b0 : decide (a0_3 < 1) = true := decide_eq_true c16
                  clear c16
                  have H' := Aside0.mk H
                  clear H
                  have hcz17_0 : w3.cell? ⟨gb244, 0, none⟩ = some (.int .i64 a0_0) := (blk_cell BK244.out 0).trans rfl
                  have hcz17_1 : w3.cell? ⟨gb244, 1, none⟩ = some (.slice A0_1 l0_1.length c0_1) := (blk_cell BK244.out 1).trans rfl
                  have hcz17_2 : w3.cell? ⟨gb244, 2, none⟩ = some (.int .i64 a0_2) := (blk_cell BK244.out 2).trans rfl
                  have hcz17_3 : w3.cell? ⟨gb244, 3, none⟩ = some (.int .i64 a0_3) := (blk_cell BK244.out 3).trans rfl
                  have hfz17_0 := blk_frozen BK244.out 0
                  have hfz17_1 := blk_frozen BK244.out 1
                  have hfz17_2 := blk_frozen BK244.out 2
                  have hfz17_3 := blk_frozen BK244.out 3
                  go_wp2
                  go_meet
                  case rel => exact ⟨_, (true), (by first | rfl | (simp; done) | (simp [*]; done)), H', ⟨by first | omega | exact Nat.le_refl _⟩, ⟨by (with_reducible repeat (first | refine blk_drewN ?_ _ | refine blk_drew ?_ | refine blk_alloc ?_ _)); exact BK244.out⟩, ⟨by repeat (first | (with_reducible first | exact HB.out | apply below_alloc | apply pw_below_drewN | apply below_drew1 | refine below_set ?_ GE244.out) | exact HB.out)⟩⟩
                · rw [if_neg c16] at H
                  have c16b0 : decide (a0_3 < 1) = false := decide_eq_false c16
                  clear c16
                  have H' := Aside0.mk H
                  clear H
                  have hcz18_0 : w3.cell? ⟨gb244, 0, none⟩ = some (.int .i64 a0_0) := (blk_cell BK244.out 0).trans rfl
                  have hcz18_1 : w3.cell? ⟨gb244, 1, none⟩ = some (.slice A0_1 l0_1.length c0_1) := (blk_cell BK244.out 1).trans rfl
                  have hcz18_2 : w3.cell? ⟨gb244, 2, none⟩ = some (.int .i64 a0_2) := (blk_cell BK244.out 2).trans rfl
                  have hcz18_3 : w3.cell? ⟨gb244, 3, none⟩ = some (.int .i64 a0_3) := (blk_cell BK244.out 3).trans rfl
                  have hfz18_0 := blk_frozen BK244.out 0
                  have hfz18_1 := blk_frozen BK244.out 1
                  have hfz18_2 := blk_frozen BK244.out 2
                  have hfz18_3 := blk_frozen BK244.out 3
                  go_wp2
                  go_meet
                  case rel => exact ⟨_, (decide (a0_3 > 1048576)), (by first | rfl | (simp; done) | (simp [*]; done)), H', ⟨by first | omega | exact Nat.le_refl _⟩, ⟨by (with_reducible repeat (first | refine blk_drewN ?_ _ | refine blk_drew ?_ | refine blk_alloc ?_ _)); exact BK244.out⟩, ⟨by repeat (first | (with_reducible first | exact HB.out | apply below_alloc | apply pw_below_drewN | apply below_drew1 | refine below_set ?_ GE244.out) | exact HB.out)⟩⟩
  case rest =>
    clear HC2
    try clear c1
    try clear c2
    try clear p2
    try clear c4
    try clear c4b0
    try clear c6
    try clear c6b0
    try clear c8
    try clear c8b0
    try clear c8b1
    try clear c10
    try clear c10b0
    try clear c10b1
    try clear c12
    try clear c12b0
    try clear c14
    try clear c14b0
    try clear c16
    try clear c16b0
    try clear hcz11_0
    try clear hcz11_1
    try clear hcz11_2
    try clear hcz11_3
    try clear hcz13_0
    try clear hcz13_1
    try clear hcz13_2
    try clear hcz13_3
    try clear hcz15_0
    try clear hcz15_1
    try clear hcz15_2
    try clear hcz15_3
    try clear hcz17_0
    try clear hcz17_1
    try clear hcz17_2
    try clear hcz17_3
    try clear hcz18_0
    try clear hcz18_1
    try clear hcz18_2
    try clear hcz18_3
    try clear hcz5_0
    try clear hcz5_1
    try clear hcz5_2
    try clear hcz5_3
    try clear hcz7_0
    try clear hcz7_1
    try clear hcz7_2
    try clear hcz7_3
    try clear hcz9_0
    try clear hcz9_1
    try clear hcz9_2
    try clear hcz9_3
    try clear hfz11_0
    try clear hfz11_1
    try clear hfz11_2
    try clear hfz11_3
    try clear hfz13_0
    try clear hfz13_1
    try clear hfz13_2
    try clear hfz13_3
    try clear hfz15_0
    try clear hfz15_1
    try clear hfz15_2
    try clear hfz15_3
    try clear hfz17_0
    try clear hfz17_1
    try clear hfz17_2
    try clear hfz17_3
    try clear hfz18_0
    try clear hfz18_1
    try clear hfz18_2
    try clear hfz18_3
    try clear hfz5_0
    try clear hfz5_1
    try clear hfz5_2
    try clear hfz5_3
    try clear hfz7_0
    try clear hfz7_1
    try clear hfz7_2
    try clear hfz7_3
    try clear hfz9_0
    try clear hfz9_1
    try clear hfz9_2
    try clear hfz9_3
    obtain ⟨kq, x44_1, rfl, HA, HJ1, BK244, HB⟩ := hcut
    cases kq with
    | zero => exact absurd HA.out (by simp [curfewref14_Good.j0])
    | succ kj1 =>
      have H := HA.out
      clear HA
      simp only [curfewref14_Good.j0] at H
      by_cases c19 : x44_1 = true
      · subst c19
        have H1 : (some false) = some r := by rw [if_pos rfl] at H; exact H
        clear H
        have H := H1
        clear H1
        obtain rfl := Option.some.inj H
        go_wp2
        go_ret
        exact ⟨by first | rfl | (simp [errW_none, errW_some] <;> rfl) | (simp [*, errW_none, errW_some] <;> rfl), by repeat (first | (with_reducible first | exact HB.out | apply below_alloc | apply pw_below_drewN | apply below_drew1 | refine below_set ?_ GE244.out) | exact HB.out)⟩
      · replace c19 := Bool.eq_false_iff.mpr c19
        subst c19
        have H1 : (curfewref14_Good.l0 kj1 0 a0_0 l0_1 a0_2 a0_3) = some r := by rw [if_neg (show ¬ (false = true) by decide)] at H; exact H
        clear H
        have H := H1
        clear H1
        have H' := Aside0.mk H
        clear H
        go_wp2
        go_loopg [3] kj1 (fun kq v3 w' => ∃ (x3_2 : Int), v3 = .int .i64 x3_2 ∧ Aside0 (curfewref14_Good.l0 kq x3_2 a0_0 l0_1 a0_2 a0_3 = some r) ∧ Aside0 (kq ≤ kj1) ∧ Aside0 (w'.heap[gb244]? = some (.cells #[.int .i64 a0_0, (.slice A0_1 l0_1.length c0_1), .int .i64 a0_2, .int .i64 a0_3] 48 (0, 0))) ∧ Aside0 (Below w.heap.size w w'))
        case atStart => exact ⟨(0), (by first | rfl | (simp; done) | (simp [*]; done)), H', ⟨Nat.le_refl _⟩, ⟨by (with_reducible repeat (first | refine blk_drewN ?_ _ | refine blk_drew ?_ | refine blk_alloc ?_ _)); exact BK244.out⟩, ⟨by repeat (first | (with_reducible first | exact HB.out | apply below_alloc | apply pw_below_drewN | apply below_drew1 | refine below_set ?_ GE244.out) | exact HB.out)⟩⟩
        case round =>
          clear H'
          try clear c1
          try clear c2
          try clear p2
          try clear c4
          try clear c4b0
          try clear c6
          try clear c6b0
          try clear c8
          try clear c8b0
          try clear c8b1
          try clear c10
          try clear c10b0
          try clear c10b1
          try clear c12
          try clear c12b0
          try clear c14
          try clear c14b0
          try clear c16
          try clear c16b0
          try clear c19
          try clear hcz11_0
          try clear hcz11_1
          try clear hcz11_2
          try clear hcz11_3
          try clear hcz13_0
          try clear hcz13_1
          try clear hcz13_2
          try clear hcz13_3
          try clear hcz15_0
          try clear hcz15_1
          try clear hcz15_2
          try clear hcz15_3
          try clear hcz17_0
          try clear hcz17_1
          try clear hcz17_2
          try clear hcz17_3
          try clear hcz18_0
          try clear hcz18_1
          try clear hcz18_2
          try clear hcz18_3
          try clear hcz5_0
          try clear hcz5_1
          try clear hcz5_2
          try clear hcz5_3
          try clear hcz7_0
          try clear hcz7_1
          try clear hcz7_2
          try clear hcz7_3
          try clear hcz9_0
          try clear hcz9_1
          try clear hcz9_2
          try clear hcz9_3
          try clear hfz11_0
          try clear hfz11_1
          try clear hfz11_2
          try clear hfz11_3
          try clear hfz13_0
          try clear hfz13_1
          try clear hfz13_2
          try clear hfz13_3
          try clear hfz15_0
          try clear hfz15_1
          try clear hfz15_2
          try clear hfz15_3
          try clear hfz17_0
          try clear hfz17_1
          try clear hfz17_2
          try clear hfz17_3
          try clear hfz18_0
          try clear hfz18_1
          try clear hfz18_2
          try clear hfz18_3
          try clear hfz5_0
          try clear hfz5_1
          try clear hfz5_2
          try clear hfz5_3
          try clear hfz7_0
          try clear hfz7_1
          try clear hfz7_2
          try clear hfz7_3
          try clear hfz9_0
          try clear hfz9_1
          try clear hfz9_2
          try clear hfz9_3
          try clear p2
          obtain ⟨x3_2, rfl, HA, HK2, BK244, HB⟩ := hrel
          cases gk with
          | zero => exact absurd HA.out (by simp [curfewref14_Good.l0])
          | succ k2 =>
            have H := HA.out
            clear HA
            simp only [curfewref14_Good.l0] at H
            by_cases c20 : x3_2 < (l0_1.length : Int)
            · rw [if_pos c20] at H
              have c20b0 : decide (x3_2 < (l0_1.length : Int)) = true := decide_eq_true c20
              clear c20
              by_cases c21 : 0 ≤ x3_2
              · rw [if_pos c21] at H
                have c21b0 : decide (0 ≤ x3_2) = true := decide_eq_true c21
                clear c21
                by_cases c22 : ((rd_T71 l0_1 x3_2).f0) < 1
                · rw [if_pos c22] at H
                  have c22b0 : decide (((rd_T71 l0_1 x3_2).f0) < 1) = true := decide_eq_true c22
                  clear c22
                  obtain rfl := Option.some.inj H
                  have hcz23_0 : wr.cell? ⟨gb244, 0, none⟩ = some (.int .i64 a0_0) := (blk_cell BK244.out 0).trans rfl
                  have hcz23_1 : wr.cell? ⟨gb244, 1, none⟩ = some (.slice A0_1 l0_1.length c0_1) := (blk_cell BK244.out 1).trans rfl
                  have hcz23_2 : wr.cell? ⟨gb244, 2, none⟩ = some (.int .i64 a0_2) := (blk_cell BK244.out 2).trans rfl
                  have hcz23_3 : wr.cell? ⟨gb244, 3, none⟩ = some (.int .i64 a0_3) := (blk_cell BK244.out 3).trans rfl
                  have hfz23_0 := blk_frozen BK244.out 0
                  have hfz23_1 := blk_frozen BK244.out 1
                  have hfz23_2 := blk_frozen BK244.out 2
                  have hfz23_3 := blk_frozen BK244.out 3
                  have p245 : 0 ≤ (x3_2 : Int) := of_decide_eq_true (by first | (with_reducible assumption) | assumption)
                  have q245 : x3_2 < (l0_1.length : Int) := of_decide_eq_true (by first | (with_reducible assumption) | assumption)
                  obtain ⟨ad245, e245, hx245_0, hx245_1⟩ := at_T71 HR0_1.out x3_2 p245 q245
                  cases e245
                  replace hx245_0 := (HB.out.cell (World.block_lt_of_cell? w _ hx245_0)).trans hx245_0
                  replace hx245_1 := (HB.out.cell (World.block_lt_of_cell? w _ hx245_1)).trans hx245_1
                  replace p245 := eq_true p245
                  replace q245 := eq_true q245
                  go_wp2_with (first | ((with_reducible refine gate_dst (N := 4) rfl ?_); (try (refine gate_guard (by rfl) ?_; dsimp only)); refine box_event ?hg (N := 4) ?hd (cs := #[.int .i64 0, .int .i64 0]) (t := 71) ?hr ?_; (case hd => rfl); (case hg => rfl); (case hr => first | (go_simp; done) | (go_simp; rfl)); intro gb246 hg w24 hbox hb; have n0_ := Aside0.mk (blk_below (g := gb244) (o := .cells #[.int .i64 a0_0, .slice (some ad245) l0_1.length c0_1, .int .i64 a0_2, .int .i64 a0_3] 48 (0, 0)) (by (with_reducible repeat (first | refine blk_drewN ?_ _ | refine blk_drew ?_ | refine blk_alloc ?_ _)); exact BK244.out) hb); have n1_ := Aside0.mk (below_step (by repeat (first | (with_reducible first | exact HB.out | apply below_alloc | apply pw_below_drewN | apply below_drew1 | refine below_set ?_ GE244.out) | exact HB.out)) hb); have n2_ := Aside0.mk (hbox); have n3_ := Aside0.mk ((by rw [hg]; exact (below_size (by repeat (first | (with_reducible first | exact HB.out | apply below_alloc | apply pw_below_drewN | apply below_drew1 | refine below_set ?_ GE244.out) | exact HB.out))) : w.heap.size ≤ gb246)); have n4_ := Aside0.mk ((by rw [hg]; exact (below_size (by repeat (first | (with_reducible first | exact HB.out | apply below_alloc | apply pw_below_drewN | apply below_drew1 | refine below_set ?_ GE244.out) | exact HB.out))) : w.heap.size ≤ gb246)); have n5_ := Aside0.mk ((by rw [hg]; exact Nat.ne_of_lt (blk_lt (g := gb244) (o := .cells #[.int .i64 a0_0, .slice (some ad245) l0_1.length c0_1, .int .i64 a0_2, .int .i64 a0_3] 48 (0, 0)) (by (with_reducible repeat (first | refine blk_drewN ?_ _ | refine blk_drew ?_ | refine blk_alloc ?_ _)); exact BK244.out)) : gb244 ≠ gb246)); have n6_ := Aside0.mk ((by rw [hg]; exact Nat.ne_of_gt (blk_lt (g := gb244) (o := .cells #[.int .i64 a0_0, .slice (some ad245) l0_1.length c0_1, .int .i64 a0_2, .int .i64 a0_3] 48 (0, 0)) (by (with_reducible repeat (first | refine blk_drewN ?_ _ | refine blk_drew ?_ | refine blk_alloc ?_ _)); exact BK244.out)) : gb246 ≠ gb244)); clear BK244; clear HB; have BK244 := n0_; have HB := n1_; have BK246 := n2_; have GW246 := n3_; have GE246 := n4_; have NB244_246 := n5_; have NB246_244 := n6_; clear n0_ n1_ n2_ n3_ n4_ n5_ n6_; clear hb hbox hg; have hnb25 := NB246_244.out; have hnc25 := NB244_246.out; have hcz26_0 : w24.cell? ⟨gb246, 0, none⟩ = some (.int .i64 0) := (blk_cell BK246.out 0).trans rfl; have hcz26_1 : w24.cell? ⟨gb246, 1, none⟩ = some (.int .i64 0) := (blk_cell BK246.out 1).trans rfl; have hfz26_0 := blk_frozen BK246.out 0; have hfz26_1 := blk_frozen BK246.out 1))
                  go_ret
                  exact ⟨by first | rfl | (simp [errW_none, errW_some] <;> rfl) | (simp [*, errW_none, errW_some] <;> rfl), by repeat (first | (with_reducible first | exact HB.out | apply below_alloc | apply pw_below_drewN | apply below_drew1 | refine below_set ?_ GE244.out | refine below_set ?_ GE246.out) | exact HB.out)⟩
                · rw [if_neg c22] at H
                  have c22b0 : decide (((rd_T71 l0_1 x3_2).f0) < 1) = false := decide_eq_false c22
                  clear c22
                  by_cases c27 : ((rd_T71 l0_1 x3_2).f0) > 1125899906842624
                  · rw [if_pos c27] at H
                    have c27b0 : decide (1125899906842624 < ((rd_T71 l0_1 x3_2).f0)) = true := decide_eq_true c27
                    clear c27
                    obtain rfl := Option.some.inj H
                    have hcz28_0 : wr.cell? ⟨gb244, 0, none⟩ = some (.int .i64 a0_0) := (blk_cell BK244.out 0).trans rfl
                    have hcz28_1 : wr.cell? ⟨gb244, 1, none⟩ = some (.slice A0_1 l0_1.length c0_1) := (blk_cell BK244.out 1).trans rfl
                    have hcz28_2 : wr.cell? ⟨gb244, 2, none⟩ = some (.int .i64 a0_2) := (blk_cell BK244.out 2).trans rfl
                    have hcz28_3 : wr.cell? ⟨gb244, 3, none⟩ = some (.int .i64 a0_3) := (blk_cell BK244.out 3).trans rfl
                    have hfz28_0 := blk_frozen BK244.out 0
                    have hfz28_1 := blk_frozen BK244.out 1
                    have hfz28_2 := blk_frozen BK244.out 2
                    have hfz28_3 := blk_frozen BK244.out 3
                    have p245 : 0 ≤ (x3_2 : Int) := of_decide_eq_true (by first | (with_reducible assumption) | assumption)
                    have q245 : x3_2 < (l0_1.length : Int) := of_decide_eq_true (by first | (with_reducible assumption) | assumption)
                    obtain ⟨ad245, e245, hx245_0, hx245_1⟩ := at_T71 HR0_1.out x3_2 p245 q245
                    cases e245
                    replace hx245_0 := (HB.out.cell (World.block_lt_of_cell? w _ hx245_0)).trans hx245_0
                    replace hx245_1 := (HB.out.cell (World.block_lt_of_cell? w _ hx245_1)).trans hx245_1
                    replace p245 := eq_true p245
                    replace q245 := eq_true q245
                    go_wp2_with (first | ((with_reducible refine gate_dst (N := 4) rfl ?_); (try (refine gate_guard (by rfl) ?_; dsimp only)); refine box_event ?hg (N := 4) ?hd (cs := #[.int .i64 0, .int .i64 0]) (t := 71) ?hr ?_; (case hd => rfl); (case hg => rfl); (case hr => first | (go_simp; done) | (go_simp; rfl)); intro gb246 hg w29 hbox hb; have n0_ := Aside0.mk (blk_below (g := gb244) (o := .cells #[.int .i64 a0_0, .slice (some ad245) l0_1.length c0_1, .int .i64 a0_2, .int .i64 a0_3] 48 (0, 0)) (by (with_reducible repeat (first | refine blk_drewN ?_ _ | refine blk_drew ?_ | refine blk_alloc ?_ _)); exact BK244.out) hb); have n1_ := Aside0.mk (below_step (by repeat (first | (with_reducible first | exact HB.out | apply below_alloc | apply pw_below_drewN | apply below_drew1 | refine below_set ?_ GE244.out) | exact HB.out)) hb); have n2_ := Aside0.mk (hbox); have n3_ := Aside0.mk ((by rw [hg]; exact (below_size (by repeat (first | (with_reducible first | exact HB.out | apply below_alloc | apply pw_below_drewN | apply below_drew1 | refine below_set ?_ GE244.out) | exact HB.out))) : w.heap.size ≤ gb246)); have n4_ := Aside0.mk ((by rw [hg]; exact (below_size (by repeat (first | (with_reducible first | exact HB.out | apply below_alloc | apply pw_below_drewN | apply below_drew1 | refine below_set ?_ GE244.out) | exact HB.out))) : w.heap.size ≤ gb246)); have n5_ := Aside0.mk ((by rw [hg]; exact Nat.ne_of_lt (blk_lt (g := gb244) (o := .cells #[.int .i64 a0_0, .slice (some ad245) l0_1.length c0_1, .int .i64 a0_2, .int .i64 a0_3] 48 (0, 0)) (by (with_reducible repeat (first | refine blk_drewN ?_ _ | refine blk_drew ?_ | refine blk_alloc ?_ _)); exact BK244.out)) : gb244 ≠ gb246)); have n6_ := Aside0.mk ((by rw [hg]; exact Nat.ne_of_gt (blk_lt (g := gb244) (o := .cells #[.int .i64 a0_0, .slice (some ad245) l0_1.length c0_1, .int .i64 a0_2, .int .i64 a0_3] 48 (0, 0)) (by (with_reducible repeat (first | refine blk_drewN ?_ _ | refine blk_drew ?_ | refine blk_alloc ?_ _)); exact BK244.out)) : gb246 ≠ gb244)); clear BK244; clear HB; have BK244 := n0_; have HB := n1_; have BK246 := n2_; have GW246 := n3_; have GE246 := n4_; have NB244_246 := n5_; have NB246_244 := n6_; clear n0_ n1_ n2_ n3_ n4_ n5_ n6_; clear hb hbox hg; have hnb30 := NB246_244.out; have hnc30 := NB244_246.out; have hcz31_0 : w29.cell? ⟨gb246, 0, none⟩ = some (.int .i64 0) := (blk_cell BK246.out 0).trans rfl; have hcz31_1 : w29.cell? ⟨gb246, 1, none⟩ = some (.int .i64 0) := (blk_cell BK246.out 1).trans rfl; have hfz31_0 := blk_frozen BK246.out 0; have hfz31_1 := blk_frozen BK246.out 1))
                    go_ret
                    exact ⟨by first | rfl | (simp [errW_none, errW_some] <;> rfl) | (simp [*, errW_none, errW_some] <;> rfl), by repeat (first | (with_reducible first | exact HB.out | apply below_alloc | apply pw_below_drewN | apply below_drew1 | refine below_set ?_ GE244.out | refine below_set ?_ GE246.out) | exact HB.out)⟩
                  · rw [if_neg c27] at H
                    have c27b0 : decide (1125899906842624 < ((rd_T71 l0_1 x3_2).f0)) = false := decide_eq_false c27
                    clear c27
                    by_cases c32 : ((rd_T71 l0_1 x3_2).f1) < 0
                    · rw [if_pos c32] at H
                      have c32b0 : decide (((rd_T71 l0_1 x3_2).f1) < 0) = true := decide_eq_true c32
                      clear c32
                      obtain rfl := Option.some.inj H
                      have hcz33_0 : wr.cell? ⟨gb244, 0, none⟩ = some (.int .i64 a0_0) := (blk_cell BK244.out 0).trans rfl
                      have hcz33_1 : wr.cell? ⟨gb244, 1, none⟩ = some (.slice A0_1 l0_1.length c0_1) := (blk_cell BK244.out 1).trans rfl
                      have hcz33_2 : wr.cell? ⟨gb244, 2, none⟩ = some (.int .i64 a0_2) := (blk_cell BK244.out 2).trans rfl
                      have hcz33_3 : wr.cell? ⟨gb244, 3, none⟩ = some (.int .i64 a0_3) := (blk_cell BK244.out 3).trans rfl
                      have hfz33_0 := blk_frozen BK244.out 0
                      have hfz33_1 := blk_frozen BK244.out 1
                      have hfz33_2 := blk_frozen BK244.out 2
                      have hfz33_3 := blk_frozen BK244.out 3
                      have p245 : 0 ≤ (x3_2 : Int) := of_decide_eq_true (by first | (with_reducible assumption) | assumption)
                      have q245 : x3_2 < (l0_1.length : Int) := of_decide_eq_true (by first | (with_reducible assumption) | assumption)
                      obtain ⟨ad245, e245, hx245_0, hx245_1⟩ := at_T71 HR0_1.out x3_2 p245 q245
                      cases e245
                      replace hx245_0 := (HB.out.cell (World.block_lt_of_cell? w _ hx245_0)).trans hx245_0
                      replace hx245_1 := (HB.out.cell (World.block_lt_of_cell? w _ hx245_1)).trans hx245_1
                      replace p245 := eq_true p245
                      replace q245 := eq_true q245
                      go_wp2_with (first | ((with_reducible refine gate_dst (N := 4) rfl ?_); (try (refine gate_guard (by rfl) ?_; dsimp only)); refine box_event ?hg (N := 4) ?hd (cs := #[.int .i64 0, .int .i64 0]) (t := 71) ?hr ?_; (case hd => rfl); (case hg => rfl); (case hr => first | (go_simp; done) | (go_simp; rfl)); intro gb246 hg w34 hbox hb; have n0_ := Aside0.mk (blk_below (g := gb244) (o := .cells #[.int .i64 a0_0, .slice (some ad245) l0_1.length c0_1, .int .i64 a0_2, .int .i64 a0_3] 48 (0, 0)) (by (with_reducible repeat (first | refine blk_drewN ?_ _ | refine blk_drew ?_ | refine blk_alloc ?_ _)); exact BK244.out) hb); have n1_ := Aside0.mk (below_step (by repeat (first | (with_reducible first | exact HB.out | apply below_alloc | apply pw_below_drewN | apply below_drew1 | refine below_set ?_ GE244.out) | exact HB.out)) hb); have n2_ := Aside0.mk (hbox); have n3_ := Aside0.mk ((by rw [hg]; exact (below_size (by repeat (first | (with_reducible first | exact HB.out | apply below_alloc | apply pw_below_drewN | apply below_drew1 | refine below_set ?_ GE244.out) | exact HB.out))) : w.heap.size ≤ gb246)); have n4_ := Aside0.mk ((by rw [hg]; exact (below_size (by repeat (first | (with_reducible first | exact HB.out | apply below_alloc | apply pw_below_drewN | apply below_drew1 | refine below_set ?_ GE244.out) | exact HB.out))) : w.heap.size ≤ gb246)); have n5_ := Aside0.mk ((by rw [hg]; exact Nat.ne_of_lt (blk_lt (g := gb244) (o := .cells #[.int .i64 a0_0, .slice (some ad245) l0_1.length c0_1, .int .i64 a0_2, .int .i64 a0_3] 48 (0, 0)) (by (with_reducible repeat (first | refine blk_drewN ?_ _ | refine blk_drew ?_ | refine blk_alloc ?_ _)); exact BK244.out)) : gb244 ≠ gb246)); have n6_ := Aside0.mk ((by rw [hg]; exact Nat.ne_of_gt (blk_lt (g := gb244) (o := .cells #[.int .i64 a0_0, .slice (some ad245) l0_1.length c0_1, .int .i64 a0_2, .int .i64 a0_3] 48 (0, 0)) (by (with_reducible repeat (first | refine blk_drewN ?_ _ | refine blk_drew ?_ | refine blk_alloc ?_ _)); exact BK244.out)) : gb246 ≠ gb244)); clear BK244; clear HB; have BK244 := n0_; have HB := n1_; have BK246 := n2_; have GW246 := n3_; have GE246 := n4_; have NB244_246 := n5_; have NB246_244 := n6_; clear n0_ n1_ n2_ n3_ n4_ n5_ n6_; clear hb hbox hg; have hnb35 := NB246_244.out; have hnc35 := NB244_246.out; have hcz36_0 : w34.cell? ⟨gb246, 0, none⟩ = some (.int .i64 0) := (blk_cell BK246.out 0).trans rfl; have hcz36_1 : w34.cell? ⟨gb246, 1, none⟩ = some (.int .i64 0) := (blk_cell BK246.out 1).trans rfl; have hfz36_0 := blk_frozen BK246.out 0; have hfz36_1 := blk_frozen BK246.out 1))
                      go_ret
                      exact ⟨by first | rfl | (simp [errW_none, errW_some] <;> rfl) | (simp [*, errW_none, errW_some] <;> rfl), by repeat (first | (with_reducible first | exact HB.out | apply below_alloc | apply pw_below_drewN | apply below_drew1 | refine below_set ?_ GE244.out | refine below_set ?_ GE246.out) | exact HB.out)⟩
                    · rw [if_neg c32] at H
                      have c32b0 : decide (((rd_T71 l0_1 x3_2).f1) < 0) = false := decide_eq_false c32
                      clear c32
                      by_cases c37 : ((rd_T71 l0_1 x3_2).f1) > 7
                      · rw [if_pos c37] at H
                        have c37b0 : decide (7 < ((rd_T71 l0_1 x3_2).f1)) = true := decide_eq_true c37
                        clear c37
                        obtain rfl := Option.some.inj H
                        have hcz38_0 : wr.cell? ⟨gb244, 0, none⟩ = some (.int .i64 a0_0) := (blk_cell BK244.out 0).trans rfl
                        have hcz38_1 : wr.cell? ⟨gb244, 1, none⟩ = some (.slice A0_1 l0_1.length c0_1) := (blk_cell BK244.out 1).trans rfl
                        have hcz38_2 : wr.cell? ⟨gb244, 2, none⟩ = some (.int .i64 a0_2) := (blk_cell BK244.out 2).trans rfl
                        have hcz38_3 : wr.cell? ⟨gb244, 3, none⟩ = some (.int .i64 a0_3) := (blk_cell BK244.out 3).trans rfl
                        have hfz38_0 := blk_frozen BK244.out 0
                        have hfz38_1 := blk_frozen BK244.out 1
                        have hfz38_2 := blk_frozen BK244.out 2
                        have hfz38_3 := blk_frozen BK244.out 3
                        have p245 : 0 ≤ (x3_2 : Int) := of_decide_eq_true (by first | (with_reducible assumption) | assumption)
                        have q245 : x3_2 < (l0_1.length : Int) := of_decide_eq_true (by first | (with_reducible assumption) | assumption)
                        obtain ⟨ad245, e245, hx245_0, hx245_1⟩ := at_T71 HR0_1.out x3_2 p245 q245
                        cases e245
                        replace hx245_0 := (HB.out.cell (World.block_lt_of_cell? w _ hx245_0)).trans hx245_0
                        replace hx245_1 := (HB.out.cell (World.block_lt_of_cell? w _ hx245_1)).trans hx245_1
                        replace p245 := eq_true p245
                        replace q245 := eq_true q245
                        go_wp2_with (first | ((with_reducible refine gate_dst (N := 4) rfl ?_); (try (refine gate_guard (by rfl) ?_; dsimp only)); refine box_event ?hg (N := 4) ?hd (cs := #[.int .i64 0, .int .i64 0]) (t := 71) ?hr ?_; (case hd => rfl); (case hg => rfl); (case hr => first | (go_simp; done) | (go_simp; rfl)); intro gb246 hg w39 hbox hb; have n0_ := Aside0.mk (blk_below (g := gb244) (o := .cells #[.int .i64 a0_0, .slice (some ad245) l0_1.length c0_1, .int .i64 a0_2, .int .i64 a0_3] 48 (0, 0)) (by (with_reducible repeat (first | refine blk_drewN ?_ _ | refine blk_drew ?_ | refine blk_alloc ?_ _)); exact BK244.out) hb); have n1_ := Aside0.mk (below_step (by repeat (first | (with_reducible first | exact HB.out | apply below_alloc | apply pw_below_drewN | apply below_drew1 | refine below_set ?_ GE244.out) | exact HB.out)) hb); have n2_ := Aside0.mk (hbox); have n3_ := Aside0.mk ((by rw [hg]; exact (below_size (by repeat (first | (with_reducible first | exact HB.out | apply below_alloc | apply pw_below_drewN | apply below_drew1 | refine below_set ?_ GE244.out) | exact HB.out))) : w.heap.size ≤ gb246)); have n4_ := Aside0.mk ((by rw [hg]; exact (below_size (by repeat (first | (with_reducible first | exact HB.out | apply below_alloc | apply pw_below_drewN | apply below_drew1 | refine below_set ?_ GE244.out) | exact HB.out))) : w.heap.size ≤ gb246)); have n5_ := Aside0.mk ((by rw [hg]; exact Nat.ne_of_lt (blk_lt (g := gb244) (o := .cells #[.int .i64 a0_0, .slice (some ad245) l0_1.length c0_1, .int .i64 a0_2, .int .i64 a0_3] 48 (0, 0)) (by (with_reducible repeat (first | refine blk_drewN ?_ _ | refine blk_drew ?_ | refine blk_alloc ?_ _)); exact BK244.out)) : gb244 ≠ gb246)); have n6_ := Aside0.mk ((by rw [hg]; exact Nat.ne_of_gt (blk_lt (g := gb244) (o := .cells #[.int .i64 a0_0, .slice (some ad245) l0_1.length c0_1, .int .i64 a0_2, .int .i64 a0_3] 48 (0, 0)) (by (with_reducible repeat (first | refine blk_drewN ?_ _ | refine blk_drew ?_ | refine blk_alloc ?_ _)); exact BK244.out)) : gb246 ≠ gb244)); clear BK244; clear HB; have BK244 := n0_; have HB := n1_; have BK246 := n2_; have GW246 := n3_; have GE246 := n4_; have NB244_246 := n5_; have NB246_244 := n6_; clear n0_ n1_ n2_ n3_ n4_ n5_ n6_; clear hb hbox hg; have hnb40 := NB246_244.out; have hnc40 := NB244_246.out; have hcz41_0 : w39.cell? ⟨gb246, 0, none⟩ = some (.int .i64 0) := (blk_cell BK246.out 0).trans rfl; have hcz41_1 : w39.cell? ⟨gb246, 1, none⟩ = some (.int .i64 0) := (blk_cell BK246.out 1).trans rfl; have hfz41_0 := blk_frozen BK246.out 0; have hfz41_1 := blk_frozen BK246.out 1))
                        go_ret
                        exact ⟨by first | rfl | (simp [errW_none, errW_some] <;> rfl) | (simp [*, errW_none, errW_some] <;> rfl), by repeat (first | (with_reducible first | exact HB.out | apply below_alloc | apply pw_below_drewN | apply below_drew1 | refine below_set ?_ GE244.out | refine below_set ?_ GE246.out) | exact HB.out)⟩
                      · rw [if_neg c37] at H
                        have c37b0 : decide (7 < ((rd_T71 l0_1 x3_2).f1)) = false := decide_eq_false c37
                        clear c37
                        have H' := Aside0.mk H
                        clear H
                        have hcz42_0 : wr.cell? ⟨gb244, 0, none⟩ = some (.int .i64 a0_0) := (blk_cell BK244.out 0).trans rfl
                        have hcz42_1 : wr.cell? ⟨gb244, 1, none⟩ = some (.slice A0_1 l0_1.length c0_1) := (blk_cell BK244.out 1).trans rfl
                        have hcz42_2 : wr.cell? ⟨gb244, 2, none⟩ = some (.int .i64 a0_2) := (blk_cell BK244.out 2).trans rfl
                        have hcz42_3 : wr.cell? ⟨gb244, 3, none⟩ = some (.int .i64 a0_3) := (blk_cell BK244.out 3).trans rfl
                        have hfz42_0 := blk_frozen BK244.out 0
                        have hfz42_1 := blk_frozen BK244.out 1
                        have hfz42_2 := blk_frozen BK244.out 2
                        have hfz42_3 := blk_frozen BK244.out 3
                        have p245 : 0 ≤ (x3_2 : Int) := of_decide_eq_true (by first | (with_reducible assumption) | assumption)
                        have q245 : x3_2 < (l0_1.length : Int) := of_decide_eq_true (by first | (with_reducible assumption) | assumption)
                        obtain ⟨ad245, e245, hx245_0, hx245_1⟩ := at_T71 HR0_1.out x3_2 p245 q245
                        cases e245
                        replace hx245_0 := (HB.out.cell (World.block_lt_of_cell? w _ hx245_0)).trans hx245_0
                        replace hx245_1 := (HB.out.cell (World.block_lt_of_cell? w _ hx245_1)).trans hx245_1
                        replace p245 := eq_true p245
                        replace q245 := eq_true q245
                        go_wp2_with (first | ((with_reducible refine gate_dst (N := 4) rfl ?_); (try (refine gate_guard (by rfl) ?_; dsimp only)); refine box_event ?hg (N := 4) ?hd (cs := #[.int .i64 0, .int .i64 0]) (t := 71) ?hr ?_; (case hd => rfl); (case hg => rfl); (case hr => first | (go_simp; done) | (go_simp; rfl)); intro gb246 hg w43 hbox hb; have n0_ := Aside0.mk (blk_below (g := gb244) (o := .cells #[.int .i64 a0_0, .slice (some ad245) l0_1.length c0_1, .int .i64 a0_2, .int .i64 a0_3] 48 (0, 0)) (by (with_reducible repeat (first | refine blk_drewN ?_ _ | refine blk_drew ?_ | refine blk_alloc ?_ _)); exact BK244.out) hb); have n1_ := Aside0.mk (below_step (by repeat (first | (with_reducible first | exact HB.out | apply below_alloc | apply pw_below_drewN | apply below_drew1 | refine below_set ?_ GE244.out) | exact HB.out)) hb); have n2_ := Aside0.mk (hbox); have n3_ := Aside0.mk ((by rw [hg]; exact (below_size (by repeat (first | (with_reducible first | exact HB.out | apply below_alloc | apply pw_below_drewN | apply below_drew1 | refine below_set ?_ GE244.out) | exact HB.out))) : w.heap.size ≤ gb246)); have n4_ := Aside0.mk ((by rw [hg]; exact (below_size (by repeat (first | (with_reducible first | exact HB.out | apply below_alloc | apply pw_below_drewN | apply below_drew1 | refine below_set ?_ GE244.out) | exact HB.out))) : w.heap.size ≤ gb246)); have n5_ := Aside0.mk ((by rw [hg]; exact Nat.ne_of_lt (blk_lt (g := gb244) (o := .cells #[.int .i64 a0_0, .slice (some ad245) l0_1.length c0_1, .int .i64 a0_2, .int .i64 a0_3] 48 (0, 0)) (by (with_reducible repeat (first | refine blk_drewN ?_ _ | refine blk_drew ?_ | refine blk_alloc ?_ _)); exact BK244.out)) : gb244 ≠ gb246)); have n6_ := Aside0.mk ((by rw [hg]; exact Nat.ne_of_gt (blk_lt (g := gb244) (o := .cells #[.int .i64 a0_0, .slice (some ad245) l0_1.length c0_1, .int .i64 a0_2, .int .i64 a0_3] 48 (0, 0)) (by (with_reducible repeat (first | refine blk_drewN ?_ _ | refine blk_drew ?_ | refine blk_alloc ?_ _)); exact BK244.out)) : gb246 ≠ gb244)); clear BK244; clear HB; have BK244 := n0_; have HB := n1_; have BK246 := n2_; have GW246 := n3_; have GE246 := n4_; have NB244_246 := n5_; have NB246_244 := n6_; clear n0_ n1_ n2_ n3_ n4_ n5_ n6_; clear hb hbox hg; have hnb44 := NB246_244.out; have hnc44 := NB244_246.out; have hcz45_0 : w43.cell? ⟨gb246, 0, none⟩ = some (.int .i64 0) := (blk_cell BK246.out 0).trans rfl; have hcz45_1 : w43.cell? ⟨gb246, 1, none⟩ = some (.int .i64 0) := (blk_cell BK246.out 1).trans rfl; have hfz45_0 := blk_frozen BK246.out 0; have hfz45_1 := blk_frozen BK246.out 1))
                        go_roundg k2
                        case measure => have := HJ1.out; have := HK2.out; omega
                        case rel => exact ⟨(wrap64 (x3_2 + 1)), (by first | rfl | (simp; done) | (simp [*]; done)), H', ⟨by have := HJ1.out; have := HK2.out; omega⟩, ⟨by (with_reducible repeat (first | refine blk_drewN ?_ _ | refine blk_drew ?_ | refine blk_alloc ?_ _)); refine blk_far ?_ NB244_246.out _; (with_reducible repeat (first | refine blk_drewN ?_ _ | refine blk_drew ?_ | refine blk_alloc ?_ _)); refine blk_far ?_ NB244_246.out _; (with_reducible repeat (first | refine blk_drewN ?_ _ | refine blk_drew ?_ | refine blk_alloc ?_ _)); exact BK244.out⟩, ⟨by repeat (first | (with_reducible first | exact HB.out | apply below_alloc | apply pw_below_drewN | apply below_drew1 | refine below_set ?_ GE244.out | refine below_set ?_ GE246.out) | exact HB.out)⟩⟩
              · rw [if_neg c21] at H
                exact absurd H (by simp)
            · rw [if_neg c20] at H
              have c20b0 : decide (x3_2 < (l0_1.length : Int)) = false := decide_eq_false c20
              clear c20
              obtain rfl := Option.some.inj H
              have hcz46_0 : wr.cell? ⟨gb244, 0, none⟩ = some (.int .i64 a0_0) := (blk_cell BK244.out 0).trans rfl
              have hcz46_1 : wr.cell? ⟨gb244, 1, none⟩ = some (.slice A0_1 l0_1.length c0_1) := (blk_cell BK244.out 1).trans rfl
              have hcz46_2 : wr.cell? ⟨gb244, 2, none⟩ = some (.int .i64 a0_2) := (blk_cell BK244.out 2).trans rfl
              have hcz46_3 : wr.cell? ⟨gb244, 3, none⟩ = some (.int .i64 a0_3) := (blk_cell BK244.out 3).trans rfl
              have hfz46_0 := blk_frozen BK244.out 0
              have hfz46_1 := blk_frozen BK244.out 1
              have hfz46_2 := blk_frozen BK244.out 2
              have hfz46_3 := blk_frozen BK244.out 3
              go_wp2
              go_ret
              exact ⟨by first | rfl | (simp [errW_none, errW_some] <;> rfl) | (simp [*, errW_none, errW_some] <;> rfl), by repeat (first | (with_reducible first | exact HB.out | apply below_alloc | apply pw_below_drewN | apply below_drew1 | refine below_set ?_ GE244.out) | exact HB.out)⟩
end Go.Proofs.YtepldlnmeenlbaaGreat.Base
namespace Go.Proofs.YtepldlnmeenlbaaGreat.Own
open Go.RowKit Go.Proofs Go.Proofs.YtepldlnmeenlbaaGreatW.PrintWords Go.Proofs.YtepldlnmeenlbaaGreatW.PrintLast Go.Proofs.YtepldlnmeenlbaaGreatW.PrintMore Go.Proofs.YtepldlnmeenlbaaGreat.Base
def levB (x : S71) : Bool := decide (1 ≤ x.f0 ∧ x.f0 ≤ 1125899906842624 ∧ 0 ≤ x.f1 ∧ x.f1 ≤ 7)
def goodP (cal : Int) (ls : List S71) (re ba : Int) : Bool := decide (0 ≤ cal ∧ cal ≤ 7 ∧ 1 ≤ (ls.length : Int) ∧ (ls.length : Int) ≤ 6 ∧ 1 ≤ re ∧ re ≤ 8 ∧ 1 ≤ ba ∧ ba ≤ 1048576) && ls.all levB
theorem rdL_at (l : List S71) (i : Nat) (h : i < l.length) : rd_T71 l i = l[i] := by simp [rd_T71, List.getD_eq_getElem?_getD, List.getElem?_eq_getElem h]
theorem dropL_at {l : List S71} {i : Nat} (h : i < l.length) : l.drop i = rd_T71 l i :: l.drop (i + 1) := by rw [rdL_at l i h]; exact List.drop_eq_getElem_cons h
theorem goodP_iff {cal : Int} {ls : List S71} {re ba : Int} : goodP cal ls re ba = true ↔ (0 ≤ cal ∧ cal ≤ 7 ∧ 1 ≤ (ls.length : Int) ∧ (ls.length : Int) ≤ 6 ∧ 1 ≤ re ∧ re ≤ 8 ∧ 1 ≤ ba ∧ ba ≤ 1048576) ∧ ∀ x, x ∈ ls → 1 ≤ x.f0 ∧ x.f0 ≤ 1125899906842624 ∧ 0 ≤ x.f1 ∧ x.f1 ≤ 7 := by
  unfold goodP
  rw [Bool.and_eq_true, decide_eq_true_eq, List.all_eq_true]
  simp only [levB, decide_eq_true_eq]
theorem cwithin_eq (a b c : Int) : contract_within.f a b c = some (decide (b ≤ a ∧ a ≤ c)) := by
  unfold contract_within.f
  by_cases h : b ≤ a
  · rw [if_pos h]; simp [h]
  · rw [if_neg h]; simp [h]
theorem check_l0 (l : List S71) (hl : l.length ≤ 1000000) : ∀ (d k i : Nat), i + d = l.length → d < k → contract_Check.l0 k l (l.length : Int) (i : Int) = some (if (l.drop i).all levB then 0 else 2) := by
  intro d
  induction d with
  | zero =>
    intro k i hi hk
    obtain ⟨k, rfl⟩ : ∃ m, k = m + 1 := ⟨k - 1, by omega⟩
    rw [List.drop_eq_nil_of_le (by omega)]
    simp only [contract_Check.l0]
    rw [if_neg (by omega)]
    rfl
  | succ d ih =>
    intro k i hi hk
    obtain ⟨k, rfl⟩ : ∃ m, k = m + 1 := ⟨k - 1, by omega⟩
    have hlt : i < l.length := by omega
    have ih' := ih k (i + 1) (by omega) (by omega)
    rw [show ((i + 1 : Nat) : Int) = (i : Int) + 1 by omega] at ih'
    rw [dropL_at hlt, List.all_cons]
    simp only [contract_Check.l0]
    rw [if_pos (by omega), if_pos (by omega), if_pos (by omega), cwithin_eq, cwithin_eq, wrap_id (x := (i : Int) + 1) (by omega) (by omega)]
    simp only [Option.bind_some, decide_eq_true_eq]
    by_cases h : 1 ≤ (rd_T71 l i).f0 ∧ (rd_T71 l i).f0 ≤ 1125899906842624
    · rw [if_pos h]
      by_cases h' : 0 ≤ (rd_T71 l i).f1 ∧ (rd_T71 l i).f1 ≤ 7
      · rw [if_pos h', ih', show levB (rd_T71 l i) = true from decide_eq_true ⟨h.1, h.2, h'⟩, Bool.true_and]
      · rw [if_neg h', show levB (rd_T71 l i) = false from decide_eq_false (fun x => h' x.2.2)]; rfl
    · rw [if_neg h, show levB (rd_T71 l i) = false from decide_eq_false (fun x => h ⟨x.1, x.2.1⟩)]; rfl
theorem check14_eq (cal : Int) (ls : List S71) (re ba : Int) (k : Nat) (hk : 10 < k) : contract_Check.f k cal ls re ba = some (if goodP cal ls re ba then 0 else 2) := by
  unfold contract_Check.f
  have hj1 : ∀ b, contract_Check.j0 k false b ls re ba = some 2 := fun b => by
    obtain ⟨k, rfl⟩ : ∃ m, k = m + 1 + 1 := ⟨k - 2, by omega⟩
    simp only [contract_Check.j0, contract_Check.j1]
    rfl
  rw [cwithin_eq, cwithin_eq]
  simp only [Option.bind_some, decide_eq_true_eq]
  by_cases h1 : 0 ≤ cal ∧ cal ≤ 7
  · rw [if_pos h1]
    by_cases h2 : 1 ≤ (ls.length : Int) ∧ (ls.length : Int) ≤ 6
    · rw [decide_eq_true h2]
      obtain ⟨k, rfl⟩ : ∃ m, k = m + 1 + 1 := ⟨k - 2, by omega⟩
      have hl := check_l0 ls (by omega) ls.length k 0 (by omega) (by omega)
      rw [List.drop_zero, Int.natCast_zero] at hl
      simp only [contract_Check.j0, contract_Check.j1, cwithin_eq, Option.bind_some, decide_eq_true_eq, if_true]
      by_cases h3 : 1 ≤ re ∧ re ≤ 8
      · rw [if_pos h3]
        by_cases h4 : 1 ≤ ba ∧ ba ≤ 1048576
        · simp only [decide_eq_true h4, Bool.not_true, Bool.false_eq_true, if_false]
          rw [hl]
          have : goodP cal ls re ba = ls.all levB := by unfold goodP; rw [decide_eq_true ⟨h1.1, h1.2, h2.1, h2.2, h3.1, h3.2, h4.1, h4.2⟩, Bool.true_and]
          rw [this]
        · have : goodP cal ls re ba = false := by unfold goodP; rw [decide_eq_false (fun x => h4 ⟨x.2.2.2.2.2.2.1, x.2.2.2.2.2.2.2⟩), Bool.false_and]
          simp only [decide_eq_false h4, this, Bool.not_false, if_true, Bool.false_eq_true, if_false]
      · have : goodP cal ls re ba = false := by unfold goodP; rw [decide_eq_false (fun x => h3 ⟨x.2.2.2.2.1, x.2.2.2.2.2.1⟩), Bool.false_and]
        rw [if_neg h3, this]
        rfl
    · have : goodP cal ls re ba = false := by unfold goodP; rw [decide_eq_false (fun x => h2 ⟨x.2.2.1, x.2.2.2.1⟩), Bool.false_and]
      rw [decide_eq_false h2, hj1, this]
      rfl
  · have : goodP cal ls re ba = false := by unfold goodP; rw [decide_eq_false (fun x => h1 ⟨x.1, x.2.1⟩), Bool.false_and]
    rw [if_neg h1, hj1, this]
    rfl
theorem good_l0 (l : List S71) (x y z : Int) (hl : l.length ≤ 1000000) : ∀ (d k i : Nat), i + d = l.length → d < k → curfewref14_Good.l0 k (i : Int) x l y z = some (((l.drop i).all levB)) := by
  intro d
  induction d with
  | zero =>
    intro k i hi hk
    obtain ⟨k, rfl⟩ : ∃ m, k = m + 1 := ⟨k - 1, by omega⟩
    rw [List.drop_eq_nil_of_le (by omega)]
    simp only [curfewref14_Good.l0]
    rw [if_neg (by omega)]
    rfl
  | succ d ih =>
    intro k i hi hk
    obtain ⟨k, rfl⟩ : ∃ m, k = m + 1 := ⟨k - 1, by omega⟩
    have hlt : i < l.length := by omega
    have ih' := ih k (i + 1) (by omega) (by omega)
    rw [show ((i + 1 : Nat) : Int) = (i : Int) + 1 by omega] at ih'
    rw [dropL_at hlt, List.all_cons]
    simp only [curfewref14_Good.l0]
    rw [if_pos (by omega), if_pos (by omega), wrap_id (x := (i : Int) + 1) (by omega) (by omega), ih']
    by_cases h1 : (rd_T71 l i).f0 < 1
    · rw [if_pos h1, show levB (rd_T71 l i) = false from decide_eq_false (by omega), Bool.false_and]
    · rw [if_neg h1]
      by_cases h2 : (rd_T71 l i).f0 > 1125899906842624
      · rw [if_pos h2, show levB (rd_T71 l i) = false from decide_eq_false (by omega), Bool.false_and]
      · rw [if_neg h2]
        by_cases h3 : (rd_T71 l i).f1 < 0
        · rw [if_pos h3, show levB (rd_T71 l i) = false from decide_eq_false (by omega), Bool.false_and]
        · rw [if_neg h3]
          by_cases h4 : (rd_T71 l i).f1 > 7
          · rw [if_pos h4, show levB (rd_T71 l i) = false from decide_eq_false (by omega), Bool.false_and]
          · rw [if_neg h4, show levB (rd_T71 l i) = true from decide_eq_true (by omega), Bool.true_and]
theorem good14_eq (cal : Int) (ls : List S71) (re ba : Int) (k : Nat) (hk : 10 < k) : curfewref14_Good.f k cal ls re ba = some (goodP cal ls re ba) := by
  obtain ⟨k, rfl⟩ : ∃ m, k = m + 1 := ⟨k - 1, by omega⟩
  unfold curfewref14_Good.f
  simp only [curfewref14_Good.j0, if_true]
  by_cases h1 : cal < 0
  · rw [if_pos h1]; unfold goodP; rw [decide_eq_false (by omega), Bool.false_and]
  rw [if_neg h1]
  by_cases h2 : cal > 7
  · rw [if_pos h2]; unfold goodP; rw [decide_eq_false (by omega), Bool.false_and]
  rw [if_neg h2]
  by_cases h3 : (ls.length : Int) < 1
  · rw [if_pos h3]; unfold goodP; rw [decide_eq_false (by omega), Bool.false_and]
  rw [if_neg h3]
  by_cases h4 : (ls.length : Int) > 6
  · rw [if_pos h4]; unfold goodP; rw [decide_eq_false (by omega), Bool.false_and]
  rw [if_neg h4]
  by_cases h5 : re < 1
  · rw [if_pos h5]; unfold goodP; rw [decide_eq_false (by omega), Bool.false_and]
  rw [if_neg h5]
  by_cases h6 : re > 8
  · rw [if_pos h6]; unfold goodP; rw [decide_eq_false (by omega), Bool.false_and]
  rw [if_neg h6]
  by_cases h7 : ba < 1
  · rw [if_pos h7]; unfold goodP; rw [decide_eq_false (by omega), Bool.false_and]
  rw [if_neg h7]
  by_cases h8 : ba > 1048576
  · rw [decide_eq_true h8, if_pos rfl]; unfold goodP; rw [decide_eq_false (by omega), Bool.false_and]
  rw [decide_eq_false h8, if_neg (by simp)]
  have hl := good_l0 ls cal re ba (by omega) ls.length k 0 (by omega) (by omega)
  rw [List.drop_zero, Int.natCast_zero] at hl
  rw [hl]
  unfold goodP
  rw [decide_eq_true (by omega), Bool.true_and]
variable {A1 : Option Addr} {c1 : Nat} {cal re ba : Int} {ls : List S71}
theorem check14_any (w : World) (h1 : Kd.C k71 w A1 ls.length ls ∧ ls.length ≤ c1) :
    Calls Tryz.prog 24 #[.agg #[.int .i64 cal, .slice A1 ls.length c1, .int .i64 re, .int .i64 ba]] w fun e w' => e = .returned (.int .i64 (if goodP cal ls re ba then 0 else 2)) ∧ Below w.heap.size w w' :=
  contract_Check.calls 40 cal A1 c1 ls re ba _ w h1.1 h1.2 (check14_eq cal ls re ba 40 (by omega))
end Go.Proofs.YtepldlnmeenlbaaGreat.Own
namespace Go.Proofs.YtepldlnmeenlbaaGreat.Own
open Go.RowKit Go.Proofs Go.Proofs.YtepldlnmeenlbaaGreatW.PrintWords Go.Proofs.YtepldlnmeenlbaaGreatW.PrintLast Go.Proofs.YtepldlnmeenlbaaGreatW.PrintMore Go.Proofs.YtepldlnmeenlbaaGreat.Base
variable {w w' : World} {n kb ab pb cb : Nat} {off : Int} {week closed : List S114}
theorem dueP_zero {a B : Int} (h : (dueP off week closed a B).2 ≠ 0) : (dueP off week closed a B).1 = 0 := by
  unfold dueP at h ⊢
  split
  · rfl
  · rename_i h1
    rw [if_neg h1] at h
    split
    · rename_i h2; rw [if_pos h2] at h; exact absurd rfl h
    · rename_i h2
      rw [if_neg h2] at h
      split
      · rfl
      · rename_i h3
        rw [if_neg h3] at h
        cases hd : dueL off week B (freeL closed a 1125899906842624) with
        | none => rfl
        | some d => rw [hd] at h; exact absurd rfl h
def firstP (off : Int) (week closed : List S114) (cal : Int) (ls : List S71) (re ba now : Int) : Int × Int × Int × Int × Int :=
  if goodP cal ls re ba = true then atS off week closed 0 (rd_T71 ls 0).f0 now else (0, 0, 0, 0, 2)
def nextP (off : Int) (week closed : List S114) (cal : Int) (ls : List S71) (re ba lv now : Int) : Int × Int × Int × Int × Int :=
  if goodP cal ls re ba = true ∧ 0 ≤ lv ∧ lv < (ls.length : Int) then if lv = (ls.length : Int) - 1 then (0, 0, 0, 0, 0) else atS off week closed (lv + 1) (rd_T71 ls (lv + 1)).f0 now else (0, 0, 0, 0, 2)
def moreP (off : Int) (week closed : List S114) (cal : Int) (ls : List S71) (re ba lv now : Int) : Bool :=
  decide ((nextP off week closed cal ls re ba lv now).2.2.2.2 = 0) && decide (lv ≠ (ls.length : Int) - 1)
def standP (off : Int) (week closed : List S114) (lv fr l du now : Int) : Int × Int × Int × Int × Int :=
  if du = 0 then (0, 0, 0, 0, 33) else if du ≤ now then (0, 0, 0, 0, 34) else if (restR off week closed fr l now).2 = 0 then (lv, now, (restR off week closed fr l now).1, 0, 0) else (0, 0, 0, 0, (restR off week closed fr l now).2)
def goP (off : Int) (week closed : List S114) (lv l du now : Int) : Int × Int × Int × Int × Int :=
  if du ≠ 0 then (0, 0, 0, 0, 33) else if l < 1 then (0, 0, 0, 0, 2) else atS off week closed lv l now
end Go.Proofs.YtepldlnmeenlbaaGreat.Own
namespace Go.Proofs.YtepldlnmeenlbaaGreat.Own
open Go.RowKit Go.Proofs Go.Proofs.YtepldlnmeenlbaaGreatW.PrintWords Go.Proofs.YtepldlnmeenlbaaGreatW.PrintLast Go.Proofs.YtepldlnmeenlbaaGreatW.PrintMore Go.Proofs.YtepldlnmeenlbaaGreat.Base
theorem rright_eq (a b : Int) : curfewref07_Right.f a b = some (decide (0 ≤ a ∧ a < b ∧ b ≤ 1125899906842624)) := by
  unfold curfewref07_Right.f
  by_cases h1 : 0 ≤ a
  · rw [if_pos h1]
    by_cases h2 : a < b
    · rw [if_pos h2]; simp [h1, h2]
    · rw [if_neg h2]; simp [h2]
  · rw [if_neg h1]; simp [h1]
theorem rrow_l0 (l : List S114) (hl : l.length ≤ 1000000) : ∀ (d k i : Nat) (lo : Int), i + d = l.length → d < k → (i = 0 ∧ lo = 0 ∨ 0 < i ∧ lo = (rd_T114 l ((i : Int) - 1)).f1) → curfewref07_Row.l0 k l (i : Int) = some (if okRow lo (l.drop i) then 0 else 2) := by
  intro d
  induction d with
  | zero =>
    intro k i lo hi hk _
    obtain ⟨k, rfl⟩ : ∃ m, k = m + 1 := ⟨k - 1, by omega⟩
    rw [List.drop_eq_nil_of_le (by omega)]
    simp only [curfewref07_Row.l0]
    rw [if_neg (by omega)]
    rfl
  | succ d ih =>
    intro k i lo hi hk hlo
    obtain ⟨k, rfl⟩ : ∃ m, k = m + 1 := ⟨k - 1, by omega⟩
    have hlt : i < l.length := by omega
    rw [drop_at hlt]
    simp only [curfewref07_Row.l0]
    rw [if_pos (by omega), if_pos (by omega), rright_eq, wrap_id (x := (i : Int) + 1) (by omega) (by omega), wrap_id (x := (i : Int) - 1) (by omega) (by omega)]
    simp only [Option.bind_some, decide_eq_true_eq]
    have ih' := ih k (i + 1) (rd_T114 l i).f1 (by omega) (by omega) (.inr ⟨by omega, by rw [show ((i + 1 : Nat) : Int) - 1 = (i : Int) by omega]⟩)
    rw [show ((i + 1 : Nat) : Int) = (i : Int) + 1 by omega] at ih'
    by_cases h : 0 ≤ (rd_T114 l i).f0 ∧ (rd_T114 l i).f0 < (rd_T114 l i).f1 ∧ (rd_T114 l i).f1 ≤ 1125899906842624
    · rw [if_pos h]
      have e0 : okRow lo (rd_T114 l i :: l.drop (i + 1)) = (decide (lo ≤ (rd_T114 l i).f0) && okRow (rd_T114 l i).f1 (l.drop (i + 1))) := by
        conv => lhs; unfold okRow
        congr 1
        simp [h.1, h.2.1, h.2.2]
      rw [e0]
      rcases hlo with ⟨rfl, rfl⟩ | ⟨h0, rfl⟩
      · rw [if_neg (by omega), ih', decide_eq_true h.1, Bool.true_and]
      · rw [if_pos (by omega), if_pos (by omega), if_pos (by omega)]
        by_cases h2 : (rd_T114 l i).f0 < (rd_T114 l ((i : Int) - 1)).f1
        · rw [if_pos h2, decide_eq_false (by omega)]; rfl
        · rw [if_neg h2, ih', decide_eq_true (by omega), Bool.true_and]
    · rw [if_neg h]
      have e : okRow lo (rd_T114 l i :: l.drop (i + 1)) = false := by unfold okRow; rw [decide_eq_false (by omega)]; rfl
      rw [e]; rfl
theorem rrow_eq (l : List S114) (k : Nat) (hk : 33 < k) : curfewref07_Row.f k l = some (rowErr l) := by
  unfold curfewref07_Row.f rowErr
  by_cases h : 32 < l.length
  · rw [if_pos (by omega), if_pos h]
  · rw [if_neg (by omega), if_neg h]
    exact rrow_l0 l (by omega) l.length k 0 0 (by omega) (by omega) (.inl ⟨rfl, rfl⟩)
theorem wrong_l0 (l : List S114) (hl : l.length ≤ 1000000) : ∀ (d k i : Nat), i + d = l.length → d < k → curfewref08_Wrong.l0 k l (i : Int) = some (if ∃ s, s ∈ l.drop i ∧ 604800 < s.f1 then 2 else 0) := by
  intro d
  induction d with
  | zero =>
    intro k i hi hk
    obtain ⟨k, rfl⟩ : ∃ m, k = m + 1 := ⟨k - 1, by omega⟩
    rw [List.drop_eq_nil_of_le (by omega)]
    simp only [curfewref08_Wrong.l0]
    rw [if_neg (by omega), if_neg (by simp)]
  | succ d ih =>
    intro k i hi hk
    obtain ⟨k, rfl⟩ : ∃ m, k = m + 1 := ⟨k - 1, by omega⟩
    have hlt : i < l.length := by omega
    rw [drop_at hlt]
    simp only [curfewref08_Wrong.l0]
    rw [if_pos (by omega), if_pos (by omega), wrap_id (x := (i : Int) + 1) (by omega) (by omega)]
    have ih' := ih k (i + 1) (by omega) (by omega)
    rw [show ((i + 1 : Nat) : Int) = (i : Int) + 1 by omega] at ih'
    by_cases h : (rd_T114 l i).f1 > 604800
    · rw [if_pos h, if_pos ⟨_, List.mem_cons_self, h⟩]
    · rw [if_neg h, ih']
      congr 1
      by_cases h2 : ∃ s, s ∈ l.drop (i + 1) ∧ 604800 < s.f1
      · obtain ⟨s, a, b⟩ := h2
        rw [if_pos ⟨s, a, b⟩, if_pos ⟨s, List.mem_cons_of_mem _ a, b⟩]
      · rw [if_neg h2, if_neg]
        rintro ⟨s, a, b⟩
        rcases List.mem_cons.1 a with rfl | a
        · omega
        · exact h2 ⟨s, a, b⟩
theorem wrong_eq (l : List S114) (k : Nat) (hk : 33 < k) : curfewref08_Wrong.f k l = some (weekErr l) := by
  unfold curfewref08_Wrong.f weekErr
  rw [rrow_eq l k hk, Option.bind_some]
  by_cases h : rowErr l = 0
  · rw [if_pos h, if_pos h]
    have hok := rowErr_ok h
    rw [show (0 : Int) = ((0 : Nat) : Int) from rfl, wrong_l0 l (by have := hok.len; omega) l.length k 0 (by omega) (by have := hok.len; omega), List.drop_zero]
    congr 1
    by_cases h2 : 604800 < lastEnd l
    · have hex : ∃ s, s ∈ l ∧ 604800 < s.f1 := by
        cases hl : l.getLast? with
        | none => unfold lastEnd at h2; rw [hl] at h2; simp only at h2; omega
        | some s => unfold lastEnd at h2; rw [hl] at h2; exact ⟨s, List.mem_of_getLast? hl, h2⟩
      rw [if_pos h2, if_pos hex]
    · have hex : ¬ ∃ s, s ∈ l ∧ 604800 < s.f1 := by
        rintro ⟨s, a, b⟩
        have := hok.row.le_last s a
        omega
      rw [if_neg h2, if_neg hex]; rfl
  · rw [if_neg h, if_neg h]
theorem check_eq (off : Int) (week closed : List S114) (k : Nat) (hk : 34 < k) : curfewref10_Check.f k off week closed = some (calErr off week closed) := by
  obtain ⟨k, rfl⟩ : ∃ m, k = m + 1 := ⟨k - 1, by omega⟩
  unfold curfewref10_Check.f calErr
  by_cases h1 : off < 0
  · rw [if_pos h1, if_pos (.inl h1)]
    simp only [curfewref10_Check.j0, if_true]
  · rw [if_neg h1]
    simp only [curfewref10_Check.j0, decide_eq_true_eq]
    by_cases h2 : off ≥ 604800
    · rw [if_pos h2, if_pos (.inr h2)]
    · rw [if_neg h2, if_neg (by omega), wrong_eq week k (by omega), Option.bind_some]
      by_cases h3 : weekErr week = 0
      · rw [if_pos h3, if_pos h3, rrow_eq closed k (by omega), Option.bind_some]
      · rw [if_neg h3, if_neg h3]
end Go.Proofs.YtepldlnmeenlbaaGreat.Own
namespace Go.Proofs.YtepldlnmeenlbaaGreat.Own
open Go.RowKit Go.Proofs Go.Proofs.YtepldlnmeenlbaaGreatW.PrintWords Go.Proofs.YtepldlnmeenlbaaGreatW.PrintLast Go.Proofs.YtepldlnmeenlbaaGreatW.PrintMore Go.Proofs.YtepldlnmeenlbaaGreat.Base
variable {off : Int} {week closed : List S114}
theorem part_eq (x y a b : Int) : curfewref07_part.f x y a b = some (mx x a, mn y b, decide (mx x a < mn y b)) := by
  unfold curfewref07_part.f mx mn
  by_cases h1 : x < a
  · rw [if_pos h1, if_pos h1]
    by_cases h2 : y > b
    · rw [if_pos h2, if_pos h2]
    · rw [if_neg h2, if_neg h2]
  · rw [if_neg h1, if_neg h1]
    by_cases h2 : y > b
    · rw [if_pos h2, if_pos h2]
    · rw [if_neg h2, if_neg h2]
theorem rcut_l0 (l : List S114) (a b : Int) (hl : l.length ≤ 1000000) : ∀ (d k i : Nat), i + d = l.length → d < k → curfewref07_Cut.l0 k l a b (cutP (l.take i) a b) (i : Int) = some (cutP l a b) := by
  intro d
  induction d with
  | zero =>
    intro k i hi hk
    obtain ⟨k, rfl⟩ : ∃ m, k = m + 1 := ⟨k - 1, by omega⟩
    simp only [curfewref07_Cut.l0]
    rw [if_neg (by omega), List.take_of_length_le (by omega)]
  | succ d ih =>
    intro k i hi hk
    obtain ⟨k, rfl⟩ : ∃ m, k = m + 1 := ⟨k - 1, by omega⟩
    have hlt : i < l.length := by omega
    have ih' := ih k (i + 1) (by omega) (by omega)
    rw [take_at hlt, cutP_snoc] at ih'
    have hlen := cutP_length (l.take i) a b
    have hlen2 : (l.take i).length = i := by simp; omega
    simp only [curfewref07_Cut.l0]
    rw [if_pos (by omega), if_pos (by omega), part_eq, wrap_id (by omega) (by omega)]
    simp only [Option.bind_some, decide_eq_true_eq]
    rw [show ((i : Int) + 1) = ((i + 1 : Nat) : Int) by omega]
    by_cases h : mx (rd_T114 l i).f0 a < mn (rd_T114 l i).f1 b
    · rw [if_pos h] at ih' ⊢
      rw [if_pos (by omega)]
      exact ih'
    · rw [if_neg h] at ih' ⊢
      rw [List.append_nil] at ih'
      exact ih'
theorem rcut_eq {l : List S114} (h : RowOk 1125899906842624 l) (a b : Int) (k : Nat) (hk : 40 ≤ k) : curfewref07_Cut.f k l a b = some (cutP l a b) := by
  have hl := h.len
  unfold curfewref07_Cut.f
  rw [rrow_eq l k (by omega), Option.bind_some, if_pos h.err]
  exact rcut_l0 l a b (by omega) l.length k 0 (by omega) (by omega)
theorem within_l0 (l : List S114) (hl : l.length ≤ 32) (hb : ∀ s, s ∈ l → 0 ≤ s.f0 ∧ s.f0 < s.f1 ∧ s.f1 ≤ 1125899906842624) : ∀ (d k i : Nat) (x : Int), i + d = l.length → d < k → 0 ≤ x → x ≤ i * 1125899906842624 → curfewref07_Within.l0 k l x (i : Int) = some (x + secs (l.drop i)) := by
  intro d
  induction d with
  | zero =>
    intro k i x hi hk h0 h1
    obtain ⟨k, rfl⟩ : ∃ m, k = m + 1 := ⟨k - 1, by omega⟩
    simp only [curfewref07_Within.l0]
    rw [if_neg (by omega), List.drop_eq_nil_of_le (by omega)]
    simp [secs]
  | succ d ih =>
    intro k i x hi hk h0 h1
    obtain ⟨k, rfl⟩ : ∃ m, k = m + 1 := ⟨k - 1, by omega⟩
    have hlt : i < l.length := by omega
    have hm := hb (rd_T114 l i) (by rw [rd_at l i hlt]; exact List.getElem_mem _)
    rw [drop_at hlt]
    simp only [curfewref07_Within.l0, secs]
    rw [if_pos (by omega), if_pos (by omega), wrap_id (x := x + (rd_T114 l i).f1) (by omega) (by omega), wrap_id (x := x + (rd_T114 l i).f1 - (rd_T114 l i).f0) (by omega) (by omega), wrap_id (x := (i : Int) + 1) (by omega) (by omega)]
    have ih' := ih k (i + 1) (x + (rd_T114 l i).f1 - (rd_T114 l i).f0) (by omega) (by omega) (by omega) (by omega)
    rw [show ((i + 1 : Nat) : Int) = (i : Int) + 1 by omega] at ih'
    rw [ih']
    congr 1
    omega
theorem within_eq {l : List S114} (h : RowOk 1125899906842624 l) (a b : Int) (k : Nat) (hk : 40 ≤ k) : curfewref07_Within.f k l a b = some (secs (cutP l a b)) := by
  have hl := h.len
  have hc := cutP_length l a b
  unfold curfewref07_Within.f
  rw [rcut_eq h a b k hk, Option.bind_some]
  have := within_l0 (cutP l a b) (by omega) (fun s hs => by obtain ⟨x0, _, x1, x2, _⟩ := cutP_mem h a b s hs; exact ⟨x0, x1, x2⟩) (cutP l a b).length k 0 0 (by omega) (by omega) (by omega) (by omega)
  rw [List.drop_zero, Int.zero_add] at this
  exact this
theorem cut_ahead {lo y : Int} {l : List S114} (h : RowFrom lo l) (hlo : 0 ≤ lo) : secs (cutP l 0 y) = ahead l y := by
  induction l generalizing lo with
  | nil => rfl
  | cons s r ih =>
    obtain ⟨h1, h2, h3⟩ := h
    rw [cutP_cons]
    simp only [ahead]
    rw [← ih h3 (by omega)]
    by_cases hx : mx s.f0 0 < mn s.f1 y
    · rw [if_pos hx]
      simp only [secs]
      unfold mx mn at *
      (repeat' split) <;> (repeat' split at hx) <;> omega
    · rw [if_neg hx]
      unfold mx mn at *
      (repeat' split) <;> (repeat' split at hx) <;> omega
theorem len_eq {l : List S114} (h : RowOk 1125899906842624 l) (k : Nat) (hk : 40 ≤ k) : curfewref07_Len.f k l = some (secs l) := by
  unfold curfewref07_Len.f
  rw [within_eq h 0 1125899906842624 k hk, Option.bind_some, cut_ahead h.row (Int.le_refl _), ahead_hi h.row h.top]
theorem runtil_eq {l : List S114} (h : RowOk 604800 l) {t : Int} (h0 : 0 ≤ t) (h1 : t ≤ 2251799813685248) (k : Nat) (hk : 41 ≤ k) : curfewref08_Until.f k l t = some (Uo l t) := by
  obtain ⟨k, rfl⟩ : ∃ m, k = m + 1 := ⟨k - 1, by omega⟩
  have hs := h.secs (by omega)
  have ha : 0 ≤ ahead l (t % 604800) ∧ ahead l (t % 604800) ≤ secs l + 604800 := by
    have h3 := (Uo_step h 0 (t % 604800)).le (a := 0) (b := t % 604800) (Int.le_refl _) (by omega) (Int.le_refl _)
    have e0 : Uo l 0 = 0 := by unfold Uo; rw [show (0 : Int) % 604800 = 0 by decide, ahead_lo h.row (Int.le_refl _)]; omega
    have e1 : Uo l (t % 604800) = ahead l (t % 604800) := by
      unfold Uo
      rw [show t % 604800 / 604800 = 0 by omega, show t % 604800 % 604800 = t % 604800 by omega]; omega
    omega
  have hm : 0 ≤ t / 604800 * secs l ∧ t / 604800 * secs l ≤ 3723213977 * 604800 := by
    have q0 : 0 ≤ t / 604800 := by omega
    have q1 : t / 604800 ≤ 3723213977 := by omega
    exact ⟨Int.mul_nonneg q0 hs.1, Int.mul_le_mul q1 hs.2 hs.1 (by omega)⟩
  unfold curfewref08_Until.f
  rw [if_neg (by omega)]
  simp only [curfewref08_Until.j0]
  rw [if_neg (by omega), len_eq h.big k (by omega), Option.bind_some, Int.tmod_eq_emod_of_nonneg h0, Int.tdiv_eq_ediv_of_nonneg h0, within_eq h.big _ _ k (by omega), Option.bind_some, cut_ahead h.row (Int.le_refl _)]
  have hU : Uo l t = t / 604800 * secs l + ahead l (t % 604800) := rfl
  rw [wrap_id (x := t / 604800) (by omega) (by omega), hU]
  generalize t / 604800 * secs l = q at hm ⊢
  rw [wrap_id (x := q) (by omega) (by omega), wrap_id (by omega) (by omega)]
theorem rbetween_eq {l : List S114} (h : RowOk 604800 l) {a b : Int} (h0 : 0 ≤ a) (hab : a ≤ b) (h1 : b ≤ 2251799813685248) (k : Nat) (hk : 41 ≤ k) : curfewref08_Between.f k l a b = some (Uo l b - Uo l a) := by
  have hm := ((Uo_step h a b).le (Int.le_refl _) hab (Int.le_refl _))
  unfold curfewref08_Between.f
  rw [runtil_eq h (by omega) h1 k hk, Option.bind_some, runtil_eq h h0 (by omega) k hk, Option.bind_some, wrap_id (by omega) (by omega), if_neg (by omega)]
theorem rweekly_eq (h : CalOk off week closed) {a b : Int} (h0 : 0 ≤ a) (hab : a ≤ b) (h1 : b ≤ 1125899906842624) (k : Nat) (hk : 41 ≤ k) : curfewref10_weekly.f k off week closed a b = some (weeklyP off week a b) := by
  have q0 := h.lo
  have q1 := h.hi
  unfold curfewref10_weekly.f
  rw [wrap_id (x := a - off) (by omega) (by omega), wrap_id (x := b - off) (by omega) (by omega), wrap_id (x := a - off + 604800) (by omega) (by omega), wrap_id (x := b - off + 604800) (by omega) (by omega), rbetween_eq h.week (by omega) (by omega) (by omega) k hk, Option.bind_some, weekly_Wk h.week q0 q1 h0 hab h1]
  unfold Wk
  rw [show a - off + 604800 = a + (604800 - off) by omega, show b - off + 604800 = b + (604800 - off) by omega]
theorem rcount_l0 (h : CalOk off week closed) (l : List S114) (hl : l.length ≤ 32) (hb : ∀ s, s ∈ l → 0 ≤ s.f0 ∧ s.f0 < s.f1 ∧ s.f1 ≤ 1125899906842624) : ∀ (d k i : Nat) (x : Int), i + d = l.length → d + 41 < k → x ≤ 2251799815500000 → -(i * 2251799815500000) ≤ x → curfewref10_count.l0 k x l (i : Int) off week closed = some (x - sumW off week (l.drop i)) := by
  intro d
  induction d with
  | zero =>
    intro k i x hi hk h0 h1
    obtain ⟨k, rfl⟩ : ∃ m, k = m + 1 := ⟨k - 1, by omega⟩
    simp only [curfewref10_count.l0]
    rw [if_neg (by omega), List.drop_eq_nil_of_le (by omega)]
    simp [sumW]
  | succ d ih =>
    intro k i x hi hk h0 h1
    obtain ⟨k, rfl⟩ : ∃ m, k = m + 1 := ⟨k - 1, by omega⟩
    have hlt : i < l.length := by omega
    have hm := hb (rd_T114 l i) (by rw [rd_at l i hlt]; exact List.getElem_mem _)
    have hbb := between_bound h.week ((rd_T114 l i).f0 + (604800 - off)) ((rd_T114 l i).f1 + (604800 - off))
    change 0 ≤ weeklyP off week (rd_T114 l i).f0 (rd_T114 l i).f1 ∧ weeklyP off week (rd_T114 l i).f0 (rd_T114 l i).f1 ≤ _ at hbb
    rw [drop_at hlt]
    simp only [curfewref10_count.l0, sumW]
    rw [if_pos (by omega), if_pos (by omega), rweekly_eq h hm.1 (by omega) hm.2.2 k (by omega), Option.bind_some, wrap_id (x := (i : Int) + 1) (by omega) (by omega), wrap_id (x := x - weeklyP off week (rd_T114 l i).f0 (rd_T114 l i).f1) (by omega) (by omega)]
    have ih' := ih k (i + 1) (x - weeklyP off week (rd_T114 l i).f0 (rd_T114 l i).f1) (by omega) (by omega) (by omega) (by omega)
    rw [show ((i + 1 : Nat) : Int) = (i : Int) + 1 by omega] at ih'
    rw [ih']
    congr 1
    omega
theorem rcount_eq (h : CalOk off week closed) {a b : Int} (h0 : 0 ≤ a) (hab : a ≤ b) (h1 : b ≤ 1125899906842624) (k : Nat) (hk : 80 ≤ k) : curfewref10_count.f k off week closed a b = some (elapP off week closed a b) := by
  have hl := h.closed.len
  have hc := cutP_length closed a b
  have hbb := between_bound h.week (a + (604800 - off)) (b + (604800 - off))
  change 0 ≤ weeklyP off week a b ∧ weeklyP off week a b ≤ _ at hbb
  unfold curfewref10_count.f
  rw [rweekly_eq h h0 hab h1 k (by omega), Option.bind_some, rcut_eq h.closed a b k (by omega), Option.bind_some]
  have := rcount_l0 h (cutP closed a b) (by omega) (fun s hs => by obtain ⟨x0, _, x1, x2, _⟩ := cutP_mem h.closed a b s hs; exact ⟨x0, x1, x2⟩) (cutP closed a b).length k 0 (weeklyP off week a b) (by omega) (by omega) (by omega) (by omega)
  rw [List.drop_zero] at this
  exact this
theorem rinst_eq (t : Int) : curfewref10_instant.f t = some (instB t) := by
  unfold curfewref10_instant.f instB
  by_cases h : 0 ≤ t <;> simp [h]
theorem rdue_l0 (h : CalOk off week closed) {a B d : Int} (ha : 0 ≤ a) (haH : a ≤ 1125899906842624) (d0 : a < d) (dH : d ≤ 1125899906842624) (hd : elapP off week closed a d = B) (hd1 : elapP off week closed a (d - 1) = B - 1) :
    ∀ (j k : Nat) (lo hi : Int), j + 80 ≤ k → hi - lo ≤ 2 ^ j → a ≤ lo → lo < d → d ≤ hi → hi ≤ 1125899906842624 → curfewref10_Due.l0 k a B lo hi off week closed = some (d, 0) := by
  have hS := elap_step h.week h.closed h.lo h.hi (a := a) ha
  intro j
  induction j with
  | zero =>
    intro k lo hi hk hj h1 h2 h3 h4
    obtain ⟨k, rfl⟩ : ∃ m, k = m + 1 := ⟨k - 1, by omega⟩
    simp only [curfewref10_Due.l0]
    rw [wrap_id (x := hi - lo) (by omega) (by omega), if_neg (by simp at hj; omega)]
    have : hi = d := by simp at hj; omega
    rw [this]
  | succ j ih =>
    intro k lo hi hk hj h1 h2 h3 h4
    obtain ⟨k, rfl⟩ : ∃ m, k = m + 1 := ⟨k - 1, by omega⟩
    have hp : (2 : Int) ^ (j + 1) = 2 * 2 ^ j := by rw [Int.pow_succ]; omega
    rw [hp] at hj
    simp only [curfewref10_Due.l0]
    rw [wrap_id (x := hi - lo) (by omega) (by omega)]
    by_cases hgt : hi - lo > 1
    · rw [if_pos hgt, Int.tdiv_eq_ediv_of_nonneg (by omega), wrap_id (x := (hi - lo) / 2) (by omega) (by omega), wrap_id (x := lo + (hi - lo) / 2) (by omega) (by omega)]
      rw [rcount_eq h ha (by omega) (by omega) k (by omega), Option.bind_some]
      by_cases hlt : lo + (hi - lo) / 2 < d
      · have := (hS.le (a := lo + (hi - lo) / 2) (b := d - 1) (by omega) (by omega) (by omega)).1
        rw [if_pos (by omega)]
        exact ih k _ _ (by omega) (by omega) (by omega) hlt h3 h4
      · have := (hS.le (a := d) (b := lo + (hi - lo) / 2) (by omega) (by omega) (by omega)).1
        rw [if_neg (by omega)]
        exact ih k _ _ (by omega) (by omega) h1 h2 (by omega) (by omega)
    · rw [if_neg hgt]
      have : hi = d := by omega
      rw [this]
theorem rdue_eq (h : CalOk off week closed) (a B : Int) : curfewref10_Due.f 200 off week closed a B = some (dueP off week closed a B) := by
  unfold curfewref10_Due.f
  rw [rinst_eq, Option.bind_some]
  by_cases ha : 0 ≤ a ∧ a ≤ 1125899906842624
  · rw [if_pos (show instB a = true from decide_eq_true ha)]
    simp only [curfewref10_Due.j0, decide_eq_true_eq]
    by_cases hB : B < 0
    · rw [if_pos hB]; unfold dueP; rw [if_pos (.inr hB)]
    · rw [if_neg hB]
      by_cases hB0 : B = 0
      · rw [if_pos hB0]; unfold dueP; rw [if_neg (by omega), if_pos hB0]
      · rw [if_neg hB0, len_eq h.week.big _ (by omega), Option.bind_some]
        by_cases hs : secs week = 0
        · rw [if_pos hs]; unfold dueP; rw [if_neg (by omega), if_neg hB0, if_pos hs]
        · rw [if_neg hs, rcount_eq h ha.1 ha.2 (Int.le_refl _) _ (by omega), Option.bind_some]
          have hN : ∀ t, a ≤ t → t ≤ 1125899906842624 → elapP off week closed a t = Nn off week closed t - Nn off week closed a := fun t t0 t1 => elap_Nn h.week h.closed h.lo h.hi ha.1 t0 t1
          rcases dueP_spec h (a := a) (B := B) ha.1 ha.2 (by omega) with ⟨f0, f1, f2, f3, f4, f5⟩ | ⟨f0, f1, f2⟩
          · obtain ⟨k1, k2, _⟩ := f5 (by omega)
            have hm := ((Nn_step h.week h.closed h.lo h.hi).le (a := (dueP off week closed a B).1) (b := 1125899906842624) (by omega) f2 (Int.le_refl _)).1
            rw [if_neg (by rw [hN _ ha.2 (Int.le_refl _)]; omega)]
            rw [rdue_l0 h ha.1 ha.2 k1 f2 (by rw [hN _ (by omega) f2]; omega) (by rw [hN _ (by omega) (by omega)]; omega) 51 199 a 1125899906842624 (by omega) (by simp; omega) (Int.le_refl _) k1 f2 (Int.le_refl _)]
            rw [← f0]
          · rw [if_pos (by rw [hN _ ha.2 (Int.le_refl _)]; exact f1)]
            rcases f2 with ⟨e, _⟩ | ⟨_, e⟩
            · rw [← f0, ← e]
            · rw [e] at hs; exact absurd rfl hs
  · rw [if_neg (by unfold instB; rw [decide_eq_false ha]; decide)]
    simp only [curfewref10_Due.j0, if_true]
    unfold dueP
    rw [if_pos (.inl ha)]
end Go.Proofs.YtepldlnmeenlbaaGreat.Own
namespace Go.Proofs.YtepldlnmeenlbaaGreat.Base
open Go.RowKit Go.Proofs.YtepldlnmeenlbaaGreatW.PrintWords Go.Proofs.YtepldlnmeenlbaaGreatW.PrintLast Go.Proofs.YtepldlnmeenlbaaGreatW.PrintMore
attribute [local go_sem] max2_int min2_int max_two min_two max_three min_three max_four min_four   -- for this text's walks alone
theorem eqA71 (d : Nat) (w : World) (x0 y0 : Int) (x1 y1 : Int) :
    (Op.equalIn (d + 2) 71 (.agg #[.int .i64 x0, .int .i64 x1]) (.agg #[.int .i64 y0, .int .i64 y1])).run Tryz.prog w = .ok (x0 == y0 && (x1 == y1)) w := by
  refine eqA_of Tryz.underlying71 (by kernel_rfl) ?_
  refine eqf_cons (by rfl) (by go_simp; rfl) (by go_simp; rfl) (by go_simp) ?_
  exact eqf_last (by rfl) (by go_simp; rfl) (by go_simp; rfl) (by go_simp)
end Go.Proofs.YtepldlnmeenlbaaGreat.Base
namespace Go.Proofs.YtepldlnmeenlbaaGreat.Base
open Go.RowKit Go.Proofs.YtepldlnmeenlbaaGreatW.PrintWords Go.Proofs.YtepldlnmeenlbaaGreatW.PrintLast Go.Proofs.YtepldlnmeenlbaaGreatW.PrintMore
attribute [local go_sem] max2_int min2_int max_two min_two max_three min_three max_four min_four   -- for this text's walks alone
attribute [local go_sem high] eqA71
def curfewref15_begin.f (k : Nat) (a0_0 : Int) (l0_1 : List (S114)) (l0_2 : List (S114)) (a1 : Int) (a2 : Int) (a3 : Int) : Option (Int × Int × Int × Int × Int) := (curfewref10_Due.f k a0_0 l0_1 l0_2 a3 a2).bind fun bt289 => (if bt289.2 = 0 then (some (a1, a3, a2, bt289.1, 0)) else (some (0, 0, 0, 0, bt289.2)))
theorem curfewref15_begin.mono : ∀ a0 a1 a2 a3 a4 a5 k, LeO (curfewref15_begin.f k a0 a1 a2 a3 a4 a5) (curfewref15_begin.f (k + 1) a0 a1 a2 a3 a4 a5) := by
  intro a0 a1 a2 a3 a4 a5 k
  unfold curfewref15_begin.f
  repeat' first
      | (with_reducible exact curfewref10_Due.mono _ _ _ _ _ _)
      | (with_reducible exact LeO.refl _)
      | (with_reducible exact LeO.none _)
      | (with_reducible refine LeO.ite ?_ ?_)
      | (with_reducible refine LeO.bind ?_ (fun _ => ?_))
      | exact curfewref10_Due.mono _ _ _ _ _ _
      | exact LeO.none _
      | refine LeO.ite ?_ ?_
      | refine LeO.bind ?_ (fun _ => ?_)
set_option maxHeartbeats 8000000 in
set_option maxRecDepth 100000 in
theorem curfewref15_begin.calls (k : Nat) (a0_0 : Int) (A0_1 : Option Addr) (c0_1 : Nat) (l0_1 : List (S114)) (A0_2 : Option Addr) (c0_2 : Nat) (l0_2 : List (S114)) (a1 : Int) (a2 : Int) (a3 : Int) (r1 : Int) (r2 : Int) (r3 : Int) (r4 : Int) (r5 : Int) (w : World) (hr0_1 : Kd.C k114 w A0_1 l0_1.length l0_1) (hc0_1 : l0_1.length ≤ c0_1) (hr0_2 : Kd.C k114 w A0_2 l0_2.length l0_2) (hc0_2 : l0_2.length ≤ c0_2) (h : curfewref15_begin.f k a0_0 l0_1 l0_2 a1 a2 a3 = some (r1, r2, r3, r4, r5)) :
    Calls Tryz.prog 123 #[.agg #[.int .i64 a0_0, .slice A0_1 l0_1.length c0_1, .slice A0_2 l0_2.length c0_2], .int .i64 a1, .int .i64 a2, .int .i64 a3] w fun e w' => e = .returned (.tuple #[.agg #[.int .i64 r1, .int .i64 r2, .int .i64 r3, .int .i64 r4], .int .i64 r5]) ∧ Below w.heap.size w w' := by
  have hu24 := Tryz.underlying24
  have hu76 := Tryz.underlying76
  have HR0_1 := Aside0.mk hr0_1
  have HC0_1 := Aside0.mk hc0_1
  clear hr0_1 hc0_1
  have HR0_2 := Aside0.mk hr0_2
  have HC0_2 := Aside0.mk hc0_2
  clear hr0_2 hc0_2
  have HB := Aside0.mk (Below.refl w.heap.size w)
  have H : ((curfewref10_Due.f k a0_0 l0_1 l0_2 a3 a2).bind fun bt289 => (if bt289.2 = 0 then (some (a1, a3, a2, bt289.1, 0)) else (some (0, 0, 0, 0, bt289.2)))) = some (r1, r2, r3, r4, r5) := h
  clear h
  replace H := Option.bind_eq_some_iff.mp H
  obtain ⟨⟨t289, t290⟩, A50, H⟩ := H
  replace H : (if t290 = 0 then (some (a1, a3, a2, t289, 0)) else (some (0, 0, 0, 0, t290))) = some (r1, r2, r3, r4, r5) := H
  have A5 := Aside0.mk A50
  clear A50
  by_cases c6 : t290 = 0
  · rw [if_pos c6] at H
    have c6b0 : (t290 == 0) = true := beq_iff_eq.mpr c6
    have c6b1 : (t290 != 0) = false := bne_eq_false_iff_eq.mpr c6
    clear c6
    simp only [Option.some.injEq, Prod.mk.injEq] at H
    obtain ⟨rfl, rfl, rfl, rfl, rfl⟩ := H
    go_enter Tryz.func123, Tryz.ntmps123
    go_wp2_with (first | ((with_reducible refine gate_dst (N := 4) rfl ?_); refine box_event ?hg (N := 4) ?hd (cs := #[.int .i64 a0_0, .slice A0_1 l0_1.length c0_1, .slice A0_2 l0_2.length c0_2]) (t := 24) ?hr ?_; (case hd => rfl); (case hg => rfl); (case hr => first | (go_simp; done) | (go_simp; rfl)); intro gb287 hg w7 hbox hb; have n0_ := Aside0.mk (below_step (by repeat (first | (with_reducible first | exact HB.out | apply below_alloc | apply pw_below_drewN | apply below_drew1) | exact HB.out)) hb); have n1_ := Aside0.mk (hbox); have n2_ := Aside0.mk ((by rw [hg]; exact (below_size (by repeat (first | (with_reducible first | exact HB.out | apply below_alloc | apply pw_below_drewN | apply below_drew1) | exact HB.out))) : w.heap.size ≤ gb287)); have n3_ := Aside0.mk ((by rw [hg]; exact (below_size (by repeat (first | (with_reducible first | exact HB.out | apply below_alloc | apply pw_below_drewN | apply below_drew1) | exact HB.out))) : w.heap.size ≤ gb287)); clear HB; have HB := n0_; have BK287 := n1_; have GW287 := n2_; have GE287 := n3_; clear n0_ n1_ n2_ n3_; clear hb hbox hg) | ((with_reducible refine gate_dst (N := 8) rfl ?_); refine box_event ?hg (N := 8) ?hd (cs := #[.int .i64 0, .int .i64 0, .int .i64 0, .int .i64 0]) (t := 76) ?hr ?_; (case hd => rfl); (case hg => rfl); (case hr => first | (go_simp; done) | (go_simp; rfl)); intro gb288 hg w8 hbox hb; have n0_ := Aside0.mk (blk_below (g := gb287) (o := .cells #[.int .i64 a0_0, .slice A0_1 l0_1.length c0_1, .slice A0_2 l0_2.length c0_2] 24 (0, 0)) (by (with_reducible repeat (first | refine blk_drewN ?_ _ | refine blk_drew ?_ | refine blk_alloc ?_ _)); exact BK287.out) hb); have n1_ := Aside0.mk (below_step (by repeat (first | (with_reducible first | exact HB.out | apply below_alloc | apply pw_below_drewN | apply below_drew1 | refine below_set ?_ GE287.out) | exact HB.out)) hb); have n2_ := Aside0.mk (hbox); have n3_ := Aside0.mk ((by rw [hg]; exact (below_size (by repeat (first | (with_reducible first | exact HB.out | apply below_alloc | apply pw_below_drewN | apply below_drew1 | refine below_set ?_ GE287.out) | exact HB.out))) : w.heap.size ≤ gb288)); have n4_ := Aside0.mk ((by rw [hg]; exact (below_size (by repeat (first | (with_reducible first | exact HB.out | apply below_alloc | apply pw_below_drewN | apply below_drew1 | refine below_set ?_ GE287.out) | exact HB.out))) : w.heap.size ≤ gb288)); have n5_ := Aside0.mk ((by rw [hg]; exact Nat.ne_of_lt (blk_lt (g := gb287) (o := .cells #[.int .i64 a0_0, .slice A0_1 l0_1.length c0_1, .slice A0_2 l0_2.length c0_2] 24 (0, 0)) (by (with_reducible repeat (first | refine blk_drewN ?_ _ | refine blk_drew ?_ | refine blk_alloc ?_ _)); exact BK287.out)) : gb287 ≠ gb288)); have n6_ := Aside0.mk ((by rw [hg]; exact Nat.ne_of_gt (blk_lt (g := gb287) (o := .cells #[.int .i64 a0_0, .slice A0_1 l0_1.length c0_1, .slice A0_2 l0_2.length c0_2] 24 (0, 0)) (by (with_reducible repeat (first | refine blk_drewN ?_ _ | refine blk_drew ?_ | refine blk_alloc ?_ _)); exact BK287.out)) : gb288 ≠ gb287)); clear BK287; clear HB; have BK287 := n0_; have HB := n1_; have BK288 := n2_; have GW288 := n3_; have GE288 := n4_; have NB287_288 := n5_; have NB288_287 := n6_; clear n0_ n1_ n2_ n3_ n4_ n5_ n6_; clear hb hbox hg; have hnb9 := NB287_288.out; have hnc9 := NB288_287.out; have hcz10_0 : w8.cell? ⟨gb287, 0, none⟩ = some (.int .i64 a0_0) := (blk_cell BK287.out 0).trans rfl; have hcz10_1 : w8.cell? ⟨gb287, 1, none⟩ = some (.slice A0_1 l0_1.length c0_1) := (blk_cell BK287.out 1).trans rfl; have hcz10_2 : w8.cell? ⟨gb287, 2, none⟩ = some (.slice A0_2 l0_2.length c0_2) := (blk_cell BK287.out 2).trans rfl; have hfz10_0 := blk_frozen BK287.out 0; have hfz10_1 := blk_frozen BK287.out 1; have hfz10_2 := blk_frozen BK287.out 2) | ((with_reducible refine gate_callee (f := 143) rfl ?_); refine goesL_ (some 16) rfl rfl Tryz.func143 (by kernel_rfl) rfl #[.agg #[.int .i64 a0_0, .slice A0_1 l0_1.length c0_1, .slice A0_2 l0_2.length c0_2], .int .i64 a3, .int .i64 a2] rfl (by (try simp only [List.map_toArray, List.map_cons, List.map_nil]); first | done | rfl | (simp only [List.length_drop, List.length_take]; rfl)) ?_; (with_reducible refine (curfewref10_Due.calls k a0_0 _ _ l0_1 _ _ l0_2 a3 a2 t289 t290 _ ?side1 ?side2 ?side3 ?side4 A5.out).mono ?_); (case side1 => repeat (first | exact (Kd.C_below HR0_1.out HB.out) | (with_reducible refine Kd.C_alloc ?_ _) | (with_reducible refine Kd.C_drewN ?_ _) | (with_reducible refine Kd.C_drew ?_))); (case side2 => exact HC0_1.out); (case side3 => repeat (first | exact (Kd.C_below HR0_2.out HB.out) | (with_reducible refine Kd.C_alloc ?_ _) | (with_reducible refine Kd.C_drewN ?_ _) | (with_reducible refine Kd.C_drew ?_))); (case side4 => exact HC0_2.out); rintro e w11 ⟨rfl, hb⟩; refine ⟨_, rfl, ?_⟩; have n0_ := Aside0.mk (blk_below (g := gb287) (o := .cells #[.int .i64 a0_0, .slice A0_1 l0_1.length c0_1, .slice A0_2 l0_2.length c0_2] 24 (0, 0)) (by (with_reducible repeat (first | refine blk_drewN ?_ _ | refine blk_drew ?_ | refine blk_alloc ?_ _)); exact BK287.out) hb); have n1_ := Aside0.mk (blk_below (g := gb288) (o := .cells #[.int .i64 0, .int .i64 0, .int .i64 0, .int .i64 0] 76 (0, 0)) (by (with_reducible repeat (first | refine blk_drewN ?_ _ | refine blk_drew ?_ | refine blk_alloc ?_ _)); exact BK288.out) hb); have n2_ := Aside0.mk (below_step (by repeat (first | (with_reducible first | exact HB.out | apply below_alloc | apply pw_below_drewN | apply below_drew1 | refine below_set ?_ GE287.out | refine below_set ?_ GE288.out) | exact HB.out)) hb); clear BK287; clear BK288; clear HB; have BK287 := n0_; have BK288 := n1_; have HB := n2_; clear n0_ n1_ n2_; (try clear hb); (try clear hb2); (try clear hk); (try clear hi); have hcz12_0 : w11.cell? ⟨gb288, 0, none⟩ = some (.int .i64 0) := (blk_cell BK288.out 0).trans rfl; have hcz12_1 : w11.cell? ⟨gb288, 1, none⟩ = some (.int .i64 0) := (blk_cell BK288.out 1).trans rfl; have hcz12_2 : w11.cell? ⟨gb288, 2, none⟩ = some (.int .i64 0) := (blk_cell BK288.out 2).trans rfl; have hcz12_3 : w11.cell? ⟨gb288, 3, none⟩ = some (.int .i64 0) := (blk_cell BK288.out 3).trans rfl; have hfz12_0 := blk_frozen BK288.out 0; have hfz12_1 := blk_frozen BK288.out 1; have hfz12_2 := blk_frozen BK288.out 2; have hfz12_3 := blk_frozen BK288.out 3))
    refine bodyPost_ret (results_ct rfl _ _ gb288 76 #[.int .i64 a1, .int .i64 a3, .int .i64 a2, .int .i64 t289] (0, 0) _ rfl (by (with_reducible repeat (first | refine blk_drewN ?_ _ | refine blk_drew ?_ | refine blk_alloc ?_ _)); refine blk_put (cs := #[.int .i64 a1, .int .i64 a3, .int .i64 a2, .int .i64 0]) ?_ 3 _ rfl; (with_reducible repeat (first | refine blk_drewN ?_ _ | refine blk_drew ?_ | refine blk_alloc ?_ _)); refine blk_put (cs := #[.int .i64 a1, .int .i64 a3, .int .i64 0, .int .i64 0]) ?_ 2 _ rfl; (with_reducible repeat (first | refine blk_drewN ?_ _ | refine blk_drew ?_ | refine blk_alloc ?_ _)); refine blk_put (cs := #[.int .i64 a1, .int .i64 0, .int .i64 0, .int .i64 0]) ?_ 1 _ rfl; (with_reducible repeat (first | refine blk_drewN ?_ _ | refine blk_drew ?_ | refine blk_alloc ?_ _)); refine blk_put (cs := #[.int .i64 0, .int .i64 0, .int .i64 0, .int .i64 0]) ?_ 0 _ rfl; (with_reducible repeat (first | refine blk_drewN ?_ _ | refine blk_drew ?_ | refine blk_alloc ?_ _)); exact BK288.out) Tryz.underlying76 rfl (by kernel_rfl)) rfl ?_
    exact ⟨by first | rfl | (simp [errW_none, errW_some] <;> rfl) | (simp [*, errW_none, errW_some] <;> rfl), by repeat (first | (with_reducible first | exact HB.out | apply below_alloc | apply pw_below_drewN | apply below_drew1 | refine below_set ?_ GE287.out | refine below_set ?_ GE288.out) | exact HB.out)⟩
  · rw [if_neg c6] at H
    have c6b0 : (t290 == 0) = false := beq_eq_false_iff_ne.mpr c6
    have c6b1 : (t290 != 0) = true := bne_iff_ne.mpr c6
    simp only [Option.some.injEq, Prod.mk.injEq] at H
    obtain ⟨rfl, rfl, rfl, rfl, rfl⟩ := H
    go_enter Tryz.func123, Tryz.ntmps123
    go_wp2_with (first | ((with_reducible refine gate_dst (N := 4) rfl ?_); refine box_event ?hg (N := 4) ?hd (cs := #[.int .i64 a0_0, .slice A0_1 l0_1.length c0_1, .slice A0_2 l0_2.length c0_2]) (t := 24) ?hr ?_; (case hd => rfl); (case hg => rfl); (case hr => first | (go_simp; done) | (go_simp; rfl)); intro gb287 hg w13 hbox hb; have n0_ := Aside0.mk (below_step (by repeat (first | (with_reducible first | exact HB.out | apply below_alloc | apply pw_below_drewN | apply below_drew1) | exact HB.out)) hb); have n1_ := Aside0.mk (hbox); have n2_ := Aside0.mk ((by rw [hg]; exact (below_size (by repeat (first | (with_reducible first | exact HB.out | apply below_alloc | apply pw_below_drewN | apply below_drew1) | exact HB.out))) : w.heap.size ≤ gb287)); have n3_ := Aside0.mk ((by rw [hg]; exact (below_size (by repeat (first | (with_reducible first | exact HB.out | apply below_alloc | apply pw_below_drewN | apply below_drew1) | exact HB.out))) : w.heap.size ≤ gb287)); clear HB; have HB := n0_; have BK287 := n1_; have GW287 := n2_; have GE287 := n3_; clear n0_ n1_ n2_ n3_; clear hb hbox hg) | ((with_reducible refine gate_dst (N := 8) rfl ?_); refine box_event ?hg (N := 8) ?hd (cs := #[.int .i64 0, .int .i64 0, .int .i64 0, .int .i64 0]) (t := 76) ?hr ?_; (case hd => rfl); (case hg => rfl); (case hr => first | (go_simp; done) | (go_simp; rfl)); intro gb288 hg w14 hbox hb; have n0_ := Aside0.mk (blk_below (g := gb287) (o := .cells #[.int .i64 a0_0, .slice A0_1 l0_1.length c0_1, .slice A0_2 l0_2.length c0_2] 24 (0, 0)) (by (with_reducible repeat (first | refine blk_drewN ?_ _ | refine blk_drew ?_ | refine blk_alloc ?_ _)); exact BK287.out) hb); have n1_ := Aside0.mk (below_step (by repeat (first | (with_reducible first | exact HB.out | apply below_alloc | apply pw_below_drewN | apply below_drew1 | refine below_set ?_ GE287.out) | exact HB.out)) hb); have n2_ := Aside0.mk (hbox); have n3_ := Aside0.mk ((by rw [hg]; exact (below_size (by repeat (first | (with_reducible first | exact HB.out | apply below_alloc | apply pw_below_drewN | apply below_drew1 | refine below_set ?_ GE287.out) | exact HB.out))) : w.heap.size ≤ gb288)); have n4_ := Aside0.mk ((by rw [hg]; exact (below_size (by repeat (first | (with_reducible first | exact HB.out | apply below_alloc | apply pw_below_drewN | apply below_drew1 | refine below_set ?_ GE287.out) | exact HB.out))) : w.heap.size ≤ gb288)); have n5_ := Aside0.mk ((by rw [hg]; exact Nat.ne_of_lt (blk_lt (g := gb287) (o := .cells #[.int .i64 a0_0, .slice A0_1 l0_1.length c0_1, .slice A0_2 l0_2.length c0_2] 24 (0, 0)) (by (with_reducible repeat (first | refine blk_drewN ?_ _ | refine blk_drew ?_ | refine blk_alloc ?_ _)); exact BK287.out)) : gb287 ≠ gb288)); have n6_ := Aside0.mk ((by rw [hg]; exact Nat.ne_of_gt (blk_lt (g := gb287) (o := .cells #[.int .i64 a0_0, .slice A0_1 l0_1.length c0_1, .slice A0_2 l0_2.length c0_2] 24 (0, 0)) (by (with_reducible repeat (first | refine blk_drewN ?_ _ | refine blk_drew ?_ | refine blk_alloc ?_ _)); exact BK287.out)) : gb288 ≠ gb287)); clear BK287; clear HB; have BK287 := n0_; have HB := n1_; have BK288 := n2_; have GW288 := n3_; have GE288 := n4_; have NB287_288 := n5_; have NB288_287 := n6_; clear n0_ n1_ n2_ n3_ n4_ n5_ n6_; clear hb hbox hg; have hnb15 := NB287_288.out; have hnc15 := NB288_287.out; have hcz16_0 : w14.cell? ⟨gb287, 0, none⟩ = some (.int .i64 a0_0) := (blk_cell BK287.out 0).trans rfl; have hcz16_1 : w14.cell? ⟨gb287, 1, none⟩ = some (.slice A0_1 l0_1.length c0_1) := (blk_cell BK287.out 1).trans rfl; have hcz16_2 : w14.cell? ⟨gb287, 2, none⟩ = some (.slice A0_2 l0_2.length c0_2) := (blk_cell BK287.out 2).trans rfl; have hfz16_0 := blk_frozen BK287.out 0; have hfz16_1 := blk_frozen BK287.out 1; have hfz16_2 := blk_frozen BK287.out 2) | ((with_reducible refine gate_callee (f := 143) rfl ?_); refine goesL_ (some 16) rfl rfl Tryz.func143 (by kernel_rfl) rfl #[.agg #[.int .i64 a0_0, .slice A0_1 l0_1.length c0_1, .slice A0_2 l0_2.length c0_2], .int .i64 a3, .int .i64 a2] rfl (by (try simp only [List.map_toArray, List.map_cons, List.map_nil]); first | done | rfl | (simp only [List.length_drop, List.length_take]; rfl)) ?_; (with_reducible refine (curfewref10_Due.calls k a0_0 _ _ l0_1 _ _ l0_2 a3 a2 t289 t290 _ ?side1 ?side2 ?side3 ?side4 A5.out).mono ?_); (case side1 => repeat (first | exact (Kd.C_below HR0_1.out HB.out) | (with_reducible refine Kd.C_alloc ?_ _) | (with_reducible refine Kd.C_drewN ?_ _) | (with_reducible refine Kd.C_drew ?_))); (case side2 => exact HC0_1.out); (case side3 => repeat (first | exact (Kd.C_below HR0_2.out HB.out) | (with_reducible refine Kd.C_alloc ?_ _) | (with_reducible refine Kd.C_drewN ?_ _) | (with_reducible refine Kd.C_drew ?_))); (case side4 => exact HC0_2.out); rintro e w17 ⟨rfl, hb⟩; refine ⟨_, rfl, ?_⟩; have n0_ := Aside0.mk (blk_below (g := gb287) (o := .cells #[.int .i64 a0_0, .slice A0_1 l0_1.length c0_1, .slice A0_2 l0_2.length c0_2] 24 (0, 0)) (by (with_reducible repeat (first | refine blk_drewN ?_ _ | refine blk_drew ?_ | refine blk_alloc ?_ _)); exact BK287.out) hb); have n1_ := Aside0.mk (blk_below (g := gb288) (o := .cells #[.int .i64 0, .int .i64 0, .int .i64 0, .int .i64 0] 76 (0, 0)) (by (with_reducible repeat (first | refine blk_drewN ?_ _ | refine blk_drew ?_ | refine blk_alloc ?_ _)); exact BK288.out) hb); have n2_ := Aside0.mk (below_step (by repeat (first | (with_reducible first | exact HB.out | apply below_alloc | apply pw_below_drewN | apply below_drew1 | refine below_set ?_ GE287.out | refine below_set ?_ GE288.out) | exact HB.out)) hb); clear BK287; clear BK288; clear HB; have BK287 := n0_; have BK288 := n1_; have HB := n2_; clear n0_ n1_ n2_; (try clear hb); (try clear hb2); (try clear hk); (try clear hi); have hcz18_0 : w17.cell? ⟨gb288, 0, none⟩ = some (.int .i64 0) := (blk_cell BK288.out 0).trans rfl; have hcz18_1 : w17.cell? ⟨gb288, 1, none⟩ = some (.int .i64 0) := (blk_cell BK288.out 1).trans rfl; have hcz18_2 : w17.cell? ⟨gb288, 2, none⟩ = some (.int .i64 0) := (blk_cell BK288.out 2).trans rfl; have hcz18_3 : w17.cell? ⟨gb288, 3, none⟩ = some (.int .i64 0) := (blk_cell BK288.out 3).trans rfl; have hfz18_0 := blk_frozen BK288.out 0; have hfz18_1 := blk_frozen BK288.out 1; have hfz18_2 := blk_frozen BK288.out 2; have hfz18_3 := blk_frozen BK288.out 3))
    refine bodyPost_ret (results_ct rfl _ _ gb288 76 #[.int .i64 0, .int .i64 0, .int .i64 0, .int .i64 0] (0, 0) _ rfl (by (with_reducible repeat (first | refine blk_drewN ?_ _ | refine blk_drew ?_ | refine blk_alloc ?_ _)); refine blk_put (cs := #[.int .i64 0, .int .i64 0, .int .i64 0, .int .i64 0]) ?_ 3 _ rfl; (with_reducible repeat (first | refine blk_drewN ?_ _ | refine blk_drew ?_ | refine blk_alloc ?_ _)); refine blk_put (cs := #[.int .i64 0, .int .i64 0, .int .i64 0, .int .i64 0]) ?_ 2 _ rfl; (with_reducible repeat (first | refine blk_drewN ?_ _ | refine blk_drew ?_ | refine blk_alloc ?_ _)); refine blk_put (cs := #[.int .i64 0, .int .i64 0, .int .i64 0, .int .i64 0]) ?_ 1 _ rfl; (with_reducible repeat (first | refine blk_drewN ?_ _ | refine blk_drew ?_ | refine blk_alloc ?_ _)); refine blk_put (cs := #[.int .i64 0, .int .i64 0, .int .i64 0, .int .i64 0]) ?_ 0 _ rfl; (with_reducible repeat (first | refine blk_drewN ?_ _ | refine blk_drew ?_ | refine blk_alloc ?_ _)); exact BK288.out) Tryz.underlying76 rfl (by kernel_rfl)) rfl ?_
    exact ⟨by first | rfl | (simp [errW_none, errW_some] <;> rfl) | (simp [*, errW_none, errW_some] <;> rfl), by repeat (first | (with_reducible first | exact HB.out | apply below_alloc | apply pw_below_drewN | apply below_drew1 | refine below_set ?_ GE287.out | refine below_set ?_ GE288.out) | exact HB.out)⟩
end Go.Proofs.YtepldlnmeenlbaaGreat.Base
namespace Go.Proofs.YtepldlnmeenlbaaGreat.Base
open Go.RowKit Go.Proofs.YtepldlnmeenlbaaGreatW.PrintWords Go.Proofs.YtepldlnmeenlbaaGreatW.PrintLast Go.Proofs.YtepldlnmeenlbaaGreatW.PrintMore
attribute [local go_sem] max2_int min2_int max_two min_two max_three min_three max_four min_four   -- for this text's walks alone
def curfewref15_First.f (k : Nat) (a0_0 : Int) (l0_1 : List (S114)) (l0_2 : List (S114)) (a1_0 : Int) (l1_1 : List (S71)) (a1_2 : Int) (a1_3 : Int) (a2 : Int) : Option (Int × Int × Int × Int × Int) := (curfewref14_Good.f k a1_0 l1_1 a1_2 a1_3).bind fun t294 => (if t294 = true then (if 0 < (l1_1.length : Int) then ((curfewref15_begin.f k a0_0 l0_1 l0_2 0 ((rd_T71 l1_1 0).f0) a2).bind fun bt296 => (some (bt296.1, bt296.2.1, bt296.2.2.1, bt296.2.2.2.1, bt296.2.2.2.2))) else (none)) else (some (0, 0, 0, 0, 2)))
theorem curfewref15_First.mono : ∀ a0 a1 a2 a3 a4 a5 a6 a7 k, LeO (curfewref15_First.f k a0 a1 a2 a3 a4 a5 a6 a7) (curfewref15_First.f (k + 1) a0 a1 a2 a3 a4 a5 a6 a7) := by
  intro a0 a1 a2 a3 a4 a5 a6 a7 k
  unfold curfewref15_First.f
  repeat' first
      | (with_reducible exact curfewref14_Good.mono _ _ _ _ _)
      | (with_reducible exact curfewref15_begin.mono _ _ _ _ _ _ _)
      | (with_reducible exact LeO.refl _)
      | (with_reducible exact LeO.none _)
      | (with_reducible refine LeO.ite ?_ ?_)
      | (with_reducible refine LeO.bind ?_ (fun _ => ?_))
      | exact curfewref14_Good.mono _ _ _ _ _
      | exact curfewref15_begin.mono _ _ _ _ _ _ _
      | exact LeO.none _
      | refine LeO.ite ?_ ?_
      | refine LeO.bind ?_ (fun _ => ?_)
def curfewref15_First.T3 : Bool × List (List Nat × List Nat) := (true, [([], []), ([], []), ([1], [1]), ([2], [2]), ([3], [3]), ([4], [4]), ([], []), ([0, 5, 6], [0, 5, 6]), ([7], [7]), ([7], [7]), ([8, 7, 0, 1, 2, 3, 4, 5, 6, 7, 8, 9], [8]), ([9, 10, 0, 1, 2, 3, 4, 5, 6, 7, 8, 9, 10], [9])])
def curfewref15_First.B3 : List Nat := [0, 0, 2, 6, 14, 30, 0, 127, 255, 255, 1023, 2047]
theorem curfewref15_First.tab3 : rtab .any (opsOf Tryz.f84 3) = curfewref15_First.T3 := by kernel_rfl
theorem curfewref15_First.bits3 : waitsOk curfewref15_First.T3.2 curfewref15_First.B3 = true := by kernel_rfl
set_option maxHeartbeats 8000000 in
set_option maxRecDepth 100000 in
theorem curfewref15_First.calls (k : Nat) (a0_0 : Int) (A0_1 : Option Addr) (c0_1 : Nat) (l0_1 : List (S114)) (A0_2 : Option Addr) (c0_2 : Nat) (l0_2 : List (S114)) (a1_0 : Int) (A1_1 : Option Addr) (c1_1 : Nat) (l1_1 : List (S71)) (a1_2 : Int) (a1_3 : Int) (a2 : Int) (r1 : Int) (r2 : Int) (r3 : Int) (r4 : Int) (r5 : Int) (w : World) (hr0_1 : Kd.C k114 w A0_1 l0_1.length l0_1) (hc0_1 : l0_1.length ≤ c0_1) (hr0_2 : Kd.C k114 w A0_2 l0_2.length l0_2) (hc0_2 : l0_2.length ≤ c0_2) (hr1_1 : Kd.C k71 w A1_1 l1_1.length l1_1) (hc1_1 : l1_1.length ≤ c1_1) (h : curfewref15_First.f k a0_0 l0_1 l0_2 a1_0 l1_1 a1_2 a1_3 a2 = some (r1, r2, r3, r4, r5)) :
    Calls Tryz.prog 84 #[.agg #[.int .i64 a0_0, .slice A0_1 l0_1.length c0_1, .slice A0_2 l0_2.length c0_2], .agg #[.int .i64 a1_0, .slice A1_1 l1_1.length c1_1, .int .i64 a1_2, .int .i64 a1_3], .int .i64 a2] w fun e w' => e = .returned (.tuple #[.agg #[.int .i64 r1, .int .i64 r2, .int .i64 r3, .int .i64 r4], .int .i64 r5]) ∧ Below w.heap.size w w' := by
  have hu24 := Tryz.underlying24
  have hu48 := Tryz.underlying48
  have hu76 := Tryz.underlying76
  have HR0_1 := Aside0.mk hr0_1
  have HC0_1 := Aside0.mk hc0_1
  clear hr0_1 hc0_1
  have HR0_2 := Aside0.mk hr0_2
  have HC0_2 := Aside0.mk hc0_2
  clear hr0_2 hc0_2
  have HR1_1 := Aside0.mk hr1_1
  have HC1_1 := Aside0.mk hc1_1
  clear hr1_1 hc1_1
  have HB := Aside0.mk (Below.refl w.heap.size w)
  have H : ((curfewref14_Good.f k a1_0 l1_1 a1_2 a1_3).bind fun t294 => (if t294 = true then (if 0 < (l1_1.length : Int) then ((curfewref15_begin.f k a0_0 l0_1 l0_2 0 ((rd_T71 l1_1 0).f0) a2).bind fun bt296 => (some (bt296.1, bt296.2.1, bt296.2.2.1, bt296.2.2.2.1, bt296.2.2.2.2))) else (none)) else (some (0, 0, 0, 0, 2)))) = some (r1, r2, r3, r4, r5) := h
  clear h
  replace H := Option.bind_eq_some_iff.mp H
  obtain ⟨t294, A40, H⟩ := H
  replace H : (if t294 = true then (if 0 < (l1_1.length : Int) then ((curfewref15_begin.f k a0_0 l0_1 l0_2 0 ((rd_T71 l1_1 0).f0) a2).bind fun bt296 => (some (bt296.1, bt296.2.1, bt296.2.2.1, bt296.2.2.2.1, bt296.2.2.2.2))) else (none)) else (some (0, 0, 0, 0, 2))) = some (r1, r2, r3, r4, r5) := H
  have A4 := Aside0.mk A40
  clear A40
  by_cases c5 : t294 = true
  · subst c5
    have H1 : (if 0 < (l1_1.length : Int) then ((curfewref15_begin.f k a0_0 l0_1 l0_2 0 ((rd_T71 l1_1 0).f0) a2).bind fun bt296 => (some (bt296.1, bt296.2.1, bt296.2.2.1, bt296.2.2.2.1, bt296.2.2.2.2))) else (none)) = some (r1, r2, r3, r4, r5) := by rw [if_pos rfl] at H; exact H
    clear H
    have H := H1
    clear H1
    by_cases c6 : 0 < (l1_1.length : Int)
    · rw [if_pos c6] at H
      have c6b0 : decide (0 < (l1_1.length : Int)) = true := decide_eq_true c6
      have c6b1 : decide (0 < l1_1.length) = true := decide_eq_true (by omega)
      clear c6
      replace H := Option.bind_eq_some_iff.mp H
      obtain ⟨⟨t296, t297, t298, t299, t300⟩, A70, H⟩ := H
      replace H : (some (t296, t297, t298, t299, t300)) = some (r1, r2, r3, r4, r5) := H
      have A7 := Aside0.mk A70
      clear A70
      simp only [Option.some.injEq, Prod.mk.injEq] at H
      obtain ⟨rfl, rfl, rfl, rfl, rfl⟩ := H
      go_enter Tryz.func84, Tryz.ntmps84
      try go_wp2_with (first | ((with_reducible refine gate_dst (N := 3) rfl ?_); refine box_event ?hg (N := 3) ?hd (cs := #[.int .i64 a0_0, .slice A0_1 l0_1.length c0_1, .slice A0_2 l0_2.length c0_2]) (t := 24) ?hr ?_; (case hd => rfl); (case hg => rfl); (case hr => first | (go_simp; done) | (go_simp; rfl)); intro gb291 hg w8 hbox hb; have n0_ := Aside0.mk (below_step (by repeat (first | (with_reducible first | exact HB.out | apply below_alloc | apply pw_below_drewN | apply below_drew1) | exact HB.out)) hb); have n1_ := Aside0.mk (hbox); have n2_ := Aside0.mk ((by rw [hg]; exact (below_size (by repeat (first | (with_reducible first | exact HB.out | apply below_alloc | apply pw_below_drewN | apply below_drew1) | exact HB.out))) : w.heap.size ≤ gb291)); have n3_ := Aside0.mk ((by rw [hg]; exact (below_size (by repeat (first | (with_reducible first | exact HB.out | apply below_alloc | apply pw_below_drewN | apply below_drew1) | exact HB.out))) : w.heap.size ≤ gb291)); clear HB; have HB := n0_; have BK291 := n1_; have GW291 := n2_; have GE291 := n3_; clear n0_ n1_ n2_ n3_; clear hb hbox hg) | ((with_reducible refine gate_dst (N := 4) rfl ?_); refine box_event ?hg (N := 4) ?hd (cs := #[.int .i64 a1_0, .slice A1_1 l1_1.length c1_1, .int .i64 a1_2, .int .i64 a1_3]) (t := 48) ?hr ?_; (case hd => rfl); (case hg => rfl); (case hr => first | (go_simp; done) | (go_simp; rfl)); intro gb292 hg w9 hbox hb; have n0_ := Aside0.mk (blk_below (g := gb291) (o := .cells #[.int .i64 a0_0, .slice A0_1 l0_1.length c0_1, .slice A0_2 l0_2.length c0_2] 24 (0, 0)) (by (with_reducible repeat (first | refine blk_drewN ?_ _ | refine blk_drew ?_ | refine blk_alloc ?_ _)); exact BK291.out) hb); have n1_ := Aside0.mk (below_step (by repeat (first | (with_reducible first | exact HB.out | apply below_alloc | apply pw_below_drewN | apply below_drew1 | refine below_set ?_ GE291.out) | exact HB.out)) hb); have n2_ := Aside0.mk (hbox); have n3_ := Aside0.mk ((by rw [hg]; exact (below_size (by repeat (first | (with_reducible first | exact HB.out | apply below_alloc | apply pw_below_drewN | apply below_drew1 | refine below_set ?_ GE291.out) | exact HB.out))) : w.heap.size ≤ gb292)); have n4_ := Aside0.mk ((by rw [hg]; exact (below_size (by repeat (first | (with_reducible first | exact HB.out | apply below_alloc | apply pw_below_drewN | apply below_drew1 | refine below_set ?_ GE291.out) | exact HB.out))) : w.heap.size ≤ gb292)); have n5_ := Aside0.mk ((by rw [hg]; exact Nat.ne_of_lt (blk_lt (g := gb291) (o := .cells #[.int .i64 a0_0, .slice A0_1 l0_1.length c0_1, .slice A0_2 l0_2.length c0_2] 24 (0, 0)) (by (with_reducible repeat (first | refine blk_drewN ?_ _ | refine blk_drew ?_ | refine blk_alloc ?_ _)); exact BK291.out)) : gb291 ≠ gb292)); have n6_ := Aside0.mk ((by rw [hg]; exact Nat.ne_of_gt (blk_lt (g := gb291) (o := .cells #[.int .i64 a0_0, .slice A0_1 l0_1.length c0_1, .slice A0_2 l0_2.length c0_2] 24 (0, 0)) (by (with_reducible repeat (first | refine blk_drewN ?_ _ | refine blk_drew ?_ | refine blk_alloc ?_ _)); exact BK291.out)) : gb292 ≠ gb291)); clear BK291; clear HB; have BK291 := n0_; have HB := n1_; have BK292 := n2_; have GW292 := n3_; have GE292 := n4_; have NB291_292 := n5_; have NB292_291 := n6_; clear n0_ n1_ n2_ n3_ n4_ n5_ n6_; clear hb hbox hg) | ((with_reducible refine gate_dst (N := 6) rfl ?_); refine box_event ?hg (N := 6) ?hd (cs := #[.int .i64 0, .int .i64 0, .int .i64 0, .int .i64 0]) (t := 76) ?hr ?_; (case hd => rfl); (case hg => rfl); (case hr => first | (go_simp; done) | (go_simp; rfl)); intro gb293 hg w10 hbox hb; have n0_ := Aside0.mk (blk_below (g := gb291) (o := .cells #[.int .i64 a0_0, .slice A0_1 l0_1.length c0_1, .slice A0_2 l0_2.length c0_2] 24 (0, 0)) (by (with_reducible repeat (first | refine blk_drewN ?_ _ | refine blk_drew ?_ | refine blk_alloc ?_ _)); exact BK291.out) hb); have n1_ := Aside0.mk (blk_below (g := gb292) (o := .cells #[.int .i64 a1_0, .slice A1_1 l1_1.length c1_1, .int .i64 a1_2, .int .i64 a1_3] 48 (0, 0)) (by (with_reducible repeat (first | refine blk_drewN ?_ _ | refine blk_drew ?_ | refine blk_alloc ?_ _)); exact BK292.out) hb); have n2_ := Aside0.mk (below_step (by repeat (first | (with_reducible first | exact HB.out | apply below_alloc | apply pw_below_drewN | apply below_drew1 | refine below_set ?_ GE291.out | refine below_set ?_ GE292.out) | exact HB.out)) hb); have n3_ := Aside0.mk (hbox); have n4_ := Aside0.mk ((by rw [hg]; exact (below_size (by repeat (first | (with_reducible first | exact HB.out | apply below_alloc | apply pw_below_drewN | apply below_drew1 | refine below_set ?_ GE291.out | refine below_set ?_ GE292.out) | exact HB.out))) : w.heap.size ≤ gb293)); have n5_ := Aside0.mk ((by rw [hg]; exact (below_size (by repeat (first | (with_reducible first | exact HB.out | apply below_alloc | apply pw_below_drewN | apply below_drew1 | refine below_set ?_ GE291.out | refine below_set ?_ GE292.out) | exact HB.out))) : w.heap.size ≤ gb293)); have n6_ := Aside0.mk ((by rw [hg]; exact Nat.ne_of_lt (blk_lt (g := gb291) (o := .cells #[.int .i64 a0_0, .slice A0_1 l0_1.length c0_1, .slice A0_2 l0_2.length c0_2] 24 (0, 0)) (by (with_reducible repeat (first | refine blk_drewN ?_ _ | refine blk_drew ?_ | refine blk_alloc ?_ _)); exact BK291.out)) : gb291 ≠ gb293)); have n7_ := Aside0.mk ((by rw [hg]; exact Nat.ne_of_gt (blk_lt (g := gb291) (o := .cells #[.int .i64 a0_0, .slice A0_1 l0_1.length c0_1, .slice A0_2 l0_2.length c0_2] 24 (0, 0)) (by (with_reducible repeat (first | refine blk_drewN ?_ _ | refine blk_drew ?_ | refine blk_alloc ?_ _)); exact BK291.out)) : gb293 ≠ gb291)); have n8_ := Aside0.mk ((by rw [hg]; exact Nat.ne_of_lt (blk_lt (g := gb292) (o := .cells #[.int .i64 a1_0, .slice A1_1 l1_1.length c1_1, .int .i64 a1_2, .int .i64 a1_3] 48 (0, 0)) (by (with_reducible repeat (first | refine blk_drewN ?_ _ | refine blk_drew ?_ | refine blk_alloc ?_ _)); exact BK292.out)) : gb292 ≠ gb293)); have n9_ := Aside0.mk ((by rw [hg]; exact Nat.ne_of_gt (blk_lt (g := gb292) (o := .cells #[.int .i64 a1_0, .slice A1_1 l1_1.length c1_1, .int .i64 a1_2, .int .i64 a1_3] 48 (0, 0)) (by (with_reducible repeat (first | refine blk_drewN ?_ _ | refine blk_drew ?_ | refine blk_alloc ?_ _)); exact BK292.out)) : gb293 ≠ gb292)); clear BK291; clear BK292; clear HB; have BK291 := n0_; have BK292 := n1_; have HB := n2_; have BK293 := n3_; have GW293 := n4_; have GE293 := n5_; have NB291_293 := n6_; have NB293_291 := n7_; have NB292_293 := n8_; have NB293_292 := n9_; clear n0_ n1_ n2_ n3_ n4_ n5_ n6_ n7_ n8_ n9_; clear hb hbox hg; have hnb11 := NB292_291.out; have hnc11 := NB291_292.out; have hnb12 := NB292_293.out; have hnc12 := NB293_292.out; have hcz13_0 : w10.cell? ⟨gb292, 0, none⟩ = some (.int .i64 a1_0) := (blk_cell BK292.out 0).trans rfl; have hcz13_1 : w10.cell? ⟨gb292, 1, none⟩ = some (.slice A1_1 l1_1.length c1_1) := (blk_cell BK292.out 1).trans rfl; have hcz13_2 : w10.cell? ⟨gb292, 2, none⟩ = some (.int .i64 a1_2) := (blk_cell BK292.out 2).trans rfl; have hcz13_3 : w10.cell? ⟨gb292, 3, none⟩ = some (.int .i64 a1_3) := (blk_cell BK292.out 3).trans rfl; have hfz13_0 := blk_frozen BK292.out 0; have hfz13_1 := blk_frozen BK292.out 1; have hfz13_2 := blk_frozen BK292.out 2; have hfz13_3 := blk_frozen BK292.out 3) | ((with_reducible refine gate_callee (f := 25) rfl ?_); refine goesL_ (some 9) rfl rfl Tryz.func25 (by kernel_rfl) rfl #[.agg #[.int .i64 a1_0, .slice A1_1 l1_1.length c1_1, .int .i64 a1_2, .int .i64 a1_3]] rfl (by (try simp only [List.map_toArray, List.map_cons, List.map_nil]); first | done | rfl | (simp only [List.length_drop, List.length_take]; rfl)) ?_; (with_reducible refine (curfewref14_Good.calls k a1_0 _ _ l1_1 a1_2 a1_3 true _ ?side1 ?side2 A4.out).mono ?_); (case side1 => repeat (first | exact (Kd.C_below HR1_1.out HB.out) | (with_reducible refine Kd.C_alloc ?_ _) | (with_reducible refine Kd.C_drewN ?_ _) | (with_reducible refine Kd.C_drew ?_))); (case side2 => exact HC1_1.out); rintro e w14 ⟨rfl, hb⟩; refine ⟨_, rfl, ?_⟩; have n0_ := Aside0.mk (blk_below (g := gb291) (o := .cells #[.int .i64 a0_0, .slice A0_1 l0_1.length c0_1, .slice A0_2 l0_2.length c0_2] 24 (0, 0)) (by (with_reducible repeat (first | refine blk_drewN ?_ _ | refine blk_drew ?_ | refine blk_alloc ?_ _)); exact BK291.out) hb); have n1_ := Aside0.mk (blk_below (g := gb292) (o := .cells #[.int .i64 a1_0, .slice A1_1 l1_1.length c1_1, .int .i64 a1_2, .int .i64 a1_3] 48 (0, 0)) (by (with_reducible repeat (first | refine blk_drewN ?_ _ | refine blk_drew ?_ | refine blk_alloc ?_ _)); exact BK292.out) hb); have n2_ := Aside0.mk (blk_below (g := gb293) (o := .cells #[.int .i64 0, .int .i64 0, .int .i64 0, .int .i64 0] 76 (0, 0)) (by (with_reducible repeat (first | refine blk_drewN ?_ _ | refine blk_drew ?_ | refine blk_alloc ?_ _)); exact BK293.out) hb); have n3_ := Aside0.mk (below_step (by repeat (first | (with_reducible first | exact HB.out | apply below_alloc | apply pw_below_drewN | apply below_drew1 | refine below_set ?_ GE291.out | refine below_set ?_ GE292.out | refine below_set ?_ GE293.out) | exact HB.out)) hb); clear BK291; clear BK292; clear BK293; clear HB; have BK291 := n0_; have BK292 := n1_; have BK293 := n2_; have HB := n3_; clear n0_ n1_ n2_ n3_; (try clear hb); (try clear hb2); (try clear hk); (try clear hi)))
      have n0_ := Aside0.mk (blk_drew BK291.out)
      have n1_ := Aside0.mk (blk_drew BK292.out)
      have n2_ := Aside0.mk (blk_drew BK293.out)
      have n3_ := Aside0.mk (below_drew1 HB.out)
      clear BK291
      clear BK292
      clear BK293
      clear HB
      have BK291 := n0_
      have BK292 := n1_
      have BK293 := n2_
      have HB := n3_
      clear n0_ n1_ n2_ n3_
      have p295 : 0 ≤ (0 : Int) := (by omega)
      have q295 : 0 < (l1_1.length : Int) := of_decide_eq_true (by first | (with_reducible assumption) | assumption)
      obtain ⟨ad295, e295, hx295_0, hx295_1⟩ := at_T71 HR1_1.out 0 p295 q295
      have hw295_1 := hx295_1
      (try rw [show ((0 : Int)).toNat = 0 from rfl] at hw295_1)
      (try rw [show 0 * 2 = 0 from rfl] at hw295_1)
      (try rw [Addr.add_zero'] at hw295_1)
      have hw295_0 := hx295_0
      (try rw [show ((0 : Int)).toNat = 0 from rfl] at hw295_0)
      (try rw [show 0 * 2 = 0 from rfl] at hw295_0)
      (try rw [Addr.add_zero'] at hw295_0)
      cases e295
      have qi295 : (0 < l1_1.length) = True := eq_true (by omega)
      (try rw [show ((0 : Int)).toNat = 0 from rfl] at hx295_0)
      (try rw [show 0 * 2 = 0 from rfl] at hx295_0)
      (try rw [Addr.add_zero'] at hx295_0)
      (try rw [show ((0 : Int)).toNat = 0 from rfl] at hx295_1)
      (try rw [show 0 * 2 = 0 from rfl] at hx295_1)
      (try rw [Addr.add_zero'] at hx295_1)
      replace hx295_0 := (HB.out.cell (World.block_lt_of_cell? w _ hx295_0)).trans hx295_0
      replace hx295_1 := (HB.out.cell (World.block_lt_of_cell? w _ hx295_1)).trans hx295_1
      replace p295 := eq_true p295
      replace q295 := eq_true q295
      refine start_ (n := 12) (S := fun w' => w'.cell? ⟨gb291, 0, none⟩ = some (.int .i64 a0_0) ∧ w'.cell? ⟨gb291, 1, none⟩ = some (.slice A0_1 l0_1.length c0_1) ∧ w'.cell? ⟨gb291, 2, none⟩ = some (.slice A0_2 l0_2.length c0_2) ∧ w'.cell? ⟨gb292, 0, none⟩ = some (.int .i64 a1_0) ∧ w'.cell? ⟨gb292, 1, none⟩ = some (.slice (some ad295) l1_1.length c1_1) ∧ w'.cell? ⟨gb292, 2, none⟩ = some (.int .i64 a1_2) ∧ w'.cell? ⟨gb292, 3, none⟩ = some (.int .i64 a1_3) ∧ w'.cell? ad295 = some (.int .i64 ((rd_T71 l1_1 0).f0)) ∧ w'.cell? ⟨ad295.block, ad295.off + 1, none⟩ = some (.int .i64 ((rd_T71 l1_1 0).f1))) (ds := []) #[false, false, false, false, false, false, false, false, false, false, false, false] (by kernel_rfl) rfl rfl ⟨(blk_cell BK291.out 0).trans rfl, (blk_cell BK291.out 1).trans rfl, (blk_cell BK291.out 2).trans rfl, (blk_cell BK292.out 0).trans rfl, (blk_cell BK292.out 1).trans rfl, (blk_cell BK292.out 2).trans rfl, (blk_cell BK292.out 3).trans rfl, ((HB.out.cell (World.block_lt_of_cell? w _ hw295_0)).trans hw295_0), ((HB.out.cell (World.block_lt_of_cell? w _ hw295_1)).trans hw295_1)⟩ (fun hHeld => ?_); refine with_tabW curfewref15_First.tab3 curfewref15_First.bits3 (fun HT_ HW_ => ?_)
      generalize w14.drew = w15 at BK291 BK292 BK293 HB hx295_0 hx295_1 hHeld ⊢
      refine pure_ (i := 1) (N := some 13) (v := ?_) (a' := ?_) #[false, true, false, false, false, false, false, false, false, false, false, false] rfl rfl (any_of HT_.out (by kernel_rfl)) (fun _ _ _ h => h) (Or.inl ⟨by rfl, ?_⟩) ?_ ?_
      rotate_left
      · intro w'
        go_simp
        with_reducible rfl
      rotate_left
      · simp only [Act.put, List.setIfInBounds_toArray, List.set_cons_zero, List.set_cons_succ, i64_w, i32_w]
        rfl
      refine pure_ (i := 6) (N := some 18) (v := ?_) (a' := ?_) #[false, true, false, false, false, false, true, false, false, false, false, false] rfl rfl (any_of HT_.out (by kernel_rfl)) (fun _ _ _ h => h) (Or.inl ⟨by rfl, ?_⟩) ?_ ?_
      rotate_left
      · intro w'
        go_simp
        with_reducible rfl
      rotate_left
      · simp only [Act.put, List.setIfInBounds_toArray, List.set_cons_zero, List.set_cons_succ, i64_w, i32_w]
        rfl
      refine take_ (i := 0) (N := some 12) (v := ?_) (a' := ?_) #[true, true, false, false, false, false, true, false, false, false, false, false] rfl rfl (take_ofW HT_.out HW_.out (by kernel_rfl)) (fun _ _ _ h => h) (Or.inl ⟨by rfl, ?_⟩) hHeld ?_ ?_
      rotate_left
      · rintro w' ⟨s0, s1, s2, s3, s4, s5, s6, s7, s8⟩
        go_simp
        with_reducible rfl
      rotate_left
      · simp only [Act.put, List.setIfInBounds_toArray, List.set_cons_zero, List.set_cons_succ, i64_w, i32_w]
        rfl
      refine take_ (i := 2) (N := some 14) (v := ?_) (a' := ?_) #[true, true, true, false, false, false, true, false, false, false, false, false] rfl rfl (take_ofW HT_.out HW_.out (by kernel_rfl)) (fun _ _ _ h => h) (Or.inl ⟨by rfl, ?_⟩) hHeld ?_ ?_
      rotate_left
      · rintro w' ⟨s0, s1, s2, s3, s4, s5, s6, s7, s8⟩
        go_simp
        with_reducible rfl
      rotate_left
      · simp only [Act.put, List.setIfInBounds_toArray, List.set_cons_zero, List.set_cons_succ, i64_w, i32_w]
        rfl
      refine pure_ (i := 3) (N := some 15) (v := ?_) (a' := ?_) #[true, true, true, true, false, false, true, false, false, false, false, false] rfl rfl (any_of HT_.out (by kernel_rfl)) (fun _ _ _ h => h) (Or.inl ⟨by rfl, ?_⟩) ?_ ?_
      rotate_left
      · intro w'
        go_simp
        with_reducible rfl
      rotate_left
      · simp only [Act.put, List.setIfInBounds_toArray, List.set_cons_zero, List.set_cons_succ, i64_w, i32_w]
        rfl
      refine pure_ (i := 4) (N := some 16) (v := ?_) (a' := ?_) #[true, true, true, true, true, false, true, false, false, false, false, false] rfl rfl (any_of HT_.out (by kernel_rfl)) (fun _ _ _ h => h) (Or.inl ⟨by rfl, ?_⟩) ?_ ?_
      rotate_left
      · intro w'
        go_simp
        with_reducible rfl
      rotate_left
      · simp only [Act.put, List.setIfInBounds_toArray, List.set_cons_zero, List.set_cons_succ, i64_w, i32_w]
        rfl
      refine take_ (i := 5) (N := some 17) (v := ?_) (a' := ?_) #[true, true, true, true, true, true, true, false, false, false, false, false] rfl rfl (take_ofW HT_.out HW_.out (by kernel_rfl)) (fun _ _ _ h => h) (Or.inl ⟨by rfl, ?_⟩) hHeld ?_ ?_
      rotate_left
      · rintro w' ⟨s0, s1, s2, s3, s4, s5, s6, s7, s8⟩
        go_simp
        with_reducible rfl
      rotate_left
      · simp only [Act.put, List.setIfInBounds_toArray, List.set_cons_zero, List.set_cons_succ, i64_w, i32_w]
        rfl
      refine one_ (i := 7) (N := some 19) #[true, true, true, true, true, true, true, true, false, false, false, false] rfl rfl (one_of HT_.out (by kernel_rfl)) (by decide) (fun K hK => ?_)
      refine goes_ Tryz.func123 (by kernel_rfl) rfl #[.agg #[.int .i64 a0_0, .slice A0_1 l0_1.length c0_1, .slice A0_2 l0_2.length c0_2], .int .i64 0, .int .i64 ((rd_T71 l1_1 0).f0), .int .i64 a2] (by rfl) rfl rfl (by (try simp only [List.map_toArray, List.map_cons, List.map_nil]); first | done | rfl | (simp only [List.length_drop, List.length_take]; rfl)) ?_
      with_reducible refine (curfewref15_begin.calls k a0_0 _ _ l0_1 _ _ l0_2 0 ((rd_T71 l1_1 0).f0) a2 t296 t297 t298 t299 t300 _ ?side1 ?side2 ?side3 ?side4 A7.out).mono ?_
      (case side1 => repeat (first | exact (Kd.C_below HR0_1.out HB.out) | (with_reducible refine Kd.C_alloc ?_ _) | (with_reducible refine Kd.C_drewN ?_ _) | (with_reducible refine Kd.C_drew ?_)))
      (case side2 => exact HC0_1.out)
      (case side3 => repeat (first | exact (Kd.C_below HR0_2.out HB.out) | (with_reducible refine Kd.C_alloc ?_ _) | (with_reducible refine Kd.C_drewN ?_ _) | (with_reducible refine Kd.C_drew ?_)))
      (case side4 => exact HC0_2.out)
      rintro e w16 ⟨rfl, hb⟩
      refine ⟨_, rfl, ?_⟩
      have n0_ := Aside0.mk (blk_below (g := gb291) (o := .cells #[.int .i64 a0_0, .slice A0_1 l0_1.length c0_1, .slice A0_2 l0_2.length c0_2] 24 (0, 0)) (by (with_reducible repeat (first | refine blk_drewN ?_ _ | refine blk_drew ?_ | refine blk_alloc ?_ _)); exact BK291.out) hb)
      have n1_ := Aside0.mk (blk_below (g := gb292) (o := .cells #[.int .i64 a1_0, .slice (some ad295) l1_1.length c1_1, .int .i64 a1_2, .int .i64 a1_3] 48 (0, 0)) (by (with_reducible repeat (first | refine blk_drewN ?_ _ | refine blk_drew ?_ | refine blk_alloc ?_ _)); exact BK292.out) hb)
      have n2_ := Aside0.mk (blk_below (g := gb293) (o := .cells #[.int .i64 0, .int .i64 0, .int .i64 0, .int .i64 0] 76 (0, 0)) (by (with_reducible repeat (first | refine blk_drewN ?_ _ | refine blk_drew ?_ | refine blk_alloc ?_ _)); exact BK293.out) hb)
      have n3_ := Aside0.mk (below_step (by repeat (first | (with_reducible first | exact HB.out | apply below_alloc | apply pw_below_drewN | apply below_drew1 | refine below_set ?_ GE291.out | refine below_set ?_ GE292.out | refine below_set ?_ GE293.out) | exact HB.out)) hb)
      clear BK291
      clear BK292
      clear BK293
      clear HB
      have BK291 := n0_
      have BK292 := n1_
      have BK293 := n2_
      have HB := n3_
      clear n0_ n1_ n2_ n3_
      (try clear hb)
      (try clear hb2)
      (try clear hk)
      (try clear hi)
      refine hK.out _ _ ⟨(blk_cell BK291.out 0).trans rfl, (blk_cell BK291.out 1).trans rfl, (blk_cell BK291.out 2).trans rfl, (blk_cell BK292.out 0).trans rfl, (blk_cell BK292.out 1).trans rfl, (blk_cell BK292.out 2).trans rfl, (blk_cell BK292.out 3).trans rfl, ((HB.out.cell (World.block_lt_of_cell? w _ hw295_0)).trans hw295_0), ((HB.out.cell (World.block_lt_of_cell? w _ hw295_1)).trans hw295_1)⟩ (fun hHeld => ?_)
      clear hK K
      refine norm_ (a' := ?_) ?_ ?_
      rotate_left
      · show Act.put _ (some 19) _ = _
        simp only [Act.put, List.setIfInBounds_toArray, List.set_cons_zero, List.set_cons_succ, i64_w, i32_w]
        rfl
      refine pure_ (i := 8) (N := some 20) (v := ?_) (a' := ?_) #[true, true, true, true, true, true, true, true, true, false, false, false] rfl rfl (any_of HT_.out (by kernel_rfl)) (fun _ _ _ h => h) (Or.inl ⟨by rfl, ?_⟩) ?_ ?_
      rotate_left
      · intro w'
        go_simp
        with_reducible rfl
      rotate_left
      · simp only [Act.put, List.setIfInBounds_toArray, List.set_cons_zero, List.set_cons_succ, i64_w, i32_w]
        rfl
      refine pure_ (i := 9) (N := some 21) (v := ?_) (a' := ?_) #[true, true, true, true, true, true, true, true, true, true, false, false] rfl rfl (any_of HT_.out (by kernel_rfl)) (fun _ _ _ h => h) (Or.inl ⟨by rfl, ?_⟩) ?_ ?_
      rotate_left
      · intro w'
        go_simp
        with_reducible rfl
      rotate_left
      · simp only [Act.put, List.setIfInBounds_toArray, List.set_cons_zero, List.set_cons_succ, i64_w, i32_w]
        rfl
      refine one_ (i := 10) (N := none) #[true, true, true, true, true, true, true, true, true, true, true, false] rfl rfl (one_of HT_.out (by kernel_rfl)) (by decide) (fun K hK => ?_)
      have hs17 : w16.cell? ⟨gb293, 0, none⟩ = some (.int .i64 0) := (blk_cell BK293.out 0).trans rfl
      have hfs17 := blk_frozen BK293.out 0
      have hns17_0 := NB291_293.out
      have hns17_1 := NB292_293.out
      have hms17_0 := NB293_291.out
      have hms17_1 := NB293_292.out
      have hs18 : w16.cell? ⟨gb293, 1, none⟩ = some (.int .i64 0) := (blk_cell BK293.out 1).trans rfl
      have hfs18 := blk_frozen BK293.out 1
      have hns18_0 := NB291_293.out
      have hns18_1 := NB292_293.out
      have hms18_0 := NB293_291.out
      have hms18_1 := NB293_292.out
      have hs19 : w16.cell? ⟨gb293, 2, none⟩ = some (.int .i64 0) := (blk_cell BK293.out 2).trans rfl
      have hfs19 := blk_frozen BK293.out 2
      have hns19_0 := NB291_293.out
      have hns19_1 := NB292_293.out
      have hms19_0 := NB293_291.out
      have hms19_1 := NB293_292.out
      have hs20 : w16.cell? ⟨gb293, 3, none⟩ = some (.int .i64 0) := (blk_cell BK293.out 3).trans rfl
      have hfs20 := blk_frozen BK293.out 3
      have hns20_0 := NB291_293.out
      have hns20_1 := NB292_293.out
      have hms20_0 := NB293_291.out
      have hms20_1 := NB293_292.out
      refine skip_ (w1 := ?_) (by rfl) rfl ?_ ?_
      rotate_left
      · go_simp
        rfl
      refine hK.out _ _ ⟨((cell_far (p := ⟨gb293, _, none⟩) NB291_293.out _).trans (((cell_far (p := ⟨gb293, _, none⟩) NB291_293.out _).trans (((cell_far (p := ⟨gb293, _, none⟩) NB291_293.out _).trans (((cell_far (p := ⟨gb293, _, none⟩) NB291_293.out _).trans (hHeld.1)))))))), ((cell_far (p := ⟨gb293, _, none⟩) NB291_293.out _).trans (((cell_far (p := ⟨gb293, _, none⟩) NB291_293.out _).trans (((cell_far (p := ⟨gb293, _, none⟩) NB291_293.out _).trans (((cell_far (p := ⟨gb293, _, none⟩) NB291_293.out _).trans (hHeld.2.1)))))))), ((cell_far (p := ⟨gb293, _, none⟩) NB291_293.out _).trans (((cell_far (p := ⟨gb293, _, none⟩) NB291_293.out _).trans (((cell_far (p := ⟨gb293, _, none⟩) NB291_293.out _).trans (((cell_far (p := ⟨gb293, _, none⟩) NB291_293.out _).trans (hHeld.2.2.1)))))))), ((cell_far (p := ⟨gb293, _, none⟩) NB292_293.out _).trans (((cell_far (p := ⟨gb293, _, none⟩) NB292_293.out _).trans (((cell_far (p := ⟨gb293, _, none⟩) NB292_293.out _).trans (((cell_far (p := ⟨gb293, _, none⟩) NB292_293.out _).trans (hHeld.2.2.2.1)))))))), ((cell_far (p := ⟨gb293, _, none⟩) NB292_293.out _).trans (((cell_far (p := ⟨gb293, _, none⟩) NB292_293.out _).trans (((cell_far (p := ⟨gb293, _, none⟩) NB292_293.out _).trans (((cell_far (p := ⟨gb293, _, none⟩) NB292_293.out _).trans (hHeld.2.2.2.2.1)))))))), ((cell_far (p := ⟨gb293, _, none⟩) NB292_293.out _).trans (((cell_far (p := ⟨gb293, _, none⟩) NB292_293.out _).trans (((cell_far (p := ⟨gb293, _, none⟩) NB292_293.out _).trans (((cell_far (p := ⟨gb293, _, none⟩) NB292_293.out _).trans (hHeld.2.2.2.2.2.1)))))))), ((cell_far (p := ⟨gb293, _, none⟩) NB292_293.out _).trans (((cell_far (p := ⟨gb293, _, none⟩) NB292_293.out _).trans (((cell_far (p := ⟨gb293, _, none⟩) NB292_293.out _).trans (((cell_far (p := ⟨gb293, _, none⟩) NB292_293.out _).trans (hHeld.2.2.2.2.2.2.1)))))))), ((cell_far (p := ⟨gb293, _, none⟩) (by first | exact Nat.ne_of_lt (Nat.lt_of_lt_of_le (by have := World.block_lt_of_cell? _ _ hw295_0; first | rwa [add_block] at this | exact this) GW293.out) | (rw [add_block]; exact Nat.ne_of_lt (Nat.lt_of_lt_of_le (by have := World.block_lt_of_cell? _ _ hw295_0; first | rwa [add_block] at this | exact this) GW293.out)) | (show (Addr.add _ _).block ≠ _; rw [add_block]; exact Nat.ne_of_lt (Nat.lt_of_lt_of_le (by have := World.block_lt_of_cell? _ _ hw295_0; first | rwa [add_block] at this | exact this) GW293.out)) | (dsimp only; exact Nat.ne_of_lt (Nat.lt_of_lt_of_le (by have := World.block_lt_of_cell? _ _ hw295_0; first | rwa [add_block] at this | exact this) GW293.out))) _).trans (((cell_far (p := ⟨gb293, _, none⟩) (by first | exact Nat.ne_of_lt (Nat.lt_of_lt_of_le (by have := World.block_lt_of_cell? _ _ hw295_0; first | rwa [add_block] at this | exact this) GW293.out) | (rw [add_block]; exact Nat.ne_of_lt (Nat.lt_of_lt_of_le (by have := World.block_lt_of_cell? _ _ hw295_0; first | rwa [add_block] at this | exact this) GW293.out)) | (show (Addr.add _ _).block ≠ _; rw [add_block]; exact Nat.ne_of_lt (Nat.lt_of_lt_of_le (by have := World.block_lt_of_cell? _ _ hw295_0; first | rwa [add_block] at this | exact this) GW293.out)) | (dsimp only; exact Nat.ne_of_lt (Nat.lt_of_lt_of_le (by have := World.block_lt_of_cell? _ _ hw295_0; first | rwa [add_block] at this | exact this) GW293.out))) _).trans (((cell_far (p := ⟨gb293, _, none⟩) (by first | exact Nat.ne_of_lt (Nat.lt_of_lt_of_le (by have := World.block_lt_of_cell? _ _ hw295_0; first | rwa [add_block] at this | exact this) GW293.out) | (rw [add_block]; exact Nat.ne_of_lt (Nat.lt_of_lt_of_le (by have := World.block_lt_of_cell? _ _ hw295_0; first | rwa [add_block] at this | exact this) GW293.out)) | (show (Addr.add _ _).block ≠ _; rw [add_block]; exact Nat.ne_of_lt (Nat.lt_of_lt_of_le (by have := World.block_lt_of_cell? _ _ hw295_0; first | rwa [add_block] at this | exact this) GW293.out)) | (dsimp only; exact Nat.ne_of_lt (Nat.lt_of_lt_of_le (by have := World.block_lt_of_cell? _ _ hw295_0; first | rwa [add_block] at this | exact this) GW293.out))) _).trans (((cell_far (p := ⟨gb293, _, none⟩) (by first | exact Nat.ne_of_lt (Nat.lt_of_lt_of_le (by have := World.block_lt_of_cell? _ _ hw295_0; first | rwa [add_block] at this | exact this) GW293.out) | (rw [add_block]; exact Nat.ne_of_lt (Nat.lt_of_lt_of_le (by have := World.block_lt_of_cell? _ _ hw295_0; first | rwa [add_block] at this | exact this) GW293.out)) | (show (Addr.add _ _).block ≠ _; rw [add_block]; exact Nat.ne_of_lt (Nat.lt_of_lt_of_le (by have := World.block_lt_of_cell? _ _ hw295_0; first | rwa [add_block] at this | exact this) GW293.out)) | (dsimp only; exact Nat.ne_of_lt (Nat.lt_of_lt_of_le (by have := World.block_lt_of_cell? _ _ hw295_0; first | rwa [add_block] at this | exact this) GW293.out))) _).trans (hHeld.2.2.2.2.2.2.2.1)))))))), ((cell_far (p := ⟨gb293, _, none⟩) (by first | exact Nat.ne_of_lt (Nat.lt_of_lt_of_le (by have := World.block_lt_of_cell? _ _ hw295_1; first | rwa [add_block] at this | exact this) GW293.out) | (rw [add_block]; exact Nat.ne_of_lt (Nat.lt_of_lt_of_le (by have := World.block_lt_of_cell? _ _ hw295_1; first | rwa [add_block] at this | exact this) GW293.out)) | (show (Addr.add _ _).block ≠ _; rw [add_block]; exact Nat.ne_of_lt (Nat.lt_of_lt_of_le (by have := World.block_lt_of_cell? _ _ hw295_1; first | rwa [add_block] at this | exact this) GW293.out)) | (dsimp only; exact Nat.ne_of_lt (Nat.lt_of_lt_of_le (by have := World.block_lt_of_cell? _ _ hw295_1; first | rwa [add_block] at this | exact this) GW293.out))) _).trans (((cell_far (p := ⟨gb293, _, none⟩) (by first | exact Nat.ne_of_lt (Nat.lt_of_lt_of_le (by have := World.block_lt_of_cell? _ _ hw295_1; first | rwa [add_block] at this | exact this) GW293.out) | (rw [add_block]; exact Nat.ne_of_lt (Nat.lt_of_lt_of_le (by have := World.block_lt_of_cell? _ _ hw295_1; first | rwa [add_block] at this | exact this) GW293.out)) | (show (Addr.add _ _).block ≠ _; rw [add_block]; exact Nat.ne_of_lt (Nat.lt_of_lt_of_le (by have := World.block_lt_of_cell? _ _ hw295_1; first | rwa [add_block] at this | exact this) GW293.out)) | (dsimp only; exact Nat.ne_of_lt (Nat.lt_of_lt_of_le (by have := World.block_lt_of_cell? _ _ hw295_1; first | rwa [add_block] at this | exact this) GW293.out))) _).trans (((cell_far (p := ⟨gb293, _, none⟩) (by first | exact Nat.ne_of_lt (Nat.lt_of_lt_of_le (by have := World.block_lt_of_cell? _ _ hw295_1; first | rwa [add_block] at this | exact this) GW293.out) | (rw [add_block]; exact Nat.ne_of_lt (Nat.lt_of_lt_of_le (by have := World.block_lt_of_cell? _ _ hw295_1; first | rwa [add_block] at this | exact this) GW293.out)) | (show (Addr.add _ _).block ≠ _; rw [add_block]; exact Nat.ne_of_lt (Nat.lt_of_lt_of_le (by have := World.block_lt_of_cell? _ _ hw295_1; first | rwa [add_block] at this | exact this) GW293.out)) | (dsimp only; exact Nat.ne_of_lt (Nat.lt_of_lt_of_le (by have := World.block_lt_of_cell? _ _ hw295_1; first | rwa [add_block] at this | exact this) GW293.out))) _).trans (((cell_far (p := ⟨gb293, _, none⟩) (by first | exact Nat.ne_of_lt (Nat.lt_of_lt_of_le (by have := World.block_lt_of_cell? _ _ hw295_1; first | rwa [add_block] at this | exact this) GW293.out) | (rw [add_block]; exact Nat.ne_of_lt (Nat.lt_of_lt_of_le (by have := World.block_lt_of_cell? _ _ hw295_1; first | rwa [add_block] at this | exact this) GW293.out)) | (show (Addr.add _ _).block ≠ _; rw [add_block]; exact Nat.ne_of_lt (Nat.lt_of_lt_of_le (by have := World.block_lt_of_cell? _ _ hw295_1; first | rwa [add_block] at this | exact this) GW293.out)) | (dsimp only; exact Nat.ne_of_lt (Nat.lt_of_lt_of_le (by have := World.block_lt_of_cell? _ _ hw295_1; first | rwa [add_block] at this | exact this) GW293.out))) _).trans (hHeld.2.2.2.2.2.2.2.2))))))))⟩ (fun hHeld => ?_)
      clear hK K
      refine pure_ (i := 11) (N := some 7) (v := ?_) (a' := ?_) #[true, true, true, true, true, true, true, true, true, true, true, true] rfl rfl (any_of HT_.out (by kernel_rfl)) (fun _ _ _ h => h) (Or.inl ⟨by rfl, ?_⟩) ?_ ?_
      rotate_left
      · intro w'
        go_simp
        with_reducible rfl
      rotate_left
      · simp only [Act.put, List.setIfInBounds_toArray, List.set_cons_zero, List.set_cons_succ, i64_w, i32_w]
        rfl
      refine done_ (done_of HT_.out (by kernel_rfl)) ?_
      try go_wp2
      refine bodyPost_ret (results_ct rfl _ _ gb293 76 #[.int .i64 t296, .int .i64 t297, .int .i64 t298, .int .i64 t299] (0, 0) _ rfl (by (with_reducible repeat (first | refine blk_drewN ?_ _ | refine blk_drew ?_ | refine blk_alloc ?_ _)); refine blk_put (cs := #[.int .i64 t296, .int .i64 t297, .int .i64 t298, .int .i64 0]) ?_ 3 _ rfl; (with_reducible repeat (first | refine blk_drewN ?_ _ | refine blk_drew ?_ | refine blk_alloc ?_ _)); refine blk_put (cs := #[.int .i64 t296, .int .i64 t297, .int .i64 0, .int .i64 0]) ?_ 2 _ rfl; (with_reducible repeat (first | refine blk_drewN ?_ _ | refine blk_drew ?_ | refine blk_alloc ?_ _)); refine blk_put (cs := #[.int .i64 t296, .int .i64 0, .int .i64 0, .int .i64 0]) ?_ 1 _ rfl; (with_reducible repeat (first | refine blk_drewN ?_ _ | refine blk_drew ?_ | refine blk_alloc ?_ _)); refine blk_put (cs := #[.int .i64 0, .int .i64 0, .int .i64 0, .int .i64 0]) ?_ 0 _ rfl; (with_reducible repeat (first | refine blk_drewN ?_ _ | refine blk_drew ?_ | refine blk_alloc ?_ _)); exact BK293.out) Tryz.underlying76 rfl (by kernel_rfl)) rfl ?_
      exact ⟨by first | rfl | (simp [errW_none, errW_some] <;> rfl) | (simp [*, errW_none, errW_some] <;> rfl), by repeat (first | (with_reducible first | exact HB.out | apply below_alloc | apply pw_below_drewN | apply below_drew1 | refine below_set ?_ GE291.out | refine below_set ?_ GE292.out | refine below_set ?_ GE293.out) | exact HB.out)⟩
    · rw [if_neg c6] at H
      exact absurd H (by simp)
  · replace c5 := Bool.eq_false_iff.mpr c5
    subst c5
    have H1 : (some (0, 0, 0, 0, 2)) = some (r1, r2, r3, r4, r5) := by rw [if_neg (show ¬ (false = true) by decide)] at H; exact H
    clear H
    have H := H1
    clear H1
    simp only [Option.some.injEq, Prod.mk.injEq] at H
    obtain ⟨rfl, rfl, rfl, rfl, rfl⟩ := H
    go_enter Tryz.func84, Tryz.ntmps84
    go_wp2_with (first | ((with_reducible refine gate_dst (N := 3) rfl ?_); refine box_event ?hg (N := 3) ?hd (cs := #[.int .i64 a0_0, .slice A0_1 l0_1.length c0_1, .slice A0_2 l0_2.length c0_2]) (t := 24) ?hr ?_; (case hd => rfl); (case hg => rfl); (case hr => first | (go_simp; done) | (go_simp; rfl)); intro gb291 hg w21 hbox hb; have n0_ := Aside0.mk (below_step (by repeat (first | (with_reducible first | exact HB.out | apply below_alloc | apply pw_below_drewN | apply below_drew1) | exact HB.out)) hb); have n1_ := Aside0.mk (hbox); have n2_ := Aside0.mk ((by rw [hg]; exact (below_size (by repeat (first | (with_reducible first | exact HB.out | apply below_alloc | apply pw_below_drewN | apply below_drew1) | exact HB.out))) : w.heap.size ≤ gb291)); have n3_ := Aside0.mk ((by rw [hg]; exact (below_size (by repeat (first | (with_reducible first | exact HB.out | apply below_alloc | apply pw_below_drewN | apply below_drew1) | exact HB.out))) : w.heap.size ≤ gb291)); clear HB; have HB := n0_; have BK291 := n1_; have GW291 := n2_; have GE291 := n3_; clear n0_ n1_ n2_ n3_; clear hb hbox hg) | ((with_reducible refine gate_dst (N := 4) rfl ?_); refine box_event ?hg (N := 4) ?hd (cs := #[.int .i64 a1_0, .slice A1_1 l1_1.length c1_1, .int .i64 a1_2, .int .i64 a1_3]) (t := 48) ?hr ?_; (case hd => rfl); (case hg => rfl); (case hr => first | (go_simp; done) | (go_simp; rfl)); intro gb292 hg w22 hbox hb; have n0_ := Aside0.mk (blk_below (g := gb291) (o := .cells #[.int .i64 a0_0, .slice A0_1 l0_1.length c0_1, .slice A0_2 l0_2.length c0_2] 24 (0, 0)) (by (with_reducible repeat (first | refine blk_drewN ?_ _ | refine blk_drew ?_ | refine blk_alloc ?_ _)); exact BK291.out) hb); have n1_ := Aside0.mk (below_step (by repeat (first | (with_reducible first | exact HB.out | apply below_alloc | apply pw_below_drewN | apply below_drew1 | refine below_set ?_ GE291.out) | exact HB.out)) hb); have n2_ := Aside0.mk (hbox); have n3_ := Aside0.mk ((by rw [hg]; exact (below_size (by repeat (first | (with_reducible first | exact HB.out | apply below_alloc | apply pw_below_drewN | apply below_drew1 | refine below_set ?_ GE291.out) | exact HB.out))) : w.heap.size ≤ gb292)); have n4_ := Aside0.mk ((by rw [hg]; exact (below_size (by repeat (first | (with_reducible first | exact HB.out | apply below_alloc | apply pw_below_drewN | apply below_drew1 | refine below_set ?_ GE291.out) | exact HB.out))) : w.heap.size ≤ gb292)); have n5_ := Aside0.mk ((by rw [hg]; exact Nat.ne_of_lt (blk_lt (g := gb291) (o := .cells #[.int .i64 a0_0, .slice A0_1 l0_1.length c0_1, .slice A0_2 l0_2.length c0_2] 24 (0, 0)) (by (with_reducible repeat (first | refine blk_drewN ?_ _ | refine blk_drew ?_ | refine blk_alloc ?_ _)); exact BK291.out)) : gb291 ≠ gb292)); have n6_ := Aside0.mk ((by rw [hg]; exact Nat.ne_of_gt (blk_lt (g := gb291) (o := .cells #[.int .i64 a0_0, .slice A0_1 l0_1.length c0_1, .slice A0_2 l0_2.length c0_2] 24 (0, 0)) (by (with_reducible repeat (first | refine blk_drewN ?_ _ | refine blk_drew ?_ | refine blk_alloc ?_ _)); exact BK291.out)) : gb292 ≠ gb291)); clear BK291; clear HB; have BK291 := n0_; have HB := n1_; have BK292 := n2_; have GW292 := n3_; have GE292 := n4_; have NB291_292 := n5_; have NB292_291 := n6_; clear n0_ n1_ n2_ n3_ n4_ n5_ n6_; clear hb hbox hg) | ((with_reducible refine gate_dst (N := 6) rfl ?_); refine box_event ?hg (N := 6) ?hd (cs := #[.int .i64 0, .int .i64 0, .int .i64 0, .int .i64 0]) (t := 76) ?hr ?_; (case hd => rfl); (case hg => rfl); (case hr => first | (go_simp; done) | (go_simp; rfl)); intro gb293 hg w23 hbox hb; have n0_ := Aside0.mk (blk_below (g := gb291) (o := .cells #[.int .i64 a0_0, .slice A0_1 l0_1.length c0_1, .slice A0_2 l0_2.length c0_2] 24 (0, 0)) (by (with_reducible repeat (first | refine blk_drewN ?_ _ | refine blk_drew ?_ | refine blk_alloc ?_ _)); exact BK291.out) hb); have n1_ := Aside0.mk (blk_below (g := gb292) (o := .cells #[.int .i64 a1_0, .slice A1_1 l1_1.length c1_1, .int .i64 a1_2, .int .i64 a1_3] 48 (0, 0)) (by (with_reducible repeat (first | refine blk_drewN ?_ _ | refine blk_drew ?_ | refine blk_alloc ?_ _)); exact BK292.out) hb); have n2_ := Aside0.mk (below_step (by repeat (first | (with_reducible first | exact HB.out | apply below_alloc | apply pw_below_drewN | apply below_drew1 | refine below_set ?_ GE291.out | refine below_set ?_ GE292.out) | exact HB.out)) hb); have n3_ := Aside0.mk (hbox); have n4_ := Aside0.mk ((by rw [hg]; exact (below_size (by repeat (first | (with_reducible first | exact HB.out | apply below_alloc | apply pw_below_drewN | apply below_drew1 | refine below_set ?_ GE291.out | refine below_set ?_ GE292.out) | exact HB.out))) : w.heap.size ≤ gb293)); have n5_ := Aside0.mk ((by rw [hg]; exact (below_size (by repeat (first | (with_reducible first | exact HB.out | apply below_alloc | apply pw_below_drewN | apply below_drew1 | refine below_set ?_ GE291.out | refine below_set ?_ GE292.out) | exact HB.out))) : w.heap.size ≤ gb293)); have n6_ := Aside0.mk ((by rw [hg]; exact Nat.ne_of_lt (blk_lt (g := gb291) (o := .cells #[.int .i64 a0_0, .slice A0_1 l0_1.length c0_1, .slice A0_2 l0_2.length c0_2] 24 (0, 0)) (by (with_reducible repeat (first | refine blk_drewN ?_ _ | refine blk_drew ?_ | refine blk_alloc ?_ _)); exact BK291.out)) : gb291 ≠ gb293)); have n7_ := Aside0.mk ((by rw [hg]; exact Nat.ne_of_gt (blk_lt (g := gb291) (o := .cells #[.int .i64 a0_0, .slice A0_1 l0_1.length c0_1, .slice A0_2 l0_2.length c0_2] 24 (0, 0)) (by (with_reducible repeat (first | refine blk_drewN ?_ _ | refine blk_drew ?_ | refine blk_alloc ?_ _)); exact BK291.out)) : gb293 ≠ gb291)); have n8_ := Aside0.mk ((by rw [hg]; exact Nat.ne_of_lt (blk_lt (g := gb292) (o := .cells #[.int .i64 a1_0, .slice A1_1 l1_1.length c1_1, .int .i64 a1_2, .int .i64 a1_3] 48 (0, 0)) (by (with_reducible repeat (first | refine blk_drewN ?_ _ | refine blk_drew ?_ | refine blk_alloc ?_ _)); exact BK292.out)) : gb292 ≠ gb293)); have n9_ := Aside0.mk ((by rw [hg]; exact Nat.ne_of_gt (blk_lt (g := gb292) (o := .cells #[.int .i64 a1_0, .slice A1_1 l1_1.length c1_1, .int .i64 a1_2, .int .i64 a1_3] 48 (0, 0)) (by (with_reducible repeat (first | refine blk_drewN ?_ _ | refine blk_drew ?_ | refine blk_alloc ?_ _)); exact BK292.out)) : gb293 ≠ gb292)); clear BK291; clear BK292; clear HB; have BK291 := n0_; have BK292 := n1_; have HB := n2_; have BK293 := n3_; have GW293 := n4_; have GE293 := n5_; have NB291_293 := n6_; have NB293_291 := n7_; have NB292_293 := n8_; have NB293_292 := n9_; clear n0_ n1_ n2_ n3_ n4_ n5_ n6_ n7_ n8_ n9_; clear hb hbox hg; have hnb24 := NB292_291.out; have hnc24 := NB291_292.out; have hnb25 := NB292_293.out; have hnc25 := NB293_292.out; have hcz26_0 : w23.cell? ⟨gb292, 0, none⟩ = some (.int .i64 a1_0) := (blk_cell BK292.out 0).trans rfl; have hcz26_1 : w23.cell? ⟨gb292, 1, none⟩ = some (.slice A1_1 l1_1.length c1_1) := (blk_cell BK292.out 1).trans rfl; have hcz26_2 : w23.cell? ⟨gb292, 2, none⟩ = some (.int .i64 a1_2) := (blk_cell BK292.out 2).trans rfl; have hcz26_3 : w23.cell? ⟨gb292, 3, none⟩ = some (.int .i64 a1_3) := (blk_cell BK292.out 3).trans rfl; have hfz26_0 := blk_frozen BK292.out 0; have hfz26_1 := blk_frozen BK292.out 1; have hfz26_2 := blk_frozen BK292.out 2; have hfz26_3 := blk_frozen BK292.out 3) | ((with_reducible refine gate_callee (f := 25) rfl ?_); refine goesL_ (some 9) rfl rfl Tryz.func25 (by kernel_rfl) rfl #[.agg #[.int .i64 a1_0, .slice A1_1 l1_1.length c1_1, .int .i64 a1_2, .int .i64 a1_3]] rfl (by (try simp only [List.map_toArray, List.map_cons, List.map_nil]); first | done | rfl | (simp only [List.length_drop, List.length_take]; rfl)) ?_; (with_reducible refine (curfewref14_Good.calls k a1_0 _ _ l1_1 a1_2 a1_3 false _ ?side1 ?side2 A4.out).mono ?_); (case side1 => repeat (first | exact (Kd.C_below HR1_1.out HB.out) | (with_reducible refine Kd.C_alloc ?_ _) | (with_reducible refine Kd.C_drewN ?_ _) | (with_reducible refine Kd.C_drew ?_))); (case side2 => exact HC1_1.out); rintro e w27 ⟨rfl, hb⟩; refine ⟨_, rfl, ?_⟩; have n0_ := Aside0.mk (blk_below (g := gb291) (o := .cells #[.int .i64 a0_0, .slice A0_1 l0_1.length c0_1, .slice A0_2 l0_2.length c0_2] 24 (0, 0)) (by (with_reducible repeat (first | refine blk_drewN ?_ _ | refine blk_drew ?_ | refine blk_alloc ?_ _)); exact BK291.out) hb); have n1_ := Aside0.mk (blk_below (g := gb292) (o := .cells #[.int .i64 a1_0, .slice A1_1 l1_1.length c1_1, .int .i64 a1_2, .int .i64 a1_3] 48 (0, 0)) (by (with_reducible repeat (first | refine blk_drewN ?_ _ | refine blk_drew ?_ | refine blk_alloc ?_ _)); exact BK292.out) hb); have n2_ := Aside0.mk (blk_below (g := gb293) (o := .cells #[.int .i64 0, .int .i64 0, .int .i64 0, .int .i64 0] 76 (0, 0)) (by (with_reducible repeat (first | refine blk_drewN ?_ _ | refine blk_drew ?_ | refine blk_alloc ?_ _)); exact BK293.out) hb); have n3_ := Aside0.mk (below_step (by repeat (first | (with_reducible first | exact HB.out | apply below_alloc | apply pw_below_drewN | apply below_drew1 | refine below_set ?_ GE291.out | refine below_set ?_ GE292.out | refine below_set ?_ GE293.out) | exact HB.out)) hb); clear BK291; clear BK292; clear BK293; clear HB; have BK291 := n0_; have BK292 := n1_; have BK293 := n2_; have HB := n3_; clear n0_ n1_ n2_ n3_; (try clear hb); (try clear hb2); (try clear hk); (try clear hi); have hnb28 := NB293_291.out; have hnc28 := NB291_293.out; have hcz29_0 : w27.cell? ⟨gb293, 0, none⟩ = some (.int .i64 0) := (blk_cell BK293.out 0).trans rfl; have hcz29_1 : w27.cell? ⟨gb293, 1, none⟩ = some (.int .i64 0) := (blk_cell BK293.out 1).trans rfl; have hcz29_2 : w27.cell? ⟨gb293, 2, none⟩ = some (.int .i64 0) := (blk_cell BK293.out 2).trans rfl; have hcz29_3 : w27.cell? ⟨gb293, 3, none⟩ = some (.int .i64 0) := (blk_cell BK293.out 3).trans rfl; have hfz29_0 := blk_frozen BK293.out 0; have hfz29_1 := blk_frozen BK293.out 1; have hfz29_2 := blk_frozen BK293.out 2; have hfz29_3 := blk_frozen BK293.out 3))
    refine bodyPost_ret (results_ct rfl _ _ gb293 76 #[.int .i64 0, .int .i64 0, .int .i64 0, .int .i64 0] (0, 0) _ rfl (by (with_reducible repeat (first | refine blk_drewN ?_ _ | refine blk_drew ?_ | refine blk_alloc ?_ _)); refine blk_put (cs := #[.int .i64 0, .int .i64 0, .int .i64 0, .int .i64 0]) ?_ 3 _ rfl; (with_reducible repeat (first | refine blk_drewN ?_ _ | refine blk_drew ?_ | refine blk_alloc ?_ _)); refine blk_put (cs := #[.int .i64 0, .int .i64 0, .int .i64 0, .int .i64 0]) ?_ 2 _ rfl; (with_reducible repeat (first | refine blk_drewN ?_ _ | refine blk_drew ?_ | refine blk_alloc ?_ _)); refine blk_put (cs := #[.int .i64 0, .int .i64 0, .int .i64 0, .int .i64 0]) ?_ 1 _ rfl; (with_reducible repeat (first | refine blk_drewN ?_ _ | refine blk_drew ?_ | refine blk_alloc ?_ _)); refine blk_put (cs := #[.int .i64 0, .int .i64 0, .int .i64 0, .int .i64 0]) ?_ 0 _ rfl; (with_reducible repeat (first | refine blk_drewN ?_ _ | refine blk_drew ?_ | refine blk_alloc ?_ _)); exact BK293.out) Tryz.underlying76 rfl (by kernel_rfl)) rfl ?_
    exact ⟨by first | rfl | (simp [errW_none, errW_some] <;> rfl) | (simp [*, errW_none, errW_some] <;> rfl), by repeat (first | (with_reducible first | exact HB.out | apply below_alloc | apply pw_below_drewN | apply below_drew1 | refine below_set ?_ GE291.out | refine below_set ?_ GE292.out | refine below_set ?_ GE293.out) | exact HB.out)⟩
end Go.Proofs.YtepldlnmeenlbaaGreat.Base
