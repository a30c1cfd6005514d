/- TicketBytes, part 8: what the claim needs of TkB, OpenCal, OpenTk. -/
import Derived.Test.YtepldlnmeenlbaaTicketBytes7
import Derived.Test.YtepldlnmeenlbaaProg
import Derived.Below
import Derived.Deep.Draws
import Derived.Deep.AppendLies
import Derived.Maps.AppendAt
import Derived.OwnWalk
import Derived.Laws.BytesArg
import Derived.Laws.MakeOwn
import Derived.Laws.OwnMore
import Derived.Deep.OwnRows
import Derived.Tactics
import Derived.Lib.ConvBytes
import Derived.Laws.Slices
import Derived.WalkKit
import Derived.KernelRfl
import Derived.RowKit3
import Derived.Deep.LoopGhost
import Derived.Deep.QuietTactic
import Derived.BigQuiet
import Derived.WideLaws
import Derived.Deep.DeepCutAuto
import Derived.Deep.CutBlock
import Derived.Deep.RegionHeld3
import Derived.Laws.Rows
import Derived.Lib.AppendStr
import Derived.ArgAppend
import Derived.Laws.IdiomCopy
import Derived.OrdersHeld
import Derived.Laws.BitsLemmas
import Derived.RowKit
import Derived.Laws.StructEq
import Derived.Tactics2
import Derived.Defers
import Derived.Laws.Pointers
import Derived.Laws.LoneSync
import Derived.Laws.NewBlocks
import Derived.RegionTactic
import Derived.RegionCalls
import Derived.ChangeAlike
import Derived.StillTailTactics
import Derived.Outline
import Derived.Handy
import Derived.SizedLaws
import Derived.ChangeSlices
import Derived.Laws.EntriesVeiled
import Derived.WalkSpells
import Derived.RangeFuncNested
import Derived.RangeFuncBound
import Derived.RangeFuncCalls
import Derived.RangeFuncLeaves
import Derived.Shelf.Abstract
import Derived.Shelf.RegionOpen
import Derived.OwnWalkIn
import Derived.TacticsInMore
import Derived.LoopNIn
import Derived.LoopIn
import Derived.OrdersIn
import Derived.Test.YtepldlnmeenlbaaRows
import Derived.ProofKit
import Derived.OpenShut
import Derived.ShutString
import Derived.ChangeOld
import Derived.Lib.SmallJoins
import Derived.Deep.SlicePairs
set_option linter.unusedVariables false
set_option linter.unusedSimpArgs false
namespace Go.Proofs.Ytepldlnmeenlbaa.Own
open Go.RowKit Go.Proofs Go.Proofs.YtepldlnmeenlbaaW.PrintWords Go.Proofs.YtepldlnmeenlbaaW.PrintLast Go.Proofs.YtepldlnmeenlbaaW.PrintMore Go.Proofs.Ytepldlnmeenlbaa.Base
variable {t : TypeId} {m rb pb c : Nat} {w w' : World} {A : Option Addr} {s : List Int × Bool}
theorem tksound_is (t : Tk) (b : Bool) (w : World) (h : TkOk t) (hb : tkB t = b) : Calls Try.prog 9 #[.agg #[.int .u64 t.id, .int .i64 t.co, .int .i64 t.st, .int .i64 t.lv, .int .u64 t.gn, .int .i64 t.fr, .int .i64 t.lf, .int .i64 t.du, .int .i64 t.tl]] w fun e w' => e = .returned (.bool b) ∧ Below w.heap.size w w' := by rw [← hb]; exact tksound_any t w h
theorem tkref_is (t : Tk) (b : Bool) (w : World) (hb : tkB t = b) : Calls Try.prog 10 #[.agg #[.int .u64 t.id, .int .i64 t.co, .int .i64 t.st, .int .i64 t.lv, .int .u64 t.gn, .int .i64 t.fr, .int .i64 t.lf, .int .i64 t.du, .int .i64 t.tl]] w fun e w' => e = .returned (.bool b) ∧ Below w.heap.size w w' := by rw [← hb]; exact tkref_any t w
theorem WrAt.upd {n wb b t : Nat} {bs : List Int} (h : WrAt w n wb bs) (hu : Upd b w w') (hg : ∃ cs, w.heap[b]? = some (.cells cs t (0, 0))) (ht : t ≠ 5) (hne : wb ≠ b) : WrAt w' n wb bs := by
  obtain ⟨v, hv⟩ := h
  obtain ⟨cs, hg⟩ := hg
  exact ⟨v, hu.blk hv.blk hne, Kd.R_mono (Kd.R_step (Kd.R_types hv.row hg (types1 rfl ht)) (fun k hk hlt => hu.block k hlt (fun e => hk.2 (Option.some.inj e)))) (fun _ hk => hk.1), Nat.le_trans hv.size hu.size⟩
theorem RdAt.of {rb c : Nat} (h : RdV t m w rb A c s) : RdAt t m w rb s := ⟨A, c, h⟩
theorem RdAt.blk2 {rb : Nat} (h : RdAt t m w rb s) : ∃ cs, w.heap[rb]? = some (.cells cs t (0, 0)) := by obtain ⟨A, c, h⟩ := h; exact ⟨_, h.blk⟩
theorem tkL_range {t : Tk} (h : tkS t) (hk : TkOk t) : ∀ x, x ∈ tkL t → 0 ≤ x ∧ x < 18446744073709551616 := by
  obtain ⟨⟨b1, c1⟩, ⟨b2, c2⟩, ⟨b3, c3⟩, ⟨b4, c4⟩, ⟨b5, c5⟩, ⟨b6, c6⟩, ⟨b7, c7⟩, ⟨b8, c8⟩⟩ := tkS_range h hk
  obtain ⟨i0, i1⟩ := hk.id
  intro x hx
  simp only [tkL, List.mem_cons, List.not_mem_nil, or_false] at hx
  rcases hx with rfl | rfl | rfl | rfl | rfl | rfl | rfl | rfl | rfl <;> omega
theorem tkW_byte {t : Tk} (h : tkS t) (hk : TkOk t) : ∀ x, x ∈ tkW t → 0 ≤ x ∧ x ≤ 255 := by
  intro x hx
  obtain ⟨n, hn, hx⟩ := List.mem_flatMap.1 hx
  obtain ⟨h0, h1⟩ := tkL_range h hk n hn
  have hl : (digs n.toNat).length ≤ 8 := digs_le 8 n.toNat (by omega)
  unfold numB at hx
  rcases List.mem_cons.1 hx with rfl | hx
  · omega
  · exact digs_byte _ x hx
theorem tkW_len {t : Tk} (h : tkS t) (hk : TkOk t) : (tkW t).length ≤ 140737488355328 := by
  have hr := tkL_range h hk
  have hm : ∀ n, n ∈ tkL t → (numB 0 n).length ≤ 9 := fun n hn => numB_len 0 n (hr n hn).1 (hr n hn).2
  simp only [tkL, List.mem_cons, List.not_mem_nil, or_false, forall_eq_or_imp, forall_eq] at hm
  obtain ⟨m1, m2, m3, m4, m5, m6, m7, m8, m9⟩ := hm
  simp only [tkW, numsB, tkL, List.flatMap_cons, List.flatMap_nil, List.length_append, List.length_nil]
  omega
theorem tkW_pos (t : Tk) : 0 < (tkW t).length := by simp [tkW, tkL, numsB, List.flatMap_cons, numB]
def BytesAt (w : World) (A : Option Addr) (bs : List Int) : Prop := Kd.C (Kd.int .u8) w A bs.length bs
theorem BytesAt.below {bs : List Int} (h : BytesAt w A bs) (hb : Below w.heap.size w w') : BytesAt w' A bs := Kd.C_below h hb
theorem tkput16 (n wb : Nat) (t : Tk) (w : World) (h : WrAt w n wb []) (hk : TkOk t) (hs : tkS t) :
    Calls Try.prog 11 #[.pointer (some ⟨wb, 0, none⟩), .agg #[.int .u64 t.id, .int .i64 t.co, .int .i64 t.st, .int .i64 t.lv, .int .u64 t.gn, .int .i64 t.fr, .int .i64 t.lf, .int .i64 t.du, .int .i64 t.tl]] w fun e w' => e = .returned (.tuple #[]) ∧ WrAt w' n wb (tkW t) ∧ WUpd n wb w w' :=
  (tkput_any n wb [] t w h hk hs (by simp)).mono fun e w' hh => by rw [List.nil_append] at hh; exact hh
theorem wbytes16 (n wb : Nat) (bs : List Int) (w : World) (h : WrAt w n wb bs) (hl : bs.length ≤ 140737488355328) (hp : 0 < bs.length) :
    Calls Try.prog 14 #[.pointer (some ⟨wb, 0, none⟩)] w fun e w' => ∃ A' c', e = .returned (.slice A' bs.length c') ∧ (bs.length ≤ c' ∧ Kd.C (Kd.int .u8) w' A' bs.length bs ∧ ∀ ad, A' = some ad → ad.block < w'.heap.size) ∧ Below w.heap.size w w' :=
  (wbytes_any n wb bs w h hl).mono fun e w' ⟨A', c', he, hc, hr, hb⟩ => by
    obtain ⟨A2, c2, e2, _, hC⟩ := Kd.R_reads hr
    cases e2
    exact ⟨A', c', he, ⟨hc, hC, fun ad e => by subst e; exact Kd.C_lt hC hp (by decide)⟩, hb⟩
def tkb_T3 : Bool × List (List Nat × List Nat) := (true, [([], []), ([0], [0]), ([], []), ([2, 1], [2]), ([1, 3], [1, 3])])
def tkb_B3 : List Nat := [0, 1, 0, 7, 15]
theorem tkb_tab3 : rtab .any (opsOf Try.f3 3) = tkb_T3 := by kernel_rfl
theorem tkb_bits3 : waitsOk tkb_T3.2 tkb_B3 = true := by kernel_rfl
def tkb_T9 : Bool × List (List Nat × List Nat) := (true, [([], []), ([0], [0]), ([], []), ([2, 0], [2]), ([3], [3]), ([1, 4], [1, 4]), ([5, 3], [5]), ([6], [6]), ([7, 6], [6, 7]), ([6, 8], [6, 8]), ([9, 6], [9]), ([10], [10]), ([10], [10]), ([11, 12, 10], [10, 11, 12]), ([10, 13], [10, 13])])
def tkb_B9 : List Nat := [0, 1, 0, 5, 13, 31, 63, 127, 255, 511, 1023, 2047, 2047, 8191, 16383]
theorem tkb_tab9 : rtab .any (opsOf Try.f3 9) = tkb_T9 := by kernel_rfl
theorem tkb_bits9 : waitsOk tkb_T9.2 tkb_B9 = true := by kernel_rfl
def tkb_T14 : Bool × List (List Nat × List Nat) := (true, [([], []), ([], []), ([0, 1], [0, 1]), ([2], [2]), ([3], [3]), ([3], [3]), ([4, 5, 3], [3, 4, 5]), ([3, 6], [3, 6]), ([7, 3], [7]), ([8], [8]), ([9, 8, 8], [8, 9]), ([8], [8]), ([11, 8], [8, 11]), ([12, 8], [8, 12]), ([13, 8], [8, 13]), ([14, 8], [8, 14]), ([10, 15, 8], [8, 10, 15]), ([8, 16], [8, 16]), ([17, 10], [17]), ([18], [18]), ([19, 18, 18], [18, 19]), ([18], [18]), ([21, 18], [18, 21]), ([22, 18], [18, 22]), ([23, 18], [18, 23]), ([20, 24, 18], [18, 20, 24]), ([18, 25], [18, 25]), ([26, 20], [26]), ([27, 27], [27]), ([27, 28], [27, 28]), ([29, 28, 0, 1, 2, 3, 4, 5, 6, 7, 8, 9, 10, 11, 12, 13, 14, 15, 16, 17, 18, 19, 20, 21, 22, 23, 24, 25, 26, 27, 28, 29], [29])])
def tkb_B14 : List Nat := [0, 0, 3, 7, 15, 15, 63, 127, 255, 511, 1023, 511, 2559, 6655, 14847, 31231, 65535, 131071, 262143, 524287, 1048575, 524287, 2621439, 6815743, 15204351, 33554431, 67108863, 134217727, 268435455, 536870911, 1073741823]
theorem tkb_tab14 : rtab .any (opsOf Try.f3 14) = tkb_T14 := by kernel_rfl
theorem tkb_bits14 : waitsOk tkb_T14.2 tkb_B14 = true := by kernel_rfl
set_option maxHeartbeats 8000000 in
set_option maxRecDepth 100000 in
theorem tkb_long {id co st lv gn fr lf du tl : Int} {bs : List Int} {AB : Option Addr} {cB : Nat} (w : World) (hb : Kd.C (Kd.int .u8) w AB bs.length bs ∧ bs.length ≤ cB) (hby : ∀ x, x ∈ bs → 0 ≤ x ∧ x ≤ 255) (hfa : ∀ ad, AB = some ad → ad.block < w.heap.size) (hk : TkOk ⟨id, co, st, lv, gn, fr, lf, du, tl⟩) (hx : (3000 : Int) < bs.length) :
    Calls Try.prog 3 #[.agg #[.int .u64 id, .int .i64 co, .int .i64 st, .int .i64 lv, .int .u64 gn, .int .i64 fr, .int .i64 lf, .int .i64 du, .int .i64 tl], .slice AB bs.length cB] w fun e w' => e = .returned (.bool true) ∧ Below w.heap.size w w' := by
  have Hb := Aside0.mk hb
  have HBY := Aside0.mk hby
  have HFA := Aside0.mk hfa
  have HTK := Aside0.mk hk
  have hnot : ∀ (x : Bool) (w : World), (Op.unary .not (.bool x)).run Try.prog w = .ok (.bool (!x)) w := fun _ _ => rfl
  have f1_ : decide ((3000 : Int) < bs.length) = true := decide_eq_true hx
  clear hb hby hfa hk
  have HB_1 : Aside0 (Below w.heap.size w (w.alloc (.cells #[.int .u64 id, .int .i64 co, .int .i64 st, .int .i64 lv, .int .u64 gn, .int .i64 fr, .int .i64 lf, .int .i64 du, .int .i64 tl] 24))) := ⟨(below_alloc (Below.refl w.heap.size w) (.cells #[.int .u64 id, .int .i64 co, .int .i64 st, .int .i64 lv, .int .u64 gn, .int .i64 fr, .int .i64 lf, .int .i64 du, .int .i64 tl] 24))⟩
  have hs_1 : w.heap.size ≤ (w.alloc (.cells #[.int .u64 id, .int .i64 co, .int .i64 st, .int .i64 lv, .int .u64 gn, .int .i64 fr, .int .i64 lf, .int .i64 du, .int .i64 tl] 24)).heap.size := HB_1.out.size
  have Bt_1 : Aside0 ((w.alloc (.cells #[.int .u64 id, .int .i64 co, .int .i64 st, .int .i64 lv, .int .u64 gn, .int .i64 fr, .int .i64 lf, .int .i64 du, .int .i64 tl] 24)).heap[w.heap.size]? = some (.cells #[.int .u64 id, .int .i64 co, .int .i64 st, .int .i64 lv, .int .u64 gn, .int .i64 fr, .int .i64 lf, .int .i64 du, .int .i64 tl] 24 (0, 0))) := ⟨(blk_new w _)⟩
  have hz_1 : w.heap.size < (w.alloc (.cells #[.int .u64 id, .int .i64 co, .int .i64 st, .int .i64 lv, .int .u64 gn, .int .i64 fr, .int .i64 lf, .int .i64 du, .int .i64 tl] 24)).heap.size := blk_lt Bt_1.out
  go_enter Try.func3, Try.ntmps3
  go_wp2_with fail
  generalize (w.alloc (.cells #[.int .u64 id, .int .i64 co, .int .i64 st, .int .i64 lv, .int .u64 gn, .int .i64 fr, .int .i64 lf, .int .i64 du, .int .i64 tl] 24)) = w1 at HB_1 hs_1 Bt_1 hz_1 ⊢
  have dt0 : w1.cell? ⟨w.heap.size, 0, none⟩ = some (.int .u64 id) := (blk_cell Bt_1.out 0).trans rfl
  have dt1 : w1.cell? ⟨w.heap.size, 1, none⟩ = some (.int .i64 co) := (blk_cell Bt_1.out 1).trans rfl
  have dt2 : w1.cell? ⟨w.heap.size, 2, none⟩ = some (.int .i64 st) := (blk_cell Bt_1.out 2).trans rfl
  have dt3 : w1.cell? ⟨w.heap.size, 3, none⟩ = some (.int .i64 lv) := (blk_cell Bt_1.out 3).trans rfl
  have dt4 : w1.cell? ⟨w.heap.size, 4, none⟩ = some (.int .u64 gn) := (blk_cell Bt_1.out 4).trans rfl
  have dt5 : w1.cell? ⟨w.heap.size, 5, none⟩ = some (.int .i64 fr) := (blk_cell Bt_1.out 5).trans rfl
  have dt6 : w1.cell? ⟨w.heap.size, 6, none⟩ = some (.int .i64 lf) := (blk_cell Bt_1.out 6).trans rfl
  have dt7 : w1.cell? ⟨w.heap.size, 7, none⟩ = some (.int .i64 du) := (blk_cell Bt_1.out 7).trans rfl
  have dt8 : w1.cell? ⟨w.heap.size, 8, none⟩ = some (.int .i64 tl) := (blk_cell Bt_1.out 8).trans rfl
  go_wp2_with (go_at_call 8; with_reducible refine (lives16_any w1).mono ?_; rintro e w2 ⟨rfl, q1⟩; clear dt0 dt1 dt2 dt3 dt4 dt5 dt6 dt7 dt8; have HB_2 := Aside0.mk (below_step HB_1.out q1); have hs_2 : w1.heap.size ≤ w2.heap.size := q1.size; have Bt_2 := Aside0.mk (blk_below Bt_1.out q1); clear q1; have dt0 : w2.cell? ⟨w.heap.size, 0, none⟩ = some (.int .u64 id) := (blk_cell Bt_2.out 0).trans rfl; have dt1 : w2.cell? ⟨w.heap.size, 1, none⟩ = some (.int .i64 co) := (blk_cell Bt_2.out 1).trans rfl; have dt2 : w2.cell? ⟨w.heap.size, 2, none⟩ = some (.int .i64 st) := (blk_cell Bt_2.out 2).trans rfl; have dt3 : w2.cell? ⟨w.heap.size, 3, none⟩ = some (.int .i64 lv) := (blk_cell Bt_2.out 3).trans rfl; have dt4 : w2.cell? ⟨w.heap.size, 4, none⟩ = some (.int .u64 gn) := (blk_cell Bt_2.out 4).trans rfl; have dt5 : w2.cell? ⟨w.heap.size, 5, none⟩ = some (.int .i64 fr) := (blk_cell Bt_2.out 5).trans rfl; have dt6 : w2.cell? ⟨w.heap.size, 6, none⟩ = some (.int .i64 lf) := (blk_cell Bt_2.out 6).trans rfl; have dt7 : w2.cell? ⟨w.heap.size, 7, none⟩ = some (.int .i64 du) := (blk_cell Bt_2.out 7).trans rfl; have dt8 : w2.cell? ⟨w.heap.size, 8, none⟩ = some (.int .i64 tl) := (blk_cell Bt_2.out 8).trans rfl)
  go_ret
  exact ⟨rfl, HB_2.out⟩
set_option maxHeartbeats 8000000 in
set_option maxRecDepth 100000 in
theorem tkb_no {id co st lv gn fr lf du tl : Int} {bs : List Int} {AB : Option Addr} {cB : Nat} (w : World) (hb : Kd.C (Kd.int .u8) w AB bs.length bs ∧ bs.length ≤ cB) (hby : ∀ x, x ∈ bs → 0 ≤ x ∧ x ≤ 255) (hfa : ∀ ad, AB = some ad → ad.block < w.heap.size) (hk : TkOk ⟨id, co, st, lv, gn, fr, lf, du, tl⟩) (hx : ¬ (3000 : Int) < bs.length) (hs : tkB ⟨id, co, st, lv, gn, fr, lf, du, tl⟩ = false) :
    Calls Try.prog 3 #[.agg #[.int .u64 id, .int .i64 co, .int .i64 st, .int .i64 lv, .int .u64 gn, .int .i64 fr, .int .i64 lf, .int .i64 du, .int .i64 tl], .slice AB bs.length cB] w fun e w' => e = .returned (.bool true) ∧ Below w.heap.size w w' := by
  have Hb := Aside0.mk hb
  have HBY := Aside0.mk hby
  have HFA := Aside0.mk hfa
  have HTK := Aside0.mk hk
  have hnot : ∀ (x : Bool) (w : World), (Op.unary .not (.bool x)).run Try.prog w = .ok (.bool (!x)) w := fun _ _ => rfl
  have f1_ : decide ((3000 : Int) < bs.length) = false := decide_eq_false hx
  have HS := Aside0.mk hs
  clear hs
  obtain ⟨⟨⟨⟨y1, y2, y3, y4, y5, y6, y7, y8, y9⟩, ok⟩, l2, g2⟩, hy⟩ : ∃ p, tkRead (bs, false) = p := ⟨_, rfl⟩
  have HY := Aside0.mk hy
  clear hy
  clear hb hby hfa hk
  have HB_1 : Aside0 (Below w.heap.size w (w.alloc (.cells #[.int .u64 id, .int .i64 co, .int .i64 st, .int .i64 lv, .int .u64 gn, .int .i64 fr, .int .i64 lf, .int .i64 du, .int .i64 tl] 24))) := ⟨(below_alloc (Below.refl w.heap.size w) (.cells #[.int .u64 id, .int .i64 co, .int .i64 st, .int .i64 lv, .int .u64 gn, .int .i64 fr, .int .i64 lf, .int .i64 du, .int .i64 tl] 24))⟩
  have hs_1 : w.heap.size ≤ (w.alloc (.cells #[.int .u64 id, .int .i64 co, .int .i64 st, .int .i64 lv, .int .u64 gn, .int .i64 fr, .int .i64 lf, .int .i64 du, .int .i64 tl] 24)).heap.size := HB_1.out.size
  have Bt_1 : Aside0 ((w.alloc (.cells #[.int .u64 id, .int .i64 co, .int .i64 st, .int .i64 lv, .int .u64 gn, .int .i64 fr, .int .i64 lf, .int .i64 du, .int .i64 tl] 24)).heap[w.heap.size]? = some (.cells #[.int .u64 id, .int .i64 co, .int .i64 st, .int .i64 lv, .int .u64 gn, .int .i64 fr, .int .i64 lf, .int .i64 du, .int .i64 tl] 24 (0, 0))) := ⟨(blk_new w _)⟩
  have hz_1 : w.heap.size < (w.alloc (.cells #[.int .u64 id, .int .i64 co, .int .i64 st, .int .i64 lv, .int .u64 gn, .int .i64 fr, .int .i64 lf, .int .i64 du, .int .i64 tl] 24)).heap.size := blk_lt Bt_1.out
  go_enter Try.func3, Try.ntmps3
  go_wp2_with fail
  generalize (w.alloc (.cells #[.int .u64 id, .int .i64 co, .int .i64 st, .int .i64 lv, .int .u64 gn, .int .i64 fr, .int .i64 lf, .int .i64 du, .int .i64 tl] 24)) = w1 at HB_1 hs_1 Bt_1 hz_1 ⊢
  have dt0 : w1.cell? ⟨w.heap.size, 0, none⟩ = some (.int .u64 id) := (blk_cell Bt_1.out 0).trans rfl
  have dt1 : w1.cell? ⟨w.heap.size, 1, none⟩ = some (.int .i64 co) := (blk_cell Bt_1.out 1).trans rfl
  have dt2 : w1.cell? ⟨w.heap.size, 2, none⟩ = some (.int .i64 st) := (blk_cell Bt_1.out 2).trans rfl
  have dt3 : w1.cell? ⟨w.heap.size, 3, none⟩ = some (.int .i64 lv) := (blk_cell Bt_1.out 3).trans rfl
  have dt4 : w1.cell? ⟨w.heap.size, 4, none⟩ = some (.int .u64 gn) := (blk_cell Bt_1.out 4).trans rfl
  have dt5 : w1.cell? ⟨w.heap.size, 5, none⟩ = some (.int .i64 fr) := (blk_cell Bt_1.out 5).trans rfl
  have dt6 : w1.cell? ⟨w.heap.size, 6, none⟩ = some (.int .i64 lf) := (blk_cell Bt_1.out 6).trans rfl
  have dt7 : w1.cell? ⟨w.heap.size, 7, none⟩ = some (.int .i64 du) := (blk_cell Bt_1.out 7).trans rfl
  have dt8 : w1.cell? ⟨w.heap.size, 8, none⟩ = some (.int .i64 tl) := (blk_cell Bt_1.out 8).trans rfl
  have hb4 : Below w1.heap.size w1 w1.drew := below_drew1 (Below.refl _ _)
  clear dt0 dt1 dt2 dt3 dt4 dt5 dt6 dt7 dt8
  have HB_2 := Aside0.mk (below_step HB_1.out hb4)
  have hs_2 : w1.heap.size ≤ w1.drew.heap.size := hb4.size
  have Bt_2 := Aside0.mk (blk_below Bt_1.out hb4)
  clear hb4
  have z0 : w1.drew.cell? ⟨w.heap.size, 0, none⟩ = some (.int .u64 id) := (blk_cell Bt_2.out 0).trans rfl
  have z1 : w1.drew.cell? ⟨w.heap.size, 1, none⟩ = some (.int .i64 co) := (blk_cell Bt_2.out 1).trans rfl
  have z2 : w1.drew.cell? ⟨w.heap.size, 2, none⟩ = some (.int .i64 st) := (blk_cell Bt_2.out 2).trans rfl
  have z3 : w1.drew.cell? ⟨w.heap.size, 3, none⟩ = some (.int .i64 lv) := (blk_cell Bt_2.out 3).trans rfl
  have z4 : w1.drew.cell? ⟨w.heap.size, 4, none⟩ = some (.int .u64 gn) := (blk_cell Bt_2.out 4).trans rfl
  have z5 : w1.drew.cell? ⟨w.heap.size, 5, none⟩ = some (.int .i64 fr) := (blk_cell Bt_2.out 5).trans rfl
  have z6 : w1.drew.cell? ⟨w.heap.size, 6, none⟩ = some (.int .i64 lf) := (blk_cell Bt_2.out 6).trans rfl
  have z7 : w1.drew.cell? ⟨w.heap.size, 7, none⟩ = some (.int .i64 du) := (blk_cell Bt_2.out 7).trans rfl
  have z8 : w1.drew.cell? ⟨w.heap.size, 8, none⟩ = some (.int .i64 tl) := (blk_cell Bt_2.out 8).trans rfl
  refine start_ (n := 5) (S := fun w' => w'.cell? ⟨w.heap.size, 0, none⟩ = some (.int .u64 id) ∧ w'.cell? ⟨w.heap.size, 1, none⟩ = some (.int .i64 co) ∧ w'.cell? ⟨w.heap.size, 2, none⟩ = some (.int .i64 st) ∧ w'.cell? ⟨w.heap.size, 3, none⟩ = some (.int .i64 lv) ∧ w'.cell? ⟨w.heap.size, 4, none⟩ = some (.int .u64 gn) ∧ w'.cell? ⟨w.heap.size, 5, none⟩ = some (.int .i64 fr) ∧ w'.cell? ⟨w.heap.size, 6, none⟩ = some (.int .i64 lf) ∧ w'.cell? ⟨w.heap.size, 7, none⟩ = some (.int .i64 du) ∧ w'.cell? ⟨w.heap.size, 8, none⟩ = some (.int .i64 tl)) (ds := []) #[false, false, false, false, false] (by kernel_rfl) rfl rfl ⟨z0, z1, z2, z3, z4, z5, z6, z7, z8⟩ (fun hHeld => ?_); refine with_tabW tkb_tab3 tkb_bits3 (fun HT_ HW_ => ?_)
  clear z0 z1 z2 z3 z4 z5 z6 z7 z8
  generalize w1.drew = w2 at HB_2 hs_2 Bt_2 hHeld ⊢
  refine take_ (i := 0) (N := some 18) (v := ?_) (a' := ?_) #[true, false, false, false, false] rfl rfl (take_ofW HT_.out HW_.out (by kernel_rfl)) (fun _ _ _ h => h) (Or.inl ⟨by rfl, ?_⟩) hHeld ?_ ?_
  rotate_left
  · rintro w' ⟨s0, s1, s2, s3, s4, s5, s6, s7, s8⟩
    go_simp
    with_reducible rfl
  rotate_left
  · simp only [Act.put, List.setIfInBounds_toArray, List.set_cons_zero, List.set_cons_succ, i64_w, i32_w]
    rfl
  refine take_ (i := 2) (N := some 20) (v := ?_) (a' := ?_) #[true, false, true, false, false] rfl rfl (take_ofW HT_.out HW_.out (by kernel_rfl)) (fun _ _ _ h => h) (Or.inl ⟨by rfl, ?_⟩) hHeld ?_ ?_
  rotate_left
  · rintro w' ⟨s0, s1, s2, s3, s4, s5, s6, s7, s8⟩
    go_simp
    with_reducible rfl
  rotate_left
  · simp only [Act.put, List.setIfInBounds_toArray, List.set_cons_zero, List.set_cons_succ, i64_w, i32_w]
    rfl
  refine one_ (i := 1) (N := some 19) #[true, true, true, false, false] rfl rfl (one_of HT_.out (by kernel_rfl)) (by decide) (fun K hK => ?_)
  refine goes_ Try.func9 (by kernel_rfl) rfl #[.agg #[.int .u64 id, .int .i64 co, .int .i64 st, .int .i64 lv, .int .u64 gn, .int .i64 fr, .int .i64 lf, .int .i64 du, .int .i64 tl]] (by rfl) rfl rfl (by (try simp only [List.map_toArray, List.map_cons, List.map_nil]); first | done | rfl) ?_
  refine (tksound_is ⟨id, co, st, lv, gn, fr, lf, du, tl⟩ false _ HTK.out HS.out).mono ?_
  rintro e w3 ⟨rfl, q1⟩
  refine ⟨_, rfl, ?_⟩
  have HB_3 := Aside0.mk (below_step HB_2.out q1)
  have hs_3 : w2.heap.size ≤ w3.heap.size := q1.size
  have Bt_3 := Aside0.mk (blk_below Bt_2.out q1)
  clear q1
  refine hK.out _ _ ⟨(blk_cell Bt_3.out 0).trans rfl, (blk_cell Bt_3.out 1).trans rfl, (blk_cell Bt_3.out 2).trans rfl, (blk_cell Bt_3.out 3).trans rfl, (blk_cell Bt_3.out 4).trans rfl, (blk_cell Bt_3.out 5).trans rfl, (blk_cell Bt_3.out 6).trans rfl, (blk_cell Bt_3.out 7).trans rfl, (blk_cell Bt_3.out 8).trans rfl⟩ (fun hHeld => ?_)
  clear hK K
  refine norm_ (a' := ?_) ?_ ?_
  rotate_left
  · show Act.put _ (some 19) _ = _
    simp only [Act.put, List.setIfInBounds_toArray, List.set_cons_zero, List.set_cons_succ, i64_w, i32_w]
    rfl
  refine one_ (i := 3) (N := some 21) #[true, true, true, true, false] rfl rfl (one_of HT_.out (by kernel_rfl)) (by decide) (fun K hK => ?_)
  refine goes_ Try.func10 (by kernel_rfl) rfl #[.agg #[.int .u64 id, .int .i64 co, .int .i64 st, .int .i64 lv, .int .u64 gn, .int .i64 fr, .int .i64 lf, .int .i64 du, .int .i64 tl]] (by rfl) rfl rfl (by (try simp only [List.map_toArray, List.map_cons, List.map_nil]); first | done | rfl) ?_
  refine (tkref_is ⟨id, co, st, lv, gn, fr, lf, du, tl⟩ false _ HS.out).mono ?_
  rintro e w4 ⟨rfl, q1⟩
  refine ⟨_, rfl, ?_⟩
  have HB_4 := Aside0.mk (below_step HB_3.out q1)
  have hs_4 : w3.heap.size ≤ w4.heap.size := q1.size
  have Bt_4 := Aside0.mk (blk_below Bt_3.out q1)
  clear q1
  refine hK.out _ _ ⟨(blk_cell Bt_4.out 0).trans rfl, (blk_cell Bt_4.out 1).trans rfl, (blk_cell Bt_4.out 2).trans rfl, (blk_cell Bt_4.out 3).trans rfl, (blk_cell Bt_4.out 4).trans rfl, (blk_cell Bt_4.out 5).trans rfl, (blk_cell Bt_4.out 6).trans rfl, (blk_cell Bt_4.out 7).trans rfl, (blk_cell Bt_4.out 8).trans rfl⟩ (fun hHeld => ?_)
  clear hK K
  refine norm_ (a' := ?_) ?_ ?_
  rotate_left
  · show Act.put _ (some 21) _ = _
    simp only [Act.put, List.setIfInBounds_toArray, List.set_cons_zero, List.set_cons_succ, i64_w, i32_w]
    rfl
  refine pure_ (i := 4) (N := some 22) (v := ?_) (a' := ?_) #[true, true, true, true, true] rfl rfl (any_of HT_.out (by kernel_rfl)) (fun _ _ _ h => h) (Or.inl ⟨by rfl, ?_⟩) ?_ ?_
  rotate_left
  · intro w'
    go_simp
    with_reducible rfl
  rotate_left
  · simp only [Act.put, List.setIfInBounds_toArray, List.set_cons_zero, List.set_cons_succ, i64_w, i32_w]
    rfl
  refine done_ (done_of HT_.out (by kernel_rfl)) ?_
  clear HT_ HW_ hHeld
  have dt0 : w4.cell? ⟨w.heap.size, 0, none⟩ = some (.int .u64 id) := (blk_cell Bt_4.out 0).trans rfl
  have dt1 : w4.cell? ⟨w.heap.size, 1, none⟩ = some (.int .i64 co) := (blk_cell Bt_4.out 1).trans rfl
  have dt2 : w4.cell? ⟨w.heap.size, 2, none⟩ = some (.int .i64 st) := (blk_cell Bt_4.out 2).trans rfl
  have dt3 : w4.cell? ⟨w.heap.size, 3, none⟩ = some (.int .i64 lv) := (blk_cell Bt_4.out 3).trans rfl
  have dt4 : w4.cell? ⟨w.heap.size, 4, none⟩ = some (.int .u64 gn) := (blk_cell Bt_4.out 4).trans rfl
  have dt5 : w4.cell? ⟨w.heap.size, 5, none⟩ = some (.int .i64 fr) := (blk_cell Bt_4.out 5).trans rfl
  have dt6 : w4.cell? ⟨w.heap.size, 6, none⟩ = some (.int .i64 lf) := (blk_cell Bt_4.out 6).trans rfl
  have dt7 : w4.cell? ⟨w.heap.size, 7, none⟩ = some (.int .i64 du) := (blk_cell Bt_4.out 7).trans rfl
  have dt8 : w4.cell? ⟨w.heap.size, 8, none⟩ = some (.int .i64 tl) := (blk_cell Bt_4.out 8).trans rfl
  go_upto_region 12 with (first | (go_at_call 10; with_reducible refine (tkref_is ⟨id, co, st, lv, gn, fr, lf, du, tl⟩ false w4 HS.out).mono ?_; rintro e w5 ⟨rfl, q1⟩; clear dt0 dt1 dt2 dt3 dt4 dt5 dt6 dt7 dt8; have HB_5 := Aside0.mk (below_step HB_4.out q1); have hs_5 : w4.heap.size ≤ w5.heap.size := q1.size; have Bt_5 := Aside0.mk (blk_below Bt_4.out q1); clear q1) | (go_at_call 13; with_reducible refine (ropen_any AB cB w.heap.size bs w5 (Kd.C_below Hb.out.1 HB_5.out) Hb.out.2 HB_5.out.size HFA.out HBY.out).mono ?_; rintro e w6 ⟨rfl, q5, q1⟩; have HB_6 := Aside0.mk (below_step HB_5.out q1); have hs_6 : w5.heap.size ≤ w6.heap.size := q1.size; have Bt_6 := Aside0.mk (blk_below Bt_5.out q1); clear q1; have HP_6 := Aside0.mk q5; have hltP := q5.lt; clear q5))
  have hb : Below w6.heap.size w6 (w6.alloc (.cells #[.slice AB bs.length cB, .bool false] 40)) := below_alloc (Below.refl _ _) _
  have HB_7 := Aside0.mk (below_step HB_6.out hb)
  have hs_7 : w6.heap.size ≤ (w6.alloc (.cells #[.slice AB bs.length cB, .bool false] 40)).heap.size := hb.size
  have Bt_7 := Aside0.mk (blk_below Bt_6.out hb)
  have HP_7 := Aside0.mk (HP_6.out.below hb)
  clear hb
  have Bd_7 := Aside0.mk (blk_new w6 (.cells #[.slice AB bs.length cB, .bool false] 40))
  have hz_7 : w6.heap.size < (w6.alloc (.cells #[.slice AB bs.length cB, .bool false] 40)).heap.size := blk_lt Bd_7.out
  have HD_7 := Aside0.mk (RdAt.of (t := 40) (m := w.heap.size) (rb := w6.heap.size) (A := AB) (c := cB) (s := (bs, false)) ⟨blk_new w6 _, Hb.out.2, Kd.C_below Hb.out.1 HB_7.out, HFA.out, HB_6.out.size, HBY.out⟩)
  generalize (w6.alloc (.cells #[.slice AB bs.length cB, .bool false] 40)) = w7 at HB_7 hs_7 Bt_7 Bd_7 HP_7 HD_7 hz_7 ⊢
  go_upto_region 13 with (go_at_call 12; with_reducible refine (tkread_any y1 y2 y3 y4 y5 y6 y7 y8 y9 ok (l2, g2) w7 HP_7.out HY.out).mono ?_; rintro e w8 ⟨rfl, q1, q2⟩; have HB_8 := Aside0.mk (HB_7.out.trans (Upd.below q2 HB_7.out.size (by omega))); have hs_8 : w7.heap.size ≤ w8.heap.size := q2.size; have Bt_8 := Aside0.mk (q2.blk Bt_7.out (by omega)); have HP_8 := Aside0.mk q1; have HD_8 := Aside0.mk (HD_7.out.upd q2 (by omega) (by omega)); clear q1 q2)
  have hb : Below w8.heap.size w8 (w8.alloc (.cells #[.int .u64 y1, .int .i64 y2, .int .i64 y3, .int .i64 y4, .int .u64 y5, .int .i64 y6, .int .i64 y7, .int .i64 y8, .int .i64 y9] 24)) := below_alloc (Below.refl _ _) _
  have HB_9 := Aside0.mk (below_step HB_8.out hb)
  have hs_9 : w8.heap.size ≤ (w8.alloc (.cells #[.int .u64 y1, .int .i64 y2, .int .i64 y3, .int .i64 y4, .int .u64 y5, .int .i64 y6, .int .i64 y7, .int .i64 y8, .int .i64 y9] 24)).heap.size := hb.size
  have Bt_9 := Aside0.mk (blk_below Bt_8.out hb)
  have HP_9 := Aside0.mk (HP_8.out.below hb)
  have HD_9 := Aside0.mk (HD_8.out.below hb)
  clear hb
  have Bx_9 := Aside0.mk (blk_new w8 (.cells #[.int .u64 y1, .int .i64 y2, .int .i64 y3, .int .i64 y4, .int .u64 y5, .int .i64 y6, .int .i64 y7, .int .i64 y8, .int .i64 y9] 24))
  have hz_9 : w8.heap.size < (w8.alloc (.cells #[.int .u64 y1, .int .i64 y2, .int .i64 y3, .int .i64 y4, .int .u64 y5, .int .i64 y6, .int .i64 y7, .int .i64 y8, .int .i64 y9] 24)).heap.size := blk_lt Bx_9.out
  generalize (w8.alloc (.cells #[.int .u64 y1, .int .i64 y2, .int .i64 y3, .int .i64 y4, .int .u64 y5, .int .i64 y6, .int .i64 y7, .int .i64 y8, .int .i64 y9] 24)) = w9 at HB_9 hs_9 Bt_9 Bx_9 HP_9 HD_9 hz_9 ⊢
  go_upto_region 14 with (go_at_call 16; with_reducible refine (tkdread_any y1 y2 y3 y4 y5 y6 y7 y8 y9 ok (l2, g2) w9 HD_9.out HY.out).mono ?_; rintro e w10 ⟨rfl, q1, q2⟩; have HB_10 := Aside0.mk (HB_9.out.trans (Upd.below q2 HB_9.out.size (by omega))); have hs_10 : w9.heap.size ≤ w10.heap.size := q2.size; have Bt_10 := Aside0.mk (q2.blk Bt_9.out (by omega)); have Bx_10 := Aside0.mk (q2.blk Bx_9.out (by omega)); have HP_10 := Aside0.mk (HP_9.out.upd q2 (by omega) (by omega)); have HD_10 := Aside0.mk q1; clear q1 q2)
  have hb : Below w10.heap.size w10 (w10.alloc (.cells #[.int .u64 y1, .int .i64 y2, .int .i64 y3, .int .i64 y4, .int .u64 y5, .int .i64 y6, .int .i64 y7, .int .i64 y8, .int .i64 y9] 24)) := below_alloc (Below.refl _ _) _
  have HB_11 := Aside0.mk (below_step HB_10.out hb)
  have hs_11 : w10.heap.size ≤ (w10.alloc (.cells #[.int .u64 y1, .int .i64 y2, .int .i64 y3, .int .i64 y4, .int .u64 y5, .int .i64 y6, .int .i64 y7, .int .i64 y8, .int .i64 y9] 24)).heap.size := hb.size
  have Bt_11 := Aside0.mk (blk_below Bt_10.out hb)
  have Bx_11 := Aside0.mk (blk_below Bx_10.out hb)
  have HP_11 := Aside0.mk (HP_10.out.below hb)
  have HD_11 := Aside0.mk (HD_10.out.below hb)
  clear hb
  have By_11 := Aside0.mk (blk_new w10 (.cells #[.int .u64 y1, .int .i64 y2, .int .i64 y3, .int .i64 y4, .int .u64 y5, .int .i64 y6, .int .i64 y7, .int .i64 y8, .int .i64 y9] 24))
  have hz_11 : w10.heap.size < (w10.alloc (.cells #[.int .u64 y1, .int .i64 y2, .int .i64 y3, .int .i64 y4, .int .u64 y5, .int .i64 y6, .int .i64 y7, .int .i64 y8, .int .i64 y9] 24)).heap.size := blk_lt By_11.out
  generalize (w10.alloc (.cells #[.int .u64 y1, .int .i64 y2, .int .i64 y3, .int .i64 y4, .int .u64 y5, .int .i64 y6, .int .i64 y7, .int .i64 y8, .int .i64 y9] 24)) = w11 at HB_11 hs_11 Bt_11 Bx_11 By_11 HP_11 HD_11 hz_11 ⊢
  obtain ⟨Ar, cr, hv⟩ := HD_11.out
  have hb4 : Below w11.heap.size w11 w11.drew := below_drew1 (Below.refl _ _)
  have HB_12 := Aside0.mk (below_step HB_11.out hb4)
  have hs_12 : w11.heap.size ≤ w11.drew.heap.size := hb4.size
  have Bt_12 := Aside0.mk (blk_below Bt_11.out hb4)
  have Bx_12 := Aside0.mk (blk_below Bx_11.out hb4)
  have By_12 := Aside0.mk (blk_below By_11.out hb4)
  have HP_12 := Aside0.mk (HP_11.out.below hb4)
  have HD_12 := Aside0.mk (HD_11.out.below hb4)
  clear hb4
  have HV := Aside0.mk (hv.below (below_drew1 (Below.refl _ _)) : RdV 40 _ w11.drew _ _ _ _)
  clear hv
  refine start_ (n := 31) (S := fun w' => w'.cell? ⟨w8.heap.size, 0, none⟩ = some (.int .u64 y1) ∧ w'.cell? ⟨w8.heap.size, 1, none⟩ = some (.int .i64 y2) ∧ w'.cell? ⟨w8.heap.size, 2, none⟩ = some (.int .i64 y3) ∧ w'.cell? ⟨w8.heap.size, 3, none⟩ = some (.int .i64 y4) ∧ w'.cell? ⟨w8.heap.size, 4, none⟩ = some (.int .u64 y5) ∧ w'.cell? ⟨w8.heap.size, 5, none⟩ = some (.int .i64 y6) ∧ w'.cell? ⟨w8.heap.size, 6, none⟩ = some (.int .i64 y7) ∧ w'.cell? ⟨w8.heap.size, 7, none⟩ = some (.int .i64 y8) ∧ w'.cell? ⟨w8.heap.size, 8, none⟩ = some (.int .i64 y9) ∧ w'.cell? ⟨w10.heap.size, 0, none⟩ = some (.int .u64 y1) ∧ w'.cell? ⟨w10.heap.size, 1, none⟩ = some (.int .i64 y2) ∧ w'.cell? ⟨w10.heap.size, 2, none⟩ = some (.int .i64 y3) ∧ w'.cell? ⟨w10.heap.size, 3, none⟩ = some (.int .i64 y4) ∧ w'.cell? ⟨w10.heap.size, 4, none⟩ = some (.int .u64 y5) ∧ w'.cell? ⟨w10.heap.size, 5, none⟩ = some (.int .i64 y6) ∧ w'.cell? ⟨w10.heap.size, 6, none⟩ = some (.int .i64 y7) ∧ w'.cell? ⟨w10.heap.size, 7, none⟩ = some (.int .i64 y8) ∧ w'.cell? ⟨w10.heap.size, 8, none⟩ = some (.int .i64 y9) ∧ w'.cell? ⟨w6.heap.size, 0, none⟩ = some (.slice Ar l2.length cr) ∧ w'.cell? ⟨w6.heap.size, 1, none⟩ = some (.bool g2)) (ds := []) #[false, false, false, false, false, false, false, false, false, false, false, false, false, false, false, false, false, false, false, false, false, false, false, false, false, false, false, false, false, false, false] (by kernel_rfl) rfl rfl ⟨(blk_cell Bx_12.out 0).trans rfl, (blk_cell Bx_12.out 1).trans rfl, (blk_cell Bx_12.out 2).trans rfl, (blk_cell Bx_12.out 3).trans rfl, (blk_cell Bx_12.out 4).trans rfl, (blk_cell Bx_12.out 5).trans rfl, (blk_cell Bx_12.out 6).trans rfl, (blk_cell Bx_12.out 7).trans rfl, (blk_cell Bx_12.out 8).trans rfl, (blk_cell By_12.out 0).trans rfl, (blk_cell By_12.out 1).trans rfl, (blk_cell By_12.out 2).trans rfl, (blk_cell By_12.out 3).trans rfl, (blk_cell By_12.out 4).trans rfl, (blk_cell By_12.out 5).trans rfl, (blk_cell By_12.out 6).trans rfl, (blk_cell By_12.out 7).trans rfl, (blk_cell By_12.out 8).trans rfl, HV.out.g0, HV.out.g1⟩ (fun hHeld => ?_); refine with_tabW tkb_tab14 tkb_bits14 (fun HT_ HW_ => ?_)
  generalize w11.drew = w12 at HB_12 hs_12 Bt_12 Bx_12 By_12 HP_12 HD_12 HV hHeld ⊢
  refine pure_ (i := 0) (N := some 63) (v := ?_) (a' := ?_) #[true, false, false, false, false, false, false, false, false, false, false, false, false, false, false, false, false, false, false, false, false, false, false, false, false, false, false, false, false, false, false] rfl rfl (any_of HT_.out (by kernel_rfl)) (fun _ _ _ h => h) (Or.inl ⟨by rfl, ?_⟩) ?_ ?_
  rotate_left
  · intro w'
    go_simp
    with_reducible rfl
  rotate_left
  · simp only [Act.put, List.setIfInBounds_toArray, List.set_cons_zero, List.set_cons_succ, i64_w, i32_w]
    rfl
  refine pure_ (i := 1) (N := some 64) (v := ?_) (a' := ?_) #[true, true, false, false, false, false, false, false, false, false, false, false, false, false, false, false, false, false, false, false, false, false, false, false, false, false, false, false, false, false, false] rfl rfl (any_of HT_.out (by kernel_rfl)) (fun _ _ _ h => h) (Or.inl ⟨by rfl, ?_⟩) ?_ ?_
  rotate_left
  · intro w'
    go_simp
    with_reducible rfl
  rotate_left
  · simp only [Act.put, List.setIfInBounds_toArray, List.set_cons_zero, List.set_cons_succ, i64_w, i32_w]
    rfl
  refine pure_ (i := 2) (N := some 65) (v := ?_) (a' := ?_) #[true, true, true, false, false, false, false, false, false, false, false, false, false, false, false, false, false, false, false, false, false, false, false, false, false, false, false, false, false, false, false] rfl rfl (any_of HT_.out (by kernel_rfl)) (fun _ _ _ h => h) (Or.inl ⟨by rfl, ?_⟩) ?_ ?_
  rotate_left
  · intro w'
    go_simp
    with_reducible rfl
  rotate_left
  · simp only [Act.put, List.setIfInBounds_toArray, List.set_cons_zero, List.set_cons_succ, i64_w, i32_w]
    rfl
  refine pure_ (i := 3) (N := some 66) (v := ?_) (a' := ?_) #[true, true, true, true, false, false, false, false, false, false, false, false, false, false, false, false, false, false, false, false, false, false, false, false, false, false, false, false, false, false, false] rfl rfl (any_of HT_.out (by kernel_rfl)) (fun _ _ _ h => h) (Or.inl ⟨by rfl, ?_⟩) ?_ ?_
  rotate_left
  · intro w'
    go_simp
    with_reducible rfl
  rotate_left
  · simp only [Act.put, List.setIfInBounds_toArray, List.set_cons_zero, List.set_cons_succ, i64_w, i32_w]
    rfl
  refine take_ (i := 4) (N := some 67) (v := ?_) (a' := ?_) #[true, true, true, true, true, false, false, false, false, false, false, false, false, false, false, false, false, false, false, false, false, false, false, false, false, false, false, false, false, false, false] rfl rfl (take_ofW HT_.out HW_.out (by kernel_rfl)) (fun _ _ _ h => h) (Or.inl ⟨by rfl, ?_⟩) hHeld ?_ ?_
  rotate_left
  · rintro w' ⟨s0, s1, s2, s3, s4, s5, s6, s7, s8, s9, s10, s11, s12, s13, s14, s15, s16, s17, s18, s19⟩
    go_simp
    with_reducible rfl
  rotate_left
  · simp only [Act.put, List.setIfInBounds_toArray, List.set_cons_zero, List.set_cons_succ, i64_w, i32_w]
    rfl
  refine take_ (i := 5) (N := some 68) (v := ?_) (a' := ?_) #[true, true, true, true, true, true, false, false, false, false, false, false, false, false, false, false, false, false, false, false, false, false, false, false, false, false, false, false, false, false, false] rfl rfl (take_ofW HT_.out HW_.out (by kernel_rfl)) (fun _ _ _ h => h) (Or.inl ⟨by rfl, ?_⟩) hHeld ?_ ?_
  rotate_left
  · rintro w' ⟨s0, s1, s2, s3, s4, s5, s6, s7, s8, s9, s10, s11, s12, s13, s14, s15, s16, s17, s18, s19⟩
    go_simp
    with_reducible rfl
  rotate_left
  · simp only [Act.put, List.setIfInBounds_toArray, List.set_cons_zero, List.set_cons_succ, i64_w, i32_w]
    rfl
  refine pure_ (i := 6) (N := some 69) (v := ?_) (a' := ?_) #[true, true, true, true, true, true, true, false, false, false, false, false, false, false, false, false, false, false, false, false, false, false, false, false, false, false, false, false, false, false, false] rfl rfl (any_of HT_.out (by kernel_rfl)) (fun _ _ _ h => h) (Or.inl ⟨by rfl, ?_⟩) ?_ ?_
  rotate_left
  · intro w'
    go_simp
    with_reducible rfl
  rotate_left
  · simp only [Act.put, List.setIfInBounds_toArray, List.set_cons_zero, List.set_cons_succ, i64_w, i32_w]
    rfl
  refine pure_ (i := 7) (N := some 70) (v := ?_) (a' := ?_) #[true, true, true, true, true, true, true, true, false, false, false, false, false, false, false, false, false, false, false, false, false, false, false, false, false, false, false, false, false, false, false] rfl rfl (any_of HT_.out (by kernel_rfl)) (fun _ _ _ h => h) (Or.inl ⟨by rfl, ?_⟩) ?_ ?_
  rotate_left
  · intro w'
    go_simp
    with_reducible rfl
  rotate_left
  · simp only [Act.put, List.setIfInBounds_toArray, List.set_cons_zero, List.set_cons_succ, i64_w, i32_w]
    rfl
  refine pure_ (i := 8) (N := some 71) (v := ?_) (a' := ?_) #[true, true, true, true, true, true, true, true, true, false, false, false, false, false, false, false, false, false, false, false, false, false, false, false, false, false, false, false, false, false, false] rfl rfl (any_of HT_.out (by kernel_rfl)) (fun _ _ _ h => h) (Or.inl ⟨by rfl, ?_⟩) ?_ ?_
  rotate_left
  · intro w'
    go_simp
    with_reducible rfl
  rotate_left
  · simp only [Act.put, List.setIfInBounds_toArray, List.set_cons_zero, List.set_cons_succ, i64_w, i32_w]
    rfl
  refine pure_ (i := 9) (N := some 72) (v := ?_) (a' := ?_) #[true, true, true, true, true, true, true, true, true, true, false, false, false, false, false, false, false, false, false, false, false, false, false, false, false, false, false, false, false, false, false] rfl rfl (any_of HT_.out (by kernel_rfl)) (fun _ _ _ h => h) (Or.inl ⟨by rfl, ?_⟩) ?_ ?_
  rotate_left
  · intro w'
    go_simp
    with_reducible rfl
  rotate_left
  · simp only [Act.put, List.setIfInBounds_toArray, List.set_cons_zero, List.set_cons_succ, i64_w, i32_w]
    rfl
  refine pure_ (i := 11) (N := some 74) (v := ?_) (a' := ?_) #[true, true, true, true, true, true, true, true, true, true, false, true, false, false, false, false, false, false, false, false, false, false, false, false, false, false, false, false, false, false, false] rfl rfl (any_of HT_.out (by kernel_rfl)) (fun _ _ _ h => h) (Or.inl ⟨by rfl, ?_⟩) ?_ ?_
  rotate_left
  · intro w'
    go_simp
    with_reducible rfl
  rotate_left
  · simp only [Act.put, List.setIfInBounds_toArray, List.set_cons_zero, List.set_cons_succ, i64_w, i32_w]
    rfl
  refine pure_ (i := 12) (N := some 75) (v := ?_) (a' := ?_) #[true, true, true, true, true, true, true, true, true, true, false, true, true, false, false, false, false, false, false, false, false, false, false, false, false, false, false, false, false, false, false] rfl rfl (any_of HT_.out (by kernel_rfl)) (fun _ _ _ h => h) (Or.inl ⟨by rfl, ?_⟩) ?_ ?_
  rotate_left
  · intro w'
    go_simp
    with_reducible rfl
  rotate_left
  · simp only [Act.put, List.setIfInBounds_toArray, List.set_cons_zero, List.set_cons_succ, i64_w, i32_w]
    rfl
  refine pure_ (i := 13) (N := some 76) (v := ?_) (a' := ?_) #[true, true, true, true, true, true, true, true, true, true, false, true, true, true, false, false, false, false, false, false, false, false, false, false, false, false, false, false, false, false, false] rfl rfl (any_of HT_.out (by kernel_rfl)) (fun _ _ _ h => h) (Or.inl ⟨by rfl, ?_⟩) ?_ ?_
  rotate_left
  · intro w'
    go_simp
    with_reducible rfl
  rotate_left
  · simp only [Act.put, List.setIfInBounds_toArray, List.set_cons_zero, List.set_cons_succ, i64_w, i32_w]
    rfl
  refine take_ (i := 14) (N := some 77) (v := ?_) (a' := ?_) #[true, true, true, true, true, true, true, true, true, true, false, true, true, true, true, false, false, false, false, false, false, false, false, false, false, false, false, false, false, false, false] rfl rfl (take_ofW HT_.out HW_.out (by kernel_rfl)) (fun _ _ _ h => h) (Or.inl ⟨by rfl, ?_⟩) hHeld ?_ ?_
  rotate_left
  · rintro w' ⟨s0, s1, s2, s3, s4, s5, s6, s7, s8, s9, s10, s11, s12, s13, s14, s15, s16, s17, s18, s19⟩
    go_simp
    with_reducible rfl
  rotate_left
  · simp only [Act.put, List.setIfInBounds_toArray, List.set_cons_zero, List.set_cons_succ, i64_w, i32_w]
    rfl
  refine pure_ (i := 15) (N := some 78) (v := ?_) (a' := ?_) #[true, true, true, true, true, true, true, true, true, true, false, true, true, true, true, true, false, false, false, false, false, false, false, false, false, false, false, false, false, false, false] rfl rfl (any_of HT_.out (by kernel_rfl)) (fun _ _ _ h => h) (Or.inl ⟨by rfl, ?_⟩) ?_ ?_
  rotate_left
  · intro w'
    go_simp
    with_reducible rfl
  rotate_left
  · simp only [Act.put, List.setIfInBounds_toArray, List.set_cons_zero, List.set_cons_succ, i64_w, i32_w]
    rfl
  refine one_ (i := 10) (N := some 73) #[true, true, true, true, true, true, true, true, true, true, true, true, true, true, true, true, false, false, false, false, false, false, false, false, false, false, false, false, false, false, false] rfl rfl (one_of HT_.out (by kernel_rfl)) (by decide) (fun K hK => ?_)
  refine goes_ Try.func17 (by kernel_rfl) rfl #[.pointer (some ⟨w5.heap.size, 0, none⟩)] (by rfl) rfl rfl (by (try simp only [List.map_toArray, List.map_cons, List.map_nil]); first | done | rfl) ?_
  refine (rleft_any _ HP_12.out).mono ?_
  rintro e w9 ⟨rfl, rfl⟩
  refine ⟨_, rfl, ?_⟩
  refine hK.out _ _ ⟨(blk_cell Bx_12.out 0).trans rfl, (blk_cell Bx_12.out 1).trans rfl, (blk_cell Bx_12.out 2).trans rfl, (blk_cell Bx_12.out 3).trans rfl, (blk_cell Bx_12.out 4).trans rfl, (blk_cell Bx_12.out 5).trans rfl, (blk_cell Bx_12.out 6).trans rfl, (blk_cell Bx_12.out 7).trans rfl, (blk_cell Bx_12.out 8).trans rfl, (blk_cell By_12.out 0).trans rfl, (blk_cell By_12.out 1).trans rfl, (blk_cell By_12.out 2).trans rfl, (blk_cell By_12.out 3).trans rfl, (blk_cell By_12.out 4).trans rfl, (blk_cell By_12.out 5).trans rfl, (blk_cell By_12.out 6).trans rfl, (blk_cell By_12.out 7).trans rfl, (blk_cell By_12.out 8).trans rfl, HV.out.g0, HV.out.g1⟩ (fun hHeld => ?_)
  clear hK K
  refine norm_ (a' := ?_) ?_ ?_
  rotate_left
  · show Act.put _ (some 73) _ = _
    simp only [Act.put, List.setIfInBounds_toArray, List.set_cons_zero, List.set_cons_succ, i64_w, i32_w]
    rfl
  refine pure_ (i := 16) (N := some 79) (v := ?_) (a' := ?_) #[true, true, true, true, true, true, true, true, true, true, true, true, true, true, true, true, true, false, false, false, false, false, false, false, false, false, false, false, false, false, false] rfl rfl (any_of HT_.out (by kernel_rfl)) (fun _ _ _ h => h) (Or.inl ⟨by rfl, ?_⟩) ?_ ?_
  rotate_left
  · intro w'
    go_simp
    with_reducible rfl
  rotate_left
  · simp only [Act.put, List.setIfInBounds_toArray, List.set_cons_zero, List.set_cons_succ, i64_w, i32_w]
    rfl
  refine pure_ (i := 17) (N := some 80) (v := ?_) (a' := ?_) #[true, true, true, true, true, true, true, true, true, true, true, true, true, true, true, true, true, true, false, false, false, false, false, false, false, false, false, false, false, false, false] rfl rfl (any_of HT_.out (by kernel_rfl)) (fun _ _ _ h => h) (Or.inl ⟨by rfl, ?_⟩) ?_ ?_
  rotate_left
  · intro w'
    go_simp
    with_reducible rfl
  rotate_left
  · simp only [Act.put, List.setIfInBounds_toArray, List.set_cons_zero, List.set_cons_succ, i64_w, i32_w]
    rfl
  refine pure_ (i := 18) (N := some 81) (v := ?_) (a' := ?_) #[true, true, true, true, true, true, true, true, true, true, true, true, true, true, true, true, true, true, true, false, false, false, false, false, false, false, false, false, false, false, false] rfl rfl (any_of HT_.out (by kernel_rfl)) (fun _ _ _ h => h) (Or.inl ⟨by rfl, ?_⟩) ?_ ?_
  rotate_left
  · intro w'
    go_simp
    with_reducible rfl
  rotate_left
  · simp only [Act.put, List.setIfInBounds_toArray, List.set_cons_zero, List.set_cons_succ, i64_w, i32_w]
    rfl
  refine pure_ (i := 19) (N := some 82) (v := ?_) (a' := ?_) #[true, true, true, true, true, true, true, true, true, true, true, true, true, true, true, true, true, true, true, true, false, false, false, false, false, false, false, false, false, false, false] rfl rfl (any_of HT_.out (by kernel_rfl)) (fun _ _ _ h => h) (Or.inl ⟨by rfl, ?_⟩) ?_ ?_
  rotate_left
  · intro w'
    go_simp
    with_reducible rfl
  rotate_left
  · simp only [Act.put, List.setIfInBounds_toArray, List.set_cons_zero, List.set_cons_succ, i64_w, i32_w]
    rfl
  refine pure_ (i := 21) (N := some 84) (v := ?_) (a' := ?_) #[true, true, true, true, true, true, true, true, true, true, true, true, true, true, true, true, true, true, true, true, false, true, false, false, false, false, false, false, false, false, false] rfl rfl (any_of HT_.out (by kernel_rfl)) (fun _ _ _ h => h) (Or.inl ⟨by rfl, ?_⟩) ?_ ?_
  rotate_left
  · intro w'
    go_simp
    with_reducible rfl
  rotate_left
  · simp only [Act.put, List.setIfInBounds_toArray, List.set_cons_zero, List.set_cons_succ, i64_w, i32_w]
    rfl
  refine pure_ (i := 22) (N := some 85) (v := ?_) (a' := ?_) #[true, true, true, true, true, true, true, true, true, true, true, true, true, true, true, true, true, true, true, true, false, true, true, false, false, false, false, false, false, false, false] rfl rfl (any_of HT_.out (by kernel_rfl)) (fun _ _ _ h => h) (Or.inl ⟨by rfl, ?_⟩) ?_ ?_
  rotate_left
  · intro w'
    go_simp
    with_reducible rfl
  rotate_left
  · simp only [Act.put, List.setIfInBounds_toArray, List.set_cons_zero, List.set_cons_succ, i64_w, i32_w]
    rfl
  refine pure_ (i := 23) (N := some 86) (v := ?_) (a' := ?_) #[true, true, true, true, true, true, true, true, true, true, true, true, true, true, true, true, true, true, true, true, false, true, true, true, false, false, false, false, false, false, false] rfl rfl (any_of HT_.out (by kernel_rfl)) (fun _ _ _ h => h) (Or.inl ⟨by rfl, ?_⟩) ?_ ?_
  rotate_left
  · intro w'
    go_simp
    with_reducible rfl
  rotate_left
  · simp only [Act.put, List.setIfInBounds_toArray, List.set_cons_zero, List.set_cons_succ, i64_w, i32_w]
    rfl
  refine take_ (i := 24) (N := some 87) (v := ?_) (a' := ?_) #[true, true, true, true, true, true, true, true, true, true, true, true, true, true, true, true, true, true, true, true, false, true, true, true, true, false, false, false, false, false, false] rfl rfl (take_ofW HT_.out HW_.out (by kernel_rfl)) (fun _ _ _ h => h) (Or.inl ⟨by rfl, ?_⟩) hHeld ?_ ?_
  rotate_left
  · rintro w' ⟨s0, s1, s2, s3, s4, s5, s6, s7, s8, s9, s10, s11, s12, s13, s14, s15, s16, s17, s18, s19⟩
    go_simp
    with_reducible rfl
  rotate_left
  · simp only [Act.put, List.setIfInBounds_toArray, List.set_cons_zero, List.set_cons_succ, i64_w, i32_w]
    rfl
  refine one_ (i := 20) (N := some 83) #[true, true, true, true, true, true, true, true, true, true, true, true, true, true, true, true, true, true, true, true, true, true, true, true, true, false, false, false, false, false, false] rfl rfl (one_of HT_.out (by kernel_rfl)) (by decide) (fun K hK => ?_)
  refine goes_ Try.func18 (by kernel_rfl) rfl #[.pointer (some ⟨w5.heap.size, 0, none⟩)] (by rfl) rfl rfl (by (try simp only [List.map_toArray, List.map_cons, List.map_nil]); first | done | rfl) ?_
  refine (rbad_any _ HP_12.out).mono ?_
  rintro e w9 ⟨rfl, rfl⟩
  refine ⟨_, rfl, ?_⟩
  refine hK.out _ _ ⟨(blk_cell Bx_12.out 0).trans rfl, (blk_cell Bx_12.out 1).trans rfl, (blk_cell Bx_12.out 2).trans rfl, (blk_cell Bx_12.out 3).trans rfl, (blk_cell Bx_12.out 4).trans rfl, (blk_cell Bx_12.out 5).trans rfl, (blk_cell Bx_12.out 6).trans rfl, (blk_cell Bx_12.out 7).trans rfl, (blk_cell Bx_12.out 8).trans rfl, (blk_cell By_12.out 0).trans rfl, (blk_cell By_12.out 1).trans rfl, (blk_cell By_12.out 2).trans rfl, (blk_cell By_12.out 3).trans rfl, (blk_cell By_12.out 4).trans rfl, (blk_cell By_12.out 5).trans rfl, (blk_cell By_12.out 6).trans rfl, (blk_cell By_12.out 7).trans rfl, (blk_cell By_12.out 8).trans rfl, HV.out.g0, HV.out.g1⟩ (fun hHeld => ?_)
  clear hK K
  refine norm_ (a' := ?_) ?_ ?_
  rotate_left
  · show Act.put _ (some 83) _ = _
    simp only [Act.put, List.setIfInBounds_toArray, List.set_cons_zero, List.set_cons_succ, i64_w, i32_w]
    rfl
  refine pure_ (i := 25) (N := some 88) (v := ?_) (a' := ?_) #[true, true, true, true, true, true, true, true, true, true, true, true, true, true, true, true, true, true, true, true, true, true, true, true, true, true, false, false, false, false, false] rfl rfl (any_of HT_.out (by kernel_rfl)) (fun _ _ _ h => h) (Or.inl ⟨by rfl, ?_⟩) ?_ ?_
  rotate_left
  · intro w'
    go_simp
    with_reducible rfl
  rotate_left
  · simp only [Act.put, List.setIfInBounds_toArray, List.set_cons_zero, List.set_cons_succ, i64_w, i32_w]
    rfl
  refine pure_ (i := 26) (N := some 89) (v := ?_) (a' := ?_) #[true, true, true, true, true, true, true, true, true, true, true, true, true, true, true, true, true, true, true, true, true, true, true, true, true, true, true, false, false, false, false] rfl rfl (any_of HT_.out (by kernel_rfl)) (fun _ _ _ h => h) (Or.inl ⟨by rfl, ?_⟩) ?_ ?_
  rotate_left
  · intro w'
    go_simp
    with_reducible rfl
  rotate_left
  · simp only [Act.put, List.setIfInBounds_toArray, List.set_cons_zero, List.set_cons_succ, i64_w, i32_w]
    rfl
  refine pure_ (i := 27) (N := some 90) (v := ?_) (a' := ?_) #[true, true, true, true, true, true, true, true, true, true, true, true, true, true, true, true, true, true, true, true, true, true, true, true, true, true, true, true, false, false, false] rfl rfl (any_of HT_.out (by kernel_rfl)) (fun _ _ _ h => h) (Or.inl ⟨by rfl, ?_⟩) ?_ ?_
  rotate_left
  · intro w'
    go_simp
    with_reducible rfl
  rotate_left
  · simp only [Act.put, List.setIfInBounds_toArray, List.set_cons_zero, List.set_cons_succ, i64_w, i32_w]
    rfl
  refine one_ (i := 28) (N := some 91) #[true, true, true, true, true, true, true, true, true, true, true, true, true, true, true, true, true, true, true, true, true, true, true, true, true, true, true, true, true, false, false] rfl rfl (one_of HT_.out (by kernel_rfl)) (by decide) (fun K hK => ?_)
  refine goes_ Try.func8 (by kernel_rfl) rfl #[] (by rfl) rfl rfl (by (try simp only [List.map_toArray, List.map_cons, List.map_nil]); first | done | rfl) ?_
  refine (lives16_any _).mono ?_
  rintro e w13 ⟨rfl, q1⟩
  refine ⟨_, rfl, ?_⟩
  have HV := Aside0.mk (HV.out.below q1)
  have HB_13 := Aside0.mk (below_step HB_12.out q1)
  have hs_13 : w12.heap.size ≤ w13.heap.size := q1.size
  have Bt_13 := Aside0.mk (blk_below Bt_12.out q1)
  have Bx_13 := Aside0.mk (blk_below Bx_12.out q1)
  have By_13 := Aside0.mk (blk_below By_12.out q1)
  have HP_13 := Aside0.mk (HP_12.out.below q1)
  have HD_13 := Aside0.mk (HD_12.out.below q1)
  clear q1
  refine hK.out _ _ ⟨(blk_cell Bx_13.out 0).trans rfl, (blk_cell Bx_13.out 1).trans rfl, (blk_cell Bx_13.out 2).trans rfl, (blk_cell Bx_13.out 3).trans rfl, (blk_cell Bx_13.out 4).trans rfl, (blk_cell Bx_13.out 5).trans rfl, (blk_cell Bx_13.out 6).trans rfl, (blk_cell Bx_13.out 7).trans rfl, (blk_cell Bx_13.out 8).trans rfl, (blk_cell By_13.out 0).trans rfl, (blk_cell By_13.out 1).trans rfl, (blk_cell By_13.out 2).trans rfl, (blk_cell By_13.out 3).trans rfl, (blk_cell By_13.out 4).trans rfl, (blk_cell By_13.out 5).trans rfl, (blk_cell By_13.out 6).trans rfl, (blk_cell By_13.out 7).trans rfl, (blk_cell By_13.out 8).trans rfl, HV.out.g0, HV.out.g1⟩ (fun hHeld => ?_)
  clear hK K
  refine norm_ (a' := ?_) ?_ ?_
  rotate_left
  · show Act.put _ (some 91) _ = _
    simp only [Act.put, List.setIfInBounds_toArray, List.set_cons_zero, List.set_cons_succ, i64_w, i32_w]
    rfl
  refine pure_ (i := 29) (N := some 92) (v := ?_) (a' := ?_) #[true, true, true, true, true, true, true, true, true, true, true, true, true, true, true, true, true, true, true, true, true, true, true, true, true, true, true, true, true, true, false] rfl rfl (any_of HT_.out (by kernel_rfl)) (fun _ _ _ h => h) (Or.inl ⟨by rfl, ?_⟩) ?_ ?_
  rotate_left
  · intro w'
    go_simp
    with_reducible rfl
  rotate_left
  · simp only [Act.put, List.setIfInBounds_toArray, List.set_cons_zero, List.set_cons_succ, i64_w, i32_w]
    rfl
  refine pure_ (i := 30) (N := some 4) (v := ?_) (a' := ?_) #[true, true, true, true, true, true, true, true, true, true, true, true, true, true, true, true, true, true, true, true, true, true, true, true, true, true, true, true, true, true, true] rfl rfl (any_of HT_.out (by kernel_rfl)) (fun _ _ _ h => h) (Or.inl ⟨by rfl, ?_⟩) ?_ ?_
  rotate_left
  · intro w'
    go_simp
    with_reducible rfl
  rotate_left
  · simp only [Act.put, List.setIfInBounds_toArray, List.set_cons_zero, List.set_cons_succ, i64_w, i32_w]
    rfl
  refine done_ (done_of HT_.out (by kernel_rfl)) ?_
  clear HT_ HW_ hHeld
  go_wp2
  go_ret
  exact ⟨rfl, HB_13.out⟩
set_option maxHeartbeats 8000000 in
set_option maxRecDepth 100000 in
theorem tkb_yes {id co st lv gn fr lf du tl : Int} {bs : List Int} {AB : Option Addr} {cB : Nat} (w : World) (hb : Kd.C (Kd.int .u8) w AB bs.length bs ∧ bs.length ≤ cB) (hby : ∀ x, x ∈ bs → 0 ≤ x ∧ x ≤ 255) (hfa : ∀ ad, AB = some ad → ad.block < w.heap.size) (hk : TkOk ⟨id, co, st, lv, gn, fr, lf, du, tl⟩) (hx : ¬ (3000 : Int) < bs.length) (hs : tkB ⟨id, co, st, lv, gn, fr, lf, du, tl⟩ = true) :
    Calls Try.prog 3 #[.agg #[.int .u64 id, .int .i64 co, .int .i64 st, .int .i64 lv, .int .u64 gn, .int .i64 fr, .int .i64 lf, .int .i64 du, .int .i64 tl], .slice AB bs.length cB] w fun e w' => e = .returned (.bool true) ∧ Below w.heap.size w w' := by
  have Hb := Aside0.mk hb
  have HBY := Aside0.mk hby
  have HFA := Aside0.mk hfa
  have HTK := Aside0.mk hk
  have hnot : ∀ (x : Bool) (w : World), (Op.unary .not (.bool x)).run Try.prog w = .ok (.bool (!x)) w := fun _ _ => rfl
  have f1_ : decide ((3000 : Int) < bs.length) = false := decide_eq_false hx
  have HS := Aside0.mk hs
  have HS1 : Aside0 (tkS ⟨id, co, st, lv, gn, fr, lf, du, tl⟩) := ⟨of_decide_eq_true hs⟩
  clear hs
  obtain ⟨⟨⟨⟨y1, y2, y3, y4, y5, y6, y7, y8, y9⟩, ok⟩, l2, g2⟩, hy⟩ : ∃ p, tkRead (bs, false) = p := ⟨_, rfl⟩
  have HY := Aside0.mk hy
  clear hy
  clear hb hby hfa hk
  have HB_1 : Aside0 (Below w.heap.size w (w.alloc (.cells #[.int .u64 id, .int .i64 co, .int .i64 st, .int .i64 lv, .int .u64 gn, .int .i64 fr, .int .i64 lf, .int .i64 du, .int .i64 tl] 24))) := ⟨(below_alloc (Below.refl w.heap.size w) (.cells #[.int .u64 id, .int .i64 co, .int .i64 st, .int .i64 lv, .int .u64 gn, .int .i64 fr, .int .i64 lf, .int .i64 du, .int .i64 tl] 24))⟩
  have hs_1 : w.heap.size ≤ (w.alloc (.cells #[.int .u64 id, .int .i64 co, .int .i64 st, .int .i64 lv, .int .u64 gn, .int .i64 fr, .int .i64 lf, .int .i64 du, .int .i64 tl] 24)).heap.size := HB_1.out.size
  have Bt_1 : Aside0 ((w.alloc (.cells #[.int .u64 id, .int .i64 co, .int .i64 st, .int .i64 lv, .int .u64 gn, .int .i64 fr, .int .i64 lf, .int .i64 du, .int .i64 tl] 24)).heap[w.heap.size]? = some (.cells #[.int .u64 id, .int .i64 co, .int .i64 st, .int .i64 lv, .int .u64 gn, .int .i64 fr, .int .i64 lf, .int .i64 du, .int .i64 tl] 24 (0, 0))) := ⟨(blk_new w _)⟩
  have hz_1 : w.heap.size < (w.alloc (.cells #[.int .u64 id, .int .i64 co, .int .i64 st, .int .i64 lv, .int .u64 gn, .int .i64 fr, .int .i64 lf, .int .i64 du, .int .i64 tl] 24)).heap.size := blk_lt Bt_1.out
  go_enter Try.func3, Try.ntmps3
  go_wp2_with fail
  generalize (w.alloc (.cells #[.int .u64 id, .int .i64 co, .int .i64 st, .int .i64 lv, .int .u64 gn, .int .i64 fr, .int .i64 lf, .int .i64 du, .int .i64 tl] 24)) = w1 at HB_1 hs_1 Bt_1 hz_1 ⊢
  have dt0 : w1.cell? ⟨w.heap.size, 0, none⟩ = some (.int .u64 id) := (blk_cell Bt_1.out 0).trans rfl
  have dt1 : w1.cell? ⟨w.heap.size, 1, none⟩ = some (.int .i64 co) := (blk_cell Bt_1.out 1).trans rfl
  have dt2 : w1.cell? ⟨w.heap.size, 2, none⟩ = some (.int .i64 st) := (blk_cell Bt_1.out 2).trans rfl
  have dt3 : w1.cell? ⟨w.heap.size, 3, none⟩ = some (.int .i64 lv) := (blk_cell Bt_1.out 3).trans rfl
  have dt4 : w1.cell? ⟨w.heap.size, 4, none⟩ = some (.int .u64 gn) := (blk_cell Bt_1.out 4).trans rfl
  have dt5 : w1.cell? ⟨w.heap.size, 5, none⟩ = some (.int .i64 fr) := (blk_cell Bt_1.out 5).trans rfl
  have dt6 : w1.cell? ⟨w.heap.size, 6, none⟩ = some (.int .i64 lf) := (blk_cell Bt_1.out 6).trans rfl
  have dt7 : w1.cell? ⟨w.heap.size, 7, none⟩ = some (.int .i64 du) := (blk_cell Bt_1.out 7).trans rfl
  have dt8 : w1.cell? ⟨w.heap.size, 8, none⟩ = some (.int .i64 tl) := (blk_cell Bt_1.out 8).trans rfl
  have hb4 : Below w1.heap.size w1 w1.drew := below_drew1 (Below.refl _ _)
  clear dt0 dt1 dt2 dt3 dt4 dt5 dt6 dt7 dt8
  have HB_2 := Aside0.mk (below_step HB_1.out hb4)
  have hs_2 : w1.heap.size ≤ w1.drew.heap.size := hb4.size
  have Bt_2 := Aside0.mk (blk_below Bt_1.out hb4)
  clear hb4
  have z0 : w1.drew.cell? ⟨w.heap.size, 0, none⟩ = some (.int .u64 id) := (blk_cell Bt_2.out 0).trans rfl
  have z1 : w1.drew.cell? ⟨w.heap.size, 1, none⟩ = some (.int .i64 co) := (blk_cell Bt_2.out 1).trans rfl
  have z2 : w1.drew.cell? ⟨w.heap.size, 2, none⟩ = some (.int .i64 st) := (blk_cell Bt_2.out 2).trans rfl
  have z3 : w1.drew.cell? ⟨w.heap.size, 3, none⟩ = some (.int .i64 lv) := (blk_cell Bt_2.out 3).trans rfl
  have z4 : w1.drew.cell? ⟨w.heap.size, 4, none⟩ = some (.int .u64 gn) := (blk_cell Bt_2.out 4).trans rfl
  have z5 : w1.drew.cell? ⟨w.heap.size, 5, none⟩ = some (.int .i64 fr) := (blk_cell Bt_2.out 5).trans rfl
  have z6 : w1.drew.cell? ⟨w.heap.size, 6, none⟩ = some (.int .i64 lf) := (blk_cell Bt_2.out 6).trans rfl
  have z7 : w1.drew.cell? ⟨w.heap.size, 7, none⟩ = some (.int .i64 du) := (blk_cell Bt_2.out 7).trans rfl
  have z8 : w1.drew.cell? ⟨w.heap.size, 8, none⟩ = some (.int .i64 tl) := (blk_cell Bt_2.out 8).trans rfl
  refine start_ (n := 5) (S := fun w' => w'.cell? ⟨w.heap.size, 0, none⟩ = some (.int .u64 id) ∧ w'.cell? ⟨w.heap.size, 1, none⟩ = some (.int .i64 co) ∧ w'.cell? ⟨w.heap.size, 2, none⟩ = some (.int .i64 st) ∧ w'.cell? ⟨w.heap.size, 3, none⟩ = some (.int .i64 lv) ∧ w'.cell? ⟨w.heap.size, 4, none⟩ = some (.int .u64 gn) ∧ w'.cell? ⟨w.heap.size, 5, none⟩ = some (.int .i64 fr) ∧ w'.cell? ⟨w.heap.size, 6, none⟩ = some (.int .i64 lf) ∧ w'.cell? ⟨w.heap.size, 7, none⟩ = some (.int .i64 du) ∧ w'.cell? ⟨w.heap.size, 8, none⟩ = some (.int .i64 tl)) (ds := []) #[false, false, false, false, false] (by kernel_rfl) rfl rfl ⟨z0, z1, z2, z3, z4, z5, z6, z7, z8⟩ (fun hHeld => ?_); refine with_tabW tkb_tab3 tkb_bits3 (fun HT_ HW_ => ?_)
  clear z0 z1 z2 z3 z4 z5 z6 z7 z8
  generalize w1.drew = w2 at HB_2 hs_2 Bt_2 hHeld ⊢
  refine take_ (i := 0) (N := some 18) (v := ?_) (a' := ?_) #[true, false, false, false, false] rfl rfl (take_ofW HT_.out HW_.out (by kernel_rfl)) (fun _ _ _ h => h) (Or.inl ⟨by rfl, ?_⟩) hHeld ?_ ?_
  rotate_left
  · rintro w' ⟨s0, s1, s2, s3, s4, s5, s6, s7, s8⟩
    go_simp
    with_reducible rfl
  rotate_left
  · simp only [Act.put, List.setIfInBounds_toArray, List.set_cons_zero, List.set_cons_succ, i64_w, i32_w]
    rfl
  refine take_ (i := 2) (N := some 20) (v := ?_) (a' := ?_) #[true, false, true, false, false] rfl rfl (take_ofW HT_.out HW_.out (by kernel_rfl)) (fun _ _ _ h => h) (Or.inl ⟨by rfl, ?_⟩) hHeld ?_ ?_
  rotate_left
  · rintro w' ⟨s0, s1, s2, s3, s4, s5, s6, s7, s8⟩
    go_simp
    with_reducible rfl
  rotate_left
  · simp only [Act.put, List.setIfInBounds_toArray, List.set_cons_zero, List.set_cons_succ, i64_w, i32_w]
    rfl
  refine one_ (i := 1) (N := some 19) #[true, true, true, false, false] rfl rfl (one_of HT_.out (by kernel_rfl)) (by decide) (fun K hK => ?_)
  refine goes_ Try.func9 (by kernel_rfl) rfl #[.agg #[.int .u64 id, .int .i64 co, .int .i64 st, .int .i64 lv, .int .u64 gn, .int .i64 fr, .int .i64 lf, .int .i64 du, .int .i64 tl]] (by rfl) rfl rfl (by (try simp only [List.map_toArray, List.map_cons, List.map_nil]); first | done | rfl) ?_
  refine (tksound_is ⟨id, co, st, lv, gn, fr, lf, du, tl⟩ true _ HTK.out HS.out).mono ?_
  rintro e w3 ⟨rfl, q1⟩
  refine ⟨_, rfl, ?_⟩
  have HB_3 := Aside0.mk (below_step HB_2.out q1)
  have hs_3 : w2.heap.size ≤ w3.heap.size := q1.size
  have Bt_3 := Aside0.mk (blk_below Bt_2.out q1)
  clear q1
  refine hK.out _ _ ⟨(blk_cell Bt_3.out 0).trans rfl, (blk_cell Bt_3.out 1).trans rfl, (blk_cell Bt_3.out 2).trans rfl, (blk_cell Bt_3.out 3).trans rfl, (blk_cell Bt_3.out 4).trans rfl, (blk_cell Bt_3.out 5).trans rfl, (blk_cell Bt_3.out 6).trans rfl, (blk_cell Bt_3.out 7).trans rfl, (blk_cell Bt_3.out 8).trans rfl⟩ (fun hHeld => ?_)
  clear hK K
  refine norm_ (a' := ?_) ?_ ?_
  rotate_left
  · show Act.put _ (some 19) _ = _
    simp only [Act.put, List.setIfInBounds_toArray, List.set_cons_zero, List.set_cons_succ, i64_w, i32_w]
    rfl
  refine one_ (i := 3) (N := some 21) #[true, true, true, true, false] rfl rfl (one_of HT_.out (by kernel_rfl)) (by decide) (fun K hK => ?_)
  refine goes_ Try.func10 (by kernel_rfl) rfl #[.agg #[.int .u64 id, .int .i64 co, .int .i64 st, .int .i64 lv, .int .u64 gn, .int .i64 fr, .int .i64 lf, .int .i64 du, .int .i64 tl]] (by rfl) rfl rfl (by (try simp only [List.map_toArray, List.map_cons, List.map_nil]); first | done | rfl) ?_
  refine (tkref_is ⟨id, co, st, lv, gn, fr, lf, du, tl⟩ true _ HS.out).mono ?_
  rintro e w4 ⟨rfl, q1⟩
  refine ⟨_, rfl, ?_⟩
  have HB_4 := Aside0.mk (below_step HB_3.out q1)
  have hs_4 : w3.heap.size ≤ w4.heap.size := q1.size
  have Bt_4 := Aside0.mk (blk_below Bt_3.out q1)
  clear q1
  refine hK.out _ _ ⟨(blk_cell Bt_4.out 0).trans rfl, (blk_cell Bt_4.out 1).trans rfl, (blk_cell Bt_4.out 2).trans rfl, (blk_cell Bt_4.out 3).trans rfl, (blk_cell Bt_4.out 4).trans rfl, (blk_cell Bt_4.out 5).trans rfl, (blk_cell Bt_4.out 6).trans rfl, (blk_cell Bt_4.out 7).trans rfl, (blk_cell Bt_4.out 8).trans rfl⟩ (fun hHeld => ?_)
  clear hK K
  refine norm_ (a' := ?_) ?_ ?_
  rotate_left
  · show Act.put _ (some 21) _ = _
    simp only [Act.put, List.setIfInBounds_toArray, List.set_cons_zero, List.set_cons_succ, i64_w, i32_w]
    rfl
  refine pure_ (i := 4) (N := some 22) (v := ?_) (a' := ?_) #[true, true, true, true, true] rfl rfl (any_of HT_.out (by kernel_rfl)) (fun _ _ _ h => h) (Or.inl ⟨by rfl, ?_⟩) ?_ ?_
  rotate_left
  · intro w'
    go_simp
    with_reducible rfl
  rotate_left
  · simp only [Act.put, List.setIfInBounds_toArray, List.set_cons_zero, List.set_cons_succ, i64_w, i32_w]
    rfl
  refine done_ (done_of HT_.out (by kernel_rfl)) ?_
  clear HT_ HW_ hHeld
  have dt0 : w4.cell? ⟨w.heap.size, 0, none⟩ = some (.int .u64 id) := (blk_cell Bt_4.out 0).trans rfl
  have dt1 : w4.cell? ⟨w.heap.size, 1, none⟩ = some (.int .i64 co) := (blk_cell Bt_4.out 1).trans rfl
  have dt2 : w4.cell? ⟨w.heap.size, 2, none⟩ = some (.int .i64 st) := (blk_cell Bt_4.out 2).trans rfl
  have dt3 : w4.cell? ⟨w.heap.size, 3, none⟩ = some (.int .i64 lv) := (blk_cell Bt_4.out 3).trans rfl
  have dt4 : w4.cell? ⟨w.heap.size, 4, none⟩ = some (.int .u64 gn) := (blk_cell Bt_4.out 4).trans rfl
  have dt5 : w4.cell? ⟨w.heap.size, 5, none⟩ = some (.int .i64 fr) := (blk_cell Bt_4.out 5).trans rfl
  have dt6 : w4.cell? ⟨w.heap.size, 6, none⟩ = some (.int .i64 lf) := (blk_cell Bt_4.out 6).trans rfl
  have dt7 : w4.cell? ⟨w.heap.size, 7, none⟩ = some (.int .i64 du) := (blk_cell Bt_4.out 7).trans rfl
  have dt8 : w4.cell? ⟨w.heap.size, 8, none⟩ = some (.int .i64 tl) := (blk_cell Bt_4.out 8).trans rfl
  go_upto_region 7 with (go_at_call 10; with_reducible refine (tkref_is ⟨id, co, st, lv, gn, fr, lf, du, tl⟩ true w4 HS.out).mono ?_; rintro e w5 ⟨rfl, q1⟩; clear dt0 dt1 dt2 dt3 dt4 dt5 dt6 dt7 dt8; have HB_5 := Aside0.mk (below_step HB_4.out q1); have hs_5 : w4.heap.size ≤ w5.heap.size := q1.size; have Bt_5 := Aside0.mk (blk_below Bt_4.out q1); clear q1; have dt0 : w5.cell? ⟨w.heap.size, 0, none⟩ = some (.int .u64 id) := (blk_cell Bt_5.out 0).trans rfl; have dt1 : w5.cell? ⟨w.heap.size, 1, none⟩ = some (.int .i64 co) := (blk_cell Bt_5.out 1).trans rfl; have dt2 : w5.cell? ⟨w.heap.size, 2, none⟩ = some (.int .i64 st) := (blk_cell Bt_5.out 2).trans rfl; have dt3 : w5.cell? ⟨w.heap.size, 3, none⟩ = some (.int .i64 lv) := (blk_cell Bt_5.out 3).trans rfl; have dt4 : w5.cell? ⟨w.heap.size, 4, none⟩ = some (.int .u64 gn) := (blk_cell Bt_5.out 4).trans rfl; have dt5 : w5.cell? ⟨w.heap.size, 5, none⟩ = some (.int .i64 fr) := (blk_cell Bt_5.out 5).trans rfl; have dt6 : w5.cell? ⟨w.heap.size, 6, none⟩ = some (.int .i64 lf) := (blk_cell Bt_5.out 6).trans rfl; have dt7 : w5.cell? ⟨w.heap.size, 7, none⟩ = some (.int .i64 du) := (blk_cell Bt_5.out 7).trans rfl; have dt8 : w5.cell? ⟨w.heap.size, 8, none⟩ = some (.int .i64 tl) := (blk_cell Bt_5.out 8).trans rfl)
  have hb : Below w5.heap.size w5 (w5.alloc (.cells #[.slice none 0 0] 29)) := below_alloc (Below.refl _ _) _
  clear dt0 dt1 dt2 dt3 dt4 dt5 dt6 dt7 dt8
  have HB_6 := Aside0.mk (below_step HB_5.out hb)
  have hs_6 : w5.heap.size ≤ (w5.alloc (.cells #[.slice none 0 0] 29)).heap.size := hb.size
  have Bt_6 := Aside0.mk (blk_below Bt_5.out hb)
  clear hb
  have Bwr_6 := Aside0.mk (blk_new w5 (.cells #[.slice none 0 0] 29))
  have hz_6 : w5.heap.size < (w5.alloc (.cells #[.slice none 0 0] 29)).heap.size := blk_lt Bwr_6.out
  have HW_6 := Aside0.mk (WrAt.new w5)
  generalize (w5.alloc (.cells #[.slice none 0 0] 29)) = w6 at HB_6 hs_6 Bt_6 Bwr_6 HW_6 hz_6 ⊢
  have dt0 : w6.cell? ⟨w.heap.size, 0, none⟩ = some (.int .u64 id) := (blk_cell Bt_6.out 0).trans rfl
  have dt1 : w6.cell? ⟨w.heap.size, 1, none⟩ = some (.int .i64 co) := (blk_cell Bt_6.out 1).trans rfl
  have dt2 : w6.cell? ⟨w.heap.size, 2, none⟩ = some (.int .i64 st) := (blk_cell Bt_6.out 2).trans rfl
  have dt3 : w6.cell? ⟨w.heap.size, 3, none⟩ = some (.int .i64 lv) := (blk_cell Bt_6.out 3).trans rfl
  have dt4 : w6.cell? ⟨w.heap.size, 4, none⟩ = some (.int .u64 gn) := (blk_cell Bt_6.out 4).trans rfl
  have dt5 : w6.cell? ⟨w.heap.size, 5, none⟩ = some (.int .i64 fr) := (blk_cell Bt_6.out 5).trans rfl
  have dt6 : w6.cell? ⟨w.heap.size, 6, none⟩ = some (.int .i64 lf) := (blk_cell Bt_6.out 6).trans rfl
  have dt7 : w6.cell? ⟨w.heap.size, 7, none⟩ = some (.int .i64 du) := (blk_cell Bt_6.out 7).trans rfl
  have dt8 : w6.cell? ⟨w.heap.size, 8, none⟩ = some (.int .i64 tl) := (blk_cell Bt_6.out 8).trans rfl
  have dwr0 : w6.cell? ⟨w5.heap.size, 0, none⟩ = some (.slice none 0 0) := (blk_cell Bwr_6.out 0).trans rfl
  clear dt0 dt1 dt2 dt3 dt4 dt5 dt6 dt7 dt8 dwr0
  have dt0 : w6.cell? ⟨w.heap.size, 0, none⟩ = some (.int .u64 id) := (blk_cell Bt_6.out 0).trans rfl
  have dt1 : w6.cell? ⟨w.heap.size, 1, none⟩ = some (.int .i64 co) := (blk_cell Bt_6.out 1).trans rfl
  have dt2 : w6.cell? ⟨w.heap.size, 2, none⟩ = some (.int .i64 st) := (blk_cell Bt_6.out 2).trans rfl
  have dt3 : w6.cell? ⟨w.heap.size, 3, none⟩ = some (.int .i64 lv) := (blk_cell Bt_6.out 3).trans rfl
  have dt4 : w6.cell? ⟨w.heap.size, 4, none⟩ = some (.int .u64 gn) := (blk_cell Bt_6.out 4).trans rfl
  have dt5 : w6.cell? ⟨w.heap.size, 5, none⟩ = some (.int .i64 fr) := (blk_cell Bt_6.out 5).trans rfl
  have dt6 : w6.cell? ⟨w.heap.size, 6, none⟩ = some (.int .i64 lf) := (blk_cell Bt_6.out 6).trans rfl
  have dt7 : w6.cell? ⟨w.heap.size, 7, none⟩ = some (.int .i64 du) := (blk_cell Bt_6.out 7).trans rfl
  have dt8 : w6.cell? ⟨w.heap.size, 8, none⟩ = some (.int .i64 tl) := (blk_cell Bt_6.out 8).trans rfl
  go_upto_region 8 with (go_at_call 11; with_reducible refine (tkput16 w5.heap.size w5.heap.size ⟨id, co, st, lv, gn, fr, lf, du, tl⟩ w6 HW_6.out HTK.out HS1.out).mono ?_; rintro e w7 ⟨rfl, q5, q2⟩; clear dt0 dt1 dt2 dt3 dt4 dt5 dt6 dt7 dt8; have HB_7 := Aside0.mk (below_weaken HB_6.out (by omega) (WUpd.below q2 (Nat.le_refl _) (by omega))); have hs_7 : w6.heap.size ≤ w7.heap.size := q2.size; have Bt_7 := Aside0.mk (q2.blk Bt_6.out (by omega) (by decide)); have HW_7 := Aside0.mk q5; clear q5 q2)
  go_upto_region 9 with (first | (go_at_call 14; with_reducible refine (wbytes16 w5.heap.size w5.heap.size (tkW ⟨id, co, st, lv, gn, fr, lf, du, tl⟩) w7 HW_7.out (tkW_len HS1.out HTK.out) (tkW_pos _)).mono ?_; rintro e w8 ⟨A1, c1, rfl, q5, q1⟩; have HB_8 := Aside0.mk (below_step HB_7.out q1); have hs_8 : w7.heap.size ≤ w8.heap.size := q1.size; have Bt_8 := Aside0.mk (blk_below Bt_7.out q1); have HW_8 := Aside0.mk (HW_7.out.below q1); clear q1; have HK := Aside0.mk q5; clear q5) | (go_at_call 13; with_reducible refine (ropen_any A1 c1 w8.heap.size (tkW ⟨id, co, st, lv, gn, fr, lf, du, tl⟩) w8 HK.out.2.1 HK.out.1 (Nat.le_refl _) HK.out.2.2 (tkW_byte HS1.out HTK.out)).mono ?_; rintro e w9 ⟨rfl, q5, q1⟩; have HB_9 := Aside0.mk (below_step HB_8.out q1); have hs_9 : w8.heap.size ≤ w9.heap.size := q1.size; have Bt_9 := Aside0.mk (blk_below Bt_8.out q1); have HW_9 := Aside0.mk (HW_8.out.below q1); clear q1; have HQ_9 := Aside0.mk q5; have hltR := q5.lt; clear q5 HK) | (go_at_call 12; with_reducible refine (tkread_any id co st lv gn fr lf du tl true ([], false) w9 HQ_9.out (tkRead_put HS1.out HTK.out)).mono ?_; rintro e w10 ⟨rfl, q1, q2⟩; have HB_10 := Aside0.mk (HB_9.out.trans (Upd.below q2 HB_9.out.size (by omega))); have hs_10 : w9.heap.size ≤ w10.heap.size := q2.size; have Bt_10 := Aside0.mk (q2.blk Bt_9.out (by omega)); have HW_10 := Aside0.mk (HW_9.out.upd q2 HQ_9.out.blk2 (by decide) (by omega)); have HQ_10 := Aside0.mk q1; clear q1 q2))
  have hb : Below w10.heap.size w10 (w10.alloc (.cells #[.int .u64 id, .int .i64 co, .int .i64 st, .int .i64 lv, .int .u64 gn, .int .i64 fr, .int .i64 lf, .int .i64 du, .int .i64 tl] 24)) := below_alloc (Below.refl _ _) _
  have HB_11 := Aside0.mk (below_step HB_10.out hb)
  have hs_11 : w10.heap.size ≤ (w10.alloc (.cells #[.int .u64 id, .int .i64 co, .int .i64 st, .int .i64 lv, .int .u64 gn, .int .i64 fr, .int .i64 lf, .int .i64 du, .int .i64 tl] 24)).heap.size := hb.size
  have Bt_11 := Aside0.mk (blk_below Bt_10.out hb)
  have HW_11 := Aside0.mk (HW_10.out.below hb)
  clear hb
  have Bx_11 := Aside0.mk (blk_new w10 (.cells #[.int .u64 id, .int .i64 co, .int .i64 st, .int .i64 lv, .int .u64 gn, .int .i64 fr, .int .i64 lf, .int .i64 du, .int .i64 tl] 24))
  have hz_11 : w10.heap.size < (w10.alloc (.cells #[.int .u64 id, .int .i64 co, .int .i64 st, .int .i64 lv, .int .u64 gn, .int .i64 fr, .int .i64 lf, .int .i64 du, .int .i64 tl] 24)).heap.size := blk_lt Bx_11.out
  generalize (w10.alloc (.cells #[.int .u64 id, .int .i64 co, .int .i64 st, .int .i64 lv, .int .u64 gn, .int .i64 fr, .int .i64 lf, .int .i64 du, .int .i64 tl] 24)) = w11 at HB_11 hs_11 Bt_11 Bx_11 HW_11 hz_11 ⊢
  have hb4 : Below w11.heap.size w11 w11.drew := below_drew1 (Below.refl _ _)
  have HB_12 := Aside0.mk (below_step HB_11.out hb4)
  have hs_12 : w11.heap.size ≤ w11.drew.heap.size := hb4.size
  have Bt_12 := Aside0.mk (blk_below Bt_11.out hb4)
  have Bx_12 := Aside0.mk (blk_below Bx_11.out hb4)
  have HW_12 := Aside0.mk (HW_11.out.below hb4)
  clear hb4
  refine start_ (n := 15) (S := fun w' => w'.cell? ⟨w.heap.size, 0, none⟩ = some (.int .u64 id) ∧ w'.cell? ⟨w.heap.size, 1, none⟩ = some (.int .i64 co) ∧ w'.cell? ⟨w.heap.size, 2, none⟩ = some (.int .i64 st) ∧ w'.cell? ⟨w.heap.size, 3, none⟩ = some (.int .i64 lv) ∧ w'.cell? ⟨w.heap.size, 4, none⟩ = some (.int .u64 gn) ∧ w'.cell? ⟨w.heap.size, 5, none⟩ = some (.int .i64 fr) ∧ w'.cell? ⟨w.heap.size, 6, none⟩ = some (.int .i64 lf) ∧ w'.cell? ⟨w.heap.size, 7, none⟩ = some (.int .i64 du) ∧ w'.cell? ⟨w.heap.size, 8, none⟩ = some (.int .i64 tl) ∧ w'.cell? ⟨w10.heap.size, 0, none⟩ = some (.int .u64 id) ∧ w'.cell? ⟨w10.heap.size, 1, none⟩ = some (.int .i64 co) ∧ w'.cell? ⟨w10.heap.size, 2, none⟩ = some (.int .i64 st) ∧ w'.cell? ⟨w10.heap.size, 3, none⟩ = some (.int .i64 lv) ∧ w'.cell? ⟨w10.heap.size, 4, none⟩ = some (.int .u64 gn) ∧ w'.cell? ⟨w10.heap.size, 5, none⟩ = some (.int .i64 fr) ∧ w'.cell? ⟨w10.heap.size, 6, none⟩ = some (.int .i64 lf) ∧ w'.cell? ⟨w10.heap.size, 7, none⟩ = some (.int .i64 du) ∧ w'.cell? ⟨w10.heap.size, 8, none⟩ = some (.int .i64 tl)) (ds := []) #[false, false, false, false, false, false, false, false, false, false, false, false, false, false, false] (by kernel_rfl) rfl rfl ⟨(blk_cell Bt_12.out 0).trans rfl, (blk_cell Bt_12.out 1).trans rfl, (blk_cell Bt_12.out 2).trans rfl, (blk_cell Bt_12.out 3).trans rfl, (blk_cell Bt_12.out 4).trans rfl, (blk_cell Bt_12.out 5).trans rfl, (blk_cell Bt_12.out 6).trans rfl, (blk_cell Bt_12.out 7).trans rfl, (blk_cell Bt_12.out 8).trans rfl, (blk_cell Bx_12.out 0).trans rfl, (blk_cell Bx_12.out 1).trans rfl, (blk_cell Bx_12.out 2).trans rfl, (blk_cell Bx_12.out 3).trans rfl, (blk_cell Bx_12.out 4).trans rfl, (blk_cell Bx_12.out 5).trans rfl, (blk_cell Bx_12.out 6).trans rfl, (blk_cell Bx_12.out 7).trans rfl, (blk_cell Bx_12.out 8).trans rfl⟩ (fun hHeld => ?_); refine with_tabW tkb_tab9 tkb_bits9 (fun HT_ HW_ => ?_)
  generalize w11.drew = w12 at HB_12 hs_12 Bt_12 Bx_12 HW_12 hHeld ⊢
  refine take_ (i := 2) (N := some 35) (v := ?_) (a' := ?_) #[false, false, true, false, false, false, false, false, false, false, false, false, false, false, false] rfl rfl (take_ofW HT_.out HW_.out (by kernel_rfl)) (fun _ _ _ h => h) (Or.inl ⟨by rfl, ?_⟩) hHeld ?_ ?_
  rotate_left
  · rintro w' ⟨s0, s1, s2, s3, s4, s5, s6, s7, s8, s9, s10, s11, s12, s13, s14, s15, s16, s17⟩
    go_simp
    with_reducible rfl
  rotate_left
  · simp only [Act.put, List.setIfInBounds_toArray, List.set_cons_zero, List.set_cons_succ, i64_w, i32_w]
    rfl
  refine one_ (i := 0) (N := some 33) #[true, false, true, false, false, false, false, false, false, false, false, false, false, false, false] rfl rfl (one_of HT_.out (by kernel_rfl)) (by decide) (fun K hK => ?_)
  refine goes_ Try.func14 (by kernel_rfl) rfl #[.pointer (some ⟨w5.heap.size, 0, none⟩)] (by rfl) rfl rfl (by (try simp only [List.map_toArray, List.map_cons, List.map_nil]); first | done | rfl) ?_
  refine (wbytes16 w5.heap.size w5.heap.size (tkW ⟨id, co, st, lv, gn, fr, lf, du, tl⟩) _ HW_12.out (tkW_len HS1.out HTK.out) (tkW_pos _)).mono ?_
  rintro e w13 ⟨A3, c3, rfl, q5, q1⟩
  refine ⟨_, rfl, ?_⟩
  have HB_13 := Aside0.mk (below_step HB_12.out q1)
  have hs_13 : w12.heap.size ≤ w13.heap.size := q1.size
  have Bt_13 := Aside0.mk (blk_below Bt_12.out q1)
  have Bx_13 := Aside0.mk (blk_below Bx_12.out q1)
  have HW_13 := Aside0.mk (HW_12.out.below q1)
  clear q1
  have HC3_13 : Aside0 (BytesAt w13 A3 (tkW ⟨id, co, st, lv, gn, fr, lf, du, tl⟩)) := ⟨q5.2.1⟩
  clear q5
  refine hK.out _ _ ⟨(blk_cell Bt_13.out 0).trans rfl, (blk_cell Bt_13.out 1).trans rfl, (blk_cell Bt_13.out 2).trans rfl, (blk_cell Bt_13.out 3).trans rfl, (blk_cell Bt_13.out 4).trans rfl, (blk_cell Bt_13.out 5).trans rfl, (blk_cell Bt_13.out 6).trans rfl, (blk_cell Bt_13.out 7).trans rfl, (blk_cell Bt_13.out 8).trans rfl, (blk_cell Bx_13.out 0).trans rfl, (blk_cell Bx_13.out 1).trans rfl, (blk_cell Bx_13.out 2).trans rfl, (blk_cell Bx_13.out 3).trans rfl, (blk_cell Bx_13.out 4).trans rfl, (blk_cell Bx_13.out 5).trans rfl, (blk_cell Bx_13.out 6).trans rfl, (blk_cell Bx_13.out 7).trans rfl, (blk_cell Bx_13.out 8).trans rfl⟩ (fun hHeld => ?_)
  clear hK K
  refine norm_ (a' := ?_) ?_ ?_
  rotate_left
  · show Act.put _ (some 33) _ = _
    simp only [Act.put, List.setIfInBounds_toArray, List.set_cons_zero, List.set_cons_succ, i64_w, i32_w]
    rfl
  refine join_ (σ := Option Addr × Nat) 10 #[true, true, true, true, true, false, false, false, false, false, false, false, false, false, false] (fun s_ => [(34, .string (strOfNums (tkW ⟨id, co, st, lv, gn, fr, lf, du, tl⟩))), (36, .slice s_.1 (tkW ⟨id, co, st, lv, gn, fr, lf, du, tl⟩).length s_.2), (37, .string (strOfNums (tkW ⟨id, co, st, lv, gn, fr, lf, du, tl⟩)))]) (fun s_ w' => (w'.cell? ⟨w.heap.size, 0, none⟩ = some (.int .u64 id) ∧ w'.cell? ⟨w.heap.size, 1, none⟩ = some (.int .i64 co) ∧ w'.cell? ⟨w.heap.size, 2, none⟩ = some (.int .i64 st) ∧ w'.cell? ⟨w.heap.size, 3, none⟩ = some (.int .i64 lv) ∧ w'.cell? ⟨w.heap.size, 4, none⟩ = some (.int .u64 gn) ∧ w'.cell? ⟨w.heap.size, 5, none⟩ = some (.int .i64 fr) ∧ w'.cell? ⟨w.heap.size, 6, none⟩ = some (.int .i64 lf) ∧ w'.cell? ⟨w.heap.size, 7, none⟩ = some (.int .i64 du) ∧ w'.cell? ⟨w.heap.size, 8, none⟩ = some (.int .i64 tl) ∧ w'.cell? ⟨w10.heap.size, 0, none⟩ = some (.int .u64 id) ∧ w'.cell? ⟨w10.heap.size, 1, none⟩ = some (.int .i64 co) ∧ w'.cell? ⟨w10.heap.size, 2, none⟩ = some (.int .i64 st) ∧ w'.cell? ⟨w10.heap.size, 3, none⟩ = some (.int .i64 lv) ∧ w'.cell? ⟨w10.heap.size, 4, none⟩ = some (.int .u64 gn) ∧ w'.cell? ⟨w10.heap.size, 5, none⟩ = some (.int .i64 fr) ∧ w'.cell? ⟨w10.heap.size, 6, none⟩ = some (.int .i64 lf) ∧ w'.cell? ⟨w10.heap.size, 7, none⟩ = some (.int .i64 du) ∧ w'.cell? ⟨w10.heap.size, 8, none⟩ = some (.int .i64 tl)) ∧ Below w.heap.size w w' ∧ w'.heap[w.heap.size]? = some (.cells #[.int .u64 id, .int .i64 co, .int .i64 st, .int .i64 lv, .int .u64 gn, .int .i64 fr, .int .i64 lf, .int .i64 du, .int .i64 tl] 24 (0, 0)) ∧ w'.heap[w10.heap.size]? = some (.cells #[.int .u64 id, .int .i64 co, .int .i64 st, .int .i64 lv, .int .u64 gn, .int .i64 fr, .int .i64 lf, .int .i64 du, .int .i64 tl] 24 (0, 0))) ?_ ?_
  rotate_left
  · intro hCont
    refine two_ (i := 1) (j := 3) (Ni := some 34) (Nj := some 36) #[true, true, true, false, false, false, false, false, false, false, false, false, false, false, false] #[true, false, true, true, false, false, false, false, false, false, false, false, false, false, false] rfl rfl rfl rfl (two_of HT_.out (by kernel_rfl)) (by decide) (by decide) (fun K hK => ?_) (fun K hK => ?_)
    · skip
      have hcv := Kd.C_string (P := Try.prog) (src := 25) (dst := 9) (e := 5) (c := c3) Try.underlying25 Try.underlying5 Try.underlying9 (show Kd.C (Kd.int .u8) _ _ _ _ from HC3_13.out)
      refine value_ (w1 := ?_) (v := ?_) (by rfl) rfl ?_ ?_
      rotate_left 2
      · go_simp
        constructor
        · rfl
        · rfl
      clear hcv
      refine hK.out _ _ ⟨(blk_cell Bt_13.out 0).trans rfl, (blk_cell Bt_13.out 1).trans rfl, (blk_cell Bt_13.out 2).trans rfl, (blk_cell Bt_13.out 3).trans rfl, (blk_cell Bt_13.out 4).trans rfl, (blk_cell Bt_13.out 5).trans rfl, (blk_cell Bt_13.out 6).trans rfl, (blk_cell Bt_13.out 7).trans rfl, (blk_cell Bt_13.out 8).trans rfl, (blk_cell Bx_13.out 0).trans rfl, (blk_cell Bx_13.out 1).trans rfl, (blk_cell Bx_13.out 2).trans rfl, (blk_cell Bx_13.out 3).trans rfl, (blk_cell Bx_13.out 4).trans rfl, (blk_cell Bx_13.out 5).trans rfl, (blk_cell Bx_13.out 6).trans rfl, (blk_cell Bx_13.out 7).trans rfl, (blk_cell Bx_13.out 8).trans rfl⟩ (fun hHeld => ?_)
      clear hK K
      refine norm_ (a' := ?_) ?_ ?_
      rotate_left
      · show Act.put _ (some 34) _ = _
        simp only [Act.put, List.setIfInBounds_toArray, List.set_cons_zero, List.set_cons_succ, i64_w, i32_w]
        rfl
      refine one_ (i := 3) (N := some 36) #[true, true, true, true, false, false, false, false, false, false, false, false, false, false, false] rfl rfl (one_of HT_.out (by kernel_rfl)) (by decide) (fun K hK => ?_)
      refine goes_ Try.func15 (by kernel_rfl) rfl #[.agg #[.int .u64 id, .int .i64 co, .int .i64 st, .int .i64 lv, .int .u64 gn, .int .i64 fr, .int .i64 lf, .int .i64 du, .int .i64 tl]] (by rfl) rfl rfl (by (try simp only [List.map_toArray, List.map_cons, List.map_nil]); first | done | rfl) ?_
      refine (curfewref16_Put.calls 40 id co st lv gn fr lf du tl (tkW ⟨id, co, st, lv, gn, fr, lf, du, tl⟩) _ (rput_eq HS1.out HTK.out)).mono ?_
      rintro e w14 ⟨v4, rfl, q5, q1⟩
      refine ⟨_, rfl, ?_⟩
      have HB_14 := Aside0.mk (below_step HB_13.out q1)
      have hs_14 : w13.heap.size ≤ w14.heap.size := q1.size
      have Bt_14 := Aside0.mk (blk_below Bt_13.out q1)
      have Bx_14 := Aside0.mk (blk_below Bx_13.out q1)
      have HC3_14 := Aside0.mk (HC3_13.out.below q1)
      clear q1
      obtain ⟨A4, c4, rfl, q6, q7⟩ := Kd.R_reads q5
      have HC4_14 : Aside0 (BytesAt w14 A4 (tkW ⟨id, co, st, lv, gn, fr, lf, du, tl⟩)) := ⟨q7⟩
      clear q5 q6 q7
      refine hK.out _ _ ⟨(blk_cell Bt_14.out 0).trans rfl, (blk_cell Bt_14.out 1).trans rfl, (blk_cell Bt_14.out 2).trans rfl, (blk_cell Bt_14.out 3).trans rfl, (blk_cell Bt_14.out 4).trans rfl, (blk_cell Bt_14.out 5).trans rfl, (blk_cell Bt_14.out 6).trans rfl, (blk_cell Bt_14.out 7).trans rfl, (blk_cell Bt_14.out 8).trans rfl, (blk_cell Bx_14.out 0).trans rfl, (blk_cell Bx_14.out 1).trans rfl, (blk_cell Bx_14.out 2).trans rfl, (blk_cell Bx_14.out 3).trans rfl, (blk_cell Bx_14.out 4).trans rfl, (blk_cell Bx_14.out 5).trans rfl, (blk_cell Bx_14.out 6).trans rfl, (blk_cell Bx_14.out 7).trans rfl, (blk_cell Bx_14.out 8).trans rfl⟩ (fun hHeld => ?_)
      clear hK K
      refine norm_ (a' := ?_) ?_ ?_
      rotate_left
      · show Act.put _ (some 36) _ = _
        simp only [Act.put, List.setIfInBounds_toArray, List.set_cons_zero, List.set_cons_succ, i64_w, i32_w]
        rfl
      refine one_ (i := 4) (N := some 37) #[true, true, true, true, true, false, false, false, false, false, false, false, false, false, false] rfl rfl (one_of HT_.out (by kernel_rfl)) (by decide) (fun K hK => ?_)
      have hcv := Kd.C_string (P := Try.prog) (src := 25) (dst := 9) (e := 5) (c := c4) Try.underlying25 Try.underlying5 Try.underlying9 (show Kd.C (Kd.int .u8) _ _ _ _ from HC4_14.out)
      refine value_ (w1 := ?_) (v := ?_) (by rfl) rfl ?_ ?_
      rotate_left 2
      · go_simp
        constructor
        · rfl
        · rfl
      clear hcv
      refine hK.out _ _ ⟨(blk_cell Bt_14.out 0).trans rfl, (blk_cell Bt_14.out 1).trans rfl, (blk_cell Bt_14.out 2).trans rfl, (blk_cell Bt_14.out 3).trans rfl, (blk_cell Bt_14.out 4).trans rfl, (blk_cell Bt_14.out 5).trans rfl, (blk_cell Bt_14.out 6).trans rfl, (blk_cell Bt_14.out 7).trans rfl, (blk_cell Bt_14.out 8).trans rfl, (blk_cell Bx_14.out 0).trans rfl, (blk_cell Bx_14.out 1).trans rfl, (blk_cell Bx_14.out 2).trans rfl, (blk_cell Bx_14.out 3).trans rfl, (blk_cell Bx_14.out 4).trans rfl, (blk_cell Bx_14.out 5).trans rfl, (blk_cell Bx_14.out 6).trans rfl, (blk_cell Bx_14.out 7).trans rfl, (blk_cell Bx_14.out 8).trans rfl⟩ (fun hHeld => ?_)
      clear hK K
      refine norm_ (a' := ?_) ?_ ?_
      rotate_left
      · show Act.put _ (some 37) _ = _
        simp only [Act.put, List.setIfInBounds_toArray, List.set_cons_zero, List.set_cons_succ, i64_w, i32_w]
        rfl
      exact norm_ (by simp only [putAll, Act.put, List.setIfInBounds_toArray, List.set_cons_zero, List.set_cons_succ]) (hCont (A4, c4) _ ⟨hHeld, HB_14.out, Bt_14.out, Bx_14.out⟩)
    · skip
      refine goes_ Try.func15 (by kernel_rfl) rfl #[.agg #[.int .u64 id, .int .i64 co, .int .i64 st, .int .i64 lv, .int .u64 gn, .int .i64 fr, .int .i64 lf, .int .i64 du, .int .i64 tl]] (by rfl) rfl rfl (by (try simp only [List.map_toArray, List.map_cons, List.map_nil]); first | done | rfl) ?_
      refine (curfewref16_Put.calls 40 id co st lv gn fr lf du tl (tkW ⟨id, co, st, lv, gn, fr, lf, du, tl⟩) _ (rput_eq HS1.out HTK.out)).mono ?_
      rintro e w14 ⟨v4, rfl, q5, q1⟩
      refine ⟨_, rfl, ?_⟩
      have HB_14 := Aside0.mk (below_step HB_13.out q1)
      have hs_14 : w13.heap.size ≤ w14.heap.size := q1.size
      have Bt_14 := Aside0.mk (blk_below Bt_13.out q1)
      have Bx_14 := Aside0.mk (blk_below Bx_13.out q1)
      have HC3_14 := Aside0.mk (HC3_13.out.below q1)
      clear q1
      obtain ⟨A4, c4, rfl, q6, q7⟩ := Kd.R_reads q5
      have HC4_14 : Aside0 (BytesAt w14 A4 (tkW ⟨id, co, st, lv, gn, fr, lf, du, tl⟩)) := ⟨q7⟩
      clear q5 q6 q7
      refine hK.out _ _ ⟨(blk_cell Bt_14.out 0).trans rfl, (blk_cell Bt_14.out 1).trans rfl, (blk_cell Bt_14.out 2).trans rfl, (blk_cell Bt_14.out 3).trans rfl, (blk_cell Bt_14.out 4).trans rfl, (blk_cell Bt_14.out 5).trans rfl, (blk_cell Bt_14.out 6).trans rfl, (blk_cell Bt_14.out 7).trans rfl, (blk_cell Bt_14.out 8).trans rfl, (blk_cell Bx_14.out 0).trans rfl, (blk_cell Bx_14.out 1).trans rfl, (blk_cell Bx_14.out 2).trans rfl, (blk_cell Bx_14.out 3).trans rfl, (blk_cell Bx_14.out 4).trans rfl, (blk_cell Bx_14.out 5).trans rfl, (blk_cell Bx_14.out 6).trans rfl, (blk_cell Bx_14.out 7).trans rfl, (blk_cell Bx_14.out 8).trans rfl⟩ (fun hHeld => ?_)
      clear hK K
      refine norm_ (a' := ?_) ?_ ?_
      rotate_left
      · show Act.put _ (some 36) _ = _
        simp only [Act.put, List.setIfInBounds_toArray, List.set_cons_zero, List.set_cons_succ, i64_w, i32_w]
        rfl
      refine two_ (i := 1) (j := 4) (Ni := some 34) (Nj := some 37) #[true, true, true, true, false, false, false, false, false, false, false, false, false, false, false] #[true, false, true, true, true, false, false, false, false, false, false, false, false, false, false] rfl rfl rfl rfl (two_of HT_.out (by kernel_rfl)) (by decide) (by decide) (fun K hK => ?_) (fun K hK => ?_)
      · skip
        have hcv := Kd.C_string (P := Try.prog) (src := 25) (dst := 9) (e := 5) (c := c3) Try.underlying25 Try.underlying5 Try.underlying9 (show Kd.C (Kd.int .u8) _ _ _ _ from HC3_14.out)
        refine value_ (w1 := ?_) (v := ?_) (by rfl) rfl ?_ ?_
        rotate_left 2
        · go_simp
          constructor
          · rfl
          · rfl
        clear hcv
        refine hK.out _ _ ⟨(blk_cell Bt_14.out 0).trans rfl, (blk_cell Bt_14.out 1).trans rfl, (blk_cell Bt_14.out 2).trans rfl, (blk_cell Bt_14.out 3).trans rfl, (blk_cell Bt_14.out 4).trans rfl, (blk_cell Bt_14.out 5).trans rfl, (blk_cell Bt_14.out 6).trans rfl, (blk_cell Bt_14.out 7).trans rfl, (blk_cell Bt_14.out 8).trans rfl, (blk_cell Bx_14.out 0).trans rfl, (blk_cell Bx_14.out 1).trans rfl, (blk_cell Bx_14.out 2).trans rfl, (blk_cell Bx_14.out 3).trans rfl, (blk_cell Bx_14.out 4).trans rfl, (blk_cell Bx_14.out 5).trans rfl, (blk_cell Bx_14.out 6).trans rfl, (blk_cell Bx_14.out 7).trans rfl, (blk_cell Bx_14.out 8).trans rfl⟩ (fun hHeld => ?_)
        clear hK K
        refine norm_ (a' := ?_) ?_ ?_
        rotate_left
        · show Act.put _ (some 34) _ = _
          simp only [Act.put, List.setIfInBounds_toArray, List.set_cons_zero, List.set_cons_succ, i64_w, i32_w]
          rfl
        refine one_ (i := 4) (N := some 37) #[true, true, true, true, true, false, false, false, false, false, false, false, false, false, false] rfl rfl (one_of HT_.out (by kernel_rfl)) (by decide) (fun K hK => ?_)
        have hcv := Kd.C_string (P := Try.prog) (src := 25) (dst := 9) (e := 5) (c := c4) Try.underlying25 Try.underlying5 Try.underlying9 (show Kd.C (Kd.int .u8) _ _ _ _ from HC4_14.out)
        refine value_ (w1 := ?_) (v := ?_) (by rfl) rfl ?_ ?_
        rotate_left 2
        · go_simp
          constructor
          · rfl
          · rfl
        clear hcv
        refine hK.out _ _ ⟨(blk_cell Bt_14.out 0).trans rfl, (blk_cell Bt_14.out 1).trans rfl, (blk_cell Bt_14.out 2).trans rfl, (blk_cell Bt_14.out 3).trans rfl, (blk_cell Bt_14.out 4).trans rfl, (blk_cell Bt_14.out 5).trans rfl, (blk_cell Bt_14.out 6).trans rfl, (blk_cell Bt_14.out 7).trans rfl, (blk_cell Bt_14.out 8).trans rfl, (blk_cell Bx_14.out 0).trans rfl, (blk_cell Bx_14.out 1).trans rfl, (blk_cell Bx_14.out 2).trans rfl, (blk_cell Bx_14.out 3).trans rfl, (blk_cell Bx_14.out 4).trans rfl, (blk_cell Bx_14.out 5).trans rfl, (blk_cell Bx_14.out 6).trans rfl, (blk_cell Bx_14.out 7).trans rfl, (blk_cell Bx_14.out 8).trans rfl⟩ (fun hHeld => ?_)
        clear hK K
        refine norm_ (a' := ?_) ?_ ?_
        rotate_left
        · show Act.put _ (some 37) _ = _
          simp only [Act.put, List.setIfInBounds_toArray, List.set_cons_zero, List.set_cons_succ, i64_w, i32_w]
          rfl
        exact norm_ (by simp only [putAll, Act.put, List.setIfInBounds_toArray, List.set_cons_zero, List.set_cons_succ]) (hCont (A4, c4) _ ⟨hHeld, HB_14.out, Bt_14.out, Bx_14.out⟩)
      · skip
        have hcv := Kd.C_string (P := Try.prog) (src := 25) (dst := 9) (e := 5) (c := c4) Try.underlying25 Try.underlying5 Try.underlying9 (show Kd.C (Kd.int .u8) _ _ _ _ from HC4_14.out)
        refine value_ (w1 := ?_) (v := ?_) (by rfl) rfl ?_ ?_
        rotate_left 2
        · go_simp
          constructor
          · rfl
          · rfl
        clear hcv
        refine hK.out _ _ ⟨(blk_cell Bt_14.out 0).trans rfl, (blk_cell Bt_14.out 1).trans rfl, (blk_cell Bt_14.out 2).trans rfl, (blk_cell Bt_14.out 3).trans rfl, (blk_cell Bt_14.out 4).trans rfl, (blk_cell Bt_14.out 5).trans rfl, (blk_cell Bt_14.out 6).trans rfl, (blk_cell Bt_14.out 7).trans rfl, (blk_cell Bt_14.out 8).trans rfl, (blk_cell Bx_14.out 0).trans rfl, (blk_cell Bx_14.out 1).trans rfl, (blk_cell Bx_14.out 2).trans rfl, (blk_cell Bx_14.out 3).trans rfl, (blk_cell Bx_14.out 4).trans rfl, (blk_cell Bx_14.out 5).trans rfl, (blk_cell Bx_14.out 6).trans rfl, (blk_cell Bx_14.out 7).trans rfl, (blk_cell Bx_14.out 8).trans rfl⟩ (fun hHeld => ?_)
        clear hK K
        refine norm_ (a' := ?_) ?_ ?_
        rotate_left
        · show Act.put _ (some 37) _ = _
          simp only [Act.put, List.setIfInBounds_toArray, List.set_cons_zero, List.set_cons_succ, i64_w, i32_w]
          rfl
        refine one_ (i := 1) (N := some 34) #[true, true, true, true, true, false, false, false, false, false, false, false, false, false, false] rfl rfl (one_of HT_.out (by kernel_rfl)) (by decide) (fun K hK => ?_)
        have hcv := Kd.C_string (P := Try.prog) (src := 25) (dst := 9) (e := 5) (c := c3) Try.underlying25 Try.underlying5 Try.underlying9 (show Kd.C (Kd.int .u8) _ _ _ _ from HC3_14.out)
        refine value_ (w1 := ?_) (v := ?_) (by rfl) rfl ?_ ?_
        rotate_left 2
        · go_simp
          constructor
          · rfl
          · rfl
        clear hcv
        refine hK.out _ _ ⟨(blk_cell Bt_14.out 0).trans rfl, (blk_cell Bt_14.out 1).trans rfl, (blk_cell Bt_14.out 2).trans rfl, (blk_cell Bt_14.out 3).trans rfl, (blk_cell Bt_14.out 4).trans rfl, (blk_cell Bt_14.out 5).trans rfl, (blk_cell Bt_14.out 6).trans rfl, (blk_cell Bt_14.out 7).trans rfl, (blk_cell Bt_14.out 8).trans rfl, (blk_cell Bx_14.out 0).trans rfl, (blk_cell Bx_14.out 1).trans rfl, (blk_cell Bx_14.out 2).trans rfl, (blk_cell Bx_14.out 3).trans rfl, (blk_cell Bx_14.out 4).trans rfl, (blk_cell Bx_14.out 5).trans rfl, (blk_cell Bx_14.out 6).trans rfl, (blk_cell Bx_14.out 7).trans rfl, (blk_cell Bx_14.out 8).trans rfl⟩ (fun hHeld => ?_)
        clear hK K
        refine norm_ (a' := ?_) ?_ ?_
        rotate_left
        · show Act.put _ (some 34) _ = _
          simp only [Act.put, List.setIfInBounds_toArray, List.set_cons_zero, List.set_cons_succ, i64_w, i32_w]
          rfl
        exact norm_ (by simp only [putAll, Act.put, List.setIfInBounds_toArray, List.set_cons_zero, List.set_cons_succ]) (hCont (A4, c4) _ ⟨hHeld, HB_14.out, Bt_14.out, Bx_14.out⟩)
  rintro ⟨A5, c5⟩ w60 ⟨hHeld, q1, q2, q3⟩
  have HB_60 := Aside0.mk q1
  have Bt_60 := Aside0.mk q2
  have Bx_60 := Aside0.mk q3
  have hs_60 : w.heap.size ≤ w60.heap.size := q1.size
  clear q1 q2 q3
  simp only [putAll, Act.put, List.setIfInBounds_toArray, List.set_cons_zero, List.set_cons_succ]
  refine pure_ (i := 5) (N := some 38) (v := ?_) (a' := ?_) #[true, true, true, true, true, true, false, false, false, false, false, false, false, false, false] rfl rfl (any_of HT_.out (by kernel_rfl)) (fun _ _ _ h => h) (Or.inl ⟨by rfl, ?_⟩) ?_ ?_
  rotate_left
  · intro w'
    go_simp
    with_reducible rfl
  rotate_left
  · simp only [Act.put, List.setIfInBounds_toArray, List.set_cons_zero, List.set_cons_succ, i64_w, i32_w]
    rfl
  refine pure_ (i := 6) (N := some 39) (v := ?_) (a' := ?_) #[true, true, true, true, true, true, true, false, false, false, false, false, false, false, false] rfl rfl (any_of HT_.out (by kernel_rfl)) (fun _ _ _ h => h) (Or.inl ⟨by rfl, ?_⟩) ?_ ?_
  rotate_left
  · intro w'
    go_simp
    with_reducible rfl
  rotate_left
  · simp only [Act.put, List.setIfInBounds_toArray, List.set_cons_zero, List.set_cons_succ, i64_w, i32_w]
    rfl
  refine pure_ (i := 7) (N := some 40) (v := ?_) (a' := ?_) #[true, true, true, true, true, true, true, true, false, false, false, false, false, false, false] rfl rfl (any_of HT_.out (by kernel_rfl)) (fun _ _ _ h => h) (Or.inl ⟨by rfl, ?_⟩) ?_ ?_
  rotate_left
  · intro w'
    go_simp
    with_reducible rfl
  rotate_left
  · simp only [Act.put, List.setIfInBounds_toArray, List.set_cons_zero, List.set_cons_succ, i64_w, i32_w]
    rfl
  refine pure_ (i := 8) (N := some 41) (v := ?_) (a' := ?_) #[true, true, true, true, true, true, true, true, true, false, false, false, false, false, false] rfl rfl (any_of HT_.out (by kernel_rfl)) (fun _ _ _ h => h) (Or.inl ⟨by rfl, ?_⟩) ?_ ?_
  rotate_left
  · intro w'
    go_simp
    with_reducible rfl
  rotate_left
  · simp only [Act.put, List.setIfInBounds_toArray, List.set_cons_zero, List.set_cons_succ, i64_w, i32_w]
    rfl
  refine pure_ (i := 9) (N := some 42) (v := ?_) (a' := ?_) #[true, true, true, true, true, true, true, true, true, true, false, false, false, false, false] rfl rfl (any_of HT_.out (by kernel_rfl)) (fun _ _ _ h => h) (Or.inl ⟨by rfl, ?_⟩) ?_ ?_
  rotate_left
  · intro w'
    go_simp
    with_reducible rfl
  rotate_left
  · simp only [Act.put, List.setIfInBounds_toArray, List.set_cons_zero, List.set_cons_succ, i64_w, i32_w]
    rfl
  refine pure_ (i := 10) (N := some 43) (v := ?_) (a' := ?_) #[true, true, true, true, true, true, true, true, true, true, true, false, false, false, false] rfl rfl (any_of HT_.out (by kernel_rfl)) (fun _ _ _ h => h) (Or.inl ⟨by rfl, ?_⟩) ?_ ?_
  rotate_left
  · intro w'
    go_simp
    with_reducible rfl
  rotate_left
  · simp only [Act.put, List.setIfInBounds_toArray, List.set_cons_zero, List.set_cons_succ, i64_w, i32_w]
    rfl
  refine take_ (i := 11) (N := some 44) (v := ?_) (a' := ?_) #[true, true, true, true, true, true, true, true, true, true, true, true, false, false, false] rfl rfl (take_ofW HT_.out HW_.out (by kernel_rfl)) (fun _ _ _ h => h) (Or.inl ⟨by rfl, ?_⟩) hHeld ?_ ?_
  rotate_left
  · rintro w' ⟨s0, s1, s2, s3, s4, s5, s6, s7, s8, s9, s10, s11, s12, s13, s14, s15, s16, s17⟩
    go_simp
    with_reducible rfl
  rotate_left
  · simp only [Act.put, List.setIfInBounds_toArray, List.set_cons_zero, List.set_cons_succ, i64_w, i32_w]
    rfl
  refine take_ (i := 12) (N := some 45) (v := ?_) (a' := ?_) #[true, true, true, true, true, true, true, true, true, true, true, true, true, false, false] rfl rfl (take_ofW HT_.out HW_.out (by kernel_rfl)) (fun _ _ _ h => h) (Or.inl ⟨by rfl, ?_⟩) hHeld ?_ ?_
  rotate_left
  · rintro w' ⟨s0, s1, s2, s3, s4, s5, s6, s7, s8, s9, s10, s11, s12, s13, s14, s15, s16, s17⟩
    go_simp
    with_reducible rfl
  rotate_left
  · simp only [Act.put, List.setIfInBounds_toArray, List.set_cons_zero, List.set_cons_succ, i64_w, i32_w]
    rfl
  refine pure_ (i := 13) (N := some 46) (v := ?_) (a' := ?_) #[true, true, true, true, true, true, true, true, true, true, true, true, true, true, false] rfl rfl (any_of HT_.out (by kernel_rfl)) (fun _ _ _ h => h) (Or.inl ⟨by rfl, ?_⟩) ?_ ?_
  rotate_left
  · intro w'
    go_simp
    with_reducible rfl
  rotate_left
  · simp only [Act.put, List.setIfInBounds_toArray, List.set_cons_zero, List.set_cons_succ, i64_w, i32_w]
    rfl
  refine pure_ (i := 14) (N := some 47) (v := ?_) (a' := ?_) #[true, true, true, true, true, true, true, true, true, true, true, true, true, true, true] rfl rfl (any_of HT_.out (by kernel_rfl)) (fun _ _ _ h => h) (Or.inl ⟨by rfl, ?_⟩) ?_ ?_
  rotate_left
  · intro w'
    go_simp
    with_reducible rfl
  rotate_left
  · simp only [Act.put, List.setIfInBounds_toArray, List.set_cons_zero, List.set_cons_succ, i64_w, i32_w]
    rfl
  refine done_ (done_of HT_.out (by kernel_rfl)) ?_
  clear HT_ HW_ hHeld
  go_upto_region 12 with (first | (go_at_call 13; with_reducible refine (ropen_any AB cB w.heap.size bs w60 (Kd.C_below Hb.out.1 HB_60.out) Hb.out.2 HB_60.out.size HFA.out HBY.out).mono ?_; rintro e w61 ⟨rfl, q5, q1⟩; have HB_61 := Aside0.mk (below_step HB_60.out q1); have hs_61 : w60.heap.size ≤ w61.heap.size := q1.size; clear q1; have HP_61 := Aside0.mk q5; have hltP := q5.lt; clear q5))
  have hb : Below w61.heap.size w61 (w61.alloc (.cells #[.slice AB bs.length cB, .bool false] 40)) := below_alloc (Below.refl _ _) _
  have HB_62 := Aside0.mk (below_step HB_61.out hb)
  have hs_62 : w61.heap.size ≤ (w61.alloc (.cells #[.slice AB bs.length cB, .bool false] 40)).heap.size := hb.size
  have HP_62 := Aside0.mk (HP_61.out.below hb)
  clear hb
  have Bd_62 := Aside0.mk (blk_new w61 (.cells #[.slice AB bs.length cB, .bool false] 40))
  have hz_62 : w61.heap.size < (w61.alloc (.cells #[.slice AB bs.length cB, .bool false] 40)).heap.size := blk_lt Bd_62.out
  have HD_62 := Aside0.mk (RdAt.of (t := 40) (m := w.heap.size) (rb := w61.heap.size) (A := AB) (c := cB) (s := (bs, false)) ⟨blk_new w61 _, Hb.out.2, Kd.C_below Hb.out.1 HB_62.out, HFA.out, HB_61.out.size, HBY.out⟩)
  generalize (w61.alloc (.cells #[.slice AB bs.length cB, .bool false] 40)) = w62 at HB_62 hs_62 Bd_62 HP_62 HD_62 hz_62 ⊢
  go_upto_region 13 with (go_at_call 12; with_reducible refine (tkread_any y1 y2 y3 y4 y5 y6 y7 y8 y9 ok (l2, g2) w62 HP_62.out HY.out).mono ?_; rintro e w63 ⟨rfl, q1, q2⟩; have HB_63 := Aside0.mk (HB_62.out.trans (Upd.below q2 HB_62.out.size (by omega))); have hs_63 : w62.heap.size ≤ w63.heap.size := q2.size; have HP_63 := Aside0.mk q1; have HD_63 := Aside0.mk (HD_62.out.upd q2 (by omega) (by omega)); clear q1 q2)
  have hb : Below w63.heap.size w63 (w63.alloc (.cells #[.int .u64 y1, .int .i64 y2, .int .i64 y3, .int .i64 y4, .int .u64 y5, .int .i64 y6, .int .i64 y7, .int .i64 y8, .int .i64 y9] 24)) := below_alloc (Below.refl _ _) _
  have HB_64 := Aside0.mk (below_step HB_63.out hb)
  have hs_64 : w63.heap.size ≤ (w63.alloc (.cells #[.int .u64 y1, .int .i64 y2, .int .i64 y3, .int .i64 y4, .int .u64 y5, .int .i64 y6, .int .i64 y7, .int .i64 y8, .int .i64 y9] 24)).heap.size := hb.size
  have HP_64 := Aside0.mk (HP_63.out.below hb)
  have HD_64 := Aside0.mk (HD_63.out.below hb)
  clear hb
  have Bx_64 := Aside0.mk (blk_new w63 (.cells #[.int .u64 y1, .int .i64 y2, .int .i64 y3, .int .i64 y4, .int .u64 y5, .int .i64 y6, .int .i64 y7, .int .i64 y8, .int .i64 y9] 24))
  have hz_64 : w63.heap.size < (w63.alloc (.cells #[.int .u64 y1, .int .i64 y2, .int .i64 y3, .int .i64 y4, .int .u64 y5, .int .i64 y6, .int .i64 y7, .int .i64 y8, .int .i64 y9] 24)).heap.size := blk_lt Bx_64.out
  generalize (w63.alloc (.cells #[.int .u64 y1, .int .i64 y2, .int .i64 y3, .int .i64 y4, .int .u64 y5, .int .i64 y6, .int .i64 y7, .int .i64 y8, .int .i64 y9] 24)) = w64 at HB_64 hs_64 Bx_64 HP_64 HD_64 hz_64 ⊢
  go_upto_region 14 with (go_at_call 16; with_reducible refine (tkdread_any y1 y2 y3 y4 y5 y6 y7 y8 y9 ok (l2, g2) w64 HD_64.out HY.out).mono ?_; rintro e w65 ⟨rfl, q1, q2⟩; have HB_65 := Aside0.mk (HB_64.out.trans (Upd.below q2 HB_64.out.size (by omega))); have hs_65 : w64.heap.size ≤ w65.heap.size := q2.size; have Bx_65 := Aside0.mk (q2.blk Bx_64.out (by omega)); have HP_65 := Aside0.mk (HP_64.out.upd q2 (by omega) (by omega)); have HD_65 := Aside0.mk q1; clear q1 q2)
  have hb : Below w65.heap.size w65 (w65.alloc (.cells #[.int .u64 y1, .int .i64 y2, .int .i64 y3, .int .i64 y4, .int .u64 y5, .int .i64 y6, .int .i64 y7, .int .i64 y8, .int .i64 y9] 24)) := below_alloc (Below.refl _ _) _
  have HB_66 := Aside0.mk (below_step HB_65.out hb)
  have hs_66 : w65.heap.size ≤ (w65.alloc (.cells #[.int .u64 y1, .int .i64 y2, .int .i64 y3, .int .i64 y4, .int .u64 y5, .int .i64 y6, .int .i64 y7, .int .i64 y8, .int .i64 y9] 24)).heap.size := hb.size
  have Bx_66 := Aside0.mk (blk_below Bx_65.out hb)
  have HP_66 := Aside0.mk (HP_65.out.below hb)
  have HD_66 := Aside0.mk (HD_65.out.below hb)
  clear hb
  have By_66 := Aside0.mk (blk_new w65 (.cells #[.int .u64 y1, .int .i64 y2, .int .i64 y3, .int .i64 y4, .int .u64 y5, .int .i64 y6, .int .i64 y7, .int .i64 y8, .int .i64 y9] 24))
  have hz_66 : w65.heap.size < (w65.alloc (.cells #[.int .u64 y1, .int .i64 y2, .int .i64 y3, .int .i64 y4, .int .u64 y5, .int .i64 y6, .int .i64 y7, .int .i64 y8, .int .i64 y9] 24)).heap.size := blk_lt By_66.out
  generalize (w65.alloc (.cells #[.int .u64 y1, .int .i64 y2, .int .i64 y3, .int .i64 y4, .int .u64 y5, .int .i64 y6, .int .i64 y7, .int .i64 y8, .int .i64 y9] 24)) = w66 at HB_66 hs_66 Bx_66 By_66 HP_66 HD_66 hz_66 ⊢
  obtain ⟨Ar, cr, hv⟩ := HD_66.out
  have hb4 : Below w66.heap.size w66 w66.drew := below_drew1 (Below.refl _ _)
  have HB_67 := Aside0.mk (below_step HB_66.out hb4)
  have hs_67 : w66.heap.size ≤ w66.drew.heap.size := hb4.size
  have Bx_67 := Aside0.mk (blk_below Bx_66.out hb4)
  have By_67 := Aside0.mk (blk_below By_66.out hb4)
  have HP_67 := Aside0.mk (HP_66.out.below hb4)
  have HD_67 := Aside0.mk (HD_66.out.below hb4)
  clear hb4
  have HV := Aside0.mk (hv.below (below_drew1 (Below.refl _ _)) : RdV 40 _ w66.drew _ _ _ _)
  clear hv
  refine start_ (n := 31) (S := fun w' => w'.cell? ⟨w63.heap.size, 0, none⟩ = some (.int .u64 y1) ∧ w'.cell? ⟨w63.heap.size, 1, none⟩ = some (.int .i64 y2) ∧ w'.cell? ⟨w63.heap.size, 2, none⟩ = some (.int .i64 y3) ∧ w'.cell? ⟨w63.heap.size, 3, none⟩ = some (.int .i64 y4) ∧ w'.cell? ⟨w63.heap.size, 4, none⟩ = some (.int .u64 y5) ∧ w'.cell? ⟨w63.heap.size, 5, none⟩ = some (.int .i64 y6) ∧ w'.cell? ⟨w63.heap.size, 6, none⟩ = some (.int .i64 y7) ∧ w'.cell? ⟨w63.heap.size, 7, none⟩ = some (.int .i64 y8) ∧ w'.cell? ⟨w63.heap.size, 8, none⟩ = some (.int .i64 y9) ∧ w'.cell? ⟨w65.heap.size, 0, none⟩ = some (.int .u64 y1) ∧ w'.cell? ⟨w65.heap.size, 1, none⟩ = some (.int .i64 y2) ∧ w'.cell? ⟨w65.heap.size, 2, none⟩ = some (.int .i64 y3) ∧ w'.cell? ⟨w65.heap.size, 3, none⟩ = some (.int .i64 y4) ∧ w'.cell? ⟨w65.heap.size, 4, none⟩ = some (.int .u64 y5) ∧ w'.cell? ⟨w65.heap.size, 5, none⟩ = some (.int .i64 y6) ∧ w'.cell? ⟨w65.heap.size, 6, none⟩ = some (.int .i64 y7) ∧ w'.cell? ⟨w65.heap.size, 7, none⟩ = some (.int .i64 y8) ∧ w'.cell? ⟨w65.heap.size, 8, none⟩ = some (.int .i64 y9) ∧ w'.cell? ⟨w61.heap.size, 0, none⟩ = some (.slice Ar l2.length cr) ∧ w'.cell? ⟨w61.heap.size, 1, none⟩ = some (.bool g2)) (ds := []) #[false, false, false, false, false, false, false, false, false, false, false, false, false, false, false, false, false, false, false, false, false, false, false, false, false, false, false, false, false, false, false] (by kernel_rfl) rfl rfl ⟨(blk_cell Bx_67.out 0).trans rfl, (blk_cell Bx_67.out 1).trans rfl, (blk_cell Bx_67.out 2).trans rfl, (blk_cell Bx_67.out 3).trans rfl, (blk_cell Bx_67.out 4).trans rfl, (blk_cell Bx_67.out 5).trans rfl, (blk_cell Bx_67.out 6).trans rfl, (blk_cell Bx_67.out 7).trans rfl, (blk_cell Bx_67.out 8).trans rfl, (blk_cell By_67.out 0).trans rfl, (blk_cell By_67.out 1).trans rfl, (blk_cell By_67.out 2).trans rfl, (blk_cell By_67.out 3).trans rfl, (blk_cell By_67.out 4).trans rfl, (blk_cell By_67.out 5).trans rfl, (blk_cell By_67.out 6).trans rfl, (blk_cell By_67.out 7).trans rfl, (blk_cell By_67.out 8).trans rfl, HV.out.g0, HV.out.g1⟩ (fun hHeld => ?_); refine with_tabW tkb_tab14 tkb_bits14 (fun HT_ HW_ => ?_)
  generalize w66.drew = w67 at HB_67 hs_67 Bx_67 By_67 HP_67 HD_67 HV hHeld ⊢
  refine pure_ (i := 0) (N := some 63) (v := ?_) (a' := ?_) #[true, false, false, false, false, false, false, false, false, false, false, false, false, false, false, false, false, false, false, false, false, false, false, false, false, false, false, false, false, false, false] rfl rfl (any_of HT_.out (by kernel_rfl)) (fun _ _ _ h => h) (Or.inl ⟨by rfl, ?_⟩) ?_ ?_
  rotate_left
  · intro w'
    go_simp
    with_reducible rfl
  rotate_left
  · simp only [Act.put, List.setIfInBounds_toArray, List.set_cons_zero, List.set_cons_succ, i64_w, i32_w]
    rfl
  refine pure_ (i := 1) (N := some 64) (v := ?_) (a' := ?_) #[true, true, false, false, false, false, false, false, false, false, false, false, false, false, false, false, false, false, false, false, false, false, false, false, false, false, false, false, false, false, false] rfl rfl (any_of HT_.out (by kernel_rfl)) (fun _ _ _ h => h) (Or.inl ⟨by rfl, ?_⟩) ?_ ?_
  rotate_left
  · intro w'
    go_simp
    with_reducible rfl
  rotate_left
  · simp only [Act.put, List.setIfInBounds_toArray, List.set_cons_zero, List.set_cons_succ, i64_w, i32_w]
    rfl
  refine pure_ (i := 2) (N := some 65) (v := ?_) (a' := ?_) #[true, true, true, false, false, false, false, false, false, false, false, false, false, false, false, false, false, false, false, false, false, false, false, false, false, false, false, false, false, false, false] rfl rfl (any_of HT_.out (by kernel_rfl)) (fun _ _ _ h => h) (Or.inl ⟨by rfl, ?_⟩) ?_ ?_
  rotate_left
  · intro w'
    go_simp
    with_reducible rfl
  rotate_left
  · simp only [Act.put, List.setIfInBounds_toArray, List.set_cons_zero, List.set_cons_succ, i64_w, i32_w]
    rfl
  refine pure_ (i := 3) (N := some 66) (v := ?_) (a' := ?_) #[true, true, true, true, false, false, false, false, false, false, false, false, false, false, false, false, false, false, false, false, false, false, false, false, false, false, false, false, false, false, false] rfl rfl (any_of HT_.out (by kernel_rfl)) (fun _ _ _ h => h) (Or.inl ⟨by rfl, ?_⟩) ?_ ?_
  rotate_left
  · intro w'
    go_simp
    with_reducible rfl
  rotate_left
  · simp only [Act.put, List.setIfInBounds_toArray, List.set_cons_zero, List.set_cons_succ, i64_w, i32_w]
    rfl
  refine take_ (i := 4) (N := some 67) (v := ?_) (a' := ?_) #[true, true, true, true, true, false, false, false, false, false, false, false, false, false, false, false, false, false, false, false, false, false, false, false, false, false, false, false, false, false, false] rfl rfl (take_ofW HT_.out HW_.out (by kernel_rfl)) (fun _ _ _ h => h) (Or.inl ⟨by rfl, ?_⟩) hHeld ?_ ?_
  rotate_left
  · rintro w' ⟨s0, s1, s2, s3, s4, s5, s6, s7, s8, s9, s10, s11, s12, s13, s14, s15, s16, s17, s18, s19⟩
    go_simp
    with_reducible rfl
  rotate_left
  · simp only [Act.put, List.setIfInBounds_toArray, List.set_cons_zero, List.set_cons_succ, i64_w, i32_w]
    rfl
  refine take_ (i := 5) (N := some 68) (v := ?_) (a' := ?_) #[true, true, true, true, true, true, false, false, false, false, false, false, false, false, false, false, false, false, false, false, false, false, false, false, false, false, false, false, false, false, false] rfl rfl (take_ofW HT_.out HW_.out (by kernel_rfl)) (fun _ _ _ h => h) (Or.inl ⟨by rfl, ?_⟩) hHeld ?_ ?_
  rotate_left
  · rintro w' ⟨s0, s1, s2, s3, s4, s5, s6, s7, s8, s9, s10, s11, s12, s13, s14, s15, s16, s17, s18, s19⟩
    go_simp
    with_reducible rfl
  rotate_left
  · simp only [Act.put, List.setIfInBounds_toArray, List.set_cons_zero, List.set_cons_succ, i64_w, i32_w]
    rfl
  refine pure_ (i := 6) (N := some 69) (v := ?_) (a' := ?_) #[true, true, true, true, true, true, true, false, false, false, false, false, false, false, false, false, false, false, false, false, false, false, false, false, false, false, false, false, false, false, false] rfl rfl (any_of HT_.out (by kernel_rfl)) (fun _ _ _ h => h) (Or.inl ⟨by rfl, ?_⟩) ?_ ?_
  rotate_left
  · intro w'
    go_simp
    with_reducible rfl
  rotate_left
  · simp only [Act.put, List.setIfInBounds_toArray, List.set_cons_zero, List.set_cons_succ, i64_w, i32_w]
    rfl
  refine pure_ (i := 7) (N := some 70) (v := ?_) (a' := ?_) #[true, true, true, true, true, true, true, true, false, false, false, false, false, false, false, false, false, false, false, false, false, false, false, false, false, false, false, false, false, false, false] rfl rfl (any_of HT_.out (by kernel_rfl)) (fun _ _ _ h => h) (Or.inl ⟨by rfl, ?_⟩) ?_ ?_
  rotate_left
  · intro w'
    go_simp
    with_reducible rfl
  rotate_left
  · simp only [Act.put, List.setIfInBounds_toArray, List.set_cons_zero, List.set_cons_succ, i64_w, i32_w]
    rfl
  refine pure_ (i := 8) (N := some 71) (v := ?_) (a' := ?_) #[true, true, true, true, true, true, true, true, true, false, false, false, false, false, false, false, false, false, false, false, false, false, false, false, false, false, false, false, false, false, false] rfl rfl (any_of HT_.out (by kernel_rfl)) (fun _ _ _ h => h) (Or.inl ⟨by rfl, ?_⟩) ?_ ?_
  rotate_left
  · intro w'
    go_simp
    with_reducible rfl
  rotate_left
  · simp only [Act.put, List.setIfInBounds_toArray, List.set_cons_zero, List.set_cons_succ, i64_w, i32_w]
    rfl
  refine pure_ (i := 9) (N := some 72) (v := ?_) (a' := ?_) #[true, true, true, true, true, true, true, true, true, true, false, false, false, false, false, false, false, false, false, false, false, false, false, false, false, false, false, false, false, false, false] rfl rfl (any_of HT_.out (by kernel_rfl)) (fun _ _ _ h => h) (Or.inl ⟨by rfl, ?_⟩) ?_ ?_
  rotate_left
  · intro w'
    go_simp
    with_reducible rfl
  rotate_left
  · simp only [Act.put, List.setIfInBounds_toArray, List.set_cons_zero, List.set_cons_succ, i64_w, i32_w]
    rfl
  refine pure_ (i := 11) (N := some 74) (v := ?_) (a' := ?_) #[true, true, true, true, true, true, true, true, true, true, false, true, false, false, false, false, false, false, false, false, false, false, false, false, false, false, false, false, false, false, false] rfl rfl (any_of HT_.out (by kernel_rfl)) (fun _ _ _ h => h) (Or.inl ⟨by rfl, ?_⟩) ?_ ?_
  rotate_left
  · intro w'
    go_simp
    with_reducible rfl
  rotate_left
  · simp only [Act.put, List.setIfInBounds_toArray, List.set_cons_zero, List.set_cons_succ, i64_w, i32_w]
    rfl
  refine pure_ (i := 12) (N := some 75) (v := ?_) (a' := ?_) #[true, true, true, true, true, true, true, true, true, true, false, true, true, false, false, false, false, false, false, false, false, false, false, false, false, false, false, false, false, false, false] rfl rfl (any_of HT_.out (by kernel_rfl)) (fun _ _ _ h => h) (Or.inl ⟨by rfl, ?_⟩) ?_ ?_
  rotate_left
  · intro w'
    go_simp
    with_reducible rfl
  rotate_left
  · simp only [Act.put, List.setIfInBounds_toArray, List.set_cons_zero, List.set_cons_succ, i64_w, i32_w]
    rfl
  refine pure_ (i := 13) (N := some 76) (v := ?_) (a' := ?_) #[true, true, true, true, true, true, true, true, true, true, false, true, true, true, false, false, false, false, false, false, false, false, false, false, false, false, false, false, false, false, false] rfl rfl (any_of HT_.out (by kernel_rfl)) (fun _ _ _ h => h) (Or.inl ⟨by rfl, ?_⟩) ?_ ?_
  rotate_left
  · intro w'
    go_simp
    with_reducible rfl
  rotate_left
  · simp only [Act.put, List.setIfInBounds_toArray, List.set_cons_zero, List.set_cons_succ, i64_w, i32_w]
    rfl
  refine take_ (i := 14) (N := some 77) (v := ?_) (a' := ?_) #[true, true, true, true, true, true, true, true, true, true, false, true, true, true, true, false, false, false, false, false, false, false, false, false, false, false, false, false, false, false, false] rfl rfl (take_ofW HT_.out HW_.out (by kernel_rfl)) (fun _ _ _ h => h) (Or.inl ⟨by rfl, ?_⟩) hHeld ?_ ?_
  rotate_left
  · rintro w' ⟨s0, s1, s2, s3, s4, s5, s6, s7, s8, s9, s10, s11, s12, s13, s14, s15, s16, s17, s18, s19⟩
    go_simp
    with_reducible rfl
  rotate_left
  · simp only [Act.put, List.setIfInBounds_toArray, List.set_cons_zero, List.set_cons_succ, i64_w, i32_w]
    rfl
  refine pure_ (i := 15) (N := some 78) (v := ?_) (a' := ?_) #[true, true, true, true, true, true, true, true, true, true, false, true, true, true, true, true, false, false, false, false, false, false, false, false, false, false, false, false, false, false, false] rfl rfl (any_of HT_.out (by kernel_rfl)) (fun _ _ _ h => h) (Or.inl ⟨by rfl, ?_⟩) ?_ ?_
  rotate_left
  · intro w'
    go_simp
    with_reducible rfl
  rotate_left
  · simp only [Act.put, List.setIfInBounds_toArray, List.set_cons_zero, List.set_cons_succ, i64_w, i32_w]
    rfl
  refine one_ (i := 10) (N := some 73) #[true, true, true, true, true, true, true, true, true, true, true, true, true, true, true, true, false, false, false, false, false, false, false, false, false, false, false, false, false, false, false] rfl rfl (one_of HT_.out (by kernel_rfl)) (by decide) (fun K hK => ?_)
  refine goes_ Try.func17 (by kernel_rfl) rfl #[.pointer (some ⟨w60.heap.size, 0, none⟩)] (by rfl) rfl rfl (by (try simp only [List.map_toArray, List.map_cons, List.map_nil]); first | done | rfl) ?_
  refine (rleft_any _ HP_67.out).mono ?_
  rintro e w9 ⟨rfl, rfl⟩
  refine ⟨_, rfl, ?_⟩
  refine hK.out _ _ ⟨(blk_cell Bx_67.out 0).trans rfl, (blk_cell Bx_67.out 1).trans rfl, (blk_cell Bx_67.out 2).trans rfl, (blk_cell Bx_67.out 3).trans rfl, (blk_cell Bx_67.out 4).trans rfl, (blk_cell Bx_67.out 5).trans rfl, (blk_cell Bx_67.out 6).trans rfl, (blk_cell Bx_67.out 7).trans rfl, (blk_cell Bx_67.out 8).trans rfl, (blk_cell By_67.out 0).trans rfl, (blk_cell By_67.out 1).trans rfl, (blk_cell By_67.out 2).trans rfl, (blk_cell By_67.out 3).trans rfl, (blk_cell By_67.out 4).trans rfl, (blk_cell By_67.out 5).trans rfl, (blk_cell By_67.out 6).trans rfl, (blk_cell By_67.out 7).trans rfl, (blk_cell By_67.out 8).trans rfl, HV.out.g0, HV.out.g1⟩ (fun hHeld => ?_)
  clear hK K
  refine norm_ (a' := ?_) ?_ ?_
  rotate_left
  · show Act.put _ (some 73) _ = _
    simp only [Act.put, List.setIfInBounds_toArray, List.set_cons_zero, List.set_cons_succ, i64_w, i32_w]
    rfl
  refine pure_ (i := 16) (N := some 79) (v := ?_) (a' := ?_) #[true, true, true, true, true, true, true, true, true, true, true, true, true, true, true, true, true, false, false, false, false, false, false, false, false, false, false, false, false, false, false] rfl rfl (any_of HT_.out (by kernel_rfl)) (fun _ _ _ h => h) (Or.inl ⟨by rfl, ?_⟩) ?_ ?_
  rotate_left
  · intro w'
    go_simp
    with_reducible rfl
  rotate_left
  · simp only [Act.put, List.setIfInBounds_toArray, List.set_cons_zero, List.set_cons_succ, i64_w, i32_w]
    rfl
  refine pure_ (i := 17) (N := some 80) (v := ?_) (a' := ?_) #[true, true, true, true, true, true, true, true, true, true, true, true, true, true, true, true, true, true, false, false, false, false, false, false, false, false, false, false, false, false, false] rfl rfl (any_of HT_.out (by kernel_rfl)) (fun _ _ _ h => h) (Or.inl ⟨by rfl, ?_⟩) ?_ ?_
  rotate_left
  · intro w'
    go_simp
    with_reducible rfl
  rotate_left
  · simp only [Act.put, List.setIfInBounds_toArray, List.set_cons_zero, List.set_cons_succ, i64_w, i32_w]
    rfl
  refine pure_ (i := 18) (N := some 81) (v := ?_) (a' := ?_) #[true, true, true, true, true, true, true, true, true, true, true, true, true, true, true, true, true, true, true, false, false, false, false, false, false, false, false, false, false, false, false] rfl rfl (any_of HT_.out (by kernel_rfl)) (fun _ _ _ h => h) (Or.inl ⟨by rfl, ?_⟩) ?_ ?_
  rotate_left
  · intro w'
    go_simp
    with_reducible rfl
  rotate_left
  · simp only [Act.put, List.setIfInBounds_toArray, List.set_cons_zero, List.set_cons_succ, i64_w, i32_w]
    rfl
  refine pure_ (i := 19) (N := some 82) (v := ?_) (a' := ?_) #[true, true, true, true, true, true, true, true, true, true, true, true, true, true, true, true, true, true, true, true, false, false, false, false, false, false, false, false, false, false, false] rfl rfl (any_of HT_.out (by kernel_rfl)) (fun _ _ _ h => h) (Or.inl ⟨by rfl, ?_⟩) ?_ ?_
  rotate_left
  · intro w'
    go_simp
    with_reducible rfl
  rotate_left
  · simp only [Act.put, List.setIfInBounds_toArray, List.set_cons_zero, List.set_cons_succ, i64_w, i32_w]
    rfl
  refine pure_ (i := 21) (N := some 84) (v := ?_) (a' := ?_) #[true, true, true, true, true, true, true, true, true, true, true, true, true, true, true, true, true, true, true, true, false, true, false, false, false, false, false, false, false, false, false] rfl rfl (any_of HT_.out (by kernel_rfl)) (fun _ _ _ h => h) (Or.inl ⟨by rfl, ?_⟩) ?_ ?_
  rotate_left
  · intro w'
    go_simp
    with_reducible rfl
  rotate_left
  · simp only [Act.put, List.setIfInBounds_toArray, List.set_cons_zero, List.set_cons_succ, i64_w, i32_w]
    rfl
  refine pure_ (i := 22) (N := some 85) (v := ?_) (a' := ?_) #[true, true, true, true, true, true, true, true, true, true, true, true, true, true, true, true, true, true, true, true, false, true, true, false, false, false, false, false, false, false, false] rfl rfl (any_of HT_.out (by kernel_rfl)) (fun _ _ _ h => h) (Or.inl ⟨by rfl, ?_⟩) ?_ ?_
  rotate_left
  · intro w'
    go_simp
    with_reducible rfl
  rotate_left
  · simp only [Act.put, List.setIfInBounds_toArray, List.set_cons_zero, List.set_cons_succ, i64_w, i32_w]
    rfl
  refine pure_ (i := 23) (N := some 86) (v := ?_) (a' := ?_) #[true, true, true, true, true, true, true, true, true, true, true, true, true, true, true, true, true, true, true, true, false, true, true, true, false, false, false, false, false, false, false] rfl rfl (any_of HT_.out (by kernel_rfl)) (fun _ _ _ h => h) (Or.inl ⟨by rfl, ?_⟩) ?_ ?_
  rotate_left
  · intro w'
    go_simp
    with_reducible rfl
  rotate_left
  · simp only [Act.put, List.setIfInBounds_toArray, List.set_cons_zero, List.set_cons_succ, i64_w, i32_w]
    rfl
  refine take_ (i := 24) (N := some 87) (v := ?_) (a' := ?_) #[true, true, true, true, true, true, true, true, true, true, true, true, true, true, true, true, true, true, true, true, false, true, true, true, true, false, false, false, false, false, false] rfl rfl (take_ofW HT_.out HW_.out (by kernel_rfl)) (fun _ _ _ h => h) (Or.inl ⟨by rfl, ?_⟩) hHeld ?_ ?_
  rotate_left
  · rintro w' ⟨s0, s1, s2, s3, s4, s5, s6, s7, s8, s9, s10, s11, s12, s13, s14, s15, s16, s17, s18, s19⟩
    go_simp
    with_reducible rfl
  rotate_left
  · simp only [Act.put, List.setIfInBounds_toArray, List.set_cons_zero, List.set_cons_succ, i64_w, i32_w]
    rfl
  refine one_ (i := 20) (N := some 83) #[true, true, true, true, true, true, true, true, true, true, true, true, true, true, true, true, true, true, true, true, true, true, true, true, true, false, false, false, false, false, false] rfl rfl (one_of HT_.out (by kernel_rfl)) (by decide) (fun K hK => ?_)
  refine goes_ Try.func18 (by kernel_rfl) rfl #[.pointer (some ⟨w60.heap.size, 0, none⟩)] (by rfl) rfl rfl (by (try simp only [List.map_toArray, List.map_cons, List.map_nil]); first | done | rfl) ?_
  refine (rbad_any _ HP_67.out).mono ?_
  rintro e w9 ⟨rfl, rfl⟩
  refine ⟨_, rfl, ?_⟩
  refine hK.out _ _ ⟨(blk_cell Bx_67.out 0).trans rfl, (blk_cell Bx_67.out 1).trans rfl, (blk_cell Bx_67.out 2).trans rfl, (blk_cell Bx_67.out 3).trans rfl, (blk_cell Bx_67.out 4).trans rfl, (blk_cell Bx_67.out 5).trans rfl, (blk_cell Bx_67.out 6).trans rfl, (blk_cell Bx_67.out 7).trans rfl, (blk_cell Bx_67.out 8).trans rfl, (blk_cell By_67.out 0).trans rfl, (blk_cell By_67.out 1).trans rfl, (blk_cell By_67.out 2).trans rfl, (blk_cell By_67.out 3).trans rfl, (blk_cell By_67.out 4).trans rfl, (blk_cell By_67.out 5).trans rfl, (blk_cell By_67.out 6).trans rfl, (blk_cell By_67.out 7).trans rfl, (blk_cell By_67.out 8).trans rfl, HV.out.g0, HV.out.g1⟩ (fun hHeld => ?_)
  clear hK K
  refine norm_ (a' := ?_) ?_ ?_
  rotate_left
  · show Act.put _ (some 83) _ = _
    simp only [Act.put, List.setIfInBounds_toArray, List.set_cons_zero, List.set_cons_succ, i64_w, i32_w]
    rfl
  refine pure_ (i := 25) (N := some 88) (v := ?_) (a' := ?_) #[true, true, true, true, true, true, true, true, true, true, true, true, true, true, true, true, true, true, true, true, true, true, true, true, true, true, false, false, false, false, false] rfl rfl (any_of HT_.out (by kernel_rfl)) (fun _ _ _ h => h) (Or.inl ⟨by rfl, ?_⟩) ?_ ?_
  rotate_left
  · intro w'
    go_simp
    with_reducible rfl
  rotate_left
  · simp only [Act.put, List.setIfInBounds_toArray, List.set_cons_zero, List.set_cons_succ, i64_w, i32_w]
    rfl
  refine pure_ (i := 26) (N := some 89) (v := ?_) (a' := ?_) #[true, true, true, true, true, true, true, true, true, true, true, true, true, true, true, true, true, true, true, true, true, true, true, true, true, true, true, false, false, false, false] rfl rfl (any_of HT_.out (by kernel_rfl)) (fun _ _ _ h => h) (Or.inl ⟨by rfl, ?_⟩) ?_ ?_
  rotate_left
  · intro w'
    go_simp
    with_reducible rfl
  rotate_left
  · simp only [Act.put, List.setIfInBounds_toArray, List.set_cons_zero, List.set_cons_succ, i64_w, i32_w]
    rfl
  refine pure_ (i := 27) (N := some 90) (v := ?_) (a' := ?_) #[true, true, true, true, true, true, true, true, true, true, true, true, true, true, true, true, true, true, true, true, true, true, true, true, true, true, true, true, false, false, false] rfl rfl (any_of HT_.out (by kernel_rfl)) (fun _ _ _ h => h) (Or.inl ⟨by rfl, ?_⟩) ?_ ?_
  rotate_left
  · intro w'
    go_simp
    with_reducible rfl
  rotate_left
  · simp only [Act.put, List.setIfInBounds_toArray, List.set_cons_zero, List.set_cons_succ, i64_w, i32_w]
    rfl
  refine one_ (i := 28) (N := some 91) #[true, true, true, true, true, true, true, true, true, true, true, true, true, true, true, true, true, true, true, true, true, true, true, true, true, true, true, true, true, false, false] rfl rfl (one_of HT_.out (by kernel_rfl)) (by decide) (fun K hK => ?_)
  refine goes_ Try.func8 (by kernel_rfl) rfl #[] (by rfl) rfl rfl (by (try simp only [List.map_toArray, List.map_cons, List.map_nil]); first | done | rfl) ?_
  refine (lives16_any _).mono ?_
  rintro e w68 ⟨rfl, q1⟩
  refine ⟨_, rfl, ?_⟩
  have HV := Aside0.mk (HV.out.below q1)
  have HB_68 := Aside0.mk (below_step HB_67.out q1)
  have hs_68 : w67.heap.size ≤ w68.heap.size := q1.size
  have Bx_68 := Aside0.mk (blk_below Bx_67.out q1)
  have By_68 := Aside0.mk (blk_below By_67.out q1)
  have HP_68 := Aside0.mk (HP_67.out.below q1)
  have HD_68 := Aside0.mk (HD_67.out.below q1)
  clear q1
  refine hK.out _ _ ⟨(blk_cell Bx_68.out 0).trans rfl, (blk_cell Bx_68.out 1).trans rfl, (blk_cell Bx_68.out 2).trans rfl, (blk_cell Bx_68.out 3).trans rfl, (blk_cell Bx_68.out 4).trans rfl, (blk_cell Bx_68.out 5).trans rfl, (blk_cell Bx_68.out 6).trans rfl, (blk_cell Bx_68.out 7).trans rfl, (blk_cell Bx_68.out 8).trans rfl, (blk_cell By_68.out 0).trans rfl, (blk_cell By_68.out 1).trans rfl, (blk_cell By_68.out 2).trans rfl, (blk_cell By_68.out 3).trans rfl, (blk_cell By_68.out 4).trans rfl, (blk_cell By_68.out 5).trans rfl, (blk_cell By_68.out 6).trans rfl, (blk_cell By_68.out 7).trans rfl, (blk_cell By_68.out 8).trans rfl, HV.out.g0, HV.out.g1⟩ (fun hHeld => ?_)
  clear hK K
  refine norm_ (a' := ?_) ?_ ?_
  rotate_left
  · show Act.put _ (some 91) _ = _
    simp only [Act.put, List.setIfInBounds_toArray, List.set_cons_zero, List.set_cons_succ, i64_w, i32_w]
    rfl
  refine pure_ (i := 29) (N := some 92) (v := ?_) (a' := ?_) #[true, true, true, true, true, true, true, true, true, true, true, true, true, true, true, true, true, true, true, true, true, true, true, true, true, true, true, true, true, true, false] rfl rfl (any_of HT_.out (by kernel_rfl)) (fun _ _ _ h => h) (Or.inl ⟨by rfl, ?_⟩) ?_ ?_
  rotate_left
  · intro w'
    go_simp
    with_reducible rfl
  rotate_left
  · simp only [Act.put, List.setIfInBounds_toArray, List.set_cons_zero, List.set_cons_succ, i64_w, i32_w]
    rfl
  refine pure_ (i := 30) (N := some 4) (v := ?_) (a' := ?_) #[true, true, true, true, true, true, true, true, true, true, true, true, true, true, true, true, true, true, true, true, true, true, true, true, true, true, true, true, true, true, true] rfl rfl (any_of HT_.out (by kernel_rfl)) (fun _ _ _ h => h) (Or.inl ⟨by rfl, ?_⟩) ?_ ?_
  rotate_left
  · intro w'
    go_simp
    with_reducible rfl
  rotate_left
  · simp only [Act.put, List.setIfInBounds_toArray, List.set_cons_zero, List.set_cons_succ, i64_w, i32_w]
    rfl
  refine done_ (done_of HT_.out (by kernel_rfl)) ?_
  clear HT_ HW_ hHeld
  go_wp2
  go_ret
  exact ⟨rfl, HB_68.out⟩
theorem tkbytes_any {id co st lv gn fr lf du tl : Int} {bs : List Int} {AB : Option Addr} {cB : Nat} (w : World) (hb : Kd.C (Kd.int .u8) w AB bs.length bs ∧ bs.length ≤ cB) (hby : ∀ x, x ∈ bs → 0 ≤ x ∧ x ≤ 255) (hfa : ∀ ad, AB = some ad → ad.block < w.heap.size) (hk : TkOk ⟨id, co, st, lv, gn, fr, lf, du, tl⟩) : Calls Try.prog 3 #[.agg #[.int .u64 id, .int .i64 co, .int .i64 st, .int .i64 lv, .int .u64 gn, .int .i64 fr, .int .i64 lf, .int .i64 du, .int .i64 tl], .slice AB bs.length cB] w fun e w' => e = .returned (.bool true) ∧ Below w.heap.size w w' := by
  by_cases hx : (3000 : Int) < bs.length
  · exact tkb_long w hb hby hfa hk hx
  · cases hs : tkB ⟨id, co, st, lv, gn, fr, lf, du, tl⟩ with
    | false => exact tkb_no w hb hby hfa hk hx hs
    | true => exact tkb_yes w hb hby hfa hk hx hs
end Go.Proofs.Ytepldlnmeenlbaa.Own
namespace Go.Proofs.Ytepldlnmeenlbaa.Own
open Go.RowKit Go.Proofs Go.Proofs.YtepldlnmeenlbaaW.PrintWords Go.Proofs.YtepldlnmeenlbaaW.PrintLast Go.Proofs.YtepldlnmeenlbaaW.PrintMore Go.Proofs.Ytepldlnmeenlbaa.Base
open Go.ChangeShapes Go.WideShapes Go.ChangeAt Go.Joins Go.Deep
theorem ownKnob_none : ownKnob Try.prog.godebug = none := by kernel_rfl
theorem laidOut : laidOutB Try.prog = true := by kernel_rfl
def intOf : Value → Int
  | .int _ x => x
  | _ => 0
end Go.Proofs.Ytepldlnmeenlbaa.Own
namespace Go.Proofs.Ytepldlnmeenlbaa.Own
open Go.RowKit Go.Proofs Go.Proofs.YtepldlnmeenlbaaW.PrintWords Go.Proofs.YtepldlnmeenlbaaW.PrintLast Go.Proofs.YtepldlnmeenlbaaW.PrintMore Go.Proofs.Ytepldlnmeenlbaa.Base
open Go.ChangeShapes Go.WideShapes Go.ChangeAt Go.Joins Go.Deep
theorem array9 {α : Type} {cs : Array α} (h : cs.size = 9) : ∃ c0 c1 c2 c3 c4 c5 c6 c7 c8, cs = #[c0, c1, c2, c3, c4, c5, c6, c7, c8] := by
  obtain ⟨l⟩ := cs
  match l, h with
  | [c0, c1, c2, c3, c4, c5, c6, c7, c8], _ => exact ⟨c0, c1, c2, c3, c4, c5, c6, c7, c8, rfl⟩
section
variable {H : Type} {enc : TypeId × Value → H} {P : Program} {w : World} {base : Nat} {spare : Nat → Bool} {held : Bool}
theorem trod_struct9 {t : TypeId} {f0 f1 f2 f3 f4 f5 f6 f7 f8 : Field} {fuel : Nat} {cs : List Value} {x : DataW H × List MemPlace} (ht : P.underlying t = some (.struct #[f0, f1, f2, f3, f4, f5, f6, f7, f8])) (h : DataW.trod enc P w base spare held fuel t cs = some x) :
    ∃ (y0 y1 y2 y3 y4 y5 y6 y7 y8 : DataW H × List MemPlace) (n : Nat), DataW.trod enc P w base spare held n f0.type ((cs.drop f0.offset).take (P.cellsOf f0.type)) = some y0 ∧ DataW.trod enc P w base spare held n f1.type ((cs.drop f1.offset).take (P.cellsOf f1.type)) = some y1 ∧ DataW.trod enc P w base spare held n f2.type ((cs.drop f2.offset).take (P.cellsOf f2.type)) = some y2 ∧ DataW.trod enc P w base spare held n f3.type ((cs.drop f3.offset).take (P.cellsOf f3.type)) = some y3 ∧ DataW.trod enc P w base spare held n f4.type ((cs.drop f4.offset).take (P.cellsOf f4.type)) = some y4 ∧ DataW.trod enc P w base spare held n f5.type ((cs.drop f5.offset).take (P.cellsOf f5.type)) = some y5 ∧ DataW.trod enc P w base spare held n f6.type ((cs.drop f6.offset).take (P.cellsOf f6.type)) = some y6 ∧ DataW.trod enc P w base spare held n f7.type ((cs.drop f7.offset).take (P.cellsOf f7.type)) = some y7 ∧ DataW.trod enc P w base spare held n f8.type ((cs.drop f8.offset).take (P.cellsOf f8.type)) = some y8 := by
  obtain ⟨xs, n, _, rfl, hl, hlen, hf⟩ := DataW.trod_struct ht h
  match xs, hlen with
  | [y0, y1, y2, y3, y4, y5, y6, y7, y8], _ => exact ⟨y0, y1, y2, y3, y4, y5, y6, y7, y8, n, by simpa using hf 0 f0 rfl, by simpa using hf 1 f1 rfl, by simpa using hf 2 f2 rfl, by simpa using hf 3 f3 rfl, by simpa using hf 4 f4 rfl, by simpa using hf 5 f5 rfl, by simpa using hf 6 f6 rfl, by simpa using hf 7 f7 rfl, by simpa using hf 8 f8 rfl⟩
theorem open_agg9 {r : Reach} {b0 : Nat} {t : TypeId} {f0 f1 f2 f3 f4 f5 f6 f7 f8 : Field} {v : Value} {d : DataW H} {p : List MemPlace} (hs : P.underlying t = some (.struct #[f0, f1, f2, f3, f4, f5, f6, f7, f8])) (hone : oneCellFields P #[f0, f1, f2, f3, f4, f5, f6, f7, f8] = true) (hC : P.cellsOf t = 9)
    (hv : Value.okWide P w r b0 t v) (h : DataW.Trod enc P w base spare held t v d p) :
    ∃ (v0 v1 v2 v3 v4 v5 v6 v7 v8 : Value) (y0 y1 y2 y3 y4 y5 y6 y7 y8 : DataW H × List MemPlace) (n : Nat), v = .agg #[v0, v1, v2, v3, v4, v5, v6, v7, v8] ∧ DataW.trod enc P w base spare held n f0.type [v0] = some y0 ∧ DataW.trod enc P w base spare held n f1.type [v1] = some y1 ∧ DataW.trod enc P w base spare held n f2.type [v2] = some y2 ∧ DataW.trod enc P w base spare held n f3.type [v3] = some y3 ∧ DataW.trod enc P w base spare held n f4.type [v4] = some y4 ∧ DataW.trod enc P w base spare held n f5.type [v5] = some y5 ∧ DataW.trod enc P w base spare held n f6.type [v6] = some y6 ∧ DataW.trod enc P w base spare held n f7.type [v7] = some y7 ∧ DataW.trod enc P w base spare held n f8.type [v8] = some y8 := by
  obtain ⟨cs, rfl, hsz⟩ := okWide_struct hs hv
  obtain ⟨c0, c1, c2, c3, c4, c5, c6, c7, c8, rfl⟩ := array9 (hsz.trans hC)
  obtain ⟨fuel, hf⟩ := h
  obtain ⟨y0, y1, y2, y3, y4, y5, y6, y7, y8, n, h0, h1, h2, h3, h4, h5, h6, h7, h8⟩ := trod_struct9 hs hf
  obtain ⟨o0, k0⟩ := hone_of hone 0 f0 rfl
  obtain ⟨o1, k1⟩ := hone_of hone 1 f1 rfl
  obtain ⟨o2, k2⟩ := hone_of hone 2 f2 rfl
  obtain ⟨o3, k3⟩ := hone_of hone 3 f3 rfl
  obtain ⟨o4, k4⟩ := hone_of hone 4 f4 rfl
  obtain ⟨o5, k5⟩ := hone_of hone 5 f5 rfl
  obtain ⟨o6, k6⟩ := hone_of hone 6 f6 rfl
  obtain ⟨o7, k7⟩ := hone_of hone 7 f7 rfl
  obtain ⟨o8, k8⟩ := hone_of hone 8 f8 rfl
  exact ⟨c0, c1, c2, c3, c4, c5, c6, c7, c8, y0, y1, y2, y3, y4, y5, y6, y7, y8, n, rfl, by simpa [Value.cells, o0, k0] using h0, by simpa [Value.cells, o1, k1] using h1, by simpa [Value.cells, o2, k2] using h2, by simpa [Value.cells, o3, k3] using h3, by simpa [Value.cells, o4, k4] using h4, by simpa [Value.cells, o5, k5] using h5, by simpa [Value.cells, o6, k6] using h6, by simpa [Value.cells, o7, k7] using h7, by simpa [Value.cells, o8, k8] using h8⟩
end
theorem tkCells : Try.prog.cellsOf 24 = 9 := by kernel_rfl
theorem wf_i64 {x : Int} (h : (Lit.int .i64 x).wf = true) : -9223372036854775808 ≤ x ∧ x ≤ 9223372036854775807 := by
  have h2 : IntKind.i64.min ≤ x ∧ x ≤ IntKind.i64.max := by simpa [Lit.wf] using h
  exact ⟨h2.1, h2.2⟩
theorem wf_u64 {x : Int} (h : (Lit.int .u64 x).wf = true) : 0 ≤ x ∧ x < 18446744073709551616 := by
  have h2 : IntKind.u64.min ≤ x ∧ x ≤ IntKind.u64.max := by simpa [Lit.wf] using h
  have h3 : x ≤ 18446744073709551615 := h2.2
  exact ⟨h2.1, by omega⟩
theorem wf_u8 {x : Int} (h : (Lit.int .u8 x).wf = true) : 0 ≤ x ∧ x ≤ 255 := by
  have h2 : IntKind.u8.min ≤ x ∧ x ≤ IntKind.u8.max := by simpa [Lit.wf] using h
  exact ⟨h2.1, h2.2⟩
set_option maxRecDepth 100000 in
theorem ticket_open {H : Type} {enc : TypeId × Value → H} {W : World} {spare : Nat → Bool} {held : Bool} {r : Reach} {b0 : Nat} {v : Value} {d : DataW H} {p : List MemPlace} (hv : Value.okWide Try.prog W r b0 24 v) (h : DataW.Trod enc Try.prog W 0 spare held 24 v d p) :
    ∃ (id co st lv gn fr lf du tl : Int), v = .agg #[.int .u64 id, .int .i64 co, .int .i64 st, .int .i64 lv, .int .u64 gn, .int .i64 fr, .int .i64 lf, .int .i64 du, .int .i64 tl] ∧ TkOk ⟨id, co, st, lv, gn, fr, lf, du, tl⟩ := by
  obtain ⟨v0, v1, v2, v3, v4, v5, v6, v7, v8, y0, y1, y2, y3, y4, y5, y6, y7, y8, m, rfl, t0, t1, t2, t3, t4, t5, t6, t7, t8⟩ := open_agg9 Try.underlying24 (by kernel_rfl) tkCells hv h
  obtain ⟨a0, e0, _, w0⟩ := DataW.trod_int Try.underlying22 t0
  obtain ⟨a1, e1, _, w1⟩ := DataW.trod_int Try.underlying3 t1
  obtain ⟨a2, e2, _, w2⟩ := DataW.trod_int Try.underlying3 t2
  obtain ⟨a3, e3, _, w3⟩ := DataW.trod_int Try.underlying3 t3
  obtain ⟨a4, e4, _, w4⟩ := DataW.trod_int Try.underlying22 t4
  obtain ⟨a5, e5, _, w5⟩ := DataW.trod_int Try.underlying2 t5
  obtain ⟨a6, e6, _, w6⟩ := DataW.trod_int Try.underlying2 t6
  obtain ⟨a7, e7, _, w7⟩ := DataW.trod_int Try.underlying2 t7
  obtain ⟨a8, e8, _, w8⟩ := DataW.trod_int Try.underlying3 t8
  simp at e0 e1 e2 e3 e4 e5 e6 e7 e8
  subst e0 e1 e2 e3 e4 e5 e6 e7 e8
  exact ⟨a0, a1, a2, a3, a4, a5, a6, a7, a8, rfl, ⟨wf_u64 w0, wf_i64 w1, wf_i64 w2, wf_i64 w3, wf_u64 w4, wf_i64 w5, wf_i64 w6, wf_i64 w7, wf_i64 w8⟩⟩
set_option maxRecDepth 100000 in
theorem bytes_open {H : Type} {enc : TypeId × Value → H} {W : World} {spare : Nat → Bool} {held : Bool} {r : Reach} {b0 : Nat} {v : Value} {d : DataW H} {p : List MemPlace} (hv : Value.okWide Try.prog W r b0 25 v) (h : DataW.Trod enc Try.prog W 0 spare held 25 v d p) :
    ∃ (A : Option Addr) (c : Nat) (l : List Int), v = .slice A l.length c ∧ (Kd.C (Kd.int .u8) W A l.length l ∧ l.length ≤ c) ∧ (∀ x, x ∈ l → 0 ≤ x ∧ x ≤ 255) ∧ (∀ ad, A = some ad → ad.block < W.heap.size) := by
  obtain ⟨fuel, hf⟩ := h
  obtain ⟨a0, len0, cap0, rfl⟩ := okWide_slice Try.underlying25 hv
  rcases open_ints Try.underlying25 Try.underlying5 (by kernel_rfl) (by simpa [Value.cells] using hf) with ⟨hcs, _⟩ | ⟨a, len, cap, zs, hcs, _, hl, hm, hz, _, hx, hw⟩
  · injection hcs with h1 _
    cases h1
    exact ⟨none, 0, [], rfl, ⟨⟨rfl, by decide, fun h => absurd h (by simp)⟩, Nat.le_refl _⟩, fun x hx => by (cases hx), fun _ e => by (cases e)⟩
  · injection hcs with h1 _
    cases h1
    have hzl : len0 ≤ zs.length := by rw [hz]; split <;> omega
    have hlt : (zs.take len0).length = len0 := by rw [List.length_take]; omega
    refine ⟨some a, cap0, zs.take len0, by rw [hlt], ⟨⟨rfl, by rw [hlt]; unfold maxLen at hm; omega, fun _ => ⟨a, rfl, fun j p hp => ?_⟩⟩, by rw [hlt]; exact hl⟩, fun x hx2 => wf_u8 (hw x (List.mem_of_mem_take hx2)), fun ad e => ?_⟩
    · have hj : j < len0 := by
        rcases Nat.lt_or_ge j len0 with h | h
        · exact h
        · rw [List.getElem?_eq_none (by omega)] at hp; cases hp
      rw [List.getElem?_take_of_lt hj] at hp
      have hc := hx j (by omega)
      rw [List.getD_eq_getElem?_getD, hp] at hc
      refine ⟨[.int .u8 p], rfl, rfl, fun i u hu => ?_⟩
      match i, hu with
      | 0, hu => injection hu with hu; subst hu; show W.cell? (a.add (j * 1 + 0)) = _; simpa using hc
      | (n + 1), hu => cases hu
    · injection e with e
      subst e
      have hk : Cell.ok Try.prog W r b0 25 (.slice (some a) len0 cap0) := by
        have := hv
        unfold Value.okWide at this
        rw [Try.underlying25] at this
        unfold Cell.okWide at this
        rw [Try.underlying25] at this
        exact this
      unfold Cell.ok at hk
      rw [Try.underlying25] at hk
      obtain ⟨_, _, _, _, row, cells, hs, _⟩ := hk
      unfold World.shape? at hs
      rcases Nat.lt_or_ge a.block W.heap.size with h | h
      · exact h
      · rw [Array.getElem?_eq_none h] at hs; cases hs
end Go.Proofs.Ytepldlnmeenlbaa.Own
