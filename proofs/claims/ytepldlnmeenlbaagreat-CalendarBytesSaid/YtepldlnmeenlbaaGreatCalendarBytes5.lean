/- CalendarBytes, part 5: what the claim needs of CalB, OpenCal, OpenBy. -/
import Derived.Test.YtepldlnmeenlbaaGreatCalendarBytes4
import Derived.Test.YtepldlnmeenlbaaGreatProg
import Derived.Below
import Derived.Deep.Draws
import Derived.Deep.AppendLies
import Derived.Maps.AppendAt
import Derived.OwnWalk
import Derived.Laws.BytesArg
import Derived.Laws.MakeOwn
import Derived.Laws.OwnMore
import Derived.Deep.OwnRows
import Derived.Tactics
import Derived.Lib.ConvBytes
import Derived.Laws.Slices
import Derived.WalkKit
import Derived.KernelRfl
import Derived.RowKit3
import Derived.Deep.LoopGhost
import Derived.Deep.QuietTactic
import Derived.BigQuiet
import Derived.WideLaws
import Derived.Deep.DeepCutAuto
import Derived.Deep.CutBlock
import Derived.Deep.RegionHeld3
import Derived.Laws.Rows
import Derived.Lib.AppendStr
import Derived.ArgAppend
import Derived.Laws.IdiomCopy
import Derived.OrdersHeld
import Derived.Laws.BitsLemmas
import Derived.RowKit
import Derived.Laws.StructEq
import Derived.Tactics2
import Derived.Defers
import Derived.Laws.Pointers
import Derived.Laws.LoneSync
import Derived.Laws.NewBlocks
import Derived.RegionTactic
import Derived.RegionCalls
import Derived.ChangeAlike
import Derived.StillTailTactics
import Derived.Outline
import Derived.Handy
import Derived.SizedLaws
import Derived.ChangeSlices
import Derived.Laws.EntriesVeiled
import Derived.WalkSpells
import Derived.RangeFuncNested
import Derived.RangeFuncBound
import Derived.RangeFuncCalls
import Derived.RangeFuncLeaves
import Derived.Shelf.Abstract
import Derived.Shelf.RegionOpen
import Derived.OwnWalkIn
import Derived.TacticsInMore
import Derived.LoopNIn
import Derived.LoopIn
import Derived.OrdersIn
import Derived.Test.YtepldlnmeenlbaaGreatRows
import Derived.ProofKit
import Derived.OpenShut
import Derived.ShutString
import Derived.ChangeOld
import Derived.Lib.SmallJoins
import Derived.Deep.SlicePairs
set_option linter.unusedVariables false
set_option linter.unusedSimpArgs false
namespace Go.Proofs.YtepldlnmeenlbaaGreat.Own
open Go.RowKit Go.Proofs Go.Proofs.YtepldlnmeenlbaaGreatW.PrintWords Go.Proofs.YtepldlnmeenlbaaGreatW.PrintLast Go.Proofs.YtepldlnmeenlbaaGreatW.PrintMore Go.Proofs.YtepldlnmeenlbaaGreat.Base
def clb_T3 : Bool × List (List Nat × List Nat) := (true, [([], []), ([], []), ([0, 1], [0, 1]), ([], []), ([], []), ([3, 4, 2], [3, 4]), ([2, 5], [2, 5]), ([6, 5], [6]), ([7], [7]), ([7], [7]), ([8, 9, 7, 7], [7, 8, 9]), ([10, 7], [7, 10]), ([7, 11], [7, 11])])
def clb_B3 : List Nat := [0, 0, 3, 0, 0, 31, 63, 127, 255, 255, 1023, 2047, 4095]
theorem clb_tab3 : rtab .any (opsOf Tryz.f3 3) = clb_T3 := by kernel_rfl
theorem clb_bits3 : waitsOk clb_T3.2 clb_B3 = true := by kernel_rfl
def clb_T9 : Bool × List (List Nat × List Nat) := (true, [([], []), ([0], [0]), ([], []), ([2, 0], [2]), ([3], [3]), ([1, 4], [1, 4]), ([5, 3], [5]), ([6], [6]), ([7, 6], [6, 7]), ([6, 8], [6, 8]), ([9, 6], [9]), ([10], [10]), ([10], [10]), ([11, 12, 10, 10], [10, 11, 12]), ([13, 10], [10, 13]), ([10, 14], [10, 14])])
def clb_B9 : List Nat := [0, 1, 0, 5, 13, 31, 63, 127, 255, 511, 1023, 2047, 2047, 8191, 16383, 32767]
theorem clb_tab9 : rtab .any (opsOf Tryz.f3 9) = clb_T9 := by kernel_rfl
theorem clb_bits9 : waitsOk clb_T9.2 clb_B9 = true := by kernel_rfl
def clb_T14 : Bool × List (List Nat × List Nat) := (true, [([], []), ([], []), ([0, 1], [0, 1]), ([2], [2]), ([3], [3]), ([3], [3]), ([4, 5, 3, 3], [3, 4, 5]), ([3, 6], [3, 6]), ([7, 6], [7]), ([8], [8]), ([9, 8, 8], [8, 9]), ([8], [8]), ([11, 8], [8, 11]), ([12, 8], [8, 12]), ([13, 8], [8, 13]), ([14, 8], [8, 14]), ([10, 15, 8], [8, 10, 15]), ([8, 16], [8, 16]), ([17, 10], [17]), ([18], [18]), ([19, 18, 18], [18, 19]), ([18], [18]), ([21, 18], [18, 21]), ([22, 18], [18, 22]), ([23, 18], [18, 23]), ([20, 24, 18], [18, 20, 24]), ([18, 25], [18, 25]), ([26, 20], [26]), ([27, 27], [27]), ([27, 28], [27, 28]), ([29, 28, 0, 1, 2, 3, 4, 5, 6, 7, 8, 9, 10, 11, 12, 13, 14, 15, 16, 17, 18, 19, 20, 21, 22, 23, 24, 25, 26, 27, 28, 29], [29])])
def clb_B14 : List Nat := [0, 0, 3, 7, 15, 15, 63, 127, 255, 511, 1023, 511, 2559, 6655, 14847, 31231, 65535, 131071, 262143, 524287, 1048575, 524287, 2621439, 6815743, 15204351, 33554431, 67108863, 134217727, 268435455, 536870911, 1073741823]
theorem clb_tab14 : rtab .any (opsOf Tryz.f3 14) = clb_T14 := by kernel_rfl
theorem clb_bits14 : waitsOk clb_T14.2 clb_B14 = true := by kernel_rfl
set_option maxHeartbeats 8000000 in
set_option maxRecDepth 100000 in
theorem clb_l1 {o1 o2 : Int} {p1 c1 p2 c2 : List S114} {A1 C1 A2 C2 : Option Addr} {b1 d1 b2 d2 : Nat} {bs : List Int} {AB : Option Addr} {cB : Nat} (w : World) (ha1 : Kd.C k114 w A1 p1.length p1 ∧ p1.length ≤ b1) (hc1 : Kd.C k114 w C1 c1.length c1 ∧ c1.length ≤ d1) (ha2 : Kd.C k114 w A2 p2.length p2 ∧ p2.length ≤ b2) (hc2 : Kd.C k114 w C2 c2.length c2 ∧ c2.length ≤ d2) (hb : Kd.C (Kd.int .u8) w AB bs.length bs ∧ bs.length ≤ cB) (hby : ∀ x, x ∈ bs → 0 ≤ x ∧ x ≤ 255) (hfa : ∀ ad, AB = some ad → ad.block < w.heap.size) (hl1 : lightQ p1 c1 = false) :
    Calls Tryz.prog 3 #[.agg #[.int .i64 o1, .slice A1 p1.length b1, .slice C1 c1.length d1], .agg #[.int .i64 o2, .slice A2 p2.length b2, .slice C2 c2.length d2], .slice AB bs.length cB] w fun e w' => e = .returned (.bool true) ∧ Below w.heap.size w w' := by
  have Hb := Aside0.mk hb
  have HBY := Aside0.mk hby
  have HFA := Aside0.mk hfa
  have Ra1 := Aside0.mk ha1
  have Rc1 := Aside0.mk hc1
  have Ra2 := Aside0.mk ha2
  have Rc2 := Aside0.mk hc2
  have hnot : ∀ (x : Bool) (w : World), (Op.unary .not (.bool x)).run Tryz.prog w = .ok (.bool (!x)) w := fun _ _ => rfl
  have HL1 := Aside0.mk hl1
  clear hl1
  clear hb hby hfa ha1 hc1 ha2 hc2
  have HB_1 : Aside0 (Below w.heap.size w ((w.alloc (.cells #[.int .i64 o1, .slice A1 p1.length b1, .slice C1 c1.length d1] 24)).alloc (.cells #[.int .i64 o2, .slice A2 p2.length b2, .slice C2 c2.length d2] 24))) := ⟨(below_alloc (below_alloc (Below.refl w.heap.size w) (.cells #[.int .i64 o1, .slice A1 p1.length b1, .slice C1 c1.length d1] 24)) (.cells #[.int .i64 o2, .slice A2 p2.length b2, .slice C2 c2.length d2] 24))⟩
  have hs_1 : w.heap.size ≤ ((w.alloc (.cells #[.int .i64 o1, .slice A1 p1.length b1, .slice C1 c1.length d1] 24)).alloc (.cells #[.int .i64 o2, .slice A2 p2.length b2, .slice C2 c2.length d2] 24)).heap.size := HB_1.out.size
  have Bt_1 : Aside0 (((w.alloc (.cells #[.int .i64 o1, .slice A1 p1.length b1, .slice C1 c1.length d1] 24)).alloc (.cells #[.int .i64 o2, .slice A2 p2.length b2, .slice C2 c2.length d2] 24)).heap[w.heap.size]? = some (.cells #[.int .i64 o1, .slice A1 p1.length b1, .slice C1 c1.length d1] 24 (0, 0))) := ⟨(blk_alloc (blk_new w _) _)⟩
  have Bu_1 : Aside0 (((w.alloc (.cells #[.int .i64 o1, .slice A1 p1.length b1, .slice C1 c1.length d1] 24)).alloc (.cells #[.int .i64 o2, .slice A2 p2.length b2, .slice C2 c2.length d2] 24)).heap[w.heap.size + 1]? = some (.cells #[.int .i64 o2, .slice A2 p2.length b2, .slice C2 c2.length d2] 24 (0, 0))) := ⟨(by simpa using blk_new (w.alloc (.cells #[.int .i64 o1, .slice A1 p1.length b1, .slice C1 c1.length d1] 24)) (.cells #[.int .i64 o2, .slice A2 p2.length b2, .slice C2 c2.length d2] 24))⟩
  have hz_1 : w.heap.size + 1 < ((w.alloc (.cells #[.int .i64 o1, .slice A1 p1.length b1, .slice C1 c1.length d1] 24)).alloc (.cells #[.int .i64 o2, .slice A2 p2.length b2, .slice C2 c2.length d2] 24)).heap.size := blk_lt Bu_1.out
  go_enter Tryz.func3, Tryz.ntmps3
  go_upto_region 1 with fail
  generalize ((w.alloc (.cells #[.int .i64 o1, .slice A1 p1.length b1, .slice C1 c1.length d1] 24)).alloc (.cells #[.int .i64 o2, .slice A2 p2.length b2, .slice C2 c2.length d2] 24)) = w1 at HB_1 hs_1 Bt_1 Bu_1 hz_1 ⊢
  have dt0 : w1.cell? ⟨w.heap.size, 0, none⟩ = some (.int .i64 o1) := (blk_cell Bt_1.out 0).trans rfl
  have dt1 : w1.cell? ⟨w.heap.size, 1, none⟩ = some (.slice A1 p1.length b1) := (blk_cell Bt_1.out 1).trans rfl
  have dt2 : w1.cell? ⟨w.heap.size, 2, none⟩ = some (.slice C1 c1.length d1) := (blk_cell Bt_1.out 2).trans rfl
  have du0 : w1.cell? ⟨w.heap.size + 1, 0, none⟩ = some (.int .i64 o2) := (blk_cell Bu_1.out 0).trans rfl
  have du1 : w1.cell? ⟨w.heap.size + 1, 1, none⟩ = some (.slice A2 p2.length b2) := (blk_cell Bu_1.out 1).trans rfl
  have du2 : w1.cell? ⟨w.heap.size + 1, 2, none⟩ = some (.slice C2 c2.length d2) := (blk_cell Bu_1.out 2).trans rfl
  go_wp2_with (first | (go_at_call 10; with_reducible refine (light_is false w1 ⟨Kd.C_below Ra1.out.1 HB_1.out, Ra1.out.2⟩ ⟨Kd.C_below Rc1.out.1 HB_1.out, Rc1.out.2⟩ HL1.out).mono ?_; rintro e w2 ⟨rfl, q1⟩; clear dt0 dt1 dt2 du0 du1 du2; have HB_2 := Aside0.mk (below_step HB_1.out q1); have hs_2 : w1.heap.size ≤ w2.heap.size := q1.size; have Bt_2 := Aside0.mk (blk_below Bt_1.out q1); have Bu_2 := Aside0.mk (blk_below Bu_1.out q1); clear q1; have dt0 : w2.cell? ⟨w.heap.size, 0, none⟩ = some (.int .i64 o1) := (blk_cell Bt_2.out 0).trans rfl; have dt1 : w2.cell? ⟨w.heap.size, 1, none⟩ = some (.slice A1 p1.length b1) := (blk_cell Bt_2.out 1).trans rfl; have dt2 : w2.cell? ⟨w.heap.size, 2, none⟩ = some (.slice C1 c1.length d1) := (blk_cell Bt_2.out 2).trans rfl; have du0 : w2.cell? ⟨w.heap.size + 1, 0, none⟩ = some (.int .i64 o2) := (blk_cell Bu_2.out 0).trans rfl; have du1 : w2.cell? ⟨w.heap.size + 1, 1, none⟩ = some (.slice A2 p2.length b2) := (blk_cell Bu_2.out 1).trans rfl; have du2 : w2.cell? ⟨w.heap.size + 1, 2, none⟩ = some (.slice C2 c2.length d2) := (blk_cell Bu_2.out 2).trans rfl) | (go_at_call 11; with_reducible refine (lives_any w2).mono ?_; rintro e w3 ⟨rfl, q1⟩; clear dt0 dt1 dt2 du0 du1 du2; have HB_3 := Aside0.mk (below_step HB_2.out q1); have hs_3 : w2.heap.size ≤ w3.heap.size := q1.size; have Bt_3 := Aside0.mk (blk_below Bt_2.out q1); have Bu_3 := Aside0.mk (blk_below Bu_2.out q1); clear q1; have dt0 : w3.cell? ⟨w.heap.size, 0, none⟩ = some (.int .i64 o1) := (blk_cell Bt_3.out 0).trans rfl; have dt1 : w3.cell? ⟨w.heap.size, 1, none⟩ = some (.slice A1 p1.length b1) := (blk_cell Bt_3.out 1).trans rfl; have dt2 : w3.cell? ⟨w.heap.size, 2, none⟩ = some (.slice C1 c1.length d1) := (blk_cell Bt_3.out 2).trans rfl; have du0 : w3.cell? ⟨w.heap.size + 1, 0, none⟩ = some (.int .i64 o2) := (blk_cell Bu_3.out 0).trans rfl; have du1 : w3.cell? ⟨w.heap.size + 1, 1, none⟩ = some (.slice A2 p2.length b2) := (blk_cell Bu_3.out 1).trans rfl; have du2 : w3.cell? ⟨w.heap.size + 1, 2, none⟩ = some (.slice C2 c2.length d2) := (blk_cell Bu_3.out 2).trans rfl))
  go_ret
  exact ⟨rfl, HB_3.out⟩
set_option maxHeartbeats 8000000 in
set_option maxRecDepth 100000 in
theorem clb_l2 {o1 o2 : Int} {p1 c1 p2 c2 : List S114} {A1 C1 A2 C2 : Option Addr} {b1 d1 b2 d2 : Nat} {bs : List Int} {AB : Option Addr} {cB : Nat} (w : World) (ha1 : Kd.C k114 w A1 p1.length p1 ∧ p1.length ≤ b1) (hc1 : Kd.C k114 w C1 c1.length c1 ∧ c1.length ≤ d1) (ha2 : Kd.C k114 w A2 p2.length p2 ∧ p2.length ≤ b2) (hc2 : Kd.C k114 w C2 c2.length c2 ∧ c2.length ≤ d2) (hb : Kd.C (Kd.int .u8) w AB bs.length bs ∧ bs.length ≤ cB) (hby : ∀ x, x ∈ bs → 0 ≤ x ∧ x ≤ 255) (hfa : ∀ ad, AB = some ad → ad.block < w.heap.size) (hl1 : lightQ p1 c1 = true) (hl2 : lightQ p2 c2 = false) :
    Calls Tryz.prog 3 #[.agg #[.int .i64 o1, .slice A1 p1.length b1, .slice C1 c1.length d1], .agg #[.int .i64 o2, .slice A2 p2.length b2, .slice C2 c2.length d2], .slice AB bs.length cB] w fun e w' => e = .returned (.bool true) ∧ Below w.heap.size w w' := by
  have Hb := Aside0.mk hb
  have HBY := Aside0.mk hby
  have HFA := Aside0.mk hfa
  have Ra1 := Aside0.mk ha1
  have Rc1 := Aside0.mk hc1
  have Ra2 := Aside0.mk ha2
  have Rc2 := Aside0.mk hc2
  have hnot : ∀ (x : Bool) (w : World), (Op.unary .not (.bool x)).run Tryz.prog w = .ok (.bool (!x)) w := fun _ _ => rfl
  have HL1 := Aside0.mk hl1
  have HL2 := Aside0.mk hl2
  clear hl1 hl2
  clear hb hby hfa ha1 hc1 ha2 hc2
  have HB_1 : Aside0 (Below w.heap.size w ((w.alloc (.cells #[.int .i64 o1, .slice A1 p1.length b1, .slice C1 c1.length d1] 24)).alloc (.cells #[.int .i64 o2, .slice A2 p2.length b2, .slice C2 c2.length d2] 24))) := ⟨(below_alloc (below_alloc (Below.refl w.heap.size w) (.cells #[.int .i64 o1, .slice A1 p1.length b1, .slice C1 c1.length d1] 24)) (.cells #[.int .i64 o2, .slice A2 p2.length b2, .slice C2 c2.length d2] 24))⟩
  have hs_1 : w.heap.size ≤ ((w.alloc (.cells #[.int .i64 o1, .slice A1 p1.length b1, .slice C1 c1.length d1] 24)).alloc (.cells #[.int .i64 o2, .slice A2 p2.length b2, .slice C2 c2.length d2] 24)).heap.size := HB_1.out.size
  have Bt_1 : Aside0 (((w.alloc (.cells #[.int .i64 o1, .slice A1 p1.length b1, .slice C1 c1.length d1] 24)).alloc (.cells #[.int .i64 o2, .slice A2 p2.length b2, .slice C2 c2.length d2] 24)).heap[w.heap.size]? = some (.cells #[.int .i64 o1, .slice A1 p1.length b1, .slice C1 c1.length d1] 24 (0, 0))) := ⟨(blk_alloc (blk_new w _) _)⟩
  have Bu_1 : Aside0 (((w.alloc (.cells #[.int .i64 o1, .slice A1 p1.length b1, .slice C1 c1.length d1] 24)).alloc (.cells #[.int .i64 o2, .slice A2 p2.length b2, .slice C2 c2.length d2] 24)).heap[w.heap.size + 1]? = some (.cells #[.int .i64 o2, .slice A2 p2.length b2, .slice C2 c2.length d2] 24 (0, 0))) := ⟨(by simpa using blk_new (w.alloc (.cells #[.int .i64 o1, .slice A1 p1.length b1, .slice C1 c1.length d1] 24)) (.cells #[.int .i64 o2, .slice A2 p2.length b2, .slice C2 c2.length d2] 24))⟩
  have hz_1 : w.heap.size + 1 < ((w.alloc (.cells #[.int .i64 o1, .slice A1 p1.length b1, .slice C1 c1.length d1] 24)).alloc (.cells #[.int .i64 o2, .slice A2 p2.length b2, .slice C2 c2.length d2] 24)).heap.size := blk_lt Bu_1.out
  go_enter Tryz.func3, Tryz.ntmps3
  go_upto_region 1 with fail
  generalize ((w.alloc (.cells #[.int .i64 o1, .slice A1 p1.length b1, .slice C1 c1.length d1] 24)).alloc (.cells #[.int .i64 o2, .slice A2 p2.length b2, .slice C2 c2.length d2] 24)) = w1 at HB_1 hs_1 Bt_1 Bu_1 hz_1 ⊢
  have dt0 : w1.cell? ⟨w.heap.size, 0, none⟩ = some (.int .i64 o1) := (blk_cell Bt_1.out 0).trans rfl
  have dt1 : w1.cell? ⟨w.heap.size, 1, none⟩ = some (.slice A1 p1.length b1) := (blk_cell Bt_1.out 1).trans rfl
  have dt2 : w1.cell? ⟨w.heap.size, 2, none⟩ = some (.slice C1 c1.length d1) := (blk_cell Bt_1.out 2).trans rfl
  have du0 : w1.cell? ⟨w.heap.size + 1, 0, none⟩ = some (.int .i64 o2) := (blk_cell Bu_1.out 0).trans rfl
  have du1 : w1.cell? ⟨w.heap.size + 1, 1, none⟩ = some (.slice A2 p2.length b2) := (blk_cell Bu_1.out 1).trans rfl
  have du2 : w1.cell? ⟨w.heap.size + 1, 2, none⟩ = some (.slice C2 c2.length d2) := (blk_cell Bu_1.out 2).trans rfl
  go_wp2_with (first | (go_at_call 10; with_reducible refine (light_is true w1 ⟨Kd.C_below Ra1.out.1 HB_1.out, Ra1.out.2⟩ ⟨Kd.C_below Rc1.out.1 HB_1.out, Rc1.out.2⟩ HL1.out).mono ?_; rintro e w2 ⟨rfl, q1⟩; clear dt0 dt1 dt2 du0 du1 du2; have HB_2 := Aside0.mk (below_step HB_1.out q1); have hs_2 : w1.heap.size ≤ w2.heap.size := q1.size; have Bt_2 := Aside0.mk (blk_below Bt_1.out q1); have Bu_2 := Aside0.mk (blk_below Bu_1.out q1); clear q1; have dt0 : w2.cell? ⟨w.heap.size, 0, none⟩ = some (.int .i64 o1) := (blk_cell Bt_2.out 0).trans rfl; have dt1 : w2.cell? ⟨w.heap.size, 1, none⟩ = some (.slice A1 p1.length b1) := (blk_cell Bt_2.out 1).trans rfl; have dt2 : w2.cell? ⟨w.heap.size, 2, none⟩ = some (.slice C1 c1.length d1) := (blk_cell Bt_2.out 2).trans rfl; have du0 : w2.cell? ⟨w.heap.size + 1, 0, none⟩ = some (.int .i64 o2) := (blk_cell Bu_2.out 0).trans rfl; have du1 : w2.cell? ⟨w.heap.size + 1, 1, none⟩ = some (.slice A2 p2.length b2) := (blk_cell Bu_2.out 1).trans rfl; have du2 : w2.cell? ⟨w.heap.size + 1, 2, none⟩ = some (.slice C2 c2.length d2) := (blk_cell Bu_2.out 2).trans rfl) | (go_at_call 10; with_reducible refine (light_is false w2 ⟨Kd.C_below Ra2.out.1 HB_2.out, Ra2.out.2⟩ ⟨Kd.C_below Rc2.out.1 HB_2.out, Rc2.out.2⟩ HL2.out).mono ?_; rintro e w3 ⟨rfl, q1⟩; clear dt0 dt1 dt2 du0 du1 du2; have HB_3 := Aside0.mk (below_step HB_2.out q1); have hs_3 : w2.heap.size ≤ w3.heap.size := q1.size; have Bt_3 := Aside0.mk (blk_below Bt_2.out q1); have Bu_3 := Aside0.mk (blk_below Bu_2.out q1); clear q1; have dt0 : w3.cell? ⟨w.heap.size, 0, none⟩ = some (.int .i64 o1) := (blk_cell Bt_3.out 0).trans rfl; have dt1 : w3.cell? ⟨w.heap.size, 1, none⟩ = some (.slice A1 p1.length b1) := (blk_cell Bt_3.out 1).trans rfl; have dt2 : w3.cell? ⟨w.heap.size, 2, none⟩ = some (.slice C1 c1.length d1) := (blk_cell Bt_3.out 2).trans rfl; have du0 : w3.cell? ⟨w.heap.size + 1, 0, none⟩ = some (.int .i64 o2) := (blk_cell Bu_3.out 0).trans rfl; have du1 : w3.cell? ⟨w.heap.size + 1, 1, none⟩ = some (.slice A2 p2.length b2) := (blk_cell Bu_3.out 1).trans rfl; have du2 : w3.cell? ⟨w.heap.size + 1, 2, none⟩ = some (.slice C2 c2.length d2) := (blk_cell Bu_3.out 2).trans rfl) | (go_at_call 11; with_reducible refine (lives_any w3).mono ?_; rintro e w4 ⟨rfl, q1⟩; clear dt0 dt1 dt2 du0 du1 du2; have HB_4 := Aside0.mk (below_step HB_3.out q1); have hs_4 : w3.heap.size ≤ w4.heap.size := q1.size; have Bt_4 := Aside0.mk (blk_below Bt_3.out q1); have Bu_4 := Aside0.mk (blk_below Bu_3.out q1); clear q1; have dt0 : w4.cell? ⟨w.heap.size, 0, none⟩ = some (.int .i64 o1) := (blk_cell Bt_4.out 0).trans rfl; have dt1 : w4.cell? ⟨w.heap.size, 1, none⟩ = some (.slice A1 p1.length b1) := (blk_cell Bt_4.out 1).trans rfl; have dt2 : w4.cell? ⟨w.heap.size, 2, none⟩ = some (.slice C1 c1.length d1) := (blk_cell Bt_4.out 2).trans rfl; have du0 : w4.cell? ⟨w.heap.size + 1, 0, none⟩ = some (.int .i64 o2) := (blk_cell Bu_4.out 0).trans rfl; have du1 : w4.cell? ⟨w.heap.size + 1, 1, none⟩ = some (.slice A2 p2.length b2) := (blk_cell Bu_4.out 1).trans rfl; have du2 : w4.cell? ⟨w.heap.size + 1, 2, none⟩ = some (.slice C2 c2.length d2) := (blk_cell Bu_4.out 2).trans rfl))
  go_ret
  exact ⟨rfl, HB_4.out⟩
set_option maxHeartbeats 8000000 in
set_option maxRecDepth 100000 in
theorem clb_l3 {o1 o2 : Int} {p1 c1 p2 c2 : List S114} {A1 C1 A2 C2 : Option Addr} {b1 d1 b2 d2 : Nat} {bs : List Int} {AB : Option Addr} {cB : Nat} (w : World) (ha1 : Kd.C k114 w A1 p1.length p1 ∧ p1.length ≤ b1) (hc1 : Kd.C k114 w C1 c1.length c1 ∧ c1.length ≤ d1) (ha2 : Kd.C k114 w A2 p2.length p2 ∧ p2.length ≤ b2) (hc2 : Kd.C k114 w C2 c2.length c2 ∧ c2.length ≤ d2) (hb : Kd.C (Kd.int .u8) w AB bs.length bs ∧ bs.length ≤ cB) (hby : ∀ x, x ∈ bs → 0 ≤ x ∧ x ≤ 255) (hfa : ∀ ad, AB = some ad → ad.block < w.heap.size) (hl1 : lightQ p1 c1 = true) (hl2 : lightQ p2 c2 = true) (hx : (3000 : Int) < bs.length) :
    Calls Tryz.prog 3 #[.agg #[.int .i64 o1, .slice A1 p1.length b1, .slice C1 c1.length d1], .agg #[.int .i64 o2, .slice A2 p2.length b2, .slice C2 c2.length d2], .slice AB bs.length cB] w fun e w' => e = .returned (.bool true) ∧ Below w.heap.size w w' := by
  have Hb := Aside0.mk hb
  have HBY := Aside0.mk hby
  have HFA := Aside0.mk hfa
  have Ra1 := Aside0.mk ha1
  have Rc1 := Aside0.mk hc1
  have Ra2 := Aside0.mk ha2
  have Rc2 := Aside0.mk hc2
  have hnot : ∀ (x : Bool) (w : World), (Op.unary .not (.bool x)).run Tryz.prog w = .ok (.bool (!x)) w := fun _ _ => rfl
  have HL1 := Aside0.mk hl1
  have HL2 := Aside0.mk hl2
  clear hl1 hl2
  have f1_ : decide ((3000 : Int) < bs.length) = true := decide_eq_true hx
  clear hb hby hfa ha1 hc1 ha2 hc2
  have HB_1 : Aside0 (Below w.heap.size w ((w.alloc (.cells #[.int .i64 o1, .slice A1 p1.length b1, .slice C1 c1.length d1] 24)).alloc (.cells #[.int .i64 o2, .slice A2 p2.length b2, .slice C2 c2.length d2] 24))) := ⟨(below_alloc (below_alloc (Below.refl w.heap.size w) (.cells #[.int .i64 o1, .slice A1 p1.length b1, .slice C1 c1.length d1] 24)) (.cells #[.int .i64 o2, .slice A2 p2.length b2, .slice C2 c2.length d2] 24))⟩
  have hs_1 : w.heap.size ≤ ((w.alloc (.cells #[.int .i64 o1, .slice A1 p1.length b1, .slice C1 c1.length d1] 24)).alloc (.cells #[.int .i64 o2, .slice A2 p2.length b2, .slice C2 c2.length d2] 24)).heap.size := HB_1.out.size
  have Bt_1 : Aside0 (((w.alloc (.cells #[.int .i64 o1, .slice A1 p1.length b1, .slice C1 c1.length d1] 24)).alloc (.cells #[.int .i64 o2, .slice A2 p2.length b2, .slice C2 c2.length d2] 24)).heap[w.heap.size]? = some (.cells #[.int .i64 o1, .slice A1 p1.length b1, .slice C1 c1.length d1] 24 (0, 0))) := ⟨(blk_alloc (blk_new w _) _)⟩
  have Bu_1 : Aside0 (((w.alloc (.cells #[.int .i64 o1, .slice A1 p1.length b1, .slice C1 c1.length d1] 24)).alloc (.cells #[.int .i64 o2, .slice A2 p2.length b2, .slice C2 c2.length d2] 24)).heap[w.heap.size + 1]? = some (.cells #[.int .i64 o2, .slice A2 p2.length b2, .slice C2 c2.length d2] 24 (0, 0))) := ⟨(by simpa using blk_new (w.alloc (.cells #[.int .i64 o1, .slice A1 p1.length b1, .slice C1 c1.length d1] 24)) (.cells #[.int .i64 o2, .slice A2 p2.length b2, .slice C2 c2.length d2] 24))⟩
  have hz_1 : w.heap.size + 1 < ((w.alloc (.cells #[.int .i64 o1, .slice A1 p1.length b1, .slice C1 c1.length d1] 24)).alloc (.cells #[.int .i64 o2, .slice A2 p2.length b2, .slice C2 c2.length d2] 24)).heap.size := blk_lt Bu_1.out
  go_enter Tryz.func3, Tryz.ntmps3
  go_upto_region 1 with fail
  generalize ((w.alloc (.cells #[.int .i64 o1, .slice A1 p1.length b1, .slice C1 c1.length d1] 24)).alloc (.cells #[.int .i64 o2, .slice A2 p2.length b2, .slice C2 c2.length d2] 24)) = w1 at HB_1 hs_1 Bt_1 Bu_1 hz_1 ⊢
  have dt0 : w1.cell? ⟨w.heap.size, 0, none⟩ = some (.int .i64 o1) := (blk_cell Bt_1.out 0).trans rfl
  have dt1 : w1.cell? ⟨w.heap.size, 1, none⟩ = some (.slice A1 p1.length b1) := (blk_cell Bt_1.out 1).trans rfl
  have dt2 : w1.cell? ⟨w.heap.size, 2, none⟩ = some (.slice C1 c1.length d1) := (blk_cell Bt_1.out 2).trans rfl
  have du0 : w1.cell? ⟨w.heap.size + 1, 0, none⟩ = some (.int .i64 o2) := (blk_cell Bu_1.out 0).trans rfl
  have du1 : w1.cell? ⟨w.heap.size + 1, 1, none⟩ = some (.slice A2 p2.length b2) := (blk_cell Bu_1.out 1).trans rfl
  have du2 : w1.cell? ⟨w.heap.size + 1, 2, none⟩ = some (.slice C2 c2.length d2) := (blk_cell Bu_1.out 2).trans rfl
  go_wp2_with (first | (go_at_call 10; with_reducible refine (light_is true w1 ⟨Kd.C_below Ra1.out.1 HB_1.out, Ra1.out.2⟩ ⟨Kd.C_below Rc1.out.1 HB_1.out, Rc1.out.2⟩ HL1.out).mono ?_; rintro e w2 ⟨rfl, q1⟩; clear dt0 dt1 dt2 du0 du1 du2; have HB_2 := Aside0.mk (below_step HB_1.out q1); have hs_2 : w1.heap.size ≤ w2.heap.size := q1.size; have Bt_2 := Aside0.mk (blk_below Bt_1.out q1); have Bu_2 := Aside0.mk (blk_below Bu_1.out q1); clear q1; have dt0 : w2.cell? ⟨w.heap.size, 0, none⟩ = some (.int .i64 o1) := (blk_cell Bt_2.out 0).trans rfl; have dt1 : w2.cell? ⟨w.heap.size, 1, none⟩ = some (.slice A1 p1.length b1) := (blk_cell Bt_2.out 1).trans rfl; have dt2 : w2.cell? ⟨w.heap.size, 2, none⟩ = some (.slice C1 c1.length d1) := (blk_cell Bt_2.out 2).trans rfl; have du0 : w2.cell? ⟨w.heap.size + 1, 0, none⟩ = some (.int .i64 o2) := (blk_cell Bu_2.out 0).trans rfl; have du1 : w2.cell? ⟨w.heap.size + 1, 1, none⟩ = some (.slice A2 p2.length b2) := (blk_cell Bu_2.out 1).trans rfl; have du2 : w2.cell? ⟨w.heap.size + 1, 2, none⟩ = some (.slice C2 c2.length d2) := (blk_cell Bu_2.out 2).trans rfl) | (go_at_call 10; with_reducible refine (light_is true w2 ⟨Kd.C_below Ra2.out.1 HB_2.out, Ra2.out.2⟩ ⟨Kd.C_below Rc2.out.1 HB_2.out, Rc2.out.2⟩ HL2.out).mono ?_; rintro e w3 ⟨rfl, q1⟩; clear dt0 dt1 dt2 du0 du1 du2; have HB_3 := Aside0.mk (below_step HB_2.out q1); have hs_3 : w2.heap.size ≤ w3.heap.size := q1.size; have Bt_3 := Aside0.mk (blk_below Bt_2.out q1); have Bu_3 := Aside0.mk (blk_below Bu_2.out q1); clear q1; have dt0 : w3.cell? ⟨w.heap.size, 0, none⟩ = some (.int .i64 o1) := (blk_cell Bt_3.out 0).trans rfl; have dt1 : w3.cell? ⟨w.heap.size, 1, none⟩ = some (.slice A1 p1.length b1) := (blk_cell Bt_3.out 1).trans rfl; have dt2 : w3.cell? ⟨w.heap.size, 2, none⟩ = some (.slice C1 c1.length d1) := (blk_cell Bt_3.out 2).trans rfl; have du0 : w3.cell? ⟨w.heap.size + 1, 0, none⟩ = some (.int .i64 o2) := (blk_cell Bu_3.out 0).trans rfl; have du1 : w3.cell? ⟨w.heap.size + 1, 1, none⟩ = some (.slice A2 p2.length b2) := (blk_cell Bu_3.out 1).trans rfl; have du2 : w3.cell? ⟨w.heap.size + 1, 2, none⟩ = some (.slice C2 c2.length d2) := (blk_cell Bu_3.out 2).trans rfl) | (go_at_call 11; with_reducible refine (lives_any w3).mono ?_; rintro e w4 ⟨rfl, q1⟩; clear dt0 dt1 dt2 du0 du1 du2; have HB_4 := Aside0.mk (below_step HB_3.out q1); have hs_4 : w3.heap.size ≤ w4.heap.size := q1.size; have Bt_4 := Aside0.mk (blk_below Bt_3.out q1); have Bu_4 := Aside0.mk (blk_below Bu_3.out q1); clear q1; have dt0 : w4.cell? ⟨w.heap.size, 0, none⟩ = some (.int .i64 o1) := (blk_cell Bt_4.out 0).trans rfl; have dt1 : w4.cell? ⟨w.heap.size, 1, none⟩ = some (.slice A1 p1.length b1) := (blk_cell Bt_4.out 1).trans rfl; have dt2 : w4.cell? ⟨w.heap.size, 2, none⟩ = some (.slice C1 c1.length d1) := (blk_cell Bt_4.out 2).trans rfl; have du0 : w4.cell? ⟨w.heap.size + 1, 0, none⟩ = some (.int .i64 o2) := (blk_cell Bu_4.out 0).trans rfl; have du1 : w4.cell? ⟨w.heap.size + 1, 1, none⟩ = some (.slice A2 p2.length b2) := (blk_cell Bu_4.out 1).trans rfl; have du2 : w4.cell? ⟨w.heap.size + 1, 2, none⟩ = some (.slice C2 c2.length d2) := (blk_cell Bu_4.out 2).trans rfl))
  go_ret
  exact ⟨rfl, HB_4.out⟩
set_option maxHeartbeats 8000000 in
set_option maxRecDepth 100000 in
theorem clb_no {o1 o2 : Int} {p1 c1 p2 c2 : List S114} {A1 C1 A2 C2 : Option Addr} {b1 d1 b2 d2 : Nat} {bs : List Int} {AB : Option Addr} {cB : Nat} (w : World) (ha1 : Kd.C k114 w A1 p1.length p1 ∧ p1.length ≤ b1) (hc1 : Kd.C k114 w C1 c1.length c1 ∧ c1.length ≤ d1) (ha2 : Kd.C k114 w A2 p2.length p2 ∧ p2.length ≤ b2) (hc2 : Kd.C k114 w C2 c2.length c2 ∧ c2.length ≤ d2) (hb : Kd.C (Kd.int .u8) w AB bs.length bs ∧ bs.length ≤ cB) (hby : ∀ x, x ∈ bs → 0 ≤ x ∧ x ≤ 255) (hfa : ∀ ad, AB = some ad → ad.block < w.heap.size) (hl1 : lightQ p1 c1 = true) (hl2 : lightQ p2 c2 = true) (hx : ¬ (3000 : Int) < bs.length) (q : Bool) (hs : calSame o1 p1 c1 o2 p2 c2 = q) (he : calErr o1 p1 c1 ≠ 0) :
    Calls Tryz.prog 3 #[.agg #[.int .i64 o1, .slice A1 p1.length b1, .slice C1 c1.length d1], .agg #[.int .i64 o2, .slice A2 p2.length b2, .slice C2 c2.length d2], .slice AB bs.length cB] w fun e w' => e = .returned (.bool true) ∧ Below w.heap.size w w' := by
  have Hb := Aside0.mk hb
  have HBY := Aside0.mk hby
  have HFA := Aside0.mk hfa
  have Ra1 := Aside0.mk ha1
  have Rc1 := Aside0.mk hc1
  have Ra2 := Aside0.mk ha2
  have Rc2 := Aside0.mk hc2
  have hnot : ∀ (x : Bool) (w : World), (Op.unary .not (.bool x)).run Tryz.prog w = .ok (.bool (!x)) w := fun _ _ => rfl
  obtain ⟨⟨⟨⟨yo, yw, yc⟩, ok⟩, l2, g2⟩, hy⟩ : ∃ p, calRead (bs, false) = p := ⟨_, rfl⟩
  have HYL := Aside0.mk (calRead_len (s := (bs, false)) hby hy)
  have HY := Aside0.mk hy
  clear hy
  have HN1 := Aside0.mk (lightQ_iff.1 hl1).1
  have HN2 := Aside0.mk (lightQ_iff.1 hl1).2
  have HL1 := Aside0.mk hl1
  have HL2 := Aside0.mk hl2
  clear hl1 hl2
  have f1_ : decide ((3000 : Int) < bs.length) = false := decide_eq_false hx
  have HS := Aside0.mk hs
  clear hs
  obtain ⟨ce, hce⟩ : ∃ x, calErr o1 p1 c1 = x := ⟨_, rfl⟩
  have hne : (ce == 0) = false := beq_eq_false_iff_ne.mpr (by rw [← hce]; exact he)
  have HE := Aside0.mk hce
  clear he hce
  clear hb hby hfa ha1 hc1 ha2 hc2
  have HB_1 : Aside0 (Below w.heap.size w ((w.alloc (.cells #[.int .i64 o1, .slice A1 p1.length b1, .slice C1 c1.length d1] 24)).alloc (.cells #[.int .i64 o2, .slice A2 p2.length b2, .slice C2 c2.length d2] 24))) := ⟨(below_alloc (below_alloc (Below.refl w.heap.size w) (.cells #[.int .i64 o1, .slice A1 p1.length b1, .slice C1 c1.length d1] 24)) (.cells #[.int .i64 o2, .slice A2 p2.length b2, .slice C2 c2.length d2] 24))⟩
  have hs_1 : w.heap.size ≤ ((w.alloc (.cells #[.int .i64 o1, .slice A1 p1.length b1, .slice C1 c1.length d1] 24)).alloc (.cells #[.int .i64 o2, .slice A2 p2.length b2, .slice C2 c2.length d2] 24)).heap.size := HB_1.out.size
  have Bt_1 : Aside0 (((w.alloc (.cells #[.int .i64 o1, .slice A1 p1.length b1, .slice C1 c1.length d1] 24)).alloc (.cells #[.int .i64 o2, .slice A2 p2.length b2, .slice C2 c2.length d2] 24)).heap[w.heap.size]? = some (.cells #[.int .i64 o1, .slice A1 p1.length b1, .slice C1 c1.length d1] 24 (0, 0))) := ⟨(blk_alloc (blk_new w _) _)⟩
  have Bu_1 : Aside0 (((w.alloc (.cells #[.int .i64 o1, .slice A1 p1.length b1, .slice C1 c1.length d1] 24)).alloc (.cells #[.int .i64 o2, .slice A2 p2.length b2, .slice C2 c2.length d2] 24)).heap[w.heap.size + 1]? = some (.cells #[.int .i64 o2, .slice A2 p2.length b2, .slice C2 c2.length d2] 24 (0, 0))) := ⟨(by simpa using blk_new (w.alloc (.cells #[.int .i64 o1, .slice A1 p1.length b1, .slice C1 c1.length d1] 24)) (.cells #[.int .i64 o2, .slice A2 p2.length b2, .slice C2 c2.length d2] 24))⟩
  have hz_1 : w.heap.size + 1 < ((w.alloc (.cells #[.int .i64 o1, .slice A1 p1.length b1, .slice C1 c1.length d1] 24)).alloc (.cells #[.int .i64 o2, .slice A2 p2.length b2, .slice C2 c2.length d2] 24)).heap.size := blk_lt Bu_1.out
  go_enter Tryz.func3, Tryz.ntmps3
  go_upto_region 1 with fail
  generalize ((w.alloc (.cells #[.int .i64 o1, .slice A1 p1.length b1, .slice C1 c1.length d1] 24)).alloc (.cells #[.int .i64 o2, .slice A2 p2.length b2, .slice C2 c2.length d2] 24)) = w1 at HB_1 hs_1 Bt_1 Bu_1 hz_1 ⊢
  have dt0 : w1.cell? ⟨w.heap.size, 0, none⟩ = some (.int .i64 o1) := (blk_cell Bt_1.out 0).trans rfl
  have dt1 : w1.cell? ⟨w.heap.size, 1, none⟩ = some (.slice A1 p1.length b1) := (blk_cell Bt_1.out 1).trans rfl
  have dt2 : w1.cell? ⟨w.heap.size, 2, none⟩ = some (.slice C1 c1.length d1) := (blk_cell Bt_1.out 2).trans rfl
  have du0 : w1.cell? ⟨w.heap.size + 1, 0, none⟩ = some (.int .i64 o2) := (blk_cell Bu_1.out 0).trans rfl
  have du1 : w1.cell? ⟨w.heap.size + 1, 1, none⟩ = some (.slice A2 p2.length b2) := (blk_cell Bu_1.out 1).trans rfl
  have du2 : w1.cell? ⟨w.heap.size + 1, 2, none⟩ = some (.slice C2 c2.length d2) := (blk_cell Bu_1.out 2).trans rfl
  go_upto_region 3 with (first | (go_at_call 10; with_reducible refine (light_is true w1 ⟨Kd.C_below Ra1.out.1 HB_1.out, Ra1.out.2⟩ ⟨Kd.C_below Rc1.out.1 HB_1.out, Rc1.out.2⟩ HL1.out).mono ?_; rintro e w2 ⟨rfl, q1⟩; clear dt0 dt1 dt2 du0 du1 du2; have HB_2 := Aside0.mk (below_step HB_1.out q1); have hs_2 : w1.heap.size ≤ w2.heap.size := q1.size; have Bt_2 := Aside0.mk (blk_below Bt_1.out q1); have Bu_2 := Aside0.mk (blk_below Bu_1.out q1); clear q1; have dt0 : w2.cell? ⟨w.heap.size, 0, none⟩ = some (.int .i64 o1) := (blk_cell Bt_2.out 0).trans rfl; have dt1 : w2.cell? ⟨w.heap.size, 1, none⟩ = some (.slice A1 p1.length b1) := (blk_cell Bt_2.out 1).trans rfl; have dt2 : w2.cell? ⟨w.heap.size, 2, none⟩ = some (.slice C1 c1.length d1) := (blk_cell Bt_2.out 2).trans rfl; have du0 : w2.cell? ⟨w.heap.size + 1, 0, none⟩ = some (.int .i64 o2) := (blk_cell Bu_2.out 0).trans rfl; have du1 : w2.cell? ⟨w.heap.size + 1, 1, none⟩ = some (.slice A2 p2.length b2) := (blk_cell Bu_2.out 1).trans rfl; have du2 : w2.cell? ⟨w.heap.size + 1, 2, none⟩ = some (.slice C2 c2.length d2) := (blk_cell Bu_2.out 2).trans rfl) | (go_at_call 10; with_reducible refine (light_is true w2 ⟨Kd.C_below Ra2.out.1 HB_2.out, Ra2.out.2⟩ ⟨Kd.C_below Rc2.out.1 HB_2.out, Rc2.out.2⟩ HL2.out).mono ?_; rintro e w3 ⟨rfl, q1⟩; clear dt0 dt1 dt2 du0 du1 du2; have HB_3 := Aside0.mk (below_step HB_2.out q1); have hs_3 : w2.heap.size ≤ w3.heap.size := q1.size; have Bt_3 := Aside0.mk (blk_below Bt_2.out q1); have Bu_3 := Aside0.mk (blk_below Bu_2.out q1); clear q1; have dt0 : w3.cell? ⟨w.heap.size, 0, none⟩ = some (.int .i64 o1) := (blk_cell Bt_3.out 0).trans rfl; have dt1 : w3.cell? ⟨w.heap.size, 1, none⟩ = some (.slice A1 p1.length b1) := (blk_cell Bt_3.out 1).trans rfl; have dt2 : w3.cell? ⟨w.heap.size, 2, none⟩ = some (.slice C1 c1.length d1) := (blk_cell Bt_3.out 2).trans rfl; have du0 : w3.cell? ⟨w.heap.size + 1, 0, none⟩ = some (.int .i64 o2) := (blk_cell Bu_3.out 0).trans rfl; have du1 : w3.cell? ⟨w.heap.size + 1, 1, none⟩ = some (.slice A2 p2.length b2) := (blk_cell Bu_3.out 1).trans rfl; have du2 : w3.cell? ⟨w.heap.size + 1, 2, none⟩ = some (.slice C2 c2.length d2) := (blk_cell Bu_3.out 2).trans rfl))
  have hb4 : Below w3.heap.size w3 w3.drew := below_drew1 (Below.refl _ _)
  clear dt0 dt1 dt2 du0 du1 du2
  have HB_4 := Aside0.mk (below_step HB_3.out hb4)
  have hs_4 : w3.heap.size ≤ w3.drew.heap.size := hb4.size
  have Bt_4 := Aside0.mk (blk_below Bt_3.out hb4)
  have Bu_4 := Aside0.mk (blk_below Bu_3.out hb4)
  clear hb4
  have z0 : w3.drew.cell? ⟨w.heap.size, 0, none⟩ = some (.int .i64 o1) := (blk_cell Bt_4.out 0).trans rfl
  have z1 : w3.drew.cell? ⟨w.heap.size, 1, none⟩ = some (.slice A1 p1.length b1) := (blk_cell Bt_4.out 1).trans rfl
  have z2 : w3.drew.cell? ⟨w.heap.size, 2, none⟩ = some (.slice C1 c1.length d1) := (blk_cell Bt_4.out 2).trans rfl
  have z3 : w3.drew.cell? ⟨w.heap.size + 1, 0, none⟩ = some (.int .i64 o2) := (blk_cell Bu_4.out 0).trans rfl
  have z4 : w3.drew.cell? ⟨w.heap.size + 1, 1, none⟩ = some (.slice A2 p2.length b2) := (blk_cell Bu_4.out 1).trans rfl
  have z5 : w3.drew.cell? ⟨w.heap.size + 1, 2, none⟩ = some (.slice C2 c2.length d2) := (blk_cell Bu_4.out 2).trans rfl
  refine start_ (n := 13) (S := fun w' => w'.cell? ⟨w.heap.size, 0, none⟩ = some (.int .i64 o1) ∧ w'.cell? ⟨w.heap.size, 1, none⟩ = some (.slice A1 p1.length b1) ∧ w'.cell? ⟨w.heap.size, 2, none⟩ = some (.slice C1 c1.length d1) ∧ w'.cell? ⟨w.heap.size + 1, 0, none⟩ = some (.int .i64 o2) ∧ w'.cell? ⟨w.heap.size + 1, 1, none⟩ = some (.slice A2 p2.length b2) ∧ w'.cell? ⟨w.heap.size + 1, 2, none⟩ = some (.slice C2 c2.length d2)) (ds := []) #[false, false, false, false, false, false, false, false, false, false, false, false, false] (by kernel_rfl) rfl rfl ⟨z0, z1, z2, z3, z4, z5⟩ (fun hHeld => ?_); refine with_tabW clb_tab3 clb_bits3 (fun HT_ HW_ => ?_)
  clear z0 z1 z2 z3 z4 z5
  generalize w3.drew = w4 at HB_4 hs_4 Bt_4 Bu_4 hHeld ⊢
  refine take_ (i := 0) (N := some 30) (v := ?_) (a' := ?_) #[true, false, false, false, false, false, false, false, false, false, false, false, false] rfl rfl (take_ofW HT_.out HW_.out (by kernel_rfl)) (fun _ _ _ h => h) (Or.inl ⟨by rfl, ?_⟩) hHeld ?_ ?_
  rotate_left
  · rintro w' ⟨s0, s1, s2, s3, s4, s5⟩
    go_simp
    with_reducible rfl
  rotate_left
  · simp only [Act.put, List.setIfInBounds_toArray, List.set_cons_zero, List.set_cons_succ, i64_w, i32_w]
    rfl
  refine take_ (i := 1) (N := some 31) (v := ?_) (a' := ?_) #[true, true, false, false, false, false, false, false, false, false, false, false, false] rfl rfl (take_ofW HT_.out HW_.out (by kernel_rfl)) (fun _ _ _ h => h) (Or.inl ⟨by rfl, ?_⟩) hHeld ?_ ?_
  rotate_left
  · rintro w' ⟨s0, s1, s2, s3, s4, s5⟩
    go_simp
    with_reducible rfl
  rotate_left
  · simp only [Act.put, List.setIfInBounds_toArray, List.set_cons_zero, List.set_cons_succ, i64_w, i32_w]
    rfl
  refine take_ (i := 3) (N := some 33) (v := ?_) (a' := ?_) #[true, true, false, true, false, false, false, false, false, false, false, false, false] rfl rfl (take_ofW HT_.out HW_.out (by kernel_rfl)) (fun _ _ _ h => h) (Or.inl ⟨by rfl, ?_⟩) hHeld ?_ ?_
  rotate_left
  · rintro w' ⟨s0, s1, s2, s3, s4, s5⟩
    go_simp
    with_reducible rfl
  rotate_left
  · simp only [Act.put, List.setIfInBounds_toArray, List.set_cons_zero, List.set_cons_succ, i64_w, i32_w]
    rfl
  refine take_ (i := 4) (N := some 34) (v := ?_) (a' := ?_) #[true, true, false, true, true, false, false, false, false, false, false, false, false] rfl rfl (take_ofW HT_.out HW_.out (by kernel_rfl)) (fun _ _ _ h => h) (Or.inl ⟨by rfl, ?_⟩) hHeld ?_ ?_
  rotate_left
  · rintro w' ⟨s0, s1, s2, s3, s4, s5⟩
    go_simp
    with_reducible rfl
  rotate_left
  · simp only [Act.put, List.setIfInBounds_toArray, List.set_cons_zero, List.set_cons_succ, i64_w, i32_w]
    rfl
  refine one_ (i := 2) (N := some 32) #[true, true, true, true, true, false, false, false, false, false, false, false, false] rfl rfl (one_of HT_.out (by kernel_rfl)) (by decide) (fun K hK => ?_)
  refine goes_ Tryz.func12 (by kernel_rfl) rfl #[.agg #[.int .i64 o1, .slice A1 p1.length b1, .slice C1 c1.length d1], .agg #[.int .i64 o2, .slice A2 p2.length b2, .slice C2 c2.length d2]] (by rfl) rfl rfl (by (try simp only [List.map_toArray, List.map_cons, List.map_nil]); first | done | rfl) ?_
  refine (csame_is q o1 o2 p1 c1 p2 c2 A1 C1 A2 C2 b1 d1 b2 d2 _ ⟨Kd.C_below Ra1.out.1 HB_4.out, Ra1.out.2⟩ ⟨Kd.C_below Rc1.out.1 HB_4.out, Rc1.out.2⟩ ⟨Kd.C_below Ra2.out.1 HB_4.out, Ra2.out.2⟩ ⟨Kd.C_below Rc2.out.1 HB_4.out, Rc2.out.2⟩ HS.out).mono ?_
  rintro e w5 ⟨rfl, q1⟩
  refine ⟨_, rfl, ?_⟩
  have HB_5 := Aside0.mk (below_step HB_4.out q1)
  have hs_5 : w4.heap.size ≤ w5.heap.size := q1.size
  have Bt_5 := Aside0.mk (blk_below Bt_4.out q1)
  have Bu_5 := Aside0.mk (blk_below Bu_4.out q1)
  clear q1
  refine hK.out _ _ ⟨(blk_cell Bt_5.out 0).trans rfl, (blk_cell Bt_5.out 1).trans rfl, (blk_cell Bt_5.out 2).trans rfl, (blk_cell Bu_5.out 0).trans rfl, (blk_cell Bu_5.out 1).trans rfl, (blk_cell Bu_5.out 2).trans rfl⟩ (fun hHeld => ?_)
  clear hK K
  refine norm_ (a' := ?_) ?_ ?_
  rotate_left
  · show Act.put _ (some 32) _ = _
    simp only [Act.put, List.setIfInBounds_toArray, List.set_cons_zero, List.set_cons_succ, i64_w, i32_w]
    rfl
  refine one_ (i := 5) (N := some 35) #[true, true, true, true, true, true, false, false, false, false, false, false, false] rfl rfl (one_of HT_.out (by kernel_rfl)) (by decide) (fun K hK => ?_)
  refine goes_ Tryz.func13 (by kernel_rfl) rfl #[.agg #[.int .i64 o1, .slice A1 p1.length b1, .slice C1 c1.length d1], .agg #[.int .i64 o2, .slice A2 p2.length b2, .slice C2 c2.length d2]] (by rfl) rfl rfl (by (try simp only [List.map_toArray, List.map_cons, List.map_nil]); first | done | rfl) ?_
  refine (rsame_is q o1 o2 p1 c1 p2 c2 A1 C1 A2 C2 b1 d1 b2 d2 _ ⟨Kd.C_below Ra1.out.1 HB_5.out, Ra1.out.2⟩ ⟨Kd.C_below Rc1.out.1 HB_5.out, Rc1.out.2⟩ ⟨Kd.C_below Ra2.out.1 HB_5.out, Ra2.out.2⟩ ⟨Kd.C_below Rc2.out.1 HB_5.out, Rc2.out.2⟩ HN1.out HN2.out HS.out).mono ?_
  rintro e w6 ⟨rfl, q1⟩
  refine ⟨_, rfl, ?_⟩
  have HB_6 := Aside0.mk (below_step HB_5.out q1)
  have hs_6 : w5.heap.size ≤ w6.heap.size := q1.size
  have Bt_6 := Aside0.mk (blk_below Bt_5.out q1)
  have Bu_6 := Aside0.mk (blk_below Bu_5.out q1)
  clear q1
  refine hK.out _ _ ⟨(blk_cell Bt_6.out 0).trans rfl, (blk_cell Bt_6.out 1).trans rfl, (blk_cell Bt_6.out 2).trans rfl, (blk_cell Bu_6.out 0).trans rfl, (blk_cell Bu_6.out 1).trans rfl, (blk_cell Bu_6.out 2).trans rfl⟩ (fun hHeld => ?_)
  clear hK K
  refine norm_ (a' := ?_) ?_ ?_
  rotate_left
  · show Act.put _ (some 35) _ = _
    simp only [Act.put, List.setIfInBounds_toArray, List.set_cons_zero, List.set_cons_succ, i64_w, i32_w]
    rfl
  refine pure_ (i := 6) (N := some 36) (v := ?_) (a' := ?_) #[true, true, true, true, true, true, true, false, false, false, false, false, false] rfl rfl (any_of HT_.out (by kernel_rfl)) (fun _ _ _ h => h) (Or.inl ⟨by rfl, ?_⟩) ?_ ?_
  rotate_left
  · intro w'
    go_simp
    with_reducible rfl
  rotate_left
  · simp only [Act.put, List.setIfInBounds_toArray, List.set_cons_zero, List.set_cons_succ, i64_w, i32_w]
    rfl
  refine pure_ (i := 7) (N := some 37) (v := ?_) (a' := ?_) #[true, true, true, true, true, true, true, true, false, false, false, false, false] rfl rfl (any_of HT_.out (by kernel_rfl)) (fun _ _ _ h => h) (Or.inl ⟨by rfl, ?_⟩) ?_ ?_
  rotate_left
  · intro w'
    go_simp
    with_reducible rfl
  rotate_left
  · simp only [Act.put, List.setIfInBounds_toArray, List.set_cons_zero, List.set_cons_succ, i64_w, i32_w]
    rfl
  refine take_ (i := 8) (N := some 38) (v := ?_) (a' := ?_) #[true, true, true, true, true, true, true, true, true, false, false, false, false] rfl rfl (take_ofW HT_.out HW_.out (by kernel_rfl)) (fun _ _ _ h => h) (Or.inl ⟨by rfl, ?_⟩) hHeld ?_ ?_
  rotate_left
  · rintro w' ⟨s0, s1, s2, s3, s4, s5⟩
    go_simp
    with_reducible rfl
  rotate_left
  · simp only [Act.put, List.setIfInBounds_toArray, List.set_cons_zero, List.set_cons_succ, i64_w, i32_w]
    rfl
  refine take_ (i := 9) (N := some 39) (v := ?_) (a' := ?_) #[true, true, true, true, true, true, true, true, true, true, false, false, false] rfl rfl (take_ofW HT_.out HW_.out (by kernel_rfl)) (fun _ _ _ h => h) (Or.inl ⟨by rfl, ?_⟩) hHeld ?_ ?_
  rotate_left
  · rintro w' ⟨s0, s1, s2, s3, s4, s5⟩
    go_simp
    with_reducible rfl
  rotate_left
  · simp only [Act.put, List.setIfInBounds_toArray, List.set_cons_zero, List.set_cons_succ, i64_w, i32_w]
    rfl
  refine one_ (i := 10) (N := some 40) #[true, true, true, true, true, true, true, true, true, true, true, false, false] rfl rfl (one_of HT_.out (by kernel_rfl)) (by decide) (fun K hK => ?_)
  refine goes_ Tryz.func12 (by kernel_rfl) rfl #[.agg #[.int .i64 o1, .slice A1 p1.length b1, .slice C1 c1.length d1], .agg #[.int .i64 o1, .slice A1 p1.length b1, .slice C1 c1.length d1]] (by rfl) rfl rfl (by (try simp only [List.map_toArray, List.map_cons, List.map_nil]); first | done | rfl) ?_
  refine (csame_is true o1 o1 p1 c1 p1 c1 A1 C1 A1 C1 b1 d1 b1 d1 _ ⟨Kd.C_below Ra1.out.1 HB_6.out, Ra1.out.2⟩ ⟨Kd.C_below Rc1.out.1 HB_6.out, Rc1.out.2⟩ ⟨Kd.C_below Ra1.out.1 HB_6.out, Ra1.out.2⟩ ⟨Kd.C_below Rc1.out.1 HB_6.out, Rc1.out.2⟩ (calSame_self _ _ _)).mono ?_
  rintro e w7 ⟨rfl, q1⟩
  refine ⟨_, rfl, ?_⟩
  have HB_7 := Aside0.mk (below_step HB_6.out q1)
  have hs_7 : w6.heap.size ≤ w7.heap.size := q1.size
  have Bt_7 := Aside0.mk (blk_below Bt_6.out q1)
  have Bu_7 := Aside0.mk (blk_below Bu_6.out q1)
  clear q1
  refine hK.out _ _ ⟨(blk_cell Bt_7.out 0).trans rfl, (blk_cell Bt_7.out 1).trans rfl, (blk_cell Bt_7.out 2).trans rfl, (blk_cell Bu_7.out 0).trans rfl, (blk_cell Bu_7.out 1).trans rfl, (blk_cell Bu_7.out 2).trans rfl⟩ (fun hHeld => ?_)
  clear hK K
  refine norm_ (a' := ?_) ?_ ?_
  rotate_left
  · show Act.put _ (some 40) _ = _
    simp only [Act.put, List.setIfInBounds_toArray, List.set_cons_zero, List.set_cons_succ, i64_w, i32_w]
    rfl
  refine pure_ (i := 11) (N := some 41) (v := ?_) (a' := ?_) #[true, true, true, true, true, true, true, true, true, true, true, true, false] rfl rfl (any_of HT_.out (by kernel_rfl)) (fun _ _ _ h => h) (Or.inl ⟨by rfl, ?_⟩) ?_ ?_
  rotate_left
  · intro w'
    go_simp
    with_reducible rfl
  rotate_left
  · simp only [Act.put, List.setIfInBounds_toArray, List.set_cons_zero, List.set_cons_succ, i64_w, i32_w]
    rfl
  refine pure_ (i := 12) (N := some 42) (v := ?_) (a' := ?_) #[true, true, true, true, true, true, true, true, true, true, true, true, true] rfl rfl (any_of HT_.out (by kernel_rfl)) (fun _ _ _ h => h) (Or.inl ⟨by rfl, ?_⟩) ?_ ?_
  rotate_left
  · intro w'
    go_simp
    with_reducible rfl
  rotate_left
  · simp only [Act.put, List.setIfInBounds_toArray, List.set_cons_zero, List.set_cons_succ, i64_w, i32_w]
    rfl
  refine done_ (done_of HT_.out (by kernel_rfl)) ?_
  clear HT_ HW_ hHeld
  have dt0 : w7.cell? ⟨w.heap.size, 0, none⟩ = some (.int .i64 o1) := (blk_cell Bt_7.out 0).trans rfl
  have dt1 : w7.cell? ⟨w.heap.size, 1, none⟩ = some (.slice A1 p1.length b1) := (blk_cell Bt_7.out 1).trans rfl
  have dt2 : w7.cell? ⟨w.heap.size, 2, none⟩ = some (.slice C1 c1.length d1) := (blk_cell Bt_7.out 2).trans rfl
  have du0 : w7.cell? ⟨w.heap.size + 1, 0, none⟩ = some (.int .i64 o2) := (blk_cell Bu_7.out 0).trans rfl
  have du1 : w7.cell? ⟨w.heap.size + 1, 1, none⟩ = some (.slice A2 p2.length b2) := (blk_cell Bu_7.out 1).trans rfl
  have du2 : w7.cell? ⟨w.heap.size + 1, 2, none⟩ = some (.slice C2 c2.length d2) := (blk_cell Bu_7.out 2).trans rfl
  go_upto_region 12 with (first | (go_at_call 14; with_reducible refine (refcheck_is ce w7 ⟨Kd.C_below Ra1.out.1 HB_7.out, Ra1.out.2⟩ ⟨Kd.C_below Rc1.out.1 HB_7.out, Rc1.out.2⟩ HE.out).mono ?_; rintro e w8 ⟨rfl, q1⟩; clear dt0 dt1 dt2 du0 du1 du2; have HB_8 := Aside0.mk (below_step HB_7.out q1); have hs_8 : w7.heap.size ≤ w8.heap.size := q1.size; have Bt_8 := Aside0.mk (blk_below Bt_7.out q1); have Bu_8 := Aside0.mk (blk_below Bu_7.out q1); clear q1; have dt0 : w8.cell? ⟨w.heap.size, 0, none⟩ = some (.int .i64 o1) := (blk_cell Bt_8.out 0).trans rfl; have dt1 : w8.cell? ⟨w.heap.size, 1, none⟩ = some (.slice A1 p1.length b1) := (blk_cell Bt_8.out 1).trans rfl; have dt2 : w8.cell? ⟨w.heap.size, 2, none⟩ = some (.slice C1 c1.length d1) := (blk_cell Bt_8.out 2).trans rfl) | (go_at_call 17; with_reducible refine (ropen_any AB cB w.heap.size bs w8 (Kd.C_below Hb.out.1 HB_8.out) Hb.out.2 HB_8.out.size HFA.out HBY.out).mono ?_; rintro e w9 ⟨rfl, q5, q1⟩; clear dt0 dt1 dt2; have HB_9 := Aside0.mk (below_step HB_8.out q1); have hs_9 : w8.heap.size ≤ w9.heap.size := q1.size; have Bt_9 := Aside0.mk (blk_below Bt_8.out q1); have Bu_9 := Aside0.mk (blk_below Bu_8.out q1); clear q1; have HP_9 := Aside0.mk q5; have hltP := q5.lt; clear q5))
  have hb : Below w9.heap.size w9 (w9.alloc (.cells #[.slice AB bs.length cB, .bool false] 42)) := below_alloc (Below.refl _ _) _
  have HB_10 := Aside0.mk (below_step HB_9.out hb)
  have hs_10 : w9.heap.size ≤ (w9.alloc (.cells #[.slice AB bs.length cB, .bool false] 42)).heap.size := hb.size
  have Bt_10 := Aside0.mk (blk_below Bt_9.out hb)
  have Bu_10 := Aside0.mk (blk_below Bu_9.out hb)
  have HP_10 := Aside0.mk (HP_9.out.below hb)
  clear hb
  have Bd_10 := Aside0.mk (blk_new w9 (.cells #[.slice AB bs.length cB, .bool false] 42))
  have hz_10 : w9.heap.size < (w9.alloc (.cells #[.slice AB bs.length cB, .bool false] 42)).heap.size := blk_lt Bd_10.out
  have HD_10 := Aside0.mk (RdAt.of (t := 42) (m := w.heap.size) (rb := w9.heap.size) (A := AB) (c := cB) (s := (bs, false)) ⟨blk_new w9 _, Hb.out.2, Kd.C_below Hb.out.1 HB_10.out, HFA.out, HB_9.out.size, HBY.out⟩)
  generalize (w9.alloc (.cells #[.slice AB bs.length cB, .bool false] 42)) = w10 at HB_10 hs_10 Bt_10 Bu_10 Bd_10 HP_10 HD_10 hz_10 ⊢
  go_upto_region 13 with (go_at_call 16; with_reducible refine (calread_any yo yw yc ok (l2, g2) w10 HP_10.out HY.out).mono ?_; rintro e w11 ⟨X1, xa, X2, xb, rfl, ⟨q6, q7⟩, q1, q2⟩; have HB_11 := Aside0.mk (HB_10.out.trans (Upd.below q2 HB_10.out.size (by omega))); have hs_11 : w10.heap.size ≤ w11.heap.size := q2.size; have Bt_11 := Aside0.mk (q2.blk Bt_10.out (by omega)); have Bu_11 := Aside0.mk (q2.blk Bu_10.out (by omega)); have HP_11 := Aside0.mk q1; have HD_11 := Aside0.mk (HD_10.out.upd q2 (by omega) (by omega)); clear q1 q2; have HX1_11 : Aside0 (RowX k114 114 w11 w10.heap.size X1 xa yw) := Aside0.mk (RowX.mk q6); have HX2_11 : Aside0 (RowX k114 114 w11 w10.heap.size X2 xb yc) := Aside0.mk (RowX.mk q7); clear q6 q7)
  have hb : Below w11.heap.size w11 (w11.alloc (.cells #[.int .i64 yo, .slice X1 yw.length xa, .slice X2 yc.length xb] 24)) := below_alloc (Below.refl _ _) _
  have HB_12 := Aside0.mk (below_step HB_11.out hb)
  have hs_12 : w11.heap.size ≤ (w11.alloc (.cells #[.int .i64 yo, .slice X1 yw.length xa, .slice X2 yc.length xb] 24)).heap.size := hb.size
  have Bt_12 := Aside0.mk (blk_below Bt_11.out hb)
  have Bu_12 := Aside0.mk (blk_below Bu_11.out hb)
  have HP_12 := Aside0.mk (HP_11.out.below hb)
  have HD_12 := Aside0.mk (HD_11.out.below hb)
  have HX1_12 := Aside0.mk (HX1_11.out.below hb)
  have HX2_12 := Aside0.mk (HX2_11.out.below hb)
  clear hb
  have Bx_12 := Aside0.mk (blk_new w11 (.cells #[.int .i64 yo, .slice X1 yw.length xa, .slice X2 yc.length xb] 24))
  have hz_12 : w11.heap.size < (w11.alloc (.cells #[.int .i64 yo, .slice X1 yw.length xa, .slice X2 yc.length xb] 24)).heap.size := blk_lt Bx_12.out
  generalize (w11.alloc (.cells #[.int .i64 yo, .slice X1 yw.length xa, .slice X2 yc.length xb] 24)) = w12 at HB_12 hs_12 Bt_12 Bu_12 Bx_12 HP_12 HD_12 HX1_12 HX2_12 hz_12 ⊢
  go_upto_region 14 with (go_at_call 20; with_reducible refine (caldread_any yo yw yc ok (l2, g2) w12 HD_12.out HY.out).mono ?_; rintro e w13 ⟨Y1, ya, Y2, yb, rfl, ⟨q6, q7⟩, q1, q2⟩; have HB_13 := Aside0.mk (HB_12.out.trans (Upd.below q2 HB_12.out.size (by omega))); have hs_13 : w12.heap.size ≤ w13.heap.size := q2.size; have Bt_13 := Aside0.mk (q2.blk Bt_12.out (by omega)); have Bu_13 := Aside0.mk (q2.blk Bu_12.out (by omega)); have Bx_13 := Aside0.mk (q2.blk Bx_12.out (by omega)); have HP_13 := Aside0.mk (HP_12.out.upd q2 (by omega) (by omega)); have HD_13 := Aside0.mk q1; have HX1_13 := Aside0.mk (HX1_12.out.upd q2 (by omega)); have HX2_13 := Aside0.mk (HX2_12.out.upd q2 (by omega)); clear q1 q2; have HY1_13 : Aside0 (RowX k114 114 w13 w12.heap.size Y1 ya yw) := Aside0.mk (RowX.mk q6); have HY2_13 : Aside0 (RowX k114 114 w13 w12.heap.size Y2 yb yc) := Aside0.mk (RowX.mk q7); clear q6 q7)
  have hb : Below w13.heap.size w13 (w13.alloc (.cells #[.int .i64 yo, .slice Y1 yw.length ya, .slice Y2 yc.length yb] 24)) := below_alloc (Below.refl _ _) _
  have HB_14 := Aside0.mk (below_step HB_13.out hb)
  have hs_14 : w13.heap.size ≤ (w13.alloc (.cells #[.int .i64 yo, .slice Y1 yw.length ya, .slice Y2 yc.length yb] 24)).heap.size := hb.size
  have Bt_14 := Aside0.mk (blk_below Bt_13.out hb)
  have Bu_14 := Aside0.mk (blk_below Bu_13.out hb)
  have Bx_14 := Aside0.mk (blk_below Bx_13.out hb)
  have HP_14 := Aside0.mk (HP_13.out.below hb)
  have HD_14 := Aside0.mk (HD_13.out.below hb)
  have HX1_14 := Aside0.mk (HX1_13.out.below hb)
  have HX2_14 := Aside0.mk (HX2_13.out.below hb)
  have HY1_14 := Aside0.mk (HY1_13.out.below hb)
  have HY2_14 := Aside0.mk (HY2_13.out.below hb)
  clear hb
  have By_14 := Aside0.mk (blk_new w13 (.cells #[.int .i64 yo, .slice Y1 yw.length ya, .slice Y2 yc.length yb] 24))
  have hz_14 : w13.heap.size < (w13.alloc (.cells #[.int .i64 yo, .slice Y1 yw.length ya, .slice Y2 yc.length yb] 24)).heap.size := blk_lt By_14.out
  generalize (w13.alloc (.cells #[.int .i64 yo, .slice Y1 yw.length ya, .slice Y2 yc.length yb] 24)) = w14 at HB_14 hs_14 Bt_14 Bu_14 Bx_14 By_14 HP_14 HD_14 HX1_14 HX2_14 HY1_14 HY2_14 hz_14 ⊢
  obtain ⟨Ar, cr, hv⟩ := HD_14.out
  have hb4 : Below w14.heap.size w14 w14.drew := below_drew1 (Below.refl _ _)
  have HV := Aside0.mk (hv.below hb4 : RdV 42 _ w14.drew _ _ _ _)
  have HB_15 := Aside0.mk (below_step HB_14.out hb4)
  have hs_15 : w14.heap.size ≤ w14.drew.heap.size := hb4.size
  have Bt_15 := Aside0.mk (blk_below Bt_14.out hb4)
  have Bu_15 := Aside0.mk (blk_below Bu_14.out hb4)
  have Bx_15 := Aside0.mk (blk_below Bx_14.out hb4)
  have By_15 := Aside0.mk (blk_below By_14.out hb4)
  have HP_15 := Aside0.mk (HP_14.out.below hb4)
  have HD_15 := Aside0.mk (HD_14.out.below hb4)
  have HX1_15 := Aside0.mk (HX1_14.out.below hb4)
  have HX2_15 := Aside0.mk (HX2_14.out.below hb4)
  have HY1_15 := Aside0.mk (HY1_14.out.below hb4)
  have HY2_15 := Aside0.mk (HY2_14.out.below hb4)
  clear hb4
  clear hv
  refine start_ (n := 31) (S := fun w' => w'.cell? ⟨w11.heap.size, 0, none⟩ = some (.int .i64 yo) ∧ w'.cell? ⟨w11.heap.size, 1, none⟩ = some (.slice X1 yw.length xa) ∧ w'.cell? ⟨w11.heap.size, 2, none⟩ = some (.slice X2 yc.length xb) ∧ w'.cell? ⟨w13.heap.size, 0, none⟩ = some (.int .i64 yo) ∧ w'.cell? ⟨w13.heap.size, 1, none⟩ = some (.slice Y1 yw.length ya) ∧ w'.cell? ⟨w13.heap.size, 2, none⟩ = some (.slice Y2 yc.length yb) ∧ w'.cell? ⟨w9.heap.size, 0, none⟩ = some (.slice Ar l2.length cr) ∧ w'.cell? ⟨w9.heap.size, 1, none⟩ = some (.bool g2)) (ds := []) #[false, false, false, false, false, false, false, false, false, false, false, false, false, false, false, false, false, false, false, false, false, false, false, false, false, false, false, false, false, false, false] (by kernel_rfl) rfl rfl ⟨(blk_cell Bx_15.out 0).trans rfl, (blk_cell Bx_15.out 1).trans rfl, (blk_cell Bx_15.out 2).trans rfl, (blk_cell By_15.out 0).trans rfl, (blk_cell By_15.out 1).trans rfl, (blk_cell By_15.out 2).trans rfl, HV.out.g0, HV.out.g1⟩ (fun hHeld => ?_); refine with_tabW clb_tab14 clb_bits14 (fun HT_ HW_ => ?_)
  generalize w14.drew = w15 at HB_15 hs_15 Bt_15 Bu_15 Bx_15 By_15 HP_15 HD_15 HX1_15 HX2_15 HY1_15 HY2_15 HV hHeld ⊢
  refine pure_ (i := 0) (N := some 85) (v := ?_) (a' := ?_) #[true, false, false, false, false, false, false, false, false, false, false, false, false, false, false, false, false, false, false, false, false, false, false, false, false, false, false, false, false, false, false] rfl rfl (any_of HT_.out (by kernel_rfl)) (fun _ _ _ h => h) (Or.inl ⟨by rfl, ?_⟩) ?_ ?_
  rotate_left
  · intro w'
    go_simp
    with_reducible rfl
  rotate_left
  · simp only [Act.put, List.setIfInBounds_toArray, List.set_cons_zero, List.set_cons_succ, i64_w, i32_w]
    rfl
  refine pure_ (i := 1) (N := some 86) (v := ?_) (a' := ?_) #[true, true, false, false, false, false, false, false, false, false, false, false, false, false, false, false, false, false, false, false, false, false, false, false, false, false, false, false, false, false, false] rfl rfl (any_of HT_.out (by kernel_rfl)) (fun _ _ _ h => h) (Or.inl ⟨by rfl, ?_⟩) ?_ ?_
  rotate_left
  · intro w'
    go_simp
    with_reducible rfl
  rotate_left
  · simp only [Act.put, List.setIfInBounds_toArray, List.set_cons_zero, List.set_cons_succ, i64_w, i32_w]
    rfl
  refine pure_ (i := 2) (N := some 87) (v := ?_) (a' := ?_) #[true, true, true, false, false, false, false, false, false, false, false, false, false, false, false, false, false, false, false, false, false, false, false, false, false, false, false, false, false, false, false] rfl rfl (any_of HT_.out (by kernel_rfl)) (fun _ _ _ h => h) (Or.inl ⟨by rfl, ?_⟩) ?_ ?_
  rotate_left
  · intro w'
    go_simp
    with_reducible rfl
  rotate_left
  · simp only [Act.put, List.setIfInBounds_toArray, List.set_cons_zero, List.set_cons_succ, i64_w, i32_w]
    rfl
  refine pure_ (i := 3) (N := some 88) (v := ?_) (a' := ?_) #[true, true, true, true, false, false, false, false, false, false, false, false, false, false, false, false, false, false, false, false, false, false, false, false, false, false, false, false, false, false, false] rfl rfl (any_of HT_.out (by kernel_rfl)) (fun _ _ _ h => h) (Or.inl ⟨by rfl, ?_⟩) ?_ ?_
  rotate_left
  · intro w'
    go_simp
    with_reducible rfl
  rotate_left
  · simp only [Act.put, List.setIfInBounds_toArray, List.set_cons_zero, List.set_cons_succ, i64_w, i32_w]
    rfl
  refine take_ (i := 4) (N := some 89) (v := ?_) (a' := ?_) #[true, true, true, true, true, false, false, false, false, false, false, false, false, false, false, false, false, false, false, false, false, false, false, false, false, false, false, false, false, false, false] rfl rfl (take_ofW HT_.out HW_.out (by kernel_rfl)) (fun _ _ _ h => h) (Or.inl ⟨by rfl, ?_⟩) hHeld ?_ ?_
  rotate_left
  · rintro w' ⟨s0, s1, s2, s3, s4, s5, s6, s7⟩
    go_simp
    with_reducible rfl
  rotate_left
  · simp only [Act.put, List.setIfInBounds_toArray, List.set_cons_zero, List.set_cons_succ, i64_w, i32_w]
    rfl
  refine take_ (i := 5) (N := some 90) (v := ?_) (a' := ?_) #[true, true, true, true, true, true, false, false, false, false, false, false, false, false, false, false, false, false, false, false, false, false, false, false, false, false, false, false, false, false, false] rfl rfl (take_ofW HT_.out HW_.out (by kernel_rfl)) (fun _ _ _ h => h) (Or.inl ⟨by rfl, ?_⟩) hHeld ?_ ?_
  rotate_left
  · rintro w' ⟨s0, s1, s2, s3, s4, s5, s6, s7⟩
    go_simp
    with_reducible rfl
  rotate_left
  · simp only [Act.put, List.setIfInBounds_toArray, List.set_cons_zero, List.set_cons_succ, i64_w, i32_w]
    rfl
  refine one_ (i := 6) (N := some 91) #[true, true, true, true, true, true, true, false, false, false, false, false, false, false, false, false, false, false, false, false, false, false, false, false, false, false, false, false, false, false, false] rfl rfl (one_of HT_.out (by kernel_rfl)) (by decide) (fun K hK => ?_)
  refine goes_ Tryz.func13 (by kernel_rfl) rfl #[.agg #[.int .i64 yo, .slice X1 yw.length xa, .slice X2 yc.length xb], .agg #[.int .i64 yo, .slice Y1 yw.length ya, .slice Y2 yc.length yb]] (by rfl) rfl rfl (by (try simp only [List.map_toArray, List.map_cons, List.map_nil]); first | done | rfl) ?_
  refine (rsame_is true yo yo yw yc yw yc X1 X2 Y1 Y2 xa xb ya yb _ HX1_15.out.C HX2_15.out.C HY1_15.out.C HY2_15.out.C HYL.out.1 HYL.out.2 (calSame_self _ _ _)).mono ?_
  rintro e w16 ⟨rfl, q1⟩
  refine ⟨_, rfl, ?_⟩
  have HV := Aside0.mk (HV.out.below q1)
  have HB_16 := Aside0.mk (below_step HB_15.out q1)
  have hs_16 : w15.heap.size ≤ w16.heap.size := q1.size
  have Bt_16 := Aside0.mk (blk_below Bt_15.out q1)
  have Bu_16 := Aside0.mk (blk_below Bu_15.out q1)
  have Bx_16 := Aside0.mk (blk_below Bx_15.out q1)
  have By_16 := Aside0.mk (blk_below By_15.out q1)
  have HP_16 := Aside0.mk (HP_15.out.below q1)
  have HD_16 := Aside0.mk (HD_15.out.below q1)
  have HX1_16 := Aside0.mk (HX1_15.out.below q1)
  have HX2_16 := Aside0.mk (HX2_15.out.below q1)
  have HY1_16 := Aside0.mk (HY1_15.out.below q1)
  have HY2_16 := Aside0.mk (HY2_15.out.below q1)
  clear q1
  refine hK.out _ _ ⟨(blk_cell Bx_16.out 0).trans rfl, (blk_cell Bx_16.out 1).trans rfl, (blk_cell Bx_16.out 2).trans rfl, (blk_cell By_16.out 0).trans rfl, (blk_cell By_16.out 1).trans rfl, (blk_cell By_16.out 2).trans rfl, HV.out.g0, HV.out.g1⟩ (fun hHeld => ?_)
  clear hK K
  refine norm_ (a' := ?_) ?_ ?_
  rotate_left
  · show Act.put _ (some 91) _ = _
    simp only [Act.put, List.setIfInBounds_toArray, List.set_cons_zero, List.set_cons_succ, i64_w, i32_w]
    rfl
  refine pure_ (i := 7) (N := some 92) (v := ?_) (a' := ?_) #[true, true, true, true, true, true, true, true, false, false, false, false, false, false, false, false, false, false, false, false, false, false, false, false, false, false, false, false, false, false, false] rfl rfl (any_of HT_.out (by kernel_rfl)) (fun _ _ _ h => h) (Or.inl ⟨by rfl, ?_⟩) ?_ ?_
  rotate_left
  · intro w'
    go_simp
    with_reducible rfl
  rotate_left
  · simp only [Act.put, List.setIfInBounds_toArray, List.set_cons_zero, List.set_cons_succ, i64_w, i32_w]
    rfl
  refine pure_ (i := 8) (N := some 93) (v := ?_) (a' := ?_) #[true, true, true, true, true, true, true, true, true, false, false, false, false, false, false, false, false, false, false, false, false, false, false, false, false, false, false, false, false, false, false] rfl rfl (any_of HT_.out (by kernel_rfl)) (fun _ _ _ h => h) (Or.inl ⟨by rfl, ?_⟩) ?_ ?_
  rotate_left
  · intro w'
    go_simp
    with_reducible rfl
  rotate_left
  · simp only [Act.put, List.setIfInBounds_toArray, List.set_cons_zero, List.set_cons_succ, i64_w, i32_w]
    rfl
  refine pure_ (i := 9) (N := some 94) (v := ?_) (a' := ?_) #[true, true, true, true, true, true, true, true, true, true, false, false, false, false, false, false, false, false, false, false, false, false, false, false, false, false, false, false, false, false, false] rfl rfl (any_of HT_.out (by kernel_rfl)) (fun _ _ _ h => h) (Or.inl ⟨by rfl, ?_⟩) ?_ ?_
  rotate_left
  · intro w'
    go_simp
    with_reducible rfl
  rotate_left
  · simp only [Act.put, List.setIfInBounds_toArray, List.set_cons_zero, List.set_cons_succ, i64_w, i32_w]
    rfl
  refine pure_ (i := 11) (N := some 96) (v := ?_) (a' := ?_) #[true, true, true, true, true, true, true, true, true, true, false, true, false, false, false, false, false, false, false, false, false, false, false, false, false, false, false, false, false, false, false] rfl rfl (any_of HT_.out (by kernel_rfl)) (fun _ _ _ h => h) (Or.inl ⟨by rfl, ?_⟩) ?_ ?_
  rotate_left
  · intro w'
    go_simp
    with_reducible rfl
  rotate_left
  · simp only [Act.put, List.setIfInBounds_toArray, List.set_cons_zero, List.set_cons_succ, i64_w, i32_w]
    rfl
  refine pure_ (i := 12) (N := some 97) (v := ?_) (a' := ?_) #[true, true, true, true, true, true, true, true, true, true, false, true, true, false, false, false, false, false, false, false, false, false, false, false, false, false, false, false, false, false, false] rfl rfl (any_of HT_.out (by kernel_rfl)) (fun _ _ _ h => h) (Or.inl ⟨by rfl, ?_⟩) ?_ ?_
  rotate_left
  · intro w'
    go_simp
    with_reducible rfl
  rotate_left
  · simp only [Act.put, List.setIfInBounds_toArray, List.set_cons_zero, List.set_cons_succ, i64_w, i32_w]
    rfl
  refine pure_ (i := 13) (N := some 98) (v := ?_) (a' := ?_) #[true, true, true, true, true, true, true, true, true, true, false, true, true, true, false, false, false, false, false, false, false, false, false, false, false, false, false, false, false, false, false] rfl rfl (any_of HT_.out (by kernel_rfl)) (fun _ _ _ h => h) (Or.inl ⟨by rfl, ?_⟩) ?_ ?_
  rotate_left
  · intro w'
    go_simp
    with_reducible rfl
  rotate_left
  · simp only [Act.put, List.setIfInBounds_toArray, List.set_cons_zero, List.set_cons_succ, i64_w, i32_w]
    rfl
  refine take_ (i := 14) (N := some 99) (v := ?_) (a' := ?_) #[true, true, true, true, true, true, true, true, true, true, false, true, true, true, true, false, false, false, false, false, false, false, false, false, false, false, false, false, false, false, false] rfl rfl (take_ofW HT_.out HW_.out (by kernel_rfl)) (fun _ _ _ h => h) (Or.inl ⟨by rfl, ?_⟩) hHeld ?_ ?_
  rotate_left
  · rintro w' ⟨s0, s1, s2, s3, s4, s5, s6, s7⟩
    go_simp
    with_reducible rfl
  rotate_left
  · simp only [Act.put, List.setIfInBounds_toArray, List.set_cons_zero, List.set_cons_succ, i64_w, i32_w]
    rfl
  refine pure_ (i := 15) (N := some 100) (v := ?_) (a' := ?_) #[true, true, true, true, true, true, true, true, true, true, false, true, true, true, true, true, false, false, false, false, false, false, false, false, false, false, false, false, false, false, false] rfl rfl (any_of HT_.out (by kernel_rfl)) (fun _ _ _ h => h) (Or.inl ⟨by rfl, ?_⟩) ?_ ?_
  rotate_left
  · intro w'
    go_simp
    with_reducible rfl
  rotate_left
  · simp only [Act.put, List.setIfInBounds_toArray, List.set_cons_zero, List.set_cons_succ, i64_w, i32_w]
    rfl
  refine one_ (i := 10) (N := some 95) #[true, true, true, true, true, true, true, true, true, true, true, true, true, true, true, true, false, false, false, false, false, false, false, false, false, false, false, false, false, false, false] rfl rfl (one_of HT_.out (by kernel_rfl)) (by decide) (fun K hK => ?_)
  refine goes_ Tryz.func21 (by kernel_rfl) rfl #[.pointer (some ⟨w8.heap.size, 0, none⟩)] (by rfl) rfl rfl (by (try simp only [List.map_toArray, List.map_cons, List.map_nil]); first | done | rfl) ?_
  refine (rleft_any _ HP_16.out).mono ?_
  rintro e w9 ⟨rfl, rfl⟩
  refine ⟨_, rfl, ?_⟩
  refine hK.out _ _ ⟨(blk_cell Bx_16.out 0).trans rfl, (blk_cell Bx_16.out 1).trans rfl, (blk_cell Bx_16.out 2).trans rfl, (blk_cell By_16.out 0).trans rfl, (blk_cell By_16.out 1).trans rfl, (blk_cell By_16.out 2).trans rfl, HV.out.g0, HV.out.g1⟩ (fun hHeld => ?_)
  clear hK K
  refine norm_ (a' := ?_) ?_ ?_
  rotate_left
  · show Act.put _ (some 95) _ = _
    simp only [Act.put, List.setIfInBounds_toArray, List.set_cons_zero, List.set_cons_succ, i64_w, i32_w]
    rfl
  refine pure_ (i := 16) (N := some 101) (v := ?_) (a' := ?_) #[true, true, true, true, true, true, true, true, true, true, true, true, true, true, true, true, true, false, false, false, false, false, false, false, false, false, false, false, false, false, false] rfl rfl (any_of HT_.out (by kernel_rfl)) (fun _ _ _ h => h) (Or.inl ⟨by rfl, ?_⟩) ?_ ?_
  rotate_left
  · intro w'
    go_simp
    with_reducible rfl
  rotate_left
  · simp only [Act.put, List.setIfInBounds_toArray, List.set_cons_zero, List.set_cons_succ, i64_w, i32_w]
    rfl
  refine pure_ (i := 17) (N := some 102) (v := ?_) (a' := ?_) #[true, true, true, true, true, true, true, true, true, true, true, true, true, true, true, true, true, true, false, false, false, false, false, false, false, false, false, false, false, false, false] rfl rfl (any_of HT_.out (by kernel_rfl)) (fun _ _ _ h => h) (Or.inl ⟨by rfl, ?_⟩) ?_ ?_
  rotate_left
  · intro w'
    go_simp
    with_reducible rfl
  rotate_left
  · simp only [Act.put, List.setIfInBounds_toArray, List.set_cons_zero, List.set_cons_succ, i64_w, i32_w]
    rfl
  refine pure_ (i := 18) (N := some 103) (v := ?_) (a' := ?_) #[true, true, true, true, true, true, true, true, true, true, true, true, true, true, true, true, true, true, true, false, false, false, false, false, false, false, false, false, false, false, false] rfl rfl (any_of HT_.out (by kernel_rfl)) (fun _ _ _ h => h) (Or.inl ⟨by rfl, ?_⟩) ?_ ?_
  rotate_left
  · intro w'
    go_simp
    with_reducible rfl
  rotate_left
  · simp only [Act.put, List.setIfInBounds_toArray, List.set_cons_zero, List.set_cons_succ, i64_w, i32_w]
    rfl
  refine pure_ (i := 19) (N := some 104) (v := ?_) (a' := ?_) #[true, true, true, true, true, true, true, true, true, true, true, true, true, true, true, true, true, true, true, true, false, false, false, false, false, false, false, false, false, false, false] rfl rfl (any_of HT_.out (by kernel_rfl)) (fun _ _ _ h => h) (Or.inl ⟨by rfl, ?_⟩) ?_ ?_
  rotate_left
  · intro w'
    go_simp
    with_reducible rfl
  rotate_left
  · simp only [Act.put, List.setIfInBounds_toArray, List.set_cons_zero, List.set_cons_succ, i64_w, i32_w]
    rfl
  refine pure_ (i := 21) (N := some 106) (v := ?_) (a' := ?_) #[true, true, true, true, true, true, true, true, true, true, true, true, true, true, true, true, true, true, true, true, false, true, false, false, false, false, false, false, false, false, false] rfl rfl (any_of HT_.out (by kernel_rfl)) (fun _ _ _ h => h) (Or.inl ⟨by rfl, ?_⟩) ?_ ?_
  rotate_left
  · intro w'
    go_simp
    with_reducible rfl
  rotate_left
  · simp only [Act.put, List.setIfInBounds_toArray, List.set_cons_zero, List.set_cons_succ, i64_w, i32_w]
    rfl
  refine pure_ (i := 22) (N := some 107) (v := ?_) (a' := ?_) #[true, true, true, true, true, true, true, true, true, true, true, true, true, true, true, true, true, true, true, true, false, true, true, false, false, false, false, false, false, false, false] rfl rfl (any_of HT_.out (by kernel_rfl)) (fun _ _ _ h => h) (Or.inl ⟨by rfl, ?_⟩) ?_ ?_
  rotate_left
  · intro w'
    go_simp
    with_reducible rfl
  rotate_left
  · simp only [Act.put, List.setIfInBounds_toArray, List.set_cons_zero, List.set_cons_succ, i64_w, i32_w]
    rfl
  refine pure_ (i := 23) (N := some 108) (v := ?_) (a' := ?_) #[true, true, true, true, true, true, true, true, true, true, true, true, true, true, true, true, true, true, true, true, false, true, true, true, false, false, false, false, false, false, false] rfl rfl (any_of HT_.out (by kernel_rfl)) (fun _ _ _ h => h) (Or.inl ⟨by rfl, ?_⟩) ?_ ?_
  rotate_left
  · intro w'
    go_simp
    with_reducible rfl
  rotate_left
  · simp only [Act.put, List.setIfInBounds_toArray, List.set_cons_zero, List.set_cons_succ, i64_w, i32_w]
    rfl
  refine take_ (i := 24) (N := some 109) (v := ?_) (a' := ?_) #[true, true, true, true, true, true, true, true, true, true, true, true, true, true, true, true, true, true, true, true, false, true, true, true, true, false, false, false, false, false, false] rfl rfl (take_ofW HT_.out HW_.out (by kernel_rfl)) (fun _ _ _ h => h) (Or.inl ⟨by rfl, ?_⟩) hHeld ?_ ?_
  rotate_left
  · rintro w' ⟨s0, s1, s2, s3, s4, s5, s6, s7⟩
    go_simp
    with_reducible rfl
  rotate_left
  · simp only [Act.put, List.setIfInBounds_toArray, List.set_cons_zero, List.set_cons_succ, i64_w, i32_w]
    rfl
  refine one_ (i := 20) (N := some 105) #[true, true, true, true, true, true, true, true, true, true, true, true, true, true, true, true, true, true, true, true, true, true, true, true, true, false, false, false, false, false, false] rfl rfl (one_of HT_.out (by kernel_rfl)) (by decide) (fun K hK => ?_)
  refine goes_ Tryz.func22 (by kernel_rfl) rfl #[.pointer (some ⟨w8.heap.size, 0, none⟩)] (by rfl) rfl rfl (by (try simp only [List.map_toArray, List.map_cons, List.map_nil]); first | done | rfl) ?_
  refine (rbad_any _ HP_16.out).mono ?_
  rintro e w9 ⟨rfl, rfl⟩
  refine ⟨_, rfl, ?_⟩
  refine hK.out _ _ ⟨(blk_cell Bx_16.out 0).trans rfl, (blk_cell Bx_16.out 1).trans rfl, (blk_cell Bx_16.out 2).trans rfl, (blk_cell By_16.out 0).trans rfl, (blk_cell By_16.out 1).trans rfl, (blk_cell By_16.out 2).trans rfl, HV.out.g0, HV.out.g1⟩ (fun hHeld => ?_)
  clear hK K
  refine norm_ (a' := ?_) ?_ ?_
  rotate_left
  · show Act.put _ (some 105) _ = _
    simp only [Act.put, List.setIfInBounds_toArray, List.set_cons_zero, List.set_cons_succ, i64_w, i32_w]
    rfl
  refine pure_ (i := 25) (N := some 110) (v := ?_) (a' := ?_) #[true, true, true, true, true, true, true, true, true, true, true, true, true, true, true, true, true, true, true, true, true, true, true, true, true, true, false, false, false, false, false] rfl rfl (any_of HT_.out (by kernel_rfl)) (fun _ _ _ h => h) (Or.inl ⟨by rfl, ?_⟩) ?_ ?_
  rotate_left
  · intro w'
    go_simp
    with_reducible rfl
  rotate_left
  · simp only [Act.put, List.setIfInBounds_toArray, List.set_cons_zero, List.set_cons_succ, i64_w, i32_w]
    rfl
  refine pure_ (i := 26) (N := some 111) (v := ?_) (a' := ?_) #[true, true, true, true, true, true, true, true, true, true, true, true, true, true, true, true, true, true, true, true, true, true, true, true, true, true, true, false, false, false, false] rfl rfl (any_of HT_.out (by kernel_rfl)) (fun _ _ _ h => h) (Or.inl ⟨by rfl, ?_⟩) ?_ ?_
  rotate_left
  · intro w'
    go_simp
    with_reducible rfl
  rotate_left
  · simp only [Act.put, List.setIfInBounds_toArray, List.set_cons_zero, List.set_cons_succ, i64_w, i32_w]
    rfl
  refine pure_ (i := 27) (N := some 112) (v := ?_) (a' := ?_) #[true, true, true, true, true, true, true, true, true, true, true, true, true, true, true, true, true, true, true, true, true, true, true, true, true, true, true, true, false, false, false] rfl rfl (any_of HT_.out (by kernel_rfl)) (fun _ _ _ h => h) (Or.inl ⟨by rfl, ?_⟩) ?_ ?_
  rotate_left
  · intro w'
    go_simp
    with_reducible rfl
  rotate_left
  · simp only [Act.put, List.setIfInBounds_toArray, List.set_cons_zero, List.set_cons_succ, i64_w, i32_w]
    rfl
  refine one_ (i := 28) (N := some 113) #[true, true, true, true, true, true, true, true, true, true, true, true, true, true, true, true, true, true, true, true, true, true, true, true, true, true, true, true, true, false, false] rfl rfl (one_of HT_.out (by kernel_rfl)) (by decide) (fun K hK => ?_)
  refine goes_ Tryz.func11 (by kernel_rfl) rfl #[] (by rfl) rfl rfl (by (try simp only [List.map_toArray, List.map_cons, List.map_nil]); first | done | rfl) ?_
  refine (lives_any _).mono ?_
  rintro e w17 ⟨rfl, q1⟩
  refine ⟨_, rfl, ?_⟩
  have HV := Aside0.mk (HV.out.below q1)
  have HB_17 := Aside0.mk (below_step HB_16.out q1)
  have hs_17 : w16.heap.size ≤ w17.heap.size := q1.size
  have Bt_17 := Aside0.mk (blk_below Bt_16.out q1)
  have Bu_17 := Aside0.mk (blk_below Bu_16.out q1)
  have Bx_17 := Aside0.mk (blk_below Bx_16.out q1)
  have By_17 := Aside0.mk (blk_below By_16.out q1)
  have HP_17 := Aside0.mk (HP_16.out.below q1)
  have HD_17 := Aside0.mk (HD_16.out.below q1)
  have HX1_17 := Aside0.mk (HX1_16.out.below q1)
  have HX2_17 := Aside0.mk (HX2_16.out.below q1)
  have HY1_17 := Aside0.mk (HY1_16.out.below q1)
  have HY2_17 := Aside0.mk (HY2_16.out.below q1)
  clear q1
  refine hK.out _ _ ⟨(blk_cell Bx_17.out 0).trans rfl, (blk_cell Bx_17.out 1).trans rfl, (blk_cell Bx_17.out 2).trans rfl, (blk_cell By_17.out 0).trans rfl, (blk_cell By_17.out 1).trans rfl, (blk_cell By_17.out 2).trans rfl, HV.out.g0, HV.out.g1⟩ (fun hHeld => ?_)
  clear hK K
  refine norm_ (a' := ?_) ?_ ?_
  rotate_left
  · show Act.put _ (some 113) _ = _
    simp only [Act.put, List.setIfInBounds_toArray, List.set_cons_zero, List.set_cons_succ, i64_w, i32_w]
    rfl
  refine pure_ (i := 29) (N := some 114) (v := ?_) (a' := ?_) #[true, true, true, true, true, true, true, true, true, true, true, true, true, true, true, true, true, true, true, true, true, true, true, true, true, true, true, true, true, true, false] rfl rfl (any_of HT_.out (by kernel_rfl)) (fun _ _ _ h => h) (Or.inl ⟨by rfl, ?_⟩) ?_ ?_
  rotate_left
  · intro w'
    go_simp
    with_reducible rfl
  rotate_left
  · simp only [Act.put, List.setIfInBounds_toArray, List.set_cons_zero, List.set_cons_succ, i64_w, i32_w]
    rfl
  refine pure_ (i := 30) (N := some 6) (v := ?_) (a' := ?_) #[true, true, true, true, true, true, true, true, true, true, true, true, true, true, true, true, true, true, true, true, true, true, true, true, true, true, true, true, true, true, true] rfl rfl (any_of HT_.out (by kernel_rfl)) (fun _ _ _ h => h) (Or.inl ⟨by rfl, ?_⟩) ?_ ?_
  rotate_left
  · intro w'
    go_simp
    with_reducible rfl
  rotate_left
  · simp only [Act.put, List.setIfInBounds_toArray, List.set_cons_zero, List.set_cons_succ, i64_w, i32_w]
    rfl
  refine done_ (done_of HT_.out (by kernel_rfl)) ?_
  clear HT_ HW_ hHeld
  go_wp2
  go_ret
  exact ⟨rfl, HB_17.out⟩
set_option maxHeartbeats 8000000 in
set_option maxRecDepth 100000 in
theorem clb_yes {o1 o2 : Int} {p1 c1 p2 c2 : List S114} {A1 C1 A2 C2 : Option Addr} {b1 d1 b2 d2 : Nat} {bs : List Int} {AB : Option Addr} {cB : Nat} (w : World) (ha1 : Kd.C k114 w A1 p1.length p1 ∧ p1.length ≤ b1) (hc1 : Kd.C k114 w C1 c1.length c1 ∧ c1.length ≤ d1) (ha2 : Kd.C k114 w A2 p2.length p2 ∧ p2.length ≤ b2) (hc2 : Kd.C k114 w C2 c2.length c2 ∧ c2.length ≤ d2) (hb : Kd.C (Kd.int .u8) w AB bs.length bs ∧ bs.length ≤ cB) (hby : ∀ x, x ∈ bs → 0 ≤ x ∧ x ≤ 255) (hfa : ∀ ad, AB = some ad → ad.block < w.heap.size) (hl1 : lightQ p1 c1 = true) (hl2 : lightQ p2 c2 = true) (hx : ¬ (3000 : Int) < bs.length) (q : Bool) (hs : calSame o1 p1 c1 o2 p2 c2 = q) (he : calErr o1 p1 c1 = 0) :
    Calls Tryz.prog 3 #[.agg #[.int .i64 o1, .slice A1 p1.length b1, .slice C1 c1.length d1], .agg #[.int .i64 o2, .slice A2 p2.length b2, .slice C2 c2.length d2], .slice AB bs.length cB] w fun e w' => e = .returned (.bool true) ∧ Below w.heap.size w w' := by
  have Hb := Aside0.mk hb
  have HBY := Aside0.mk hby
  have HFA := Aside0.mk hfa
  have Ra1 := Aside0.mk ha1
  have Rc1 := Aside0.mk hc1
  have Ra2 := Aside0.mk ha2
  have Rc2 := Aside0.mk hc2
  have hnot : ∀ (x : Bool) (w : World), (Op.unary .not (.bool x)).run Tryz.prog w = .ok (.bool (!x)) w := fun _ _ => rfl
  obtain ⟨⟨⟨⟨yo, yw, yc⟩, ok⟩, l2, g2⟩, hy⟩ : ∃ p, calRead (bs, false) = p := ⟨_, rfl⟩
  have HYL := Aside0.mk (calRead_len (s := (bs, false)) hby hy)
  have HY := Aside0.mk hy
  clear hy
  have HN1 := Aside0.mk (lightQ_iff.1 hl1).1
  have HN2 := Aside0.mk (lightQ_iff.1 hl1).2
  have HL1 := Aside0.mk hl1
  have HL2 := Aside0.mk hl2
  clear hl1 hl2
  have f1_ : decide ((3000 : Int) < bs.length) = false := decide_eq_false hx
  have HS := Aside0.mk hs
  clear hs
  have HE := Aside0.mk he
  clear he
  clear hb hby hfa ha1 hc1 ha2 hc2
  have HB_1 : Aside0 (Below w.heap.size w ((w.alloc (.cells #[.int .i64 o1, .slice A1 p1.length b1, .slice C1 c1.length d1] 24)).alloc (.cells #[.int .i64 o2, .slice A2 p2.length b2, .slice C2 c2.length d2] 24))) := ⟨(below_alloc (below_alloc (Below.refl w.heap.size w) (.cells #[.int .i64 o1, .slice A1 p1.length b1, .slice C1 c1.length d1] 24)) (.cells #[.int .i64 o2, .slice A2 p2.length b2, .slice C2 c2.length d2] 24))⟩
  have hs_1 : w.heap.size ≤ ((w.alloc (.cells #[.int .i64 o1, .slice A1 p1.length b1, .slice C1 c1.length d1] 24)).alloc (.cells #[.int .i64 o2, .slice A2 p2.length b2, .slice C2 c2.length d2] 24)).heap.size := HB_1.out.size
  have Bt_1 : Aside0 (((w.alloc (.cells #[.int .i64 o1, .slice A1 p1.length b1, .slice C1 c1.length d1] 24)).alloc (.cells #[.int .i64 o2, .slice A2 p2.length b2, .slice C2 c2.length d2] 24)).heap[w.heap.size]? = some (.cells #[.int .i64 o1, .slice A1 p1.length b1, .slice C1 c1.length d1] 24 (0, 0))) := ⟨(blk_alloc (blk_new w _) _)⟩
  have Bu_1 : Aside0 (((w.alloc (.cells #[.int .i64 o1, .slice A1 p1.length b1, .slice C1 c1.length d1] 24)).alloc (.cells #[.int .i64 o2, .slice A2 p2.length b2, .slice C2 c2.length d2] 24)).heap[w.heap.size + 1]? = some (.cells #[.int .i64 o2, .slice A2 p2.length b2, .slice C2 c2.length d2] 24 (0, 0))) := ⟨(by simpa using blk_new (w.alloc (.cells #[.int .i64 o1, .slice A1 p1.length b1, .slice C1 c1.length d1] 24)) (.cells #[.int .i64 o2, .slice A2 p2.length b2, .slice C2 c2.length d2] 24))⟩
  have hz_1 : w.heap.size + 1 < ((w.alloc (.cells #[.int .i64 o1, .slice A1 p1.length b1, .slice C1 c1.length d1] 24)).alloc (.cells #[.int .i64 o2, .slice A2 p2.length b2, .slice C2 c2.length d2] 24)).heap.size := blk_lt Bu_1.out
  go_enter Tryz.func3, Tryz.ntmps3
  go_upto_region 1 with fail
  generalize ((w.alloc (.cells #[.int .i64 o1, .slice A1 p1.length b1, .slice C1 c1.length d1] 24)).alloc (.cells #[.int .i64 o2, .slice A2 p2.length b2, .slice C2 c2.length d2] 24)) = w1 at HB_1 hs_1 Bt_1 Bu_1 hz_1 ⊢
  have dt0 : w1.cell? ⟨w.heap.size, 0, none⟩ = some (.int .i64 o1) := (blk_cell Bt_1.out 0).trans rfl
  have dt1 : w1.cell? ⟨w.heap.size, 1, none⟩ = some (.slice A1 p1.length b1) := (blk_cell Bt_1.out 1).trans rfl
  have dt2 : w1.cell? ⟨w.heap.size, 2, none⟩ = some (.slice C1 c1.length d1) := (blk_cell Bt_1.out 2).trans rfl
  have du0 : w1.cell? ⟨w.heap.size + 1, 0, none⟩ = some (.int .i64 o2) := (blk_cell Bu_1.out 0).trans rfl
  have du1 : w1.cell? ⟨w.heap.size + 1, 1, none⟩ = some (.slice A2 p2.length b2) := (blk_cell Bu_1.out 1).trans rfl
  have du2 : w1.cell? ⟨w.heap.size + 1, 2, none⟩ = some (.slice C2 c2.length d2) := (blk_cell Bu_1.out 2).trans rfl
  go_upto_region 3 with (first | (go_at_call 10; with_reducible refine (light_is true w1 ⟨Kd.C_below Ra1.out.1 HB_1.out, Ra1.out.2⟩ ⟨Kd.C_below Rc1.out.1 HB_1.out, Rc1.out.2⟩ HL1.out).mono ?_; rintro e w2 ⟨rfl, q1⟩; clear dt0 dt1 dt2 du0 du1 du2; have HB_2 := Aside0.mk (below_step HB_1.out q1); have hs_2 : w1.heap.size ≤ w2.heap.size := q1.size; have Bt_2 := Aside0.mk (blk_below Bt_1.out q1); have Bu_2 := Aside0.mk (blk_below Bu_1.out q1); clear q1; have dt0 : w2.cell? ⟨w.heap.size, 0, none⟩ = some (.int .i64 o1) := (blk_cell Bt_2.out 0).trans rfl; have dt1 : w2.cell? ⟨w.heap.size, 1, none⟩ = some (.slice A1 p1.length b1) := (blk_cell Bt_2.out 1).trans rfl; have dt2 : w2.cell? ⟨w.heap.size, 2, none⟩ = some (.slice C1 c1.length d1) := (blk_cell Bt_2.out 2).trans rfl; have du0 : w2.cell? ⟨w.heap.size + 1, 0, none⟩ = some (.int .i64 o2) := (blk_cell Bu_2.out 0).trans rfl; have du1 : w2.cell? ⟨w.heap.size + 1, 1, none⟩ = some (.slice A2 p2.length b2) := (blk_cell Bu_2.out 1).trans rfl; have du2 : w2.cell? ⟨w.heap.size + 1, 2, none⟩ = some (.slice C2 c2.length d2) := (blk_cell Bu_2.out 2).trans rfl) | (go_at_call 10; with_reducible refine (light_is true w2 ⟨Kd.C_below Ra2.out.1 HB_2.out, Ra2.out.2⟩ ⟨Kd.C_below Rc2.out.1 HB_2.out, Rc2.out.2⟩ HL2.out).mono ?_; rintro e w3 ⟨rfl, q1⟩; clear dt0 dt1 dt2 du0 du1 du2; have HB_3 := Aside0.mk (below_step HB_2.out q1); have hs_3 : w2.heap.size ≤ w3.heap.size := q1.size; have Bt_3 := Aside0.mk (blk_below Bt_2.out q1); have Bu_3 := Aside0.mk (blk_below Bu_2.out q1); clear q1; have dt0 : w3.cell? ⟨w.heap.size, 0, none⟩ = some (.int .i64 o1) := (blk_cell Bt_3.out 0).trans rfl; have dt1 : w3.cell? ⟨w.heap.size, 1, none⟩ = some (.slice A1 p1.length b1) := (blk_cell Bt_3.out 1).trans rfl; have dt2 : w3.cell? ⟨w.heap.size, 2, none⟩ = some (.slice C1 c1.length d1) := (blk_cell Bt_3.out 2).trans rfl; have du0 : w3.cell? ⟨w.heap.size + 1, 0, none⟩ = some (.int .i64 o2) := (blk_cell Bu_3.out 0).trans rfl; have du1 : w3.cell? ⟨w.heap.size + 1, 1, none⟩ = some (.slice A2 p2.length b2) := (blk_cell Bu_3.out 1).trans rfl; have du2 : w3.cell? ⟨w.heap.size + 1, 2, none⟩ = some (.slice C2 c2.length d2) := (blk_cell Bu_3.out 2).trans rfl))
  have hb4 : Below w3.heap.size w3 w3.drew := below_drew1 (Below.refl _ _)
  clear dt0 dt1 dt2 du0 du1 du2
  have HB_4 := Aside0.mk (below_step HB_3.out hb4)
  have hs_4 : w3.heap.size ≤ w3.drew.heap.size := hb4.size
  have Bt_4 := Aside0.mk (blk_below Bt_3.out hb4)
  have Bu_4 := Aside0.mk (blk_below Bu_3.out hb4)
  clear hb4
  have z0 : w3.drew.cell? ⟨w.heap.size, 0, none⟩ = some (.int .i64 o1) := (blk_cell Bt_4.out 0).trans rfl
  have z1 : w3.drew.cell? ⟨w.heap.size, 1, none⟩ = some (.slice A1 p1.length b1) := (blk_cell Bt_4.out 1).trans rfl
  have z2 : w3.drew.cell? ⟨w.heap.size, 2, none⟩ = some (.slice C1 c1.length d1) := (blk_cell Bt_4.out 2).trans rfl
  have z3 : w3.drew.cell? ⟨w.heap.size + 1, 0, none⟩ = some (.int .i64 o2) := (blk_cell Bu_4.out 0).trans rfl
  have z4 : w3.drew.cell? ⟨w.heap.size + 1, 1, none⟩ = some (.slice A2 p2.length b2) := (blk_cell Bu_4.out 1).trans rfl
  have z5 : w3.drew.cell? ⟨w.heap.size + 1, 2, none⟩ = some (.slice C2 c2.length d2) := (blk_cell Bu_4.out 2).trans rfl
  refine start_ (n := 13) (S := fun w' => w'.cell? ⟨w.heap.size, 0, none⟩ = some (.int .i64 o1) ∧ w'.cell? ⟨w.heap.size, 1, none⟩ = some (.slice A1 p1.length b1) ∧ w'.cell? ⟨w.heap.size, 2, none⟩ = some (.slice C1 c1.length d1) ∧ w'.cell? ⟨w.heap.size + 1, 0, none⟩ = some (.int .i64 o2) ∧ w'.cell? ⟨w.heap.size + 1, 1, none⟩ = some (.slice A2 p2.length b2) ∧ w'.cell? ⟨w.heap.size + 1, 2, none⟩ = some (.slice C2 c2.length d2)) (ds := []) #[false, false, false, false, false, false, false, false, false, false, false, false, false] (by kernel_rfl) rfl rfl ⟨z0, z1, z2, z3, z4, z5⟩ (fun hHeld => ?_); refine with_tabW clb_tab3 clb_bits3 (fun HT_ HW_ => ?_)
  clear z0 z1 z2 z3 z4 z5
  generalize w3.drew = w4 at HB_4 hs_4 Bt_4 Bu_4 hHeld ⊢
  refine take_ (i := 0) (N := some 30) (v := ?_) (a' := ?_) #[true, false, false, false, false, false, false, false, false, false, false, false, false] rfl rfl (take_ofW HT_.out HW_.out (by kernel_rfl)) (fun _ _ _ h => h) (Or.inl ⟨by rfl, ?_⟩) hHeld ?_ ?_
  rotate_left
  · rintro w' ⟨s0, s1, s2, s3, s4, s5⟩
    go_simp
    with_reducible rfl
  rotate_left
  · simp only [Act.put, List.setIfInBounds_toArray, List.set_cons_zero, List.set_cons_succ, i64_w, i32_w]
    rfl
  refine take_ (i := 1) (N := some 31) (v := ?_) (a' := ?_) #[true, true, false, false, false, false, false, false, false, false, false, false, false] rfl rfl (take_ofW HT_.out HW_.out (by kernel_rfl)) (fun _ _ _ h => h) (Or.inl ⟨by rfl, ?_⟩) hHeld ?_ ?_
  rotate_left
  · rintro w' ⟨s0, s1, s2, s3, s4, s5⟩
    go_simp
    with_reducible rfl
  rotate_left
  · simp only [Act.put, List.setIfInBounds_toArray, List.set_cons_zero, List.set_cons_succ, i64_w, i32_w]
    rfl
  refine take_ (i := 3) (N := some 33) (v := ?_) (a' := ?_) #[true, true, false, true, false, false, false, false, false, false, false, false, false] rfl rfl (take_ofW HT_.out HW_.out (by kernel_rfl)) (fun _ _ _ h => h) (Or.inl ⟨by rfl, ?_⟩) hHeld ?_ ?_
  rotate_left
  · rintro w' ⟨s0, s1, s2, s3, s4, s5⟩
    go_simp
    with_reducible rfl
  rotate_left
  · simp only [Act.put, List.setIfInBounds_toArray, List.set_cons_zero, List.set_cons_succ, i64_w, i32_w]
    rfl
  refine take_ (i := 4) (N := some 34) (v := ?_) (a' := ?_) #[true, true, false, true, true, false, false, false, false, false, false, false, false] rfl rfl (take_ofW HT_.out HW_.out (by kernel_rfl)) (fun _ _ _ h => h) (Or.inl ⟨by rfl, ?_⟩) hHeld ?_ ?_
  rotate_left
  · rintro w' ⟨s0, s1, s2, s3, s4, s5⟩
    go_simp
    with_reducible rfl
  rotate_left
  · simp only [Act.put, List.setIfInBounds_toArray, List.set_cons_zero, List.set_cons_succ, i64_w, i32_w]
    rfl
  refine one_ (i := 2) (N := some 32) #[true, true, true, true, true, false, false, false, false, false, false, false, false] rfl rfl (one_of HT_.out (by kernel_rfl)) (by decide) (fun K hK => ?_)
  refine goes_ Tryz.func12 (by kernel_rfl) rfl #[.agg #[.int .i64 o1, .slice A1 p1.length b1, .slice C1 c1.length d1], .agg #[.int .i64 o2, .slice A2 p2.length b2, .slice C2 c2.length d2]] (by rfl) rfl rfl (by (try simp only [List.map_toArray, List.map_cons, List.map_nil]); first | done | rfl) ?_
  refine (csame_is q o1 o2 p1 c1 p2 c2 A1 C1 A2 C2 b1 d1 b2 d2 _ ⟨Kd.C_below Ra1.out.1 HB_4.out, Ra1.out.2⟩ ⟨Kd.C_below Rc1.out.1 HB_4.out, Rc1.out.2⟩ ⟨Kd.C_below Ra2.out.1 HB_4.out, Ra2.out.2⟩ ⟨Kd.C_below Rc2.out.1 HB_4.out, Rc2.out.2⟩ HS.out).mono ?_
  rintro e w5 ⟨rfl, q1⟩
  refine ⟨_, rfl, ?_⟩
  have HB_5 := Aside0.mk (below_step HB_4.out q1)
  have hs_5 : w4.heap.size ≤ w5.heap.size := q1.size
  have Bt_5 := Aside0.mk (blk_below Bt_4.out q1)
  have Bu_5 := Aside0.mk (blk_below Bu_4.out q1)
  clear q1
  refine hK.out _ _ ⟨(blk_cell Bt_5.out 0).trans rfl, (blk_cell Bt_5.out 1).trans rfl, (blk_cell Bt_5.out 2).trans rfl, (blk_cell Bu_5.out 0).trans rfl, (blk_cell Bu_5.out 1).trans rfl, (blk_cell Bu_5.out 2).trans rfl⟩ (fun hHeld => ?_)
  clear hK K
  refine norm_ (a' := ?_) ?_ ?_
  rotate_left
  · show Act.put _ (some 32) _ = _
    simp only [Act.put, List.setIfInBounds_toArray, List.set_cons_zero, List.set_cons_succ, i64_w, i32_w]
    rfl
  refine one_ (i := 5) (N := some 35) #[true, true, true, true, true, true, false, false, false, false, false, false, false] rfl rfl (one_of HT_.out (by kernel_rfl)) (by decide) (fun K hK => ?_)
  refine goes_ Tryz.func13 (by kernel_rfl) rfl #[.agg #[.int .i64 o1, .slice A1 p1.length b1, .slice C1 c1.length d1], .agg #[.int .i64 o2, .slice A2 p2.length b2, .slice C2 c2.length d2]] (by rfl) rfl rfl (by (try simp only [List.map_toArray, List.map_cons, List.map_nil]); first | done | rfl) ?_
  refine (rsame_is q o1 o2 p1 c1 p2 c2 A1 C1 A2 C2 b1 d1 b2 d2 _ ⟨Kd.C_below Ra1.out.1 HB_5.out, Ra1.out.2⟩ ⟨Kd.C_below Rc1.out.1 HB_5.out, Rc1.out.2⟩ ⟨Kd.C_below Ra2.out.1 HB_5.out, Ra2.out.2⟩ ⟨Kd.C_below Rc2.out.1 HB_5.out, Rc2.out.2⟩ HN1.out HN2.out HS.out).mono ?_
  rintro e w6 ⟨rfl, q1⟩
  refine ⟨_, rfl, ?_⟩
  have HB_6 := Aside0.mk (below_step HB_5.out q1)
  have hs_6 : w5.heap.size ≤ w6.heap.size := q1.size
  have Bt_6 := Aside0.mk (blk_below Bt_5.out q1)
  have Bu_6 := Aside0.mk (blk_below Bu_5.out q1)
  clear q1
  refine hK.out _ _ ⟨(blk_cell Bt_6.out 0).trans rfl, (blk_cell Bt_6.out 1).trans rfl, (blk_cell Bt_6.out 2).trans rfl, (blk_cell Bu_6.out 0).trans rfl, (blk_cell Bu_6.out 1).trans rfl, (blk_cell Bu_6.out 2).trans rfl⟩ (fun hHeld => ?_)
  clear hK K
  refine norm_ (a' := ?_) ?_ ?_
  rotate_left
  · show Act.put _ (some 35) _ = _
    simp only [Act.put, List.setIfInBounds_toArray, List.set_cons_zero, List.set_cons_succ, i64_w, i32_w]
    rfl
  refine pure_ (i := 6) (N := some 36) (v := ?_) (a' := ?_) #[true, true, true, true, true, true, true, false, false, false, false, false, false] rfl rfl (any_of HT_.out (by kernel_rfl)) (fun _ _ _ h => h) (Or.inl ⟨by rfl, ?_⟩) ?_ ?_
  rotate_left
  · intro w'
    go_simp
    with_reducible rfl
  rotate_left
  · simp only [Act.put, List.setIfInBounds_toArray, List.set_cons_zero, List.set_cons_succ, i64_w, i32_w]
    rfl
  refine pure_ (i := 7) (N := some 37) (v := ?_) (a' := ?_) #[true, true, true, true, true, true, true, true, false, false, false, false, false] rfl rfl (any_of HT_.out (by kernel_rfl)) (fun _ _ _ h => h) (Or.inl ⟨by rfl, ?_⟩) ?_ ?_
  rotate_left
  · intro w'
    go_simp
    with_reducible rfl
  rotate_left
  · simp only [Act.put, List.setIfInBounds_toArray, List.set_cons_zero, List.set_cons_succ, i64_w, i32_w]
    rfl
  refine take_ (i := 8) (N := some 38) (v := ?_) (a' := ?_) #[true, true, true, true, true, true, true, true, true, false, false, false, false] rfl rfl (take_ofW HT_.out HW_.out (by kernel_rfl)) (fun _ _ _ h => h) (Or.inl ⟨by rfl, ?_⟩) hHeld ?_ ?_
  rotate_left
  · rintro w' ⟨s0, s1, s2, s3, s4, s5⟩
    go_simp
    with_reducible rfl
  rotate_left
  · simp only [Act.put, List.setIfInBounds_toArray, List.set_cons_zero, List.set_cons_succ, i64_w, i32_w]
    rfl
  refine take_ (i := 9) (N := some 39) (v := ?_) (a' := ?_) #[true, true, true, true, true, true, true, true, true, true, false, false, false] rfl rfl (take_ofW HT_.out HW_.out (by kernel_rfl)) (fun _ _ _ h => h) (Or.inl ⟨by rfl, ?_⟩) hHeld ?_ ?_
  rotate_left
  · rintro w' ⟨s0, s1, s2, s3, s4, s5⟩
    go_simp
    with_reducible rfl
  rotate_left
  · simp only [Act.put, List.setIfInBounds_toArray, List.set_cons_zero, List.set_cons_succ, i64_w, i32_w]
    rfl
  refine one_ (i := 10) (N := some 40) #[true, true, true, true, true, true, true, true, true, true, true, false, false] rfl rfl (one_of HT_.out (by kernel_rfl)) (by decide) (fun K hK => ?_)
  refine goes_ Tryz.func12 (by kernel_rfl) rfl #[.agg #[.int .i64 o1, .slice A1 p1.length b1, .slice C1 c1.length d1], .agg #[.int .i64 o1, .slice A1 p1.length b1, .slice C1 c1.length d1]] (by rfl) rfl rfl (by (try simp only [List.map_toArray, List.map_cons, List.map_nil]); first | done | rfl) ?_
  refine (csame_is true o1 o1 p1 c1 p1 c1 A1 C1 A1 C1 b1 d1 b1 d1 _ ⟨Kd.C_below Ra1.out.1 HB_6.out, Ra1.out.2⟩ ⟨Kd.C_below Rc1.out.1 HB_6.out, Rc1.out.2⟩ ⟨Kd.C_below Ra1.out.1 HB_6.out, Ra1.out.2⟩ ⟨Kd.C_below Rc1.out.1 HB_6.out, Rc1.out.2⟩ (calSame_self _ _ _)).mono ?_
  rintro e w7 ⟨rfl, q1⟩
  refine ⟨_, rfl, ?_⟩
  have HB_7 := Aside0.mk (below_step HB_6.out q1)
  have hs_7 : w6.heap.size ≤ w7.heap.size := q1.size
  have Bt_7 := Aside0.mk (blk_below Bt_6.out q1)
  have Bu_7 := Aside0.mk (blk_below Bu_6.out q1)
  clear q1
  refine hK.out _ _ ⟨(blk_cell Bt_7.out 0).trans rfl, (blk_cell Bt_7.out 1).trans rfl, (blk_cell Bt_7.out 2).trans rfl, (blk_cell Bu_7.out 0).trans rfl, (blk_cell Bu_7.out 1).trans rfl, (blk_cell Bu_7.out 2).trans rfl⟩ (fun hHeld => ?_)
  clear hK K
  refine norm_ (a' := ?_) ?_ ?_
  rotate_left
  · show Act.put _ (some 40) _ = _
    simp only [Act.put, List.setIfInBounds_toArray, List.set_cons_zero, List.set_cons_succ, i64_w, i32_w]
    rfl
  refine pure_ (i := 11) (N := some 41) (v := ?_) (a' := ?_) #[true, true, true, true, true, true, true, true, true, true, true, true, false] rfl rfl (any_of HT_.out (by kernel_rfl)) (fun _ _ _ h => h) (Or.inl ⟨by rfl, ?_⟩) ?_ ?_
  rotate_left
  · intro w'
    go_simp
    with_reducible rfl
  rotate_left
  · simp only [Act.put, List.setIfInBounds_toArray, List.set_cons_zero, List.set_cons_succ, i64_w, i32_w]
    rfl
  refine pure_ (i := 12) (N := some 42) (v := ?_) (a' := ?_) #[true, true, true, true, true, true, true, true, true, true, true, true, true] rfl rfl (any_of HT_.out (by kernel_rfl)) (fun _ _ _ h => h) (Or.inl ⟨by rfl, ?_⟩) ?_ ?_
  rotate_left
  · intro w'
    go_simp
    with_reducible rfl
  rotate_left
  · simp only [Act.put, List.setIfInBounds_toArray, List.set_cons_zero, List.set_cons_succ, i64_w, i32_w]
    rfl
  refine done_ (done_of HT_.out (by kernel_rfl)) ?_
  clear HT_ HW_ hHeld
  have dt0 : w7.cell? ⟨w.heap.size, 0, none⟩ = some (.int .i64 o1) := (blk_cell Bt_7.out 0).trans rfl
  have dt1 : w7.cell? ⟨w.heap.size, 1, none⟩ = some (.slice A1 p1.length b1) := (blk_cell Bt_7.out 1).trans rfl
  have dt2 : w7.cell? ⟨w.heap.size, 2, none⟩ = some (.slice C1 c1.length d1) := (blk_cell Bt_7.out 2).trans rfl
  have du0 : w7.cell? ⟨w.heap.size + 1, 0, none⟩ = some (.int .i64 o2) := (blk_cell Bu_7.out 0).trans rfl
  have du1 : w7.cell? ⟨w.heap.size + 1, 1, none⟩ = some (.slice A2 p2.length b2) := (blk_cell Bu_7.out 1).trans rfl
  have du2 : w7.cell? ⟨w.heap.size + 1, 2, none⟩ = some (.slice C2 c2.length d2) := (blk_cell Bu_7.out 2).trans rfl
  go_upto_region 7 with (go_at_call 14; with_reducible refine (refcheck_is 0 w7 ⟨Kd.C_below Ra1.out.1 HB_7.out, Ra1.out.2⟩ ⟨Kd.C_below Rc1.out.1 HB_7.out, Rc1.out.2⟩ HE.out).mono ?_; rintro e w8 ⟨rfl, q1⟩; clear dt0 dt1 dt2 du0 du1 du2; have HB_8 := Aside0.mk (below_step HB_7.out q1); have hs_8 : w7.heap.size ≤ w8.heap.size := q1.size; have Bt_8 := Aside0.mk (blk_below Bt_7.out q1); have Bu_8 := Aside0.mk (blk_below Bu_7.out q1); clear q1; have dt0 : w8.cell? ⟨w.heap.size, 0, none⟩ = some (.int .i64 o1) := (blk_cell Bt_8.out 0).trans rfl; have dt1 : w8.cell? ⟨w.heap.size, 1, none⟩ = some (.slice A1 p1.length b1) := (blk_cell Bt_8.out 1).trans rfl; have dt2 : w8.cell? ⟨w.heap.size, 2, none⟩ = some (.slice C1 c1.length d1) := (blk_cell Bt_8.out 2).trans rfl; have du0 : w8.cell? ⟨w.heap.size + 1, 0, none⟩ = some (.int .i64 o2) := (blk_cell Bu_8.out 0).trans rfl; have du1 : w8.cell? ⟨w.heap.size + 1, 1, none⟩ = some (.slice A2 p2.length b2) := (blk_cell Bu_8.out 1).trans rfl; have du2 : w8.cell? ⟨w.heap.size + 1, 2, none⟩ = some (.slice C2 c2.length d2) := (blk_cell Bu_8.out 2).trans rfl)
  have hb : Below w8.heap.size w8 (w8.alloc (.cells #[.slice none 0 0] 31)) := below_alloc (Below.refl _ _) _
  clear dt0 dt1 dt2 du0 du1 du2
  have HB_9 := Aside0.mk (below_step HB_8.out hb)
  have hs_9 : w8.heap.size ≤ (w8.alloc (.cells #[.slice none 0 0] 31)).heap.size := hb.size
  have Bt_9 := Aside0.mk (blk_below Bt_8.out hb)
  have Bu_9 := Aside0.mk (blk_below Bu_8.out hb)
  clear hb
  have Bwr_9 := Aside0.mk (blk_new w8 (.cells #[.slice none 0 0] 31))
  have hz_9 : w8.heap.size < (w8.alloc (.cells #[.slice none 0 0] 31)).heap.size := blk_lt Bwr_9.out
  have HW_9 := Aside0.mk (WrAt.new w8)
  generalize (w8.alloc (.cells #[.slice none 0 0] 31)) = w9 at HB_9 hs_9 Bt_9 Bu_9 Bwr_9 HW_9 hz_9 ⊢
  have dt0 : w9.cell? ⟨w.heap.size, 0, none⟩ = some (.int .i64 o1) := (blk_cell Bt_9.out 0).trans rfl
  have dt1 : w9.cell? ⟨w.heap.size, 1, none⟩ = some (.slice A1 p1.length b1) := (blk_cell Bt_9.out 1).trans rfl
  have dt2 : w9.cell? ⟨w.heap.size, 2, none⟩ = some (.slice C1 c1.length d1) := (blk_cell Bt_9.out 2).trans rfl
  have du0 : w9.cell? ⟨w.heap.size + 1, 0, none⟩ = some (.int .i64 o2) := (blk_cell Bu_9.out 0).trans rfl
  have du1 : w9.cell? ⟨w.heap.size + 1, 1, none⟩ = some (.slice A2 p2.length b2) := (blk_cell Bu_9.out 1).trans rfl
  have du2 : w9.cell? ⟨w.heap.size + 1, 2, none⟩ = some (.slice C2 c2.length d2) := (blk_cell Bu_9.out 2).trans rfl
  have dwr0 : w9.cell? ⟨w8.heap.size, 0, none⟩ = some (.slice none 0 0) := (blk_cell Bwr_9.out 0).trans rfl
  clear dt0 dt1 dt2 du0 du1 du2 dwr0
  have dt0 : w9.cell? ⟨w.heap.size, 0, none⟩ = some (.int .i64 o1) := (blk_cell Bt_9.out 0).trans rfl
  have dt1 : w9.cell? ⟨w.heap.size, 1, none⟩ = some (.slice A1 p1.length b1) := (blk_cell Bt_9.out 1).trans rfl
  have dt2 : w9.cell? ⟨w.heap.size, 2, none⟩ = some (.slice C1 c1.length d1) := (blk_cell Bt_9.out 2).trans rfl
  go_upto_region 8 with (go_at_call 15; with_reducible refine (calput16 w8.heap.size w8.heap.size w9 HW_9.out (CFoot.of Ra1.out HB_9.out (by omega) (by omega)) (CFoot.of Rc1.out HB_9.out (by omega) (by omega)) HE.out).mono ?_; rintro e w10 ⟨rfl, q5, q2⟩; clear dt0 dt1 dt2; have HB_10 := Aside0.mk (below_weaken HB_9.out (by omega) (WUpd.below q2 (Nat.le_refl _) (by omega))); have hs_10 : w9.heap.size ≤ w10.heap.size := q2.size; have Bt_10 := Aside0.mk (q2.blk Bt_9.out (by omega) (by decide)); have Bu_10 := Aside0.mk (q2.blk Bu_9.out (by omega) (by decide)); have HW_10 := Aside0.mk q5; clear q5 q2; have dt0 : w10.cell? ⟨w.heap.size, 0, none⟩ = some (.int .i64 o1) := (blk_cell Bt_10.out 0).trans rfl; have dt1 : w10.cell? ⟨w.heap.size, 1, none⟩ = some (.slice A1 p1.length b1) := (blk_cell Bt_10.out 1).trans rfl; have dt2 : w10.cell? ⟨w.heap.size, 2, none⟩ = some (.slice C1 c1.length d1) := (blk_cell Bt_10.out 2).trans rfl)
  go_upto_region 9 with (first | (go_at_call 18; with_reducible refine (wbytesq w8.heap.size w8.heap.size (calB o1 p1 c1) w10 HW_10.out (by have := calB_len HE.out; omega) (calB_pos _ _ _)).mono ?_; rintro e w11 ⟨E1, e1, rfl, q5, q1⟩; clear dt0 dt1 dt2; have HB_11 := Aside0.mk (below_step HB_10.out q1); have hs_11 : w10.heap.size ≤ w11.heap.size := q1.size; have Bt_11 := Aside0.mk (blk_below Bt_10.out q1); have Bu_11 := Aside0.mk (blk_below Bu_10.out q1); have HW_11 := Aside0.mk (HW_10.out.below q1); clear q1; have dt0 : w11.cell? ⟨w.heap.size, 0, none⟩ = some (.int .i64 o1) := (blk_cell Bt_11.out 0).trans rfl; have dt1 : w11.cell? ⟨w.heap.size, 1, none⟩ = some (.slice A1 p1.length b1) := (blk_cell Bt_11.out 1).trans rfl; have dt2 : w11.cell? ⟨w.heap.size, 2, none⟩ = some (.slice C1 c1.length d1) := (blk_cell Bt_11.out 2).trans rfl; have HK := Aside0.mk q5; clear q5) | (go_at_call 17; with_reducible refine (ropen_any E1 e1 w11.heap.size (calB o1 p1 c1) w11 HK.out.2.1 HK.out.1 (Nat.le_refl _) HK.out.2.2 (calB_byte HE.out)).mono ?_; rintro e w12 ⟨rfl, q5, q1⟩; clear dt0 dt1 dt2; have HB_12 := Aside0.mk (below_step HB_11.out q1); have hs_12 : w11.heap.size ≤ w12.heap.size := q1.size; have Bt_12 := Aside0.mk (blk_below Bt_11.out q1); have Bu_12 := Aside0.mk (blk_below Bu_11.out q1); have HW_12 := Aside0.mk (HW_11.out.below q1); clear q1; have dt0 : w12.cell? ⟨w.heap.size, 0, none⟩ = some (.int .i64 o1) := (blk_cell Bt_12.out 0).trans rfl; have dt1 : w12.cell? ⟨w.heap.size, 1, none⟩ = some (.slice A1 p1.length b1) := (blk_cell Bt_12.out 1).trans rfl; have dt2 : w12.cell? ⟨w.heap.size, 2, none⟩ = some (.slice C1 c1.length d1) := (blk_cell Bt_12.out 2).trans rfl; have HQ_12 := Aside0.mk q5; have hltR := q5.lt; clear q5 HK) | (go_at_call 16; with_reducible refine (calread_any o1 p1 c1 true ([], false) w12 HQ_12.out (calRead_put0 HE.out)).mono ?_; rintro e w13 ⟨Z1, za, Z2, zb, rfl, ⟨q6, q7⟩, q1, q2⟩; clear dt0 dt1 dt2; have HB_13 := Aside0.mk (HB_12.out.trans (Upd.below q2 HB_12.out.size (by omega))); have hs_13 : w12.heap.size ≤ w13.heap.size := q2.size; have Bt_13 := Aside0.mk (q2.blk Bt_12.out (by omega)); have Bu_13 := Aside0.mk (q2.blk Bu_12.out (by omega)); have HW_13 := Aside0.mk (HW_12.out.upd q2 HQ_12.out.blk2 (by decide) (by omega)); have HQ_13 := Aside0.mk q1; clear q1 q2; have dt0 : w13.cell? ⟨w.heap.size, 0, none⟩ = some (.int .i64 o1) := (blk_cell Bt_13.out 0).trans rfl; have dt1 : w13.cell? ⟨w.heap.size, 1, none⟩ = some (.slice A1 p1.length b1) := (blk_cell Bt_13.out 1).trans rfl; have dt2 : w13.cell? ⟨w.heap.size, 2, none⟩ = some (.slice C1 c1.length d1) := (blk_cell Bt_13.out 2).trans rfl; have HZ1_13 : Aside0 (RowX k114 114 w13 w12.heap.size Z1 za p1) := Aside0.mk (RowX.mk q6); have HZ2_13 : Aside0 (RowX k114 114 w13 w12.heap.size Z2 zb c1) := Aside0.mk (RowX.mk q7); clear q6 q7))
  have hb : Below w13.heap.size w13 (w13.alloc (.cells #[.int .i64 o1, .slice Z1 p1.length za, .slice Z2 c1.length zb] 24)) := below_alloc (Below.refl _ _) _
  clear dt0 dt1 dt2
  have HB_14 := Aside0.mk (below_step HB_13.out hb)
  have hs_14 : w13.heap.size ≤ (w13.alloc (.cells #[.int .i64 o1, .slice Z1 p1.length za, .slice Z2 c1.length zb] 24)).heap.size := hb.size
  have Bt_14 := Aside0.mk (blk_below Bt_13.out hb)
  have Bu_14 := Aside0.mk (blk_below Bu_13.out hb)
  have HW_14 := Aside0.mk (HW_13.out.below hb)
  have HZ1_14 := Aside0.mk (HZ1_13.out.below hb)
  have HZ2_14 := Aside0.mk (HZ2_13.out.below hb)
  clear hb
  have Bz_14 := Aside0.mk (blk_new w13 (.cells #[.int .i64 o1, .slice Z1 p1.length za, .slice Z2 c1.length zb] 24))
  have hz_14 : w13.heap.size < (w13.alloc (.cells #[.int .i64 o1, .slice Z1 p1.length za, .slice Z2 c1.length zb] 24)).heap.size := blk_lt Bz_14.out
  generalize (w13.alloc (.cells #[.int .i64 o1, .slice Z1 p1.length za, .slice Z2 c1.length zb] 24)) = w14 at HB_14 hs_14 Bt_14 Bu_14 Bz_14 HW_14 HZ1_14 HZ2_14 hz_14 ⊢
  have hb4 : Below w14.heap.size w14 w14.drew := below_drew1 (Below.refl _ _)
  have HB_15 := Aside0.mk (below_step HB_14.out hb4)
  have hs_15 : w14.heap.size ≤ w14.drew.heap.size := hb4.size
  have Bt_15 := Aside0.mk (blk_below Bt_14.out hb4)
  have Bu_15 := Aside0.mk (blk_below Bu_14.out hb4)
  have Bz_15 := Aside0.mk (blk_below Bz_14.out hb4)
  have HW_15 := Aside0.mk (HW_14.out.below hb4)
  have HZ1_15 := Aside0.mk (HZ1_14.out.below hb4)
  have HZ2_15 := Aside0.mk (HZ2_14.out.below hb4)
  clear hb4
  refine start_ (n := 16) (S := fun w' => w'.cell? ⟨w.heap.size, 0, none⟩ = some (.int .i64 o1) ∧ w'.cell? ⟨w.heap.size, 1, none⟩ = some (.slice A1 p1.length b1) ∧ w'.cell? ⟨w.heap.size, 2, none⟩ = some (.slice C1 c1.length d1) ∧ w'.cell? ⟨w13.heap.size, 0, none⟩ = some (.int .i64 o1) ∧ w'.cell? ⟨w13.heap.size, 1, none⟩ = some (.slice Z1 p1.length za) ∧ w'.cell? ⟨w13.heap.size, 2, none⟩ = some (.slice Z2 c1.length zb)) (ds := []) #[false, false, false, false, false, false, false, false, false, false, false, false, false, false, false, false] (by kernel_rfl) rfl rfl ⟨(blk_cell Bt_15.out 0).trans rfl, (blk_cell Bt_15.out 1).trans rfl, (blk_cell Bt_15.out 2).trans rfl, (blk_cell Bz_15.out 0).trans rfl, (blk_cell Bz_15.out 1).trans rfl, (blk_cell Bz_15.out 2).trans rfl⟩ (fun hHeld => ?_); refine with_tabW clb_tab9 clb_bits9 (fun HT_ HW_ => ?_)
  generalize w14.drew = w15 at HB_15 hs_15 Bt_15 Bu_15 Bz_15 HW_15 HZ1_15 HZ2_15 hHeld ⊢
  refine take_ (i := 2) (N := some 56) (v := ?_) (a' := ?_) #[false, false, true, false, false, false, false, false, false, false, false, false, false, false, false, false] rfl rfl (take_ofW HT_.out HW_.out (by kernel_rfl)) (fun _ _ _ h => h) (Or.inl ⟨by rfl, ?_⟩) hHeld ?_ ?_
  rotate_left
  · rintro w' ⟨s0, s1, s2, s3, s4, s5⟩
    go_simp
    with_reducible rfl
  rotate_left
  · simp only [Act.put, List.setIfInBounds_toArray, List.set_cons_zero, List.set_cons_succ, i64_w, i32_w]
    rfl
  refine one_ (i := 0) (N := some 54) #[true, false, true, false, false, false, false, false, false, false, false, false, false, false, false, false] rfl rfl (one_of HT_.out (by kernel_rfl)) (by decide) (fun K hK => ?_)
  refine goes_ Tryz.func18 (by kernel_rfl) rfl #[.pointer (some ⟨w8.heap.size, 0, none⟩)] (by rfl) rfl rfl (by (try simp only [List.map_toArray, List.map_cons, List.map_nil]); first | done | rfl) ?_
  refine (wbytesq w8.heap.size w8.heap.size (calB o1 p1 c1) _ HW_15.out (by have := calB_len HE.out; omega) (calB_pos _ _ _)).mono ?_
  rintro e w16 ⟨E3, e3, rfl, q5, q1⟩
  refine ⟨_, rfl, ?_⟩
  have HB_16 := Aside0.mk (below_step HB_15.out q1)
  have hs_16 : w15.heap.size ≤ w16.heap.size := q1.size
  have Bt_16 := Aside0.mk (blk_below Bt_15.out q1)
  have Bu_16 := Aside0.mk (blk_below Bu_15.out q1)
  have Bz_16 := Aside0.mk (blk_below Bz_15.out q1)
  have HW_16 := Aside0.mk (HW_15.out.below q1)
  have HZ1_16 := Aside0.mk (HZ1_15.out.below q1)
  have HZ2_16 := Aside0.mk (HZ2_15.out.below q1)
  clear q1
  have HC3_16 : Aside0 (BytesAt w16 E3 (calB o1 p1 c1)) := ⟨q5.2.1⟩
  clear q5
  refine hK.out _ _ ⟨(blk_cell Bt_16.out 0).trans rfl, (blk_cell Bt_16.out 1).trans rfl, (blk_cell Bt_16.out 2).trans rfl, (blk_cell Bz_16.out 0).trans rfl, (blk_cell Bz_16.out 1).trans rfl, (blk_cell Bz_16.out 2).trans rfl⟩ (fun hHeld => ?_)
  clear hK K
  refine norm_ (a' := ?_) ?_ ?_
  rotate_left
  · show Act.put _ (some 54) _ = _
    simp only [Act.put, List.setIfInBounds_toArray, List.set_cons_zero, List.set_cons_succ, i64_w, i32_w]
    rfl
  refine join_ (σ := Option Addr × Nat) 11 #[true, true, true, true, true, false, false, false, false, false, false, false, false, false, false, false] (fun s_ => [(55, .string (strOfNums (calB o1 p1 c1))), (57, .slice s_.1 (calB o1 p1 c1).length s_.2), (58, .string (strOfNums (calB o1 p1 c1)))]) (fun s_ w' => (w'.cell? ⟨w.heap.size, 0, none⟩ = some (.int .i64 o1) ∧ w'.cell? ⟨w.heap.size, 1, none⟩ = some (.slice A1 p1.length b1) ∧ w'.cell? ⟨w.heap.size, 2, none⟩ = some (.slice C1 c1.length d1) ∧ w'.cell? ⟨w13.heap.size, 0, none⟩ = some (.int .i64 o1) ∧ w'.cell? ⟨w13.heap.size, 1, none⟩ = some (.slice Z1 p1.length za) ∧ w'.cell? ⟨w13.heap.size, 2, none⟩ = some (.slice Z2 c1.length zb)) ∧ Below w.heap.size w w' ∧ w'.heap[w.heap.size]? = some (.cells #[.int .i64 o1, .slice A1 p1.length b1, .slice C1 c1.length d1] 24 (0, 0)) ∧ w'.heap[w.heap.size + 1]? = some (.cells #[.int .i64 o2, .slice A2 p2.length b2, .slice C2 c2.length d2] 24 (0, 0)) ∧ w'.heap[w13.heap.size]? = some (.cells #[.int .i64 o1, .slice Z1 p1.length za, .slice Z2 c1.length zb] 24 (0, 0)) ∧ RowX k114 114 w' w12.heap.size Z1 za p1 ∧ RowX k114 114 w' w12.heap.size Z2 zb c1) ?_ ?_
  rotate_left
  · intro hCont
    refine two_ (i := 1) (j := 3) (Ni := some 55) (Nj := some 57) #[true, true, true, false, false, false, false, false, false, false, false, false, false, false, false, false] #[true, false, true, true, false, false, false, false, false, false, false, false, false, false, false, false] rfl rfl rfl rfl (two_of HT_.out (by kernel_rfl)) (by decide) (by decide) (fun K hK => ?_) (fun K hK => ?_)
    · skip
      have hcv := Kd.C_string (P := Tryz.prog) (src := 25) (dst := 9) (e := 5) (c := e3) Tryz.underlying25 Tryz.underlying5 Tryz.underlying9 (show Kd.C (Kd.int .u8) _ _ _ _ from HC3_16.out)
      refine value_ (w1 := ?_) (v := ?_) (by rfl) rfl ?_ ?_
      rotate_left 2
      · go_simp
        constructor
        · rfl
        · rfl
      clear hcv
      refine hK.out _ _ ⟨(blk_cell Bt_16.out 0).trans rfl, (blk_cell Bt_16.out 1).trans rfl, (blk_cell Bt_16.out 2).trans rfl, (blk_cell Bz_16.out 0).trans rfl, (blk_cell Bz_16.out 1).trans rfl, (blk_cell Bz_16.out 2).trans rfl⟩ (fun hHeld => ?_)
      clear hK K
      refine norm_ (a' := ?_) ?_ ?_
      rotate_left
      · show Act.put _ (some 55) _ = _
        simp only [Act.put, List.setIfInBounds_toArray, List.set_cons_zero, List.set_cons_succ, i64_w, i32_w]
        rfl
      refine one_ (i := 3) (N := some 57) #[true, true, true, true, false, false, false, false, false, false, false, false, false, false, false, false] rfl rfl (one_of HT_.out (by kernel_rfl)) (by decide) (fun K hK => ?_)
      refine goes_ Tryz.func19 (by kernel_rfl) rfl #[.agg #[.int .i64 o1, .slice A1 p1.length b1, .slice C1 c1.length d1]] (by rfl) rfl rfl (by (try simp only [List.map_toArray, List.map_cons, List.map_nil]); first | done | rfl) ?_
      refine (curfewref10_Put.calls 200 o1 A1 b1 p1 C1 d1 c1 (calB o1 p1 c1) _ (Kd.C_below Ra1.out.1 HB_16.out) Ra1.out.2 (Kd.C_below Rc1.out.1 HB_16.out) Rc1.out.2 (calput_eq HE.out)).mono ?_
      rintro e w17 ⟨v4, rfl, q5, q1⟩
      refine ⟨_, rfl, ?_⟩
      have HB_17 := Aside0.mk (below_step HB_16.out q1)
      have hs_17 : w16.heap.size ≤ w17.heap.size := q1.size
      have Bt_17 := Aside0.mk (blk_below Bt_16.out q1)
      have Bu_17 := Aside0.mk (blk_below Bu_16.out q1)
      have Bz_17 := Aside0.mk (blk_below Bz_16.out q1)
      have HZ1_17 := Aside0.mk (HZ1_16.out.below q1)
      have HZ2_17 := Aside0.mk (HZ2_16.out.below q1)
      have HC3_17 := Aside0.mk (HC3_16.out.below q1)
      clear q1
      obtain ⟨E4, e4, rfl, q6, q7⟩ := Kd.R_reads q5
      have HC4_17 : Aside0 (BytesAt w17 E4 (calB o1 p1 c1)) := ⟨q7⟩
      clear q5 q6 q7
      refine hK.out _ _ ⟨(blk_cell Bt_17.out 0).trans rfl, (blk_cell Bt_17.out 1).trans rfl, (blk_cell Bt_17.out 2).trans rfl, (blk_cell Bz_17.out 0).trans rfl, (blk_cell Bz_17.out 1).trans rfl, (blk_cell Bz_17.out 2).trans rfl⟩ (fun hHeld => ?_)
      clear hK K
      refine norm_ (a' := ?_) ?_ ?_
      rotate_left
      · show Act.put _ (some 57) _ = _
        simp only [Act.put, List.setIfInBounds_toArray, List.set_cons_zero, List.set_cons_succ, i64_w, i32_w]
        rfl
      refine one_ (i := 4) (N := some 58) #[true, true, true, true, true, false, false, false, false, false, false, false, false, false, false, false] rfl rfl (one_of HT_.out (by kernel_rfl)) (by decide) (fun K hK => ?_)
      have hcv := Kd.C_string (P := Tryz.prog) (src := 25) (dst := 9) (e := 5) (c := e4) Tryz.underlying25 Tryz.underlying5 Tryz.underlying9 (show Kd.C (Kd.int .u8) _ _ _ _ from HC4_17.out)
      refine value_ (w1 := ?_) (v := ?_) (by rfl) rfl ?_ ?_
      rotate_left 2
      · go_simp
        constructor
        · rfl
        · rfl
      clear hcv
      refine hK.out _ _ ⟨(blk_cell Bt_17.out 0).trans rfl, (blk_cell Bt_17.out 1).trans rfl, (blk_cell Bt_17.out 2).trans rfl, (blk_cell Bz_17.out 0).trans rfl, (blk_cell Bz_17.out 1).trans rfl, (blk_cell Bz_17.out 2).trans rfl⟩ (fun hHeld => ?_)
      clear hK K
      refine norm_ (a' := ?_) ?_ ?_
      rotate_left
      · show Act.put _ (some 58) _ = _
        simp only [Act.put, List.setIfInBounds_toArray, List.set_cons_zero, List.set_cons_succ, i64_w, i32_w]
        rfl
      exact norm_ (by simp only [putAll, Act.put, List.setIfInBounds_toArray, List.set_cons_zero, List.set_cons_succ]) (hCont (E4, e4) _ ⟨hHeld, HB_17.out, Bt_17.out, Bu_17.out, Bz_17.out, HZ1_17.out, HZ2_17.out⟩)
    · skip
      refine goes_ Tryz.func19 (by kernel_rfl) rfl #[.agg #[.int .i64 o1, .slice A1 p1.length b1, .slice C1 c1.length d1]] (by rfl) rfl rfl (by (try simp only [List.map_toArray, List.map_cons, List.map_nil]); first | done | rfl) ?_
      refine (curfewref10_Put.calls 200 o1 A1 b1 p1 C1 d1 c1 (calB o1 p1 c1) _ (Kd.C_below Ra1.out.1 HB_16.out) Ra1.out.2 (Kd.C_below Rc1.out.1 HB_16.out) Rc1.out.2 (calput_eq HE.out)).mono ?_
      rintro e w17 ⟨v4, rfl, q5, q1⟩
      refine ⟨_, rfl, ?_⟩
      have HB_17 := Aside0.mk (below_step HB_16.out q1)
      have hs_17 : w16.heap.size ≤ w17.heap.size := q1.size
      have Bt_17 := Aside0.mk (blk_below Bt_16.out q1)
      have Bu_17 := Aside0.mk (blk_below Bu_16.out q1)
      have Bz_17 := Aside0.mk (blk_below Bz_16.out q1)
      have HZ1_17 := Aside0.mk (HZ1_16.out.below q1)
      have HZ2_17 := Aside0.mk (HZ2_16.out.below q1)
      have HC3_17 := Aside0.mk (HC3_16.out.below q1)
      clear q1
      obtain ⟨E4, e4, rfl, q6, q7⟩ := Kd.R_reads q5
      have HC4_17 : Aside0 (BytesAt w17 E4 (calB o1 p1 c1)) := ⟨q7⟩
      clear q5 q6 q7
      refine hK.out _ _ ⟨(blk_cell Bt_17.out 0).trans rfl, (blk_cell Bt_17.out 1).trans rfl, (blk_cell Bt_17.out 2).trans rfl, (blk_cell Bz_17.out 0).trans rfl, (blk_cell Bz_17.out 1).trans rfl, (blk_cell Bz_17.out 2).trans rfl⟩ (fun hHeld => ?_)
      clear hK K
      refine norm_ (a' := ?_) ?_ ?_
      rotate_left
      · show Act.put _ (some 57) _ = _
        simp only [Act.put, List.setIfInBounds_toArray, List.set_cons_zero, List.set_cons_succ, i64_w, i32_w]
        rfl
      refine two_ (i := 1) (j := 4) (Ni := some 55) (Nj := some 58) #[true, true, true, true, false, false, false, false, false, false, false, false, false, false, false, false] #[true, false, true, true, true, false, false, false, false, false, false, false, false, false, false, false] rfl rfl rfl rfl (two_of HT_.out (by kernel_rfl)) (by decide) (by decide) (fun K hK => ?_) (fun K hK => ?_)
      · skip
        have hcv := Kd.C_string (P := Tryz.prog) (src := 25) (dst := 9) (e := 5) (c := e3) Tryz.underlying25 Tryz.underlying5 Tryz.underlying9 (show Kd.C (Kd.int .u8) _ _ _ _ from HC3_17.out)
        refine value_ (w1 := ?_) (v := ?_) (by rfl) rfl ?_ ?_
        rotate_left 2
        · go_simp
          constructor
          · rfl
          · rfl
        clear hcv
        refine hK.out _ _ ⟨(blk_cell Bt_17.out 0).trans rfl, (blk_cell Bt_17.out 1).trans rfl, (blk_cell Bt_17.out 2).trans rfl, (blk_cell Bz_17.out 0).trans rfl, (blk_cell Bz_17.out 1).trans rfl, (blk_cell Bz_17.out 2).trans rfl⟩ (fun hHeld => ?_)
        clear hK K
        refine norm_ (a' := ?_) ?_ ?_
        rotate_left
        · show Act.put _ (some 55) _ = _
          simp only [Act.put, List.setIfInBounds_toArray, List.set_cons_zero, List.set_cons_succ, i64_w, i32_w]
          rfl
        refine one_ (i := 4) (N := some 58) #[true, true, true, true, true, false, false, false, false, false, false, false, false, false, false, false] rfl rfl (one_of HT_.out (by kernel_rfl)) (by decide) (fun K hK => ?_)
        have hcv := Kd.C_string (P := Tryz.prog) (src := 25) (dst := 9) (e := 5) (c := e4) Tryz.underlying25 Tryz.underlying5 Tryz.underlying9 (show Kd.C (Kd.int .u8) _ _ _ _ from HC4_17.out)
        refine value_ (w1 := ?_) (v := ?_) (by rfl) rfl ?_ ?_
        rotate_left 2
        · go_simp
          constructor
          · rfl
          · rfl
        clear hcv
        refine hK.out _ _ ⟨(blk_cell Bt_17.out 0).trans rfl, (blk_cell Bt_17.out 1).trans rfl, (blk_cell Bt_17.out 2).trans rfl, (blk_cell Bz_17.out 0).trans rfl, (blk_cell Bz_17.out 1).trans rfl, (blk_cell Bz_17.out 2).trans rfl⟩ (fun hHeld => ?_)
        clear hK K
        refine norm_ (a' := ?_) ?_ ?_
        rotate_left
        · show Act.put _ (some 58) _ = _
          simp only [Act.put, List.setIfInBounds_toArray, List.set_cons_zero, List.set_cons_succ, i64_w, i32_w]
          rfl
        exact norm_ (by simp only [putAll, Act.put, List.setIfInBounds_toArray, List.set_cons_zero, List.set_cons_succ]) (hCont (E4, e4) _ ⟨hHeld, HB_17.out, Bt_17.out, Bu_17.out, Bz_17.out, HZ1_17.out, HZ2_17.out⟩)
      · skip
        have hcv := Kd.C_string (P := Tryz.prog) (src := 25) (dst := 9) (e := 5) (c := e4) Tryz.underlying25 Tryz.underlying5 Tryz.underlying9 (show Kd.C (Kd.int .u8) _ _ _ _ from HC4_17.out)
        refine value_ (w1 := ?_) (v := ?_) (by rfl) rfl ?_ ?_
        rotate_left 2
        · go_simp
          constructor
          · rfl
          · rfl
        clear hcv
        refine hK.out _ _ ⟨(blk_cell Bt_17.out 0).trans rfl, (blk_cell Bt_17.out 1).trans rfl, (blk_cell Bt_17.out 2).trans rfl, (blk_cell Bz_17.out 0).trans rfl, (blk_cell Bz_17.out 1).trans rfl, (blk_cell Bz_17.out 2).trans rfl⟩ (fun hHeld => ?_)
        clear hK K
        refine norm_ (a' := ?_) ?_ ?_
        rotate_left
        · show Act.put _ (some 58) _ = _
          simp only [Act.put, List.setIfInBounds_toArray, List.set_cons_zero, List.set_cons_succ, i64_w, i32_w]
          rfl
        refine one_ (i := 1) (N := some 55) #[true, true, true, true, true, false, false, false, false, false, false, false, false, false, false, false] rfl rfl (one_of HT_.out (by kernel_rfl)) (by decide) (fun K hK => ?_)
        have hcv := Kd.C_string (P := Tryz.prog) (src := 25) (dst := 9) (e := 5) (c := e3) Tryz.underlying25 Tryz.underlying5 Tryz.underlying9 (show Kd.C (Kd.int .u8) _ _ _ _ from HC3_17.out)
        refine value_ (w1 := ?_) (v := ?_) (by rfl) rfl ?_ ?_
        rotate_left 2
        · go_simp
          constructor
          · rfl
          · rfl
        clear hcv
        refine hK.out _ _ ⟨(blk_cell Bt_17.out 0).trans rfl, (blk_cell Bt_17.out 1).trans rfl, (blk_cell Bt_17.out 2).trans rfl, (blk_cell Bz_17.out 0).trans rfl, (blk_cell Bz_17.out 1).trans rfl, (blk_cell Bz_17.out 2).trans rfl⟩ (fun hHeld => ?_)
        clear hK K
        refine norm_ (a' := ?_) ?_ ?_
        rotate_left
        · show Act.put _ (some 55) _ = _
          simp only [Act.put, List.setIfInBounds_toArray, List.set_cons_zero, List.set_cons_succ, i64_w, i32_w]
          rfl
        exact norm_ (by simp only [putAll, Act.put, List.setIfInBounds_toArray, List.set_cons_zero, List.set_cons_succ]) (hCont (E4, e4) _ ⟨hHeld, HB_17.out, Bt_17.out, Bu_17.out, Bz_17.out, HZ1_17.out, HZ2_17.out⟩)
  rintro ⟨E5, e5⟩ w60 ⟨hHeld, q1, q2, q3, q4, q5, q6⟩
  have HB_60 := Aside0.mk q1
  have Bt_60 := Aside0.mk q2
  have Bu_60 := Aside0.mk q3
  have Bz_60 := Aside0.mk q4
  have HZ1_60 := Aside0.mk q5
  have HZ2_60 := Aside0.mk q6
  have hs_60 : w.heap.size ≤ w60.heap.size := q1.size
  clear q1 q2 q3 q4 q5 q6
  simp only [putAll, Act.put, List.setIfInBounds_toArray, List.set_cons_zero, List.set_cons_succ]
  refine pure_ (i := 5) (N := some 59) (v := ?_) (a' := ?_) #[true, true, true, true, true, true, false, false, false, false, false, false, false, false, false, false] rfl rfl (any_of HT_.out (by kernel_rfl)) (fun _ _ _ h => h) (Or.inl ⟨by rfl, ?_⟩) ?_ ?_
  rotate_left
  · intro w'
    go_simp
    with_reducible rfl
  rotate_left
  · simp only [Act.put, List.setIfInBounds_toArray, List.set_cons_zero, List.set_cons_succ, i64_w, i32_w]
    rfl
  refine pure_ (i := 6) (N := some 60) (v := ?_) (a' := ?_) #[true, true, true, true, true, true, true, false, false, false, false, false, false, false, false, false] rfl rfl (any_of HT_.out (by kernel_rfl)) (fun _ _ _ h => h) (Or.inl ⟨by rfl, ?_⟩) ?_ ?_
  rotate_left
  · intro w'
    go_simp
    with_reducible rfl
  rotate_left
  · simp only [Act.put, List.setIfInBounds_toArray, List.set_cons_zero, List.set_cons_succ, i64_w, i32_w]
    rfl
  refine pure_ (i := 7) (N := some 61) (v := ?_) (a' := ?_) #[true, true, true, true, true, true, true, true, false, false, false, false, false, false, false, false] rfl rfl (any_of HT_.out (by kernel_rfl)) (fun _ _ _ h => h) (Or.inl ⟨by rfl, ?_⟩) ?_ ?_
  rotate_left
  · intro w'
    go_simp
    with_reducible rfl
  rotate_left
  · simp only [Act.put, List.setIfInBounds_toArray, List.set_cons_zero, List.set_cons_succ, i64_w, i32_w]
    rfl
  refine pure_ (i := 8) (N := some 62) (v := ?_) (a' := ?_) #[true, true, true, true, true, true, true, true, true, false, false, false, false, false, false, false] rfl rfl (any_of HT_.out (by kernel_rfl)) (fun _ _ _ h => h) (Or.inl ⟨by rfl, ?_⟩) ?_ ?_
  rotate_left
  · intro w'
    go_simp
    with_reducible rfl
  rotate_left
  · simp only [Act.put, List.setIfInBounds_toArray, List.set_cons_zero, List.set_cons_succ, i64_w, i32_w]
    rfl
  refine pure_ (i := 9) (N := some 63) (v := ?_) (a' := ?_) #[true, true, true, true, true, true, true, true, true, true, false, false, false, false, false, false] rfl rfl (any_of HT_.out (by kernel_rfl)) (fun _ _ _ h => h) (Or.inl ⟨by rfl, ?_⟩) ?_ ?_
  rotate_left
  · intro w'
    go_simp
    with_reducible rfl
  rotate_left
  · simp only [Act.put, List.setIfInBounds_toArray, List.set_cons_zero, List.set_cons_succ, i64_w, i32_w]
    rfl
  refine pure_ (i := 10) (N := some 64) (v := ?_) (a' := ?_) #[true, true, true, true, true, true, true, true, true, true, true, false, false, false, false, false] rfl rfl (any_of HT_.out (by kernel_rfl)) (fun _ _ _ h => h) (Or.inl ⟨by rfl, ?_⟩) ?_ ?_
  rotate_left
  · intro w'
    go_simp
    with_reducible rfl
  rotate_left
  · simp only [Act.put, List.setIfInBounds_toArray, List.set_cons_zero, List.set_cons_succ, i64_w, i32_w]
    rfl
  refine take_ (i := 11) (N := some 65) (v := ?_) (a' := ?_) #[true, true, true, true, true, true, true, true, true, true, true, true, false, false, false, false] rfl rfl (take_ofW HT_.out HW_.out (by kernel_rfl)) (fun _ _ _ h => h) (Or.inl ⟨by rfl, ?_⟩) hHeld ?_ ?_
  rotate_left
  · rintro w' ⟨s0, s1, s2, s3, s4, s5⟩
    go_simp
    with_reducible rfl
  rotate_left
  · simp only [Act.put, List.setIfInBounds_toArray, List.set_cons_zero, List.set_cons_succ, i64_w, i32_w]
    rfl
  refine take_ (i := 12) (N := some 66) (v := ?_) (a' := ?_) #[true, true, true, true, true, true, true, true, true, true, true, true, true, false, false, false] rfl rfl (take_ofW HT_.out HW_.out (by kernel_rfl)) (fun _ _ _ h => h) (Or.inl ⟨by rfl, ?_⟩) hHeld ?_ ?_
  rotate_left
  · rintro w' ⟨s0, s1, s2, s3, s4, s5⟩
    go_simp
    with_reducible rfl
  rotate_left
  · simp only [Act.put, List.setIfInBounds_toArray, List.set_cons_zero, List.set_cons_succ, i64_w, i32_w]
    rfl
  refine one_ (i := 13) (N := some 67) #[true, true, true, true, true, true, true, true, true, true, true, true, true, true, false, false] rfl rfl (one_of HT_.out (by kernel_rfl)) (by decide) (fun K hK => ?_)
  refine goes_ Tryz.func13 (by kernel_rfl) rfl #[.agg #[.int .i64 o1, .slice Z1 p1.length za, .slice Z2 c1.length zb], .agg #[.int .i64 o1, .slice A1 p1.length b1, .slice C1 c1.length d1]] (by rfl) rfl rfl (by (try simp only [List.map_toArray, List.map_cons, List.map_nil]); first | done | rfl) ?_
  refine (rsame_is true o1 o1 p1 c1 p1 c1 Z1 Z2 A1 C1 za zb b1 d1 _ HZ1_60.out.C HZ2_60.out.C ⟨Kd.C_below Ra1.out.1 HB_60.out, Ra1.out.2⟩ ⟨Kd.C_below Rc1.out.1 HB_60.out, Rc1.out.2⟩ HN1.out HN2.out (calSame_self _ _ _)).mono ?_
  rintro e w61 ⟨rfl, q1⟩
  refine ⟨_, rfl, ?_⟩
  have HB_61 := Aside0.mk (below_step HB_60.out q1)
  have hs_61 : w60.heap.size ≤ w61.heap.size := q1.size
  have Bt_61 := Aside0.mk (blk_below Bt_60.out q1)
  have Bu_61 := Aside0.mk (blk_below Bu_60.out q1)
  have Bz_61 := Aside0.mk (blk_below Bz_60.out q1)
  have HZ1_61 := Aside0.mk (HZ1_60.out.below q1)
  have HZ2_61 := Aside0.mk (HZ2_60.out.below q1)
  clear q1
  refine hK.out _ _ ⟨(blk_cell Bt_61.out 0).trans rfl, (blk_cell Bt_61.out 1).trans rfl, (blk_cell Bt_61.out 2).trans rfl, (blk_cell Bz_61.out 0).trans rfl, (blk_cell Bz_61.out 1).trans rfl, (blk_cell Bz_61.out 2).trans rfl⟩ (fun hHeld => ?_)
  clear hK K
  refine norm_ (a' := ?_) ?_ ?_
  rotate_left
  · show Act.put _ (some 67) _ = _
    simp only [Act.put, List.setIfInBounds_toArray, List.set_cons_zero, List.set_cons_succ, i64_w, i32_w]
    rfl
  refine pure_ (i := 14) (N := some 68) (v := ?_) (a' := ?_) #[true, true, true, true, true, true, true, true, true, true, true, true, true, true, true, false] rfl rfl (any_of HT_.out (by kernel_rfl)) (fun _ _ _ h => h) (Or.inl ⟨by rfl, ?_⟩) ?_ ?_
  rotate_left
  · intro w'
    go_simp
    with_reducible rfl
  rotate_left
  · simp only [Act.put, List.setIfInBounds_toArray, List.set_cons_zero, List.set_cons_succ, i64_w, i32_w]
    rfl
  refine pure_ (i := 15) (N := some 69) (v := ?_) (a' := ?_) #[true, true, true, true, true, true, true, true, true, true, true, true, true, true, true, true] rfl rfl (any_of HT_.out (by kernel_rfl)) (fun _ _ _ h => h) (Or.inl ⟨by rfl, ?_⟩) ?_ ?_
  rotate_left
  · intro w'
    go_simp
    with_reducible rfl
  rotate_left
  · simp only [Act.put, List.setIfInBounds_toArray, List.set_cons_zero, List.set_cons_succ, i64_w, i32_w]
    rfl
  refine done_ (done_of HT_.out (by kernel_rfl)) ?_
  clear HT_ HW_ hHeld
  go_upto_region 12 with (first | (go_at_call 17; with_reducible refine (ropen_any AB cB w.heap.size bs w61 (Kd.C_below Hb.out.1 HB_61.out) Hb.out.2 HB_61.out.size HFA.out HBY.out).mono ?_; rintro e w62 ⟨rfl, q5, q1⟩; have HB_62 := Aside0.mk (below_step HB_61.out q1); have hs_62 : w61.heap.size ≤ w62.heap.size := q1.size; clear q1; have HP_62 := Aside0.mk q5; have hltP := q5.lt; clear q5))
  have hb : Below w62.heap.size w62 (w62.alloc (.cells #[.slice AB bs.length cB, .bool false] 42)) := below_alloc (Below.refl _ _) _
  have HB_63 := Aside0.mk (below_step HB_62.out hb)
  have hs_63 : w62.heap.size ≤ (w62.alloc (.cells #[.slice AB bs.length cB, .bool false] 42)).heap.size := hb.size
  have HP_63 := Aside0.mk (HP_62.out.below hb)
  clear hb
  have Bd_63 := Aside0.mk (blk_new w62 (.cells #[.slice AB bs.length cB, .bool false] 42))
  have hz_63 : w62.heap.size < (w62.alloc (.cells #[.slice AB bs.length cB, .bool false] 42)).heap.size := blk_lt Bd_63.out
  have HD_63 := Aside0.mk (RdAt.of (t := 42) (m := w.heap.size) (rb := w62.heap.size) (A := AB) (c := cB) (s := (bs, false)) ⟨blk_new w62 _, Hb.out.2, Kd.C_below Hb.out.1 HB_63.out, HFA.out, HB_62.out.size, HBY.out⟩)
  generalize (w62.alloc (.cells #[.slice AB bs.length cB, .bool false] 42)) = w63 at HB_63 hs_63 Bd_63 HP_63 HD_63 hz_63 ⊢
  go_upto_region 13 with (go_at_call 16; with_reducible refine (calread_any yo yw yc ok (l2, g2) w63 HP_63.out HY.out).mono ?_; rintro e w64 ⟨X1, xa, X2, xb, rfl, ⟨q6, q7⟩, q1, q2⟩; have HB_64 := Aside0.mk (HB_63.out.trans (Upd.below q2 HB_63.out.size (by omega))); have hs_64 : w63.heap.size ≤ w64.heap.size := q2.size; have HP_64 := Aside0.mk q1; have HD_64 := Aside0.mk (HD_63.out.upd q2 (by omega) (by omega)); clear q1 q2; have HX1_64 : Aside0 (RowX k114 114 w64 w63.heap.size X1 xa yw) := Aside0.mk (RowX.mk q6); have HX2_64 : Aside0 (RowX k114 114 w64 w63.heap.size X2 xb yc) := Aside0.mk (RowX.mk q7); clear q6 q7)
  have hb : Below w64.heap.size w64 (w64.alloc (.cells #[.int .i64 yo, .slice X1 yw.length xa, .slice X2 yc.length xb] 24)) := below_alloc (Below.refl _ _) _
  have HB_65 := Aside0.mk (below_step HB_64.out hb)
  have hs_65 : w64.heap.size ≤ (w64.alloc (.cells #[.int .i64 yo, .slice X1 yw.length xa, .slice X2 yc.length xb] 24)).heap.size := hb.size
  have HP_65 := Aside0.mk (HP_64.out.below hb)
  have HD_65 := Aside0.mk (HD_64.out.below hb)
  have HX1_65 := Aside0.mk (HX1_64.out.below hb)
  have HX2_65 := Aside0.mk (HX2_64.out.below hb)
  clear hb
  have Bx_65 := Aside0.mk (blk_new w64 (.cells #[.int .i64 yo, .slice X1 yw.length xa, .slice X2 yc.length xb] 24))
  have hz_65 : w64.heap.size < (w64.alloc (.cells #[.int .i64 yo, .slice X1 yw.length xa, .slice X2 yc.length xb] 24)).heap.size := blk_lt Bx_65.out
  generalize (w64.alloc (.cells #[.int .i64 yo, .slice X1 yw.length xa, .slice X2 yc.length xb] 24)) = w65 at HB_65 hs_65 Bx_65 HP_65 HD_65 HX1_65 HX2_65 hz_65 ⊢
  go_upto_region 14 with (go_at_call 20; with_reducible refine (caldread_any yo yw yc ok (l2, g2) w65 HD_65.out HY.out).mono ?_; rintro e w66 ⟨Y1, ya, Y2, yb, rfl, ⟨q6, q7⟩, q1, q2⟩; have HB_66 := Aside0.mk (HB_65.out.trans (Upd.below q2 HB_65.out.size (by omega))); have hs_66 : w65.heap.size ≤ w66.heap.size := q2.size; have Bx_66 := Aside0.mk (q2.blk Bx_65.out (by omega)); have HP_66 := Aside0.mk (HP_65.out.upd q2 (by omega) (by omega)); have HD_66 := Aside0.mk q1; have HX1_66 := Aside0.mk (HX1_65.out.upd q2 (by omega)); have HX2_66 := Aside0.mk (HX2_65.out.upd q2 (by omega)); clear q1 q2; have HY1_66 : Aside0 (RowX k114 114 w66 w65.heap.size Y1 ya yw) := Aside0.mk (RowX.mk q6); have HY2_66 : Aside0 (RowX k114 114 w66 w65.heap.size Y2 yb yc) := Aside0.mk (RowX.mk q7); clear q6 q7)
  have hb : Below w66.heap.size w66 (w66.alloc (.cells #[.int .i64 yo, .slice Y1 yw.length ya, .slice Y2 yc.length yb] 24)) := below_alloc (Below.refl _ _) _
  have HB_67 := Aside0.mk (below_step HB_66.out hb)
  have hs_67 : w66.heap.size ≤ (w66.alloc (.cells #[.int .i64 yo, .slice Y1 yw.length ya, .slice Y2 yc.length yb] 24)).heap.size := hb.size
  have Bx_67 := Aside0.mk (blk_below Bx_66.out hb)
  have HP_67 := Aside0.mk (HP_66.out.below hb)
  have HD_67 := Aside0.mk (HD_66.out.below hb)
  have HX1_67 := Aside0.mk (HX1_66.out.below hb)
  have HX2_67 := Aside0.mk (HX2_66.out.below hb)
  have HY1_67 := Aside0.mk (HY1_66.out.below hb)
  have HY2_67 := Aside0.mk (HY2_66.out.below hb)
  clear hb
  have By_67 := Aside0.mk (blk_new w66 (.cells #[.int .i64 yo, .slice Y1 yw.length ya, .slice Y2 yc.length yb] 24))
  have hz_67 : w66.heap.size < (w66.alloc (.cells #[.int .i64 yo, .slice Y1 yw.length ya, .slice Y2 yc.length yb] 24)).heap.size := blk_lt By_67.out
  generalize (w66.alloc (.cells #[.int .i64 yo, .slice Y1 yw.length ya, .slice Y2 yc.length yb] 24)) = w67 at HB_67 hs_67 Bx_67 By_67 HP_67 HD_67 HX1_67 HX2_67 HY1_67 HY2_67 hz_67 ⊢
  obtain ⟨Ar, cr, hv⟩ := HD_67.out
  have hb4 : Below w67.heap.size w67 w67.drew := below_drew1 (Below.refl _ _)
  have HV := Aside0.mk (hv.below hb4 : RdV 42 _ w67.drew _ _ _ _)
  have HB_68 := Aside0.mk (below_step HB_67.out hb4)
  have hs_68 : w67.heap.size ≤ w67.drew.heap.size := hb4.size
  have Bx_68 := Aside0.mk (blk_below Bx_67.out hb4)
  have By_68 := Aside0.mk (blk_below By_67.out hb4)
  have HP_68 := Aside0.mk (HP_67.out.below hb4)
  have HD_68 := Aside0.mk (HD_67.out.below hb4)
  have HX1_68 := Aside0.mk (HX1_67.out.below hb4)
  have HX2_68 := Aside0.mk (HX2_67.out.below hb4)
  have HY1_68 := Aside0.mk (HY1_67.out.below hb4)
  have HY2_68 := Aside0.mk (HY2_67.out.below hb4)
  clear hb4
  clear hv
  refine start_ (n := 31) (S := fun w' => w'.cell? ⟨w64.heap.size, 0, none⟩ = some (.int .i64 yo) ∧ w'.cell? ⟨w64.heap.size, 1, none⟩ = some (.slice X1 yw.length xa) ∧ w'.cell? ⟨w64.heap.size, 2, none⟩ = some (.slice X2 yc.length xb) ∧ w'.cell? ⟨w66.heap.size, 0, none⟩ = some (.int .i64 yo) ∧ w'.cell? ⟨w66.heap.size, 1, none⟩ = some (.slice Y1 yw.length ya) ∧ w'.cell? ⟨w66.heap.size, 2, none⟩ = some (.slice Y2 yc.length yb) ∧ w'.cell? ⟨w62.heap.size, 0, none⟩ = some (.slice Ar l2.length cr) ∧ w'.cell? ⟨w62.heap.size, 1, none⟩ = some (.bool g2)) (ds := []) #[false, false, false, false, false, false, false, false, false, false, false, false, false, false, false, false, false, false, false, false, false, false, false, false, false, false, false, false, false, false, false] (by kernel_rfl) rfl rfl ⟨(blk_cell Bx_68.out 0).trans rfl, (blk_cell Bx_68.out 1).trans rfl, (blk_cell Bx_68.out 2).trans rfl, (blk_cell By_68.out 0).trans rfl, (blk_cell By_68.out 1).trans rfl, (blk_cell By_68.out 2).trans rfl, HV.out.g0, HV.out.g1⟩ (fun hHeld => ?_); refine with_tabW clb_tab14 clb_bits14 (fun HT_ HW_ => ?_)
  generalize w67.drew = w68 at HB_68 hs_68 Bx_68 By_68 HP_68 HD_68 HX1_68 HX2_68 HY1_68 HY2_68 HV hHeld ⊢
  refine pure_ (i := 0) (N := some 85) (v := ?_) (a' := ?_) #[true, false, false, false, false, false, false, false, false, false, false, false, false, false, false, false, false, false, false, false, false, false, false, false, false, false, false, false, false, false, false] rfl rfl (any_of HT_.out (by kernel_rfl)) (fun _ _ _ h => h) (Or.inl ⟨by rfl, ?_⟩) ?_ ?_
  rotate_left
  · intro w'
    go_simp
    with_reducible rfl
  rotate_left
  · simp only [Act.put, List.setIfInBounds_toArray, List.set_cons_zero, List.set_cons_succ, i64_w, i32_w]
    rfl
  refine pure_ (i := 1) (N := some 86) (v := ?_) (a' := ?_) #[true, true, false, false, false, false, false, false, false, false, false, false, false, false, false, false, false, false, false, false, false, false, false, false, false, false, false, false, false, false, false] rfl rfl (any_of HT_.out (by kernel_rfl)) (fun _ _ _ h => h) (Or.inl ⟨by rfl, ?_⟩) ?_ ?_
  rotate_left
  · intro w'
    go_simp
    with_reducible rfl
  rotate_left
  · simp only [Act.put, List.setIfInBounds_toArray, List.set_cons_zero, List.set_cons_succ, i64_w, i32_w]
    rfl
  refine pure_ (i := 2) (N := some 87) (v := ?_) (a' := ?_) #[true, true, true, false, false, false, false, false, false, false, false, false, false, false, false, false, false, false, false, false, false, false, false, false, false, false, false, false, false, false, false] rfl rfl (any_of HT_.out (by kernel_rfl)) (fun _ _ _ h => h) (Or.inl ⟨by rfl, ?_⟩) ?_ ?_
  rotate_left
  · intro w'
    go_simp
    with_reducible rfl
  rotate_left
  · simp only [Act.put, List.setIfInBounds_toArray, List.set_cons_zero, List.set_cons_succ, i64_w, i32_w]
    rfl
  refine pure_ (i := 3) (N := some 88) (v := ?_) (a' := ?_) #[true, true, true, true, false, false, false, false, false, false, false, false, false, false, false, false, false, false, false, false, false, false, false, false, false, false, false, false, false, false, false] rfl rfl (any_of HT_.out (by kernel_rfl)) (fun _ _ _ h => h) (Or.inl ⟨by rfl, ?_⟩) ?_ ?_
  rotate_left
  · intro w'
    go_simp
    with_reducible rfl
  rotate_left
  · simp only [Act.put, List.setIfInBounds_toArray, List.set_cons_zero, List.set_cons_succ, i64_w, i32_w]
    rfl
  refine take_ (i := 4) (N := some 89) (v := ?_) (a' := ?_) #[true, true, true, true, true, false, false, false, false, false, false, false, false, false, false, false, false, false, false, false, false, false, false, false, false, false, false, false, false, false, false] rfl rfl (take_ofW HT_.out HW_.out (by kernel_rfl)) (fun _ _ _ h => h) (Or.inl ⟨by rfl, ?_⟩) hHeld ?_ ?_
  rotate_left
  · rintro w' ⟨s0, s1, s2, s3, s4, s5, s6, s7⟩
    go_simp
    with_reducible rfl
  rotate_left
  · simp only [Act.put, List.setIfInBounds_toArray, List.set_cons_zero, List.set_cons_succ, i64_w, i32_w]
    rfl
  refine take_ (i := 5) (N := some 90) (v := ?_) (a' := ?_) #[true, true, true, true, true, true, false, false, false, false, false, false, false, false, false, false, false, false, false, false, false, false, false, false, false, false, false, false, false, false, false] rfl rfl (take_ofW HT_.out HW_.out (by kernel_rfl)) (fun _ _ _ h => h) (Or.inl ⟨by rfl, ?_⟩) hHeld ?_ ?_
  rotate_left
  · rintro w' ⟨s0, s1, s2, s3, s4, s5, s6, s7⟩
    go_simp
    with_reducible rfl
  rotate_left
  · simp only [Act.put, List.setIfInBounds_toArray, List.set_cons_zero, List.set_cons_succ, i64_w, i32_w]
    rfl
  refine one_ (i := 6) (N := some 91) #[true, true, true, true, true, true, true, false, false, false, false, false, false, false, false, false, false, false, false, false, false, false, false, false, false, false, false, false, false, false, false] rfl rfl (one_of HT_.out (by kernel_rfl)) (by decide) (fun K hK => ?_)
  refine goes_ Tryz.func13 (by kernel_rfl) rfl #[.agg #[.int .i64 yo, .slice X1 yw.length xa, .slice X2 yc.length xb], .agg #[.int .i64 yo, .slice Y1 yw.length ya, .slice Y2 yc.length yb]] (by rfl) rfl rfl (by (try simp only [List.map_toArray, List.map_cons, List.map_nil]); first | done | rfl) ?_
  refine (rsame_is true yo yo yw yc yw yc X1 X2 Y1 Y2 xa xb ya yb _ HX1_68.out.C HX2_68.out.C HY1_68.out.C HY2_68.out.C HYL.out.1 HYL.out.2 (calSame_self _ _ _)).mono ?_
  rintro e w69 ⟨rfl, q1⟩
  refine ⟨_, rfl, ?_⟩
  have HV := Aside0.mk (HV.out.below q1)
  have HB_69 := Aside0.mk (below_step HB_68.out q1)
  have hs_69 : w68.heap.size ≤ w69.heap.size := q1.size
  have Bx_69 := Aside0.mk (blk_below Bx_68.out q1)
  have By_69 := Aside0.mk (blk_below By_68.out q1)
  have HP_69 := Aside0.mk (HP_68.out.below q1)
  have HD_69 := Aside0.mk (HD_68.out.below q1)
  have HX1_69 := Aside0.mk (HX1_68.out.below q1)
  have HX2_69 := Aside0.mk (HX2_68.out.below q1)
  have HY1_69 := Aside0.mk (HY1_68.out.below q1)
  have HY2_69 := Aside0.mk (HY2_68.out.below q1)
  clear q1
  refine hK.out _ _ ⟨(blk_cell Bx_69.out 0).trans rfl, (blk_cell Bx_69.out 1).trans rfl, (blk_cell Bx_69.out 2).trans rfl, (blk_cell By_69.out 0).trans rfl, (blk_cell By_69.out 1).trans rfl, (blk_cell By_69.out 2).trans rfl, HV.out.g0, HV.out.g1⟩ (fun hHeld => ?_)
  clear hK K
  refine norm_ (a' := ?_) ?_ ?_
  rotate_left
  · show Act.put _ (some 91) _ = _
    simp only [Act.put, List.setIfInBounds_toArray, List.set_cons_zero, List.set_cons_succ, i64_w, i32_w]
    rfl
  refine pure_ (i := 7) (N := some 92) (v := ?_) (a' := ?_) #[true, true, true, true, true, true, true, true, false, false, false, false, false, false, false, false, false, false, false, false, false, false, false, false, false, false, false, false, false, false, false] rfl rfl (any_of HT_.out (by kernel_rfl)) (fun _ _ _ h => h) (Or.inl ⟨by rfl, ?_⟩) ?_ ?_
  rotate_left
  · intro w'
    go_simp
    with_reducible rfl
  rotate_left
  · simp only [Act.put, List.setIfInBounds_toArray, List.set_cons_zero, List.set_cons_succ, i64_w, i32_w]
    rfl
  refine pure_ (i := 8) (N := some 93) (v := ?_) (a' := ?_) #[true, true, true, true, true, true, true, true, true, false, false, false, false, false, false, false, false, false, false, false, false, false, false, false, false, false, false, false, false, false, false] rfl rfl (any_of HT_.out (by kernel_rfl)) (fun _ _ _ h => h) (Or.inl ⟨by rfl, ?_⟩) ?_ ?_
  rotate_left
  · intro w'
    go_simp
    with_reducible rfl
  rotate_left
  · simp only [Act.put, List.setIfInBounds_toArray, List.set_cons_zero, List.set_cons_succ, i64_w, i32_w]
    rfl
  refine pure_ (i := 9) (N := some 94) (v := ?_) (a' := ?_) #[true, true, true, true, true, true, true, true, true, true, false, false, false, false, false, false, false, false, false, false, false, false, false, false, false, false, false, false, false, false, false] rfl rfl (any_of HT_.out (by kernel_rfl)) (fun _ _ _ h => h) (Or.inl ⟨by rfl, ?_⟩) ?_ ?_
  rotate_left
  · intro w'
    go_simp
    with_reducible rfl
  rotate_left
  · simp only [Act.put, List.setIfInBounds_toArray, List.set_cons_zero, List.set_cons_succ, i64_w, i32_w]
    rfl
  refine pure_ (i := 11) (N := some 96) (v := ?_) (a' := ?_) #[true, true, true, true, true, true, true, true, true, true, false, true, false, false, false, false, false, false, false, false, false, false, false, false, false, false, false, false, false, false, false] rfl rfl (any_of HT_.out (by kernel_rfl)) (fun _ _ _ h => h) (Or.inl ⟨by rfl, ?_⟩) ?_ ?_
  rotate_left
  · intro w'
    go_simp
    with_reducible rfl
  rotate_left
  · simp only [Act.put, List.setIfInBounds_toArray, List.set_cons_zero, List.set_cons_succ, i64_w, i32_w]
    rfl
  refine pure_ (i := 12) (N := some 97) (v := ?_) (a' := ?_) #[true, true, true, true, true, true, true, true, true, true, false, true, true, false, false, false, false, false, false, false, false, false, false, false, false, false, false, false, false, false, false] rfl rfl (any_of HT_.out (by kernel_rfl)) (fun _ _ _ h => h) (Or.inl ⟨by rfl, ?_⟩) ?_ ?_
  rotate_left
  · intro w'
    go_simp
    with_reducible rfl
  rotate_left
  · simp only [Act.put, List.setIfInBounds_toArray, List.set_cons_zero, List.set_cons_succ, i64_w, i32_w]
    rfl
  refine pure_ (i := 13) (N := some 98) (v := ?_) (a' := ?_) #[true, true, true, true, true, true, true, true, true, true, false, true, true, true, false, false, false, false, false, false, false, false, false, false, false, false, false, false, false, false, false] rfl rfl (any_of HT_.out (by kernel_rfl)) (fun _ _ _ h => h) (Or.inl ⟨by rfl, ?_⟩) ?_ ?_
  rotate_left
  · intro w'
    go_simp
    with_reducible rfl
  rotate_left
  · simp only [Act.put, List.setIfInBounds_toArray, List.set_cons_zero, List.set_cons_succ, i64_w, i32_w]
    rfl
  refine take_ (i := 14) (N := some 99) (v := ?_) (a' := ?_) #[true, true, true, true, true, true, true, true, true, true, false, true, true, true, true, false, false, false, false, false, false, false, false, false, false, false, false, false, false, false, false] rfl rfl (take_ofW HT_.out HW_.out (by kernel_rfl)) (fun _ _ _ h => h) (Or.inl ⟨by rfl, ?_⟩) hHeld ?_ ?_
  rotate_left
  · rintro w' ⟨s0, s1, s2, s3, s4, s5, s6, s7⟩
    go_simp
    with_reducible rfl
  rotate_left
  · simp only [Act.put, List.setIfInBounds_toArray, List.set_cons_zero, List.set_cons_succ, i64_w, i32_w]
    rfl
  refine pure_ (i := 15) (N := some 100) (v := ?_) (a' := ?_) #[true, true, true, true, true, true, true, true, true, true, false, true, true, true, true, true, false, false, false, false, false, false, false, false, false, false, false, false, false, false, false] rfl rfl (any_of HT_.out (by kernel_rfl)) (fun _ _ _ h => h) (Or.inl ⟨by rfl, ?_⟩) ?_ ?_
  rotate_left
  · intro w'
    go_simp
    with_reducible rfl
  rotate_left
  · simp only [Act.put, List.setIfInBounds_toArray, List.set_cons_zero, List.set_cons_succ, i64_w, i32_w]
    rfl
  refine one_ (i := 10) (N := some 95) #[true, true, true, true, true, true, true, true, true, true, true, true, true, true, true, true, false, false, false, false, false, false, false, false, false, false, false, false, false, false, false] rfl rfl (one_of HT_.out (by kernel_rfl)) (by decide) (fun K hK => ?_)
  refine goes_ Tryz.func21 (by kernel_rfl) rfl #[.pointer (some ⟨w61.heap.size, 0, none⟩)] (by rfl) rfl rfl (by (try simp only [List.map_toArray, List.map_cons, List.map_nil]); first | done | rfl) ?_
  refine (rleft_any _ HP_69.out).mono ?_
  rintro e w9 ⟨rfl, rfl⟩
  refine ⟨_, rfl, ?_⟩
  refine hK.out _ _ ⟨(blk_cell Bx_69.out 0).trans rfl, (blk_cell Bx_69.out 1).trans rfl, (blk_cell Bx_69.out 2).trans rfl, (blk_cell By_69.out 0).trans rfl, (blk_cell By_69.out 1).trans rfl, (blk_cell By_69.out 2).trans rfl, HV.out.g0, HV.out.g1⟩ (fun hHeld => ?_)
  clear hK K
  refine norm_ (a' := ?_) ?_ ?_
  rotate_left
  · show Act.put _ (some 95) _ = _
    simp only [Act.put, List.setIfInBounds_toArray, List.set_cons_zero, List.set_cons_succ, i64_w, i32_w]
    rfl
  refine pure_ (i := 16) (N := some 101) (v := ?_) (a' := ?_) #[true, true, true, true, true, true, true, true, true, true, true, true, true, true, true, true, true, false, false, false, false, false, false, false, false, false, false, false, false, false, false] rfl rfl (any_of HT_.out (by kernel_rfl)) (fun _ _ _ h => h) (Or.inl ⟨by rfl, ?_⟩) ?_ ?_
  rotate_left
  · intro w'
    go_simp
    with_reducible rfl
  rotate_left
  · simp only [Act.put, List.setIfInBounds_toArray, List.set_cons_zero, List.set_cons_succ, i64_w, i32_w]
    rfl
  refine pure_ (i := 17) (N := some 102) (v := ?_) (a' := ?_) #[true, true, true, true, true, true, true, true, true, true, true, true, true, true, true, true, true, true, false, false, false, false, false, false, false, false, false, false, false, false, false] rfl rfl (any_of HT_.out (by kernel_rfl)) (fun _ _ _ h => h) (Or.inl ⟨by rfl, ?_⟩) ?_ ?_
  rotate_left
  · intro w'
    go_simp
    with_reducible rfl
  rotate_left
  · simp only [Act.put, List.setIfInBounds_toArray, List.set_cons_zero, List.set_cons_succ, i64_w, i32_w]
    rfl
  refine pure_ (i := 18) (N := some 103) (v := ?_) (a' := ?_) #[true, true, true, true, true, true, true, true, true, true, true, true, true, true, true, true, true, true, true, false, false, false, false, false, false, false, false, false, false, false, false] rfl rfl (any_of HT_.out (by kernel_rfl)) (fun _ _ _ h => h) (Or.inl ⟨by rfl, ?_⟩) ?_ ?_
  rotate_left
  · intro w'
    go_simp
    with_reducible rfl
  rotate_left
  · simp only [Act.put, List.setIfInBounds_toArray, List.set_cons_zero, List.set_cons_succ, i64_w, i32_w]
    rfl
  refine pure_ (i := 19) (N := some 104) (v := ?_) (a' := ?_) #[true, true, true, true, true, true, true, true, true, true, true, true, true, true, true, true, true, true, true, true, false, false, false, false, false, false, false, false, false, false, false] rfl rfl (any_of HT_.out (by kernel_rfl)) (fun _ _ _ h => h) (Or.inl ⟨by rfl, ?_⟩) ?_ ?_
  rotate_left
  · intro w'
    go_simp
    with_reducible rfl
  rotate_left
  · simp only [Act.put, List.setIfInBounds_toArray, List.set_cons_zero, List.set_cons_succ, i64_w, i32_w]
    rfl
  refine pure_ (i := 21) (N := some 106) (v := ?_) (a' := ?_) #[true, true, true, true, true, true, true, true, true, true, true, true, true, true, true, true, true, true, true, true, false, true, false, false, false, false, false, false, false, false, false] rfl rfl (any_of HT_.out (by kernel_rfl)) (fun _ _ _ h => h) (Or.inl ⟨by rfl, ?_⟩) ?_ ?_
  rotate_left
  · intro w'
    go_simp
    with_reducible rfl
  rotate_left
  · simp only [Act.put, List.setIfInBounds_toArray, List.set_cons_zero, List.set_cons_succ, i64_w, i32_w]
    rfl
  refine pure_ (i := 22) (N := some 107) (v := ?_) (a' := ?_) #[true, true, true, true, true, true, true, true, true, true, true, true, true, true, true, true, true, true, true, true, false, true, true, false, false, false, false, false, false, false, false] rfl rfl (any_of HT_.out (by kernel_rfl)) (fun _ _ _ h => h) (Or.inl ⟨by rfl, ?_⟩) ?_ ?_
  rotate_left
  · intro w'
    go_simp
    with_reducible rfl
  rotate_left
  · simp only [Act.put, List.setIfInBounds_toArray, List.set_cons_zero, List.set_cons_succ, i64_w, i32_w]
    rfl
  refine pure_ (i := 23) (N := some 108) (v := ?_) (a' := ?_) #[true, true, true, true, true, true, true, true, true, true, true, true, true, true, true, true, true, true, true, true, false, true, true, true, false, false, false, false, false, false, false] rfl rfl (any_of HT_.out (by kernel_rfl)) (fun _ _ _ h => h) (Or.inl ⟨by rfl, ?_⟩) ?_ ?_
  rotate_left
  · intro w'
    go_simp
    with_reducible rfl
  rotate_left
  · simp only [Act.put, List.setIfInBounds_toArray, List.set_cons_zero, List.set_cons_succ, i64_w, i32_w]
    rfl
  refine take_ (i := 24) (N := some 109) (v := ?_) (a' := ?_) #[true, true, true, true, true, true, true, true, true, true, true, true, true, true, true, true, true, true, true, true, false, true, true, true, true, false, false, false, false, false, false] rfl rfl (take_ofW HT_.out HW_.out (by kernel_rfl)) (fun _ _ _ h => h) (Or.inl ⟨by rfl, ?_⟩) hHeld ?_ ?_
  rotate_left
  · rintro w' ⟨s0, s1, s2, s3, s4, s5, s6, s7⟩
    go_simp
    with_reducible rfl
  rotate_left
  · simp only [Act.put, List.setIfInBounds_toArray, List.set_cons_zero, List.set_cons_succ, i64_w, i32_w]
    rfl
  refine one_ (i := 20) (N := some 105) #[true, true, true, true, true, true, true, true, true, true, true, true, true, true, true, true, true, true, true, true, true, true, true, true, true, false, false, false, false, false, false] rfl rfl (one_of HT_.out (by kernel_rfl)) (by decide) (fun K hK => ?_)
  refine goes_ Tryz.func22 (by kernel_rfl) rfl #[.pointer (some ⟨w61.heap.size, 0, none⟩)] (by rfl) rfl rfl (by (try simp only [List.map_toArray, List.map_cons, List.map_nil]); first | done | rfl) ?_
  refine (rbad_any _ HP_69.out).mono ?_
  rintro e w9 ⟨rfl, rfl⟩
  refine ⟨_, rfl, ?_⟩
  refine hK.out _ _ ⟨(blk_cell Bx_69.out 0).trans rfl, (blk_cell Bx_69.out 1).trans rfl, (blk_cell Bx_69.out 2).trans rfl, (blk_cell By_69.out 0).trans rfl, (blk_cell By_69.out 1).trans rfl, (blk_cell By_69.out 2).trans rfl, HV.out.g0, HV.out.g1⟩ (fun hHeld => ?_)
  clear hK K
  refine norm_ (a' := ?_) ?_ ?_
  rotate_left
  · show Act.put _ (some 105) _ = _
    simp only [Act.put, List.setIfInBounds_toArray, List.set_cons_zero, List.set_cons_succ, i64_w, i32_w]
    rfl
  refine pure_ (i := 25) (N := some 110) (v := ?_) (a' := ?_) #[true, true, true, true, true, true, true, true, true, true, true, true, true, true, true, true, true, true, true, true, true, true, true, true, true, true, false, false, false, false, false] rfl rfl (any_of HT_.out (by kernel_rfl)) (fun _ _ _ h => h) (Or.inl ⟨by rfl, ?_⟩) ?_ ?_
  rotate_left
  · intro w'
    go_simp
    with_reducible rfl
  rotate_left
  · simp only [Act.put, List.setIfInBounds_toArray, List.set_cons_zero, List.set_cons_succ, i64_w, i32_w]
    rfl
  refine pure_ (i := 26) (N := some 111) (v := ?_) (a' := ?_) #[true, true, true, true, true, true, true, true, true, true, true, true, true, true, true, true, true, true, true, true, true, true, true, true, true, true, true, false, false, false, false] rfl rfl (any_of HT_.out (by kernel_rfl)) (fun _ _ _ h => h) (Or.inl ⟨by rfl, ?_⟩) ?_ ?_
  rotate_left
  · intro w'
    go_simp
    with_reducible rfl
  rotate_left
  · simp only [Act.put, List.setIfInBounds_toArray, List.set_cons_zero, List.set_cons_succ, i64_w, i32_w]
    rfl
  refine pure_ (i := 27) (N := some 112) (v := ?_) (a' := ?_) #[true, true, true, true, true, true, true, true, true, true, true, true, true, true, true, true, true, true, true, true, true, true, true, true, true, true, true, true, false, false, false] rfl rfl (any_of HT_.out (by kernel_rfl)) (fun _ _ _ h => h) (Or.inl ⟨by rfl, ?_⟩) ?_ ?_
  rotate_left
  · intro w'
    go_simp
    with_reducible rfl
  rotate_left
  · simp only [Act.put, List.setIfInBounds_toArray, List.set_cons_zero, List.set_cons_succ, i64_w, i32_w]
    rfl
  refine one_ (i := 28) (N := some 113) #[true, true, true, true, true, true, true, true, true, true, true, true, true, true, true, true, true, true, true, true, true, true, true, true, true, true, true, true, true, false, false] rfl rfl (one_of HT_.out (by kernel_rfl)) (by decide) (fun K hK => ?_)
  refine goes_ Tryz.func11 (by kernel_rfl) rfl #[] (by rfl) rfl rfl (by (try simp only [List.map_toArray, List.map_cons, List.map_nil]); first | done | rfl) ?_
  refine (lives_any _).mono ?_
  rintro e w70 ⟨rfl, q1⟩
  refine ⟨_, rfl, ?_⟩
  have HV := Aside0.mk (HV.out.below q1)
  have HB_70 := Aside0.mk (below_step HB_69.out q1)
  have hs_70 : w69.heap.size ≤ w70.heap.size := q1.size
  have Bx_70 := Aside0.mk (blk_below Bx_69.out q1)
  have By_70 := Aside0.mk (blk_below By_69.out q1)
  have HP_70 := Aside0.mk (HP_69.out.below q1)
  have HD_70 := Aside0.mk (HD_69.out.below q1)
  have HX1_70 := Aside0.mk (HX1_69.out.below q1)
  have HX2_70 := Aside0.mk (HX2_69.out.below q1)
  have HY1_70 := Aside0.mk (HY1_69.out.below q1)
  have HY2_70 := Aside0.mk (HY2_69.out.below q1)
  clear q1
  refine hK.out _ _ ⟨(blk_cell Bx_70.out 0).trans rfl, (blk_cell Bx_70.out 1).trans rfl, (blk_cell Bx_70.out 2).trans rfl, (blk_cell By_70.out 0).trans rfl, (blk_cell By_70.out 1).trans rfl, (blk_cell By_70.out 2).trans rfl, HV.out.g0, HV.out.g1⟩ (fun hHeld => ?_)
  clear hK K
  refine norm_ (a' := ?_) ?_ ?_
  rotate_left
  · show Act.put _ (some 113) _ = _
    simp only [Act.put, List.setIfInBounds_toArray, List.set_cons_zero, List.set_cons_succ, i64_w, i32_w]
    rfl
  refine pure_ (i := 29) (N := some 114) (v := ?_) (a' := ?_) #[true, true, true, true, true, true, true, true, true, true, true, true, true, true, true, true, true, true, true, true, true, true, true, true, true, true, true, true, true, true, false] rfl rfl (any_of HT_.out (by kernel_rfl)) (fun _ _ _ h => h) (Or.inl ⟨by rfl, ?_⟩) ?_ ?_
  rotate_left
  · intro w'
    go_simp
    with_reducible rfl
  rotate_left
  · simp only [Act.put, List.setIfInBounds_toArray, List.set_cons_zero, List.set_cons_succ, i64_w, i32_w]
    rfl
  refine pure_ (i := 30) (N := some 6) (v := ?_) (a' := ?_) #[true, true, true, true, true, true, true, true, true, true, true, true, true, true, true, true, true, true, true, true, true, true, true, true, true, true, true, true, true, true, true] rfl rfl (any_of HT_.out (by kernel_rfl)) (fun _ _ _ h => h) (Or.inl ⟨by rfl, ?_⟩) ?_ ?_
  rotate_left
  · intro w'
    go_simp
    with_reducible rfl
  rotate_left
  · simp only [Act.put, List.setIfInBounds_toArray, List.set_cons_zero, List.set_cons_succ, i64_w, i32_w]
    rfl
  refine done_ (done_of HT_.out (by kernel_rfl)) ?_
  clear HT_ HW_ hHeld
  go_wp2
  go_ret
  exact ⟨rfl, HB_70.out⟩
theorem calbytes_any {o1 o2 : Int} {p1 c1 p2 c2 : List S114} {A1 C1 A2 C2 : Option Addr} {b1 d1 b2 d2 : Nat} {bs : List Int} {AB : Option Addr} {cB : Nat} (w : World) (ha1 : Kd.C k114 w A1 p1.length p1 ∧ p1.length ≤ b1) (hc1 : Kd.C k114 w C1 c1.length c1 ∧ c1.length ≤ d1) (ha2 : Kd.C k114 w A2 p2.length p2 ∧ p2.length ≤ b2) (hc2 : Kd.C k114 w C2 c2.length c2 ∧ c2.length ≤ d2) (hb : Kd.C (Kd.int .u8) w AB bs.length bs ∧ bs.length ≤ cB) (hby : ∀ x, x ∈ bs → 0 ≤ x ∧ x ≤ 255) (hfa : ∀ ad, AB = some ad → ad.block < w.heap.size) : Calls Tryz.prog 3 #[.agg #[.int .i64 o1, .slice A1 p1.length b1, .slice C1 c1.length d1], .agg #[.int .i64 o2, .slice A2 p2.length b2, .slice C2 c2.length d2], .slice AB bs.length cB] w fun e w' => e = .returned (.bool true) ∧ Below w.heap.size w w' := by
  cases hl1 : lightQ p1 c1 with
  | false => exact clb_l1 w ha1 hc1 ha2 hc2 hb hby hfa hl1
  | true =>
    cases hl2 : lightQ p2 c2 with
    | false => exact clb_l2 w ha1 hc1 ha2 hc2 hb hby hfa hl1 hl2
    | true =>
      by_cases hx : (3000 : Int) < bs.length
      · exact clb_l3 w ha1 hc1 ha2 hc2 hb hby hfa hl1 hl2 hx
      · by_cases he : calErr o1 p1 c1 = 0
        · exact clb_yes w ha1 hc1 ha2 hc2 hb hby hfa hl1 hl2 hx _ rfl he
        · exact clb_no w ha1 hc1 ha2 hc2 hb hby hfa hl1 hl2 hx _ rfl he
end Go.Proofs.YtepldlnmeenlbaaGreat.Own
namespace Go.Proofs.YtepldlnmeenlbaaGreat.Own
open Go.RowKit Go.Proofs Go.Proofs.YtepldlnmeenlbaaGreatW.PrintWords Go.Proofs.YtepldlnmeenlbaaGreatW.PrintLast Go.Proofs.YtepldlnmeenlbaaGreatW.PrintMore Go.Proofs.YtepldlnmeenlbaaGreat.Base
open Go.ChangeShapes Go.WideShapes Go.ChangeAt Go.Joins Go.Deep
theorem calCells : Tryz.prog.cellsOf 24 = 3 := by kernel_rfl
theorem ownKnob_none : ownKnob Tryz.prog.godebug = none := by kernel_rfl
theorem laidOut : laidOutB Tryz.prog = true := by kernel_rfl
def intOf : Value → Int
  | .int _ x => x
  | _ => 0
set_option maxRecDepth 100000 in
theorem spans_open {H : Type} {enc : TypeId × Value → H} {W : World} {spare : Nat → Bool} {held : Bool} {fuel : Nat} {v : Value} {x : DataW H × List MemPlace} (h : DataW.trod enc Tryz.prog W 0 spare held fuel 22 [v] = some x) :
    ∃ (A : Option Addr) (c : Nat) (l : List S114), v = .slice A l.length c ∧ l.length ≤ c ∧ Kd.C k114 W A l.length l := by
  rcases open_slice_pairs Tryz.underlying22 Tryz.underlying114 (by kernel_rfl) (by rfl) (by rfl) (by kernel_rfl) (by kernel_rfl) h with ⟨hcs, _⟩ | ⟨a, len, cap, m, n, V0, V1, D0, D1, P0, P1, hcs, _, hl, hm, hmm, _, hx⟩
  · injection hcs with hv
    exact ⟨none, 0, [], hv, Nat.le_refl _, ⟨rfl, by decide, fun h => absurd h (by simp)⟩⟩
  · injection hcs with hv
    have hlm : len ≤ m := by rw [hmm]; split <;> omega
    have hint : ∀ i, i < len → V0 i = .int .i64 (intOf (V0 i)) ∧ V1 i = .int .i64 (intOf (V1 i)) := fun i hi => by
      obtain ⟨_, _, t0, t1⟩ := hx i (by omega)
      obtain ⟨a0, e0, _, _⟩ := DataW.trod_int Tryz.underlying2 t0
      obtain ⟨a1, e1, _, _⟩ := DataW.trod_int Tryz.underlying2 t1
      simp at e0 e1
      rw [e0, e1]
      exact ⟨rfl, rfl⟩
    refine ⟨some a, cap, (List.range len).map fun i => ⟨intOf (V0 i), intOf (V1 i)⟩, by simpa using hv, by simpa using hl, ?_⟩
    refine ⟨rfl, by simp; unfold maxLen at hm; omega, fun _ => ⟨a, rfl, fun j p hp => ?_⟩⟩
    have hj : j < len := by
      rcases Nat.lt_or_ge j len with h | h
      · exact h
      · rw [List.getElem?_eq_none (by simpa using h)] at hp; cases hp
    rw [List.getElem?_map, List.getElem?_range hj] at hp
    injection hp with hp
    subst hp
    obtain ⟨c0, c1, _, _⟩ := hx j (by omega)
    refine ⟨[V0 j, V1 j], rfl, ?_, fun i u hu => ?_⟩
    · rw [(hint j hj).1, (hint j hj).2]
      exact k114_mk W ⟨intOf (V0 j), intOf (V1 j)⟩
    · match i, hu with
      | 0, hu => injection hu with hu; subst hu; exact c0
      | 1, hu => injection hu with hu; subst hu; exact c1
      | (n + 2), hu => cases hu
set_option maxRecDepth 100000 in
theorem cal_open {H : Type} {enc : TypeId × Value → H} {W : World} {spare : Nat → Bool} {held : Bool} {r : Reach} {b0 : Nat} {v : Value} {d : DataW H} {p : List MemPlace} (hv : Value.okWide Tryz.prog W r b0 24 v) (h : DataW.Trod enc Tryz.prog W 0 spare held 24 v d p) :
    ∃ (off : Int) (A1 A2 : Option Addr) (c1 c2 : Nat) (week closed : List S114), v = .agg #[.int .i64 off, .slice A1 week.length c1, .slice A2 closed.length c2] ∧ (Kd.C k114 W A1 week.length week ∧ week.length ≤ c1) ∧ (Kd.C k114 W A2 closed.length closed ∧ closed.length ≤ c2) := by
  obtain ⟨v0, v1, v2, y0, y1, y2, m, rfl, _, _, t0, t1, t2⟩ := open_agg3 Tryz.underlying24 (by kernel_rfl) calCells hv h
  obtain ⟨a0, e0, _, _⟩ := DataW.trod_int Tryz.underlying2 t0
  obtain ⟨A1, c1, week, rfl, hl1, hc1⟩ := spans_open t1
  obtain ⟨A2, c2, closed, rfl, hl2, hc2⟩ := spans_open t2
  simp at e0
  subst e0
  exact ⟨a0, A1, A2, c1, c2, week, closed, rfl, ⟨hc1, hl1⟩, ⟨hc2, hl2⟩⟩
end Go.Proofs.YtepldlnmeenlbaaGreat.Own
namespace Go.Proofs.YtepldlnmeenlbaaGreat.Own
open Go.RowKit Go.Proofs Go.Proofs.YtepldlnmeenlbaaGreatW.PrintWords Go.Proofs.YtepldlnmeenlbaaGreatW.PrintLast Go.Proofs.YtepldlnmeenlbaaGreatW.PrintMore Go.Proofs.YtepldlnmeenlbaaGreat.Base
open Go.ChangeShapes Go.WideShapes Go.ChangeAt Go.Joins Go.Deep
theorem wf_u8 {x : Int} (h : (Lit.int .u8 x).wf = true) : 0 ≤ x ∧ x ≤ 255 := by
  have h2 : IntKind.u8.min ≤ x ∧ x ≤ IntKind.u8.max := by simpa [Lit.wf] using h
  exact ⟨h2.1, h2.2⟩
set_option maxRecDepth 100000 in
theorem bytes_open {H : Type} {enc : TypeId × Value → H} {W : World} {spare : Nat → Bool} {held : Bool} {r : Reach} {b0 : Nat} {v : Value} {d : DataW H} {p : List MemPlace} (hv : Value.okWide Tryz.prog W r b0 25 v) (h : DataW.Trod enc Tryz.prog W 0 spare held 25 v d p) :
    ∃ (A : Option Addr) (c : Nat) (l : List Int), v = .slice A l.length c ∧ (Kd.C (Kd.int .u8) W A l.length l ∧ l.length ≤ c) ∧ (∀ x, x ∈ l → 0 ≤ x ∧ x ≤ 255) ∧ (∀ ad, A = some ad → ad.block < W.heap.size) := by
  obtain ⟨fuel, hf⟩ := h
  obtain ⟨a0, len0, cap0, rfl⟩ := okWide_slice Tryz.underlying25 hv
  rcases open_ints Tryz.underlying25 Tryz.underlying5 (by kernel_rfl) (by simpa [Value.cells] using hf) with ⟨hcs, _⟩ | ⟨a, len, cap, zs, hcs, _, hl, hm, hz, _, hx, hw⟩
  · injection hcs with h1 _
    cases h1
    exact ⟨none, 0, [], rfl, ⟨⟨rfl, by decide, fun h => absurd h (by simp)⟩, Nat.le_refl _⟩, fun x hx => by (cases hx), fun _ e => by (cases e)⟩
  · injection hcs with h1 _
    cases h1
    have hzl : len0 ≤ zs.length := by rw [hz]; split <;> omega
    have hlt : (zs.take len0).length = len0 := by rw [List.length_take]; omega
    refine ⟨some a, cap0, zs.take len0, by rw [hlt], ⟨⟨rfl, by rw [hlt]; unfold maxLen at hm; omega, fun _ => ⟨a, rfl, fun j p hp => ?_⟩⟩, by rw [hlt]; exact hl⟩, fun x hx2 => wf_u8 (hw x (List.mem_of_mem_take hx2)), fun ad e => ?_⟩
    · have hj : j < len0 := by
        rcases Nat.lt_or_ge j len0 with h | h
        · exact h
        · rw [List.getElem?_eq_none (by omega)] at hp; cases hp
      rw [List.getElem?_take_of_lt hj] at hp
      have hc := hx j (by omega)
      rw [List.getD_eq_getElem?_getD, hp] at hc
      refine ⟨[.int .u8 p], rfl, rfl, fun i u hu => ?_⟩
      match i, hu with
      | 0, hu => injection hu with hu; subst hu; show W.cell? (a.add (j * 1 + 0)) = _; simpa using hc
      | (n + 1), hu => cases hu
    · injection e with e
      subst e
      have hk : Cell.ok Tryz.prog W r b0 25 (.slice (some a) len0 cap0) := by
        have := hv
        unfold Value.okWide at this
        rw [Tryz.underlying25] at this
        unfold Cell.okWide at this
        rw [Tryz.underlying25] at this
        exact this
      unfold Cell.ok at hk
      rw [Tryz.underlying25] at hk
      obtain ⟨_, _, _, _, row, cells, hs, _⟩ := hk
      unfold World.shape? at hs
      rcases Nat.lt_or_ge a.block W.heap.size with h | h
      · exact h
      · rw [Array.getElem?_eq_none h] at hs; cases hs
end Go.Proofs.YtepldlnmeenlbaaGreat.Own
