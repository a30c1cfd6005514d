/-
  No cell of these rows narrows 'for every input' (looked for: loops, veiled, ifaces, maps, wideKeys, modest, calm, conditions, laid).
  DERIVED. THE GIVEN ROWS OF THIS SEAT. 7 by the template 'for every input the law returns true; each argument reads behind the call as it read before'; 0 by the template 'total and deterministic' (their statements: YtepldlnmeenlbaaGreatTotals.lean).
  GIVEN WITH THE SEED: the statements are not yours to turn. If you find one false, say at which input.
  Laid BY PROGRAM, IN A SANDBOX (cutbox-rows.mjs): the forced cells as the released guide's own fill.sh prints them over the translation 72aae111a88d58de… (all of the seat's roots in one cut). By AI agents, Wed Nov 11 2026. No macro, syntax, notation, axiom, sorry.
-/
import Derived.Test.YtepldlnmeenlbaaGreatChecked
import GoSem.Claim
import GoSem.ClaimJoined
import GoSem.ClaimMapViews
import Derived.JoinedTies
import Derived.KernelRfl
namespace Go.Proofs.YtepldlnmeenlbaaGreat
/- THE CELL 'sum', in the pinned program and in every row, IS THE sha256 OF THE DUMP (.gsa) THAT YtepldlnmeenlbaaGreatProg.lean LOADS. Nothing in Lean hashes anything: it is a label: what it is worth is what the hold of that sum in a sandbox is worth. -/
noncomputable def Tryz.pinned : Pinned := { name := "ytepldlnmeenlbaagreat", sum := "72aae111a88d58de79cc472f8419f44783e9958d650f719de5d6c7eafc31ec70", checked := Tryz.checked }
namespace Rows
def none {H : Type} : Left H := { results := [], args := [] }

/-- 'curfewlaw10.CalendarBytes': WHATEVER THE INPUT: true; the input reads as it did. -/
def calendarBytesSpec : ChangeSpec := { name := "calendarBytes", fn := fun _ => fun
  | [d1, d2, d3] => { results := [.lit (.bool true)], args := [d1, d2, d3] }
  | _ => none }
def calendarBytesRow : OpenClaim := { program := "ytepldlnmeenlbaagreat", sum := "72aae111a88d58de79cc472f8419f44783e9958d650f719de5d6c7eafc31ec70", func := "curfew/curfewlaw10.CalendarBytes", spec := "calendarBytes", inPlace := ["sync/atomic.AddInt64", "sync/atomic.StoreUint32", "sync/atomic.LoadUint32", "(*internal/sync.Mutex).Lock", "internal/race.Disable", "sync/atomic.CompareAndSwapInt32", "internal/race.Enable", "internal/race.Acquire", "(*internal/sync.Mutex).lockSlow", "internal/sync.runtime_canSpin", "internal/sync.runtime_doSpin", "internal/sync.throw", "internal/sync.runtime_nanotime", "internal/sync.runtime_SemacquireMutex", "sync/atomic.AddInt32", "(*internal/sync.Mutex).Unlock", "internal/race.ReleaseMerge", "(*internal/sync.Mutex).unlockSlow", "internal/sync.fatal", "internal/sync.runtime_Semrelease"], unfollowed := true, recurses := true, apart := false }
def CalendarBytesSaid : Prop := calendarBytesRow.holds Tryz.pinned (OpenSpec.ofChange calendarBytesSpec)

/-- ITS FALSE NEIGHBOUR: 'it returns false'. Refute it at one input. -/
def calendarBytesWrong : ChangeSpec := { name := "calendarBytes", fn := fun _ => fun
  | [d1, d2, d3] => { results := [.lit (.bool false)], args := [d1, d2, d3] }
  | _ => none }
def CalendarBytesWrongFalsely : Prop := calendarBytesRow.holds Tryz.pinned (OpenSpec.ofChange calendarBytesWrong)

/-- 'curfewlaw14.ContractBytes': WHATEVER THE INPUT: true; the input reads as it did. -/
def contractBytesSpec : ChangeSpec := { name := "contractBytes", fn := fun _ => fun
  | [d1, d2, d3] => { results := [.lit (.bool true)], args := [d1, d2, d3] }
  | _ => none }
def contractBytesRow : OpenClaim := { program := "ytepldlnmeenlbaagreat", sum := "72aae111a88d58de79cc472f8419f44783e9958d650f719de5d6c7eafc31ec70", func := "curfew/curfewlaw14.ContractBytes", spec := "contractBytes", inPlace := ["sync/atomic.AddInt64", "sync/atomic.StoreUint32", "sync/atomic.LoadUint32", "(*internal/sync.Mutex).Lock", "internal/race.Disable", "sync/atomic.CompareAndSwapInt32", "internal/race.Enable", "internal/race.Acquire", "(*internal/sync.Mutex).lockSlow", "internal/sync.runtime_canSpin", "internal/sync.runtime_doSpin", "internal/sync.throw", "internal/sync.runtime_nanotime", "internal/sync.runtime_SemacquireMutex", "sync/atomic.AddInt32", "(*internal/sync.Mutex).Unlock", "internal/race.ReleaseMerge", "(*internal/sync.Mutex).unlockSlow", "internal/sync.fatal", "internal/sync.runtime_Semrelease"], unfollowed := true, recurses := true, apart := false }
def ContractBytesSaid : Prop := contractBytesRow.holds Tryz.pinned (OpenSpec.ofChange contractBytesSpec)

/-- ITS FALSE NEIGHBOUR: 'it returns false'. Refute it at one input. -/
def contractBytesWrong : ChangeSpec := { name := "contractBytes", fn := fun _ => fun
  | [d1, d2, d3] => { results := [.lit (.bool false)], args := [d1, d2, d3] }
  | _ => none }
def ContractBytesWrongFalsely : Prop := contractBytesRow.holds Tryz.pinned (OpenSpec.ofChange contractBytesWrong)

/-- 'curfewlaw15.ChainPlans': WHATEVER THE INPUT: true; the input reads as it did. -/
def chainPlansSpec : ChangeSpec := { name := "chainPlans", fn := fun _ => fun
  | [d1, d2, d3] => { results := [.lit (.bool true)], args := [d1, d2, d3] }
  | _ => none }
def chainPlansRow : OpenClaim := { program := "ytepldlnmeenlbaagreat", sum := "72aae111a88d58de79cc472f8419f44783e9958d650f719de5d6c7eafc31ec70", func := "curfew/curfewlaw15.ChainPlans", spec := "chainPlans", inPlace := ["sync/atomic.AddInt64", "sync/atomic.StoreUint32", "sync/atomic.LoadUint32", "(*internal/sync.Mutex).Lock", "internal/race.Disable", "sync/atomic.CompareAndSwapInt32", "internal/race.Enable", "internal/race.Acquire", "(*internal/sync.Mutex).lockSlow", "internal/sync.runtime_canSpin", "internal/sync.runtime_doSpin", "internal/sync.throw", "internal/sync.runtime_nanotime", "internal/sync.runtime_SemacquireMutex", "sync/atomic.AddInt32", "(*internal/sync.Mutex).Unlock", "internal/race.ReleaseMerge", "(*internal/sync.Mutex).unlockSlow", "internal/sync.fatal", "internal/sync.runtime_Semrelease"], unfollowed := true, recurses := true, apart := false }
def ChainPlansSaid : Prop := chainPlansRow.holds Tryz.pinned (OpenSpec.ofChange chainPlansSpec)

/-- ITS FALSE NEIGHBOUR: 'it returns false'. Refute it at one input. -/
def chainPlansWrong : ChangeSpec := { name := "chainPlans", fn := fun _ => fun
  | [d1, d2, d3] => { results := [.lit (.bool false)], args := [d1, d2, d3] }
  | _ => none }
def ChainPlansWrongFalsely : Prop := chainPlansRow.holds Tryz.pinned (OpenSpec.ofChange chainPlansWrong)

/-- 'curfewlaw14.ContractReads': WHATEVER THE INPUT: true; the input reads as it did. -/
def contractReadsSpec : ChangeSpec := { name := "contractReads", fn := fun _ => fun
  | [d1, d2] => { results := [.lit (.bool true)], args := [d1, d2] }
  | _ => none }
def contractReadsRow : OpenClaim := { program := "ytepldlnmeenlbaagreat", sum := "72aae111a88d58de79cc472f8419f44783e9958d650f719de5d6c7eafc31ec70", func := "curfew/curfewlaw14.ContractReads", spec := "contractReads", inPlace := ["sync/atomic.AddInt64", "sync/atomic.StoreUint32", "sync/atomic.LoadUint32", "(*internal/sync.Mutex).Lock", "internal/race.Disable", "sync/atomic.CompareAndSwapInt32", "internal/race.Enable", "internal/race.Acquire", "(*internal/sync.Mutex).lockSlow", "internal/sync.runtime_canSpin", "internal/sync.runtime_doSpin", "internal/sync.throw", "internal/sync.runtime_nanotime", "internal/sync.runtime_SemacquireMutex", "sync/atomic.AddInt32", "(*internal/sync.Mutex).Unlock", "internal/race.ReleaseMerge", "(*internal/sync.Mutex).unlockSlow", "internal/sync.fatal", "internal/sync.runtime_Semrelease"], unfollowed := true, recurses := true, apart := false }
def ContractReadsSaid : Prop := contractReadsRow.holds Tryz.pinned (OpenSpec.ofChange contractReadsSpec)

/-- ITS FALSE NEIGHBOUR: 'it returns false'. Refute it at one input. -/
def contractReadsWrong : ChangeSpec := { name := "contractReads", fn := fun _ => fun
  | [d1, d2] => { results := [.lit (.bool false)], args := [d1, d2] }
  | _ => none }
def ContractReadsWrongFalsely : Prop := contractReadsRow.holds Tryz.pinned (OpenSpec.ofChange contractReadsWrong)

/-- 'curfewlaw14.ContractShelf': WHATEVER THE INPUT: true; the input reads as it did. -/
def contractShelfSpec : ChangeSpec := { name := "contractShelf", fn := fun _ => fun
  | [d1, d2] => { results := [.lit (.bool true)], args := [d1, d2] }
  | _ => none }
def contractShelfRow : OpenClaim := { program := "ytepldlnmeenlbaagreat", sum := "72aae111a88d58de79cc472f8419f44783e9958d650f719de5d6c7eafc31ec70", func := "curfew/curfewlaw14.ContractShelf", spec := "contractShelf", inPlace := ["sync/atomic.AddInt64", "sync/atomic.StoreUint32", "sync/atomic.LoadUint32", "(*internal/sync.Mutex).Lock", "internal/race.Disable", "sync/atomic.CompareAndSwapInt32", "internal/race.Enable", "internal/race.Acquire", "(*internal/sync.Mutex).lockSlow", "internal/sync.runtime_canSpin", "internal/sync.runtime_doSpin", "internal/sync.throw", "internal/sync.runtime_nanotime", "internal/sync.runtime_SemacquireMutex", "sync/atomic.AddInt32", "(*internal/sync.Mutex).Unlock", "internal/race.ReleaseMerge", "(*internal/sync.Mutex).unlockSlow", "internal/sync.fatal", "internal/sync.runtime_Semrelease"], unfollowed := true, recurses := true, apart := false }
def ContractShelfSaid : Prop := contractShelfRow.holds Tryz.pinned (OpenSpec.ofChange contractShelfSpec)

/-- ITS FALSE NEIGHBOUR: 'it returns false'. Refute it at one input. -/
def contractShelfWrong : ChangeSpec := { name := "contractShelf", fn := fun _ => fun
  | [d1, d2] => { results := [.lit (.bool false)], args := [d1, d2] }
  | _ => none }
def ContractShelfWrongFalsely : Prop := contractShelfRow.holds Tryz.pinned (OpenSpec.ofChange contractShelfWrong)

/-- 'curfewlaw14.ContractNobody': WHATEVER THE INPUT: true; the input reads as it did. -/
def contractNobodySpec : ChangeSpec := { name := "contractNobody", fn := fun _ => fun
  | [d] => { results := [.lit (.bool true)], args := [d] }
  | _ => none }
def contractNobodyRow : OpenClaim := { program := "ytepldlnmeenlbaagreat", sum := "72aae111a88d58de79cc472f8419f44783e9958d650f719de5d6c7eafc31ec70", func := "curfew/curfewlaw14.ContractNobody", spec := "contractNobody", inPlace := ["sync/atomic.AddInt64", "sync/atomic.StoreUint32", "sync/atomic.LoadUint32", "(*internal/sync.Mutex).Lock", "internal/race.Disable", "sync/atomic.CompareAndSwapInt32", "internal/race.Enable", "internal/race.Acquire", "(*internal/sync.Mutex).lockSlow", "internal/sync.runtime_canSpin", "internal/sync.runtime_doSpin", "internal/sync.throw", "internal/sync.runtime_nanotime", "internal/sync.runtime_SemacquireMutex", "sync/atomic.AddInt32", "(*internal/sync.Mutex).Unlock", "internal/race.ReleaseMerge", "(*internal/sync.Mutex).unlockSlow", "internal/sync.fatal", "internal/sync.runtime_Semrelease", "maps.clone"], unfollowed := true, recurses := true, apart := false }
def ContractNobodySaid : Prop := contractNobodyRow.holds Tryz.pinned (OpenSpec.ofChange contractNobodySpec)

/-- ITS FALSE NEIGHBOUR: 'it returns false'. Refute it at one input. -/
def contractNobodyWrong : ChangeSpec := { name := "contractNobody", fn := fun _ => fun
  | [d] => { results := [.lit (.bool false)], args := [d] }
  | _ => none }
def ContractNobodyWrongFalsely : Prop := contractNobodyRow.holds Tryz.pinned (OpenSpec.ofChange contractNobodyWrong)

/-- 'curfewlaw14.ContractApart': WHATEVER THE INPUT: true; the input reads as it did. -/
def contractApartSpec : ChangeSpec := { name := "contractApart", fn := fun _ => fun
  | [d1, d2, d3] => { results := [.lit (.bool true)], args := [d1, d2, d3] }
  | _ => none }
def contractApartRow : OpenClaim := { program := "ytepldlnmeenlbaagreat", sum := "72aae111a88d58de79cc472f8419f44783e9958d650f719de5d6c7eafc31ec70", func := "curfew/curfewlaw14.ContractApart", spec := "contractApart", inPlace := ["sync/atomic.AddInt64", "sync/atomic.StoreUint32", "sync/atomic.LoadUint32", "(*internal/sync.Mutex).Lock", "internal/race.Disable", "sync/atomic.CompareAndSwapInt32", "internal/race.Enable", "internal/race.Acquire", "(*internal/sync.Mutex).lockSlow", "internal/sync.runtime_canSpin", "internal/sync.runtime_doSpin", "internal/sync.throw", "internal/sync.runtime_nanotime", "internal/sync.runtime_SemacquireMutex", "sync/atomic.AddInt32", "(*internal/sync.Mutex).Unlock", "internal/race.ReleaseMerge", "(*internal/sync.Mutex).unlockSlow", "internal/sync.fatal", "internal/sync.runtime_Semrelease", "maps.clone"], unfollowed := true, recurses := true, apart := false }
def ContractApartSaid : Prop := contractApartRow.holds Tryz.pinned (OpenSpec.ofChange contractApartSpec)

/-- ITS FALSE NEIGHBOUR: 'it returns false'. Refute it at one input. -/
def contractApartWrong : ChangeSpec := { name := "contractApart", fn := fun _ => fun
  | [d1, d2, d3] => { results := [.lit (.bool false)], args := [d1, d2, d3] }
  | _ => none }
def ContractApartWrongFalsely : Prop := contractApartRow.holds Tryz.pinned (OpenSpec.ofChange contractApartWrong)

/- THE SECOND FORM. 'bulk': how many values and letters a reading holds, each counted each time it is reached (what is shared counts as often as it is met; a slice's spare places count too). A statement '..UptoSaid' is the law's where the arguments, and the package variables that the reading takes, are together of bulk at most 1048576: NARROWER than '..Said'. Prove '..Said' where nothing that the law and all that it calls make is longer than what came in: it says more and counts as full. Else prove '..UptoSaid'. A law counts once. -/
mutual
def uptoBulk {H : Type} : DataW H → Nat
  | .lit (.string bytes) => bytes.length + 1
  | .lit _ => 1
  | .nil => 1
  | .ptr d => uptoBulk d + 1
  | .slice elems spare => uptoBulkAll elems + uptoBulkAll spare + 1
  | .agg parts => uptoBulkAll parts + 1
  | .iface _ d => uptoBulk d + 1
  | .map entries => uptoBulkEntries entries + 1
  | .held _ => 1
def uptoBulkAll {H : Type} : List (DataW H) → Nat
  | [] => 0
  | d :: r => uptoBulk d + uptoBulkAll r
def uptoBulkEntries {H : Type} : List (Lit × DataW H) → Nat
  | [] => 0
  | x :: r => uptoBulkEntry x + uptoBulkEntries r
def uptoBulkEntry {H : Type} : Lit × DataW H → Nat
  | (.string bytes, d) => bytes.length + uptoBulk d + 1
  | (_, d) => uptoBulk d + 1
 end
def uptoSmall : (H : Type) → List (DataW H) → Bool := fun _ ds => decide (uptoBulkAll ds ≤ 1048576)
def OpenSpec.upto (s : _root_.Go.ChangeSpec) : _root_.Go.OpenSpec := { _root_.Go.OpenSpec.ofChange s with cond := some uptoSmall }

/-- 'curfewlaw10.CalendarBytes', WHERE WHAT IT READS IS OF BULK AT MOST 1048576: true; the input reads as it did. -/
def calendarBytesUptoRow : OpenClaim := { program := "ytepldlnmeenlbaagreat", sum := "72aae111a88d58de79cc472f8419f44783e9958d650f719de5d6c7eafc31ec70", func := "curfew/curfewlaw10.CalendarBytes", spec := "calendarBytes", inPlace := ["sync/atomic.AddInt64", "sync/atomic.StoreUint32", "sync/atomic.LoadUint32", "(*internal/sync.Mutex).Lock", "internal/race.Disable", "sync/atomic.CompareAndSwapInt32", "internal/race.Enable", "internal/race.Acquire", "(*internal/sync.Mutex).lockSlow", "internal/sync.runtime_canSpin", "internal/sync.runtime_doSpin", "internal/sync.throw", "internal/sync.runtime_nanotime", "internal/sync.runtime_SemacquireMutex", "sync/atomic.AddInt32", "(*internal/sync.Mutex).Unlock", "internal/race.ReleaseMerge", "(*internal/sync.Mutex).unlockSlow", "internal/sync.fatal", "internal/sync.runtime_Semrelease"], unfollowed := true, recurses := true, apart := false, narrowed := true }
def CalendarBytesUptoSaid : Prop := calendarBytesUptoRow.holds Tryz.pinned (OpenSpec.upto calendarBytesSpec)

/-- 'curfewlaw14.ContractBytes', WHERE WHAT IT READS IS OF BULK AT MOST 1048576: true; the input reads as it did. -/
def contractBytesUptoRow : OpenClaim := { program := "ytepldlnmeenlbaagreat", sum := "72aae111a88d58de79cc472f8419f44783e9958d650f719de5d6c7eafc31ec70", func := "curfew/curfewlaw14.ContractBytes", spec := "contractBytes", inPlace := ["sync/atomic.AddInt64", "sync/atomic.StoreUint32", "sync/atomic.LoadUint32", "(*internal/sync.Mutex).Lock", "internal/race.Disable", "sync/atomic.CompareAndSwapInt32", "internal/race.Enable", "internal/race.Acquire", "(*internal/sync.Mutex).lockSlow", "internal/sync.runtime_canSpin", "internal/sync.runtime_doSpin", "internal/sync.throw", "internal/sync.runtime_nanotime", "internal/sync.runtime_SemacquireMutex", "sync/atomic.AddInt32", "(*internal/sync.Mutex).Unlock", "internal/race.ReleaseMerge", "(*internal/sync.Mutex).unlockSlow", "internal/sync.fatal", "internal/sync.runtime_Semrelease"], unfollowed := true, recurses := true, apart := false, narrowed := true }
def ContractBytesUptoSaid : Prop := contractBytesUptoRow.holds Tryz.pinned (OpenSpec.upto contractBytesSpec)

/-- 'curfewlaw15.ChainPlans', WHERE WHAT IT READS IS OF BULK AT MOST 1048576: true; the input reads as it did. -/
def chainPlansUptoRow : OpenClaim := { program := "ytepldlnmeenlbaagreat", sum := "72aae111a88d58de79cc472f8419f44783e9958d650f719de5d6c7eafc31ec70", func := "curfew/curfewlaw15.ChainPlans", spec := "chainPlans", inPlace := ["sync/atomic.AddInt64", "sync/atomic.StoreUint32", "sync/atomic.LoadUint32", "(*internal/sync.Mutex).Lock", "internal/race.Disable", "sync/atomic.CompareAndSwapInt32", "internal/race.Enable", "internal/race.Acquire", "(*internal/sync.Mutex).lockSlow", "internal/sync.runtime_canSpin", "internal/sync.runtime_doSpin", "internal/sync.throw", "internal/sync.runtime_nanotime", "internal/sync.runtime_SemacquireMutex", "sync/atomic.AddInt32", "(*internal/sync.Mutex).Unlock", "internal/race.ReleaseMerge", "(*internal/sync.Mutex).unlockSlow", "internal/sync.fatal", "internal/sync.runtime_Semrelease"], unfollowed := true, recurses := true, apart := false, narrowed := true }
def ChainPlansUptoSaid : Prop := chainPlansUptoRow.holds Tryz.pinned (OpenSpec.upto chainPlansSpec)

/-- 'curfewlaw14.ContractReads', WHERE WHAT IT READS IS OF BULK AT MOST 1048576: true; the input reads as it did. -/
def contractReadsUptoRow : OpenClaim := { program := "ytepldlnmeenlbaagreat", sum := "72aae111a88d58de79cc472f8419f44783e9958d650f719de5d6c7eafc31ec70", func := "curfew/curfewlaw14.ContractReads", spec := "contractReads", inPlace := ["sync/atomic.AddInt64", "sync/atomic.StoreUint32", "sync/atomic.LoadUint32", "(*internal/sync.Mutex).Lock", "internal/race.Disable", "sync/atomic.CompareAndSwapInt32", "internal/race.Enable", "internal/race.Acquire", "(*internal/sync.Mutex).lockSlow", "internal/sync.runtime_canSpin", "internal/sync.runtime_doSpin", "internal/sync.throw", "internal/sync.runtime_nanotime", "internal/sync.runtime_SemacquireMutex", "sync/atomic.AddInt32", "(*internal/sync.Mutex).Unlock", "internal/race.ReleaseMerge", "(*internal/sync.Mutex).unlockSlow", "internal/sync.fatal", "internal/sync.runtime_Semrelease"], unfollowed := true, recurses := true, apart := false, narrowed := true }
def ContractReadsUptoSaid : Prop := contractReadsUptoRow.holds Tryz.pinned (OpenSpec.upto contractReadsSpec)

/-- 'curfewlaw14.ContractShelf', WHERE WHAT IT READS IS OF BULK AT MOST 1048576: true; the input reads as it did. -/
def contractShelfUptoRow : OpenClaim := { program := "ytepldlnmeenlbaagreat", sum := "72aae111a88d58de79cc472f8419f44783e9958d650f719de5d6c7eafc31ec70", func := "curfew/curfewlaw14.ContractShelf", spec := "contractShelf", inPlace := ["sync/atomic.AddInt64", "sync/atomic.StoreUint32", "sync/atomic.LoadUint32", "(*internal/sync.Mutex).Lock", "internal/race.Disable", "sync/atomic.CompareAndSwapInt32", "internal/race.Enable", "internal/race.Acquire", "(*internal/sync.Mutex).lockSlow", "internal/sync.runtime_canSpin", "internal/sync.runtime_doSpin", "internal/sync.throw", "internal/sync.runtime_nanotime", "internal/sync.runtime_SemacquireMutex", "sync/atomic.AddInt32", "(*internal/sync.Mutex).Unlock", "internal/race.ReleaseMerge", "(*internal/sync.Mutex).unlockSlow", "internal/sync.fatal", "internal/sync.runtime_Semrelease"], unfollowed := true, recurses := true, apart := false, narrowed := true }
def ContractShelfUptoSaid : Prop := contractShelfUptoRow.holds Tryz.pinned (OpenSpec.upto contractShelfSpec)

/-- 'curfewlaw14.ContractNobody', WHERE WHAT IT READS IS OF BULK AT MOST 1048576: true; the input reads as it did. -/
def contractNobodyUptoRow : OpenClaim := { program := "ytepldlnmeenlbaagreat", sum := "72aae111a88d58de79cc472f8419f44783e9958d650f719de5d6c7eafc31ec70", func := "curfew/curfewlaw14.ContractNobody", spec := "contractNobody", inPlace := ["sync/atomic.AddInt64", "sync/atomic.StoreUint32", "sync/atomic.LoadUint32", "(*internal/sync.Mutex).Lock", "internal/race.Disable", "sync/atomic.CompareAndSwapInt32", "internal/race.Enable", "internal/race.Acquire", "(*internal/sync.Mutex).lockSlow", "internal/sync.runtime_canSpin", "internal/sync.runtime_doSpin", "internal/sync.throw", "internal/sync.runtime_nanotime", "internal/sync.runtime_SemacquireMutex", "sync/atomic.AddInt32", "(*internal/sync.Mutex).Unlock", "internal/race.ReleaseMerge", "(*internal/sync.Mutex).unlockSlow", "internal/sync.fatal", "internal/sync.runtime_Semrelease", "maps.clone"], unfollowed := true, recurses := true, apart := false, narrowed := true }
def ContractNobodyUptoSaid : Prop := contractNobodyUptoRow.holds Tryz.pinned (OpenSpec.upto contractNobodySpec)

/-- 'curfewlaw14.ContractApart', WHERE WHAT IT READS IS OF BULK AT MOST 1048576: true; the input reads as it did. -/
def contractApartUptoRow : OpenClaim := { program := "ytepldlnmeenlbaagreat", sum := "72aae111a88d58de79cc472f8419f44783e9958d650f719de5d6c7eafc31ec70", func := "curfew/curfewlaw14.ContractApart", spec := "contractApart", inPlace := ["sync/atomic.AddInt64", "sync/atomic.StoreUint32", "sync/atomic.LoadUint32", "(*internal/sync.Mutex).Lock", "internal/race.Disable", "sync/atomic.CompareAndSwapInt32", "internal/race.Enable", "internal/race.Acquire", "(*internal/sync.Mutex).lockSlow", "internal/sync.runtime_canSpin", "internal/sync.runtime_doSpin", "internal/sync.throw", "internal/sync.runtime_nanotime", "internal/sync.runtime_SemacquireMutex", "sync/atomic.AddInt32", "(*internal/sync.Mutex).Unlock", "internal/race.ReleaseMerge", "(*internal/sync.Mutex).unlockSlow", "internal/sync.fatal", "internal/sync.runtime_Semrelease", "maps.clone"], unfollowed := true, recurses := true, apart := false, narrowed := true }
def ContractApartUptoSaid : Prop := contractApartUptoRow.holds Tryz.pinned (OpenSpec.upto contractApartSpec)

end Rows
end Go.Proofs.YtepldlnmeenlbaaGreat
