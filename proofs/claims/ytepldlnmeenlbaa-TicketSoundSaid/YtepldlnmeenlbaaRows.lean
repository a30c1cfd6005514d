/-
  No cell of these rows narrows 'for every input' (looked for: loops, veiled, ifaces, maps, wideKeys, modest, calm, conditions, laid).
  DERIVED. THE GIVEN ROWS OF THIS SEAT. 5 by the template 'for every input the law returns true; each argument reads behind the call as it read before'; 0 by the template 'total and deterministic' (their statements: YtepldlnmeenlbaaTotals.lean).
  GIVEN WITH THE SEED: the statements are not yours to turn. If you find one false, say at which input.
  Laid BY PROGRAM, IN A SANDBOX (cutbox-rows.mjs): the forced cells as the released guide's own fill.sh prints them over the translation b39f9fd9962f94c7… (all of the seat's roots in one cut). By AI agents, Wed Nov 11 2026. No macro, syntax, notation, axiom, sorry.
-/
import Derived.Test.YtepldlnmeenlbaaChecked
import GoSem.Claim
import GoSem.ClaimJoined
import GoSem.ClaimMapViews
import Derived.JoinedTies
import Derived.KernelRfl
namespace Go.Proofs.Ytepldlnmeenlbaa
/- THE CELL 'sum', in the pinned program and in every row, IS THE sha256 OF THE DUMP (.gsa) THAT YtepldlnmeenlbaaProg.lean LOADS. Nothing in Lean hashes anything: it is a label: what it is worth is what the hold of that sum in a sandbox is worth. -/
noncomputable def Try.pinned : Pinned := { name := "ytepldlnmeenlbaa", sum := "b39f9fd9962f94c75a2e26f3b2a31fb5c584c954fcdb3b7ff63e0f20164a59d8", checked := Try.checked }
namespace Rows
def none {H : Type} : Left H := { results := [], args := [] }

/-- 'curfewlaw16.TicketBytes': WHATEVER THE INPUT: true; the input reads as it did. -/
def ticketBytesSpec : ChangeSpec := { name := "ticketBytes", fn := fun _ => fun
  | [d1, d2] => { results := [.lit (.bool true)], args := [d1, d2] }
  | _ => none }
def ticketBytesRow : OpenClaim := { program := "ytepldlnmeenlbaa", sum := "b39f9fd9962f94c75a2e26f3b2a31fb5c584c954fcdb3b7ff63e0f20164a59d8", func := "curfew/curfewlaw16.TicketBytes", spec := "ticketBytes", inPlace := ["sync/atomic.AddInt64", "sync/atomic.StoreUint32", "sync/atomic.LoadUint32", "(*internal/sync.Mutex).Lock", "internal/race.Disable", "sync/atomic.CompareAndSwapInt32", "internal/race.Enable", "internal/race.Acquire", "(*internal/sync.Mutex).lockSlow", "internal/sync.runtime_canSpin", "internal/sync.runtime_doSpin", "internal/sync.throw", "internal/sync.runtime_nanotime", "internal/sync.runtime_SemacquireMutex", "sync/atomic.AddInt32", "(*internal/sync.Mutex).Unlock", "internal/race.ReleaseMerge", "(*internal/sync.Mutex).unlockSlow", "internal/sync.fatal", "internal/sync.runtime_Semrelease"], unfollowed := true, recurses := true, apart := false }
def TicketBytesSaid : Prop := ticketBytesRow.holds Try.pinned (OpenSpec.ofChange ticketBytesSpec)

/-- ITS FALSE NEIGHBOUR: 'it returns false'. Refute it at one input. -/
def ticketBytesWrong : ChangeSpec := { name := "ticketBytes", fn := fun _ => fun
  | [d1, d2] => { results := [.lit (.bool false)], args := [d1, d2] }
  | _ => none }
def TicketBytesWrongFalsely : Prop := ticketBytesRow.holds Try.pinned (OpenSpec.ofChange ticketBytesWrong)

/-- 'curfewlaw16.TicketSound': WHATEVER THE INPUT: true; the input reads as it did. -/
def ticketSoundSpec : ChangeSpec := { name := "ticketSound", fn := fun _ => fun
  | [d1, d2, d3, d4] => { results := [.lit (.bool true)], args := [d1, d2, d3, d4] }
  | _ => none }
def ticketSoundRow : OpenClaim := { program := "ytepldlnmeenlbaa", sum := "b39f9fd9962f94c75a2e26f3b2a31fb5c584c954fcdb3b7ff63e0f20164a59d8", func := "curfew/curfewlaw16.TicketSound", spec := "ticketSound", inPlace := ["sync/atomic.AddInt64", "sync/atomic.StoreUint32", "sync/atomic.LoadUint32", "(*internal/sync.Mutex).Lock", "internal/race.Disable", "sync/atomic.CompareAndSwapInt32", "internal/race.Enable", "internal/race.Acquire", "(*internal/sync.Mutex).lockSlow", "internal/sync.runtime_canSpin", "internal/sync.runtime_doSpin", "internal/sync.throw", "internal/sync.runtime_nanotime", "internal/sync.runtime_SemacquireMutex", "sync/atomic.AddInt32", "(*internal/sync.Mutex).Unlock", "internal/race.ReleaseMerge", "(*internal/sync.Mutex).unlockSlow", "internal/sync.fatal", "internal/sync.runtime_Semrelease"], unfollowed := true, recurses := true, apart := false }
def TicketSoundSaid : Prop := ticketSoundRow.holds Try.pinned (OpenSpec.ofChange ticketSoundSpec)

/-- ITS FALSE NEIGHBOUR: 'it returns false'. Refute it at one input. -/
def ticketSoundWrong : ChangeSpec := { name := "ticketSound", fn := fun _ => fun
  | [d1, d2, d3, d4] => { results := [.lit (.bool false)], args := [d1, d2, d3, d4] }
  | _ => none }
def TicketSoundWrongFalsely : Prop := ticketSoundRow.holds Try.pinned (OpenSpec.ofChange ticketSoundWrong)

/-- 'curfewlaw18.CommandWrites': WHATEVER THE INPUT: true; the input reads as it did. -/
def commandWritesSpec : ChangeSpec := { name := "commandWrites", fn := fun _ => fun
  | [d] => { results := [.lit (.bool true)], args := [d] }
  | _ => none }
def commandWritesRow : OpenClaim := { program := "ytepldlnmeenlbaa", sum := "b39f9fd9962f94c75a2e26f3b2a31fb5c584c954fcdb3b7ff63e0f20164a59d8", func := "curfew/curfewlaw18.CommandWrites", spec := "commandWrites", unfollowed := true, recurses := true, apart := false }
def CommandWritesSaid : Prop := commandWritesRow.holds Try.pinned (OpenSpec.ofChange commandWritesSpec)

/-- ITS FALSE NEIGHBOUR: 'it returns false'. Refute it at one input. -/
def commandWritesWrong : ChangeSpec := { name := "commandWrites", fn := fun _ => fun
  | [d] => { results := [.lit (.bool false)], args := [d] }
  | _ => none }
def CommandWritesWrongFalsely : Prop := commandWritesRow.holds Try.pinned (OpenSpec.ofChange commandWritesWrong)

/-- 'curfewlaw18.CommandReads': WHATEVER THE INPUT: true; the input reads as it did. -/
def commandReadsSpec : ChangeSpec := { name := "commandReads", fn := fun _ => fun
  | [d] => { results := [.lit (.bool true)], args := [d] }
  | _ => none }
def commandReadsRow : OpenClaim := { program := "ytepldlnmeenlbaa", sum := "b39f9fd9962f94c75a2e26f3b2a31fb5c584c954fcdb3b7ff63e0f20164a59d8", func := "curfew/curfewlaw18.CommandReads", spec := "commandReads", unfollowed := true, recurses := true, apart := false }
def CommandReadsSaid : Prop := commandReadsRow.holds Try.pinned (OpenSpec.ofChange commandReadsSpec)

/-- ITS FALSE NEIGHBOUR: 'it returns false'. Refute it at one input. -/
def commandReadsWrong : ChangeSpec := { name := "commandReads", fn := fun _ => fun
  | [d] => { results := [.lit (.bool false)], args := [d] }
  | _ => none }
def CommandReadsWrongFalsely : Prop := commandReadsRow.holds Try.pinned (OpenSpec.ofChange commandReadsWrong)

/-- 'curfewlaw18.CommandTells': WHATEVER THE INPUT: true; the input reads as it did. -/
def commandTellsSpec : ChangeSpec := { name := "commandTells", fn := fun _ => fun
  | [d1, d2, d3] => { results := [.lit (.bool true)], args := [d1, d2, d3] }
  | _ => none }
def commandTellsRow : OpenClaim := { program := "ytepldlnmeenlbaa", sum := "b39f9fd9962f94c75a2e26f3b2a31fb5c584c954fcdb3b7ff63e0f20164a59d8", func := "curfew/curfewlaw18.CommandTells", spec := "commandTells", unfollowed := true, recurses := true, apart := false }
def CommandTellsSaid : Prop := commandTellsRow.holds Try.pinned (OpenSpec.ofChange commandTellsSpec)

/-- ITS FALSE NEIGHBOUR: 'it returns false'. Refute it at one input. -/
def commandTellsWrong : ChangeSpec := { name := "commandTells", fn := fun _ => fun
  | [d1, d2, d3] => { results := [.lit (.bool false)], args := [d1, d2, d3] }
  | _ => none }
def CommandTellsWrongFalsely : Prop := commandTellsRow.holds Try.pinned (OpenSpec.ofChange commandTellsWrong)

/- THE SECOND FORM. 'bulk': how many values and letters a reading holds, each counted each time it is reached (what is shared counts as often as it is met; a slice's spare places count too). A statement '..UptoSaid' is the law's where the arguments, and the package variables that the reading takes, are together of bulk at most 1048576: NARROWER than '..Said'. Prove '..Said' where nothing that the law and all that it calls make is longer than what came in: it says more and counts as full. Else prove '..UptoSaid'. A law counts once. -/
mutual
def uptoBulk {H : Type} : DataW H → Nat
  | .lit (.string bytes) => bytes.length + 1
  | .lit _ => 1
  | .nil => 1
  | .ptr d => uptoBulk d + 1
  | .slice elems spare => uptoBulkAll elems + uptoBulkAll spare + 1
  | .agg parts => uptoBulkAll parts + 1
  | .iface _ d => uptoBulk d + 1
  | .map entries => uptoBulkEntries entries + 1
  | .held _ => 1
def uptoBulkAll {H : Type} : List (DataW H) → Nat
  | [] => 0
  | d :: r => uptoBulk d + uptoBulkAll r
def uptoBulkEntries {H : Type} : List (Lit × DataW H) → Nat
  | [] => 0
  | x :: r => uptoBulkEntry x + uptoBulkEntries r
def uptoBulkEntry {H : Type} : Lit × DataW H → Nat
  | (.string bytes, d) => bytes.length + uptoBulk d + 1
  | (_, d) => uptoBulk d + 1
 end
def uptoSmall : (H : Type) → List (DataW H) → Bool := fun _ ds => decide (uptoBulkAll ds ≤ 1048576)
def OpenSpec.upto (s : _root_.Go.ChangeSpec) : _root_.Go.OpenSpec := { _root_.Go.OpenSpec.ofChange s with cond := some uptoSmall }

/-- 'curfewlaw16.TicketBytes', WHERE WHAT IT READS IS OF BULK AT MOST 1048576: true; the input reads as it did. -/
def ticketBytesUptoRow : OpenClaim := { program := "ytepldlnmeenlbaa", sum := "b39f9fd9962f94c75a2e26f3b2a31fb5c584c954fcdb3b7ff63e0f20164a59d8", func := "curfew/curfewlaw16.TicketBytes", spec := "ticketBytes", inPlace := ["sync/atomic.AddInt64", "sync/atomic.StoreUint32", "sync/atomic.LoadUint32", "(*internal/sync.Mutex).Lock", "internal/race.Disable", "sync/atomic.CompareAndSwapInt32", "internal/race.Enable", "internal/race.Acquire", "(*internal/sync.Mutex).lockSlow", "internal/sync.runtime_canSpin", "internal/sync.runtime_doSpin", "internal/sync.throw", "internal/sync.runtime_nanotime", "internal/sync.runtime_SemacquireMutex", "sync/atomic.AddInt32", "(*internal/sync.Mutex).Unlock", "internal/race.ReleaseMerge", "(*internal/sync.Mutex).unlockSlow", "internal/sync.fatal", "internal/sync.runtime_Semrelease"], unfollowed := true, recurses := true, apart := false, narrowed := true }
def TicketBytesUptoSaid : Prop := ticketBytesUptoRow.holds Try.pinned (OpenSpec.upto ticketBytesSpec)

/-- 'curfewlaw16.TicketSound', WHERE WHAT IT READS IS OF BULK AT MOST 1048576: true; the input reads as it did. -/
def ticketSoundUptoRow : OpenClaim := { program := "ytepldlnmeenlbaa", sum := "b39f9fd9962f94c75a2e26f3b2a31fb5c584c954fcdb3b7ff63e0f20164a59d8", func := "curfew/curfewlaw16.TicketSound", spec := "ticketSound", inPlace := ["sync/atomic.AddInt64", "sync/atomic.StoreUint32", "sync/atomic.LoadUint32", "(*internal/sync.Mutex).Lock", "internal/race.Disable", "sync/atomic.CompareAndSwapInt32", "internal/race.Enable", "internal/race.Acquire", "(*internal/sync.Mutex).lockSlow", "internal/sync.runtime_canSpin", "internal/sync.runtime_doSpin", "internal/sync.throw", "internal/sync.runtime_nanotime", "internal/sync.runtime_SemacquireMutex", "sync/atomic.AddInt32", "(*internal/sync.Mutex).Unlock", "internal/race.ReleaseMerge", "(*internal/sync.Mutex).unlockSlow", "internal/sync.fatal", "internal/sync.runtime_Semrelease"], unfollowed := true, recurses := true, apart := false, narrowed := true }
def TicketSoundUptoSaid : Prop := ticketSoundUptoRow.holds Try.pinned (OpenSpec.upto ticketSoundSpec)

/-- 'curfewlaw18.CommandWrites', WHERE WHAT IT READS IS OF BULK AT MOST 1048576: true; the input reads as it did. -/
def commandWritesUptoRow : OpenClaim := { program := "ytepldlnmeenlbaa", sum := "b39f9fd9962f94c75a2e26f3b2a31fb5c584c954fcdb3b7ff63e0f20164a59d8", func := "curfew/curfewlaw18.CommandWrites", spec := "commandWrites", unfollowed := true, recurses := true, apart := false, narrowed := true }
def CommandWritesUptoSaid : Prop := commandWritesUptoRow.holds Try.pinned (OpenSpec.upto commandWritesSpec)

/-- 'curfewlaw18.CommandReads', WHERE WHAT IT READS IS OF BULK AT MOST 1048576: true; the input reads as it did. -/
def commandReadsUptoRow : OpenClaim := { program := "ytepldlnmeenlbaa", sum := "b39f9fd9962f94c75a2e26f3b2a31fb5c584c954fcdb3b7ff63e0f20164a59d8", func := "curfew/curfewlaw18.CommandReads", spec := "commandReads", unfollowed := true, recurses := true, apart := false, narrowed := true }
def CommandReadsUptoSaid : Prop := commandReadsUptoRow.holds Try.pinned (OpenSpec.upto commandReadsSpec)

/-- 'curfewlaw18.CommandTells', WHERE WHAT IT READS IS OF BULK AT MOST 1048576: true; the input reads as it did. -/
def commandTellsUptoRow : OpenClaim := { program := "ytepldlnmeenlbaa", sum := "b39f9fd9962f94c75a2e26f3b2a31fb5c584c954fcdb3b7ff63e0f20164a59d8", func := "curfew/curfewlaw18.CommandTells", spec := "commandTells", unfollowed := true, recurses := true, apart := false, narrowed := true }
def CommandTellsUptoSaid : Prop := commandTellsUptoRow.holds Try.pinned (OpenSpec.upto commandTellsSpec)

end Rows
end Go.Proofs.Ytepldlnmeenlbaa
