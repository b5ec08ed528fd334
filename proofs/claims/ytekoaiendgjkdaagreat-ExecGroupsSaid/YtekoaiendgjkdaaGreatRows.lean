/-
  No cell of these rows narrows 'for every input' (looked for: loops, veiled, ifaces, maps, wideKeys, modest, calm, conditions, laid).
  DERIVED. THE GIVEN ROWS OF THIS SEAT. 14 by the template 'for every input the law returns true; each argument reads behind the call as it read before'; 0 by the template 'total and deterministic' (their statements: YtekoaiendgjkdaaGreatTotals.lean).
  GIVEN WITH THE SEED: the statements are not yours to turn. If you find one false, say at which input.
  Laid BY PROGRAM, IN A SANDBOX (cutbox-rows.mjs): the forced cells as the released guide's own fill.sh prints them over the translation e6f4e4add8f30c9a… (all of the seat's roots in one cut). By AI agents, Wed Nov 11 2026. No macro, syntax, notation, axiom, sorry.
-/
import Derived.Test.YtekoaiendgjkdaaGreatChecked
import GoSem.Claim
import GoSem.ClaimJoined
import GoSem.ClaimMapViews
import Derived.JoinedTies
import Derived.KernelRfl
namespace Go.Proofs.YtekoaiendgjkdaaGreat
/- THE CELL 'sum', in the pinned program and in every row, IS THE sha256 OF THE DUMP (.gsa) THAT YtekoaiendgjkdaaGreatProg.lean LOADS. Nothing in Lean hashes anything: it is a label: what it is worth is what the hold of that sum in a sandbox is worth. -/
noncomputable def Tryz.pinned : Pinned := { name := "ytekoaiendgjkdaagreat", sum := "e6f4e4add8f30c9aaa6b46795c8565992d3f2bd11702c183fbe2d15b55dea5ce", checked := Tryz.checked }
namespace Rows
def none {H : Type} : Left H := { results := [], args := [] }

/-- 'ledgerlinelaw20.ExecRefused': WHATEVER THE INPUT: true; the input reads as it did. -/
def execRefusedSpec : ChangeSpec := { name := "execRefused", fn := fun _ => fun
  | [d1, d2] => { results := [.lit (.bool true)], args := [d1, d2] }
  | _ => none }
def execRefusedRow : OpenClaim := { program := "ytekoaiendgjkdaagreat", sum := "e6f4e4add8f30c9aaa6b46795c8565992d3f2bd11702c183fbe2d15b55dea5ce", func := "ledgerline/ledgerlinelaw20.ExecRefused", spec := "execRefused", inPlace := ["sync/atomic.LoadUint32", "(*internal/sync.Mutex).Lock", "internal/race.Disable", "sync/atomic.CompareAndSwapInt32", "internal/race.Enable", "internal/race.Acquire", "(*internal/sync.Mutex).lockSlow", "internal/sync.runtime_canSpin", "internal/sync.runtime_doSpin", "internal/sync.throw", "internal/sync.runtime_nanotime", "internal/sync.runtime_SemacquireMutex", "sync/atomic.AddInt32", "(*internal/sync.Mutex).Unlock", "internal/race.ReleaseMerge", "(*internal/sync.Mutex).unlockSlow", "internal/sync.fatal", "internal/sync.runtime_Semrelease", "sync/atomic.StoreUint32", "internal/bytealg.abigen_runtime_cmpstring", "slices.overlaps[ledgerline/table.Table]", "slices.overlaps[ledgerline/txn.Work]", "sync/atomic.AddInt64"], unfollowed := true, recurses := true, apart := false }
def ExecRefusedSaid : Prop := execRefusedRow.holds Tryz.pinned (OpenSpec.ofChange execRefusedSpec)

/-- ITS FALSE NEIGHBOUR: 'it returns false'. Refute it at one input. -/
def execRefusedWrong : ChangeSpec := { name := "execRefused", fn := fun _ => fun
  | [d1, d2] => { results := [.lit (.bool false)], args := [d1, d2] }
  | _ => none }
def ExecRefusedWrongFalsely : Prop := execRefusedRow.holds Tryz.pinned (OpenSpec.ofChange execRefusedWrong)

/-- 'ledgerlinelaw20.ExecSelects': WHATEVER THE INPUT: true; the input reads as it did. -/
def execSelectsSpec : ChangeSpec := { name := "execSelects", fn := fun _ => fun
  | [d1, d2] => { results := [.lit (.bool true)], args := [d1, d2] }
  | _ => none }
def execSelectsRow : OpenClaim := { program := "ytekoaiendgjkdaagreat", sum := "e6f4e4add8f30c9aaa6b46795c8565992d3f2bd11702c183fbe2d15b55dea5ce", func := "ledgerline/ledgerlinelaw20.ExecSelects", spec := "execSelects", inPlace := ["sync/atomic.LoadUint32", "(*internal/sync.Mutex).Lock", "internal/race.Disable", "sync/atomic.CompareAndSwapInt32", "internal/race.Enable", "internal/race.Acquire", "(*internal/sync.Mutex).lockSlow", "internal/sync.runtime_canSpin", "internal/sync.runtime_doSpin", "internal/sync.throw", "internal/sync.runtime_nanotime", "internal/sync.runtime_SemacquireMutex", "sync/atomic.AddInt32", "(*internal/sync.Mutex).Unlock", "internal/race.ReleaseMerge", "(*internal/sync.Mutex).unlockSlow", "internal/sync.fatal", "internal/sync.runtime_Semrelease", "sync/atomic.StoreUint32", "internal/bytealg.abigen_runtime_cmpstring", "slices.overlaps[ledgerline/table.Table]", "slices.overlaps[ledgerline/txn.Work]", "sync/atomic.AddInt64"], unfollowed := true, recurses := true, apart := false }
def ExecSelectsSaid : Prop := execSelectsRow.holds Tryz.pinned (OpenSpec.ofChange execSelectsSpec)

/-- ITS FALSE NEIGHBOUR: 'it returns false'. Refute it at one input. -/
def execSelectsWrong : ChangeSpec := { name := "execSelects", fn := fun _ => fun
  | [d1, d2] => { results := [.lit (.bool false)], args := [d1, d2] }
  | _ => none }
def ExecSelectsWrongFalsely : Prop := execSelectsRow.holds Tryz.pinned (OpenSpec.ofChange execSelectsWrong)

/-- 'ledgerlinelaw20.ExecCounts': WHATEVER THE INPUT: true; the input reads as it did. -/
def execCountsSpec : ChangeSpec := { name := "execCounts", fn := fun _ => fun
  | [d] => { results := [.lit (.bool true)], args := [d] }
  | _ => none }
def execCountsRow : OpenClaim := { program := "ytekoaiendgjkdaagreat", sum := "e6f4e4add8f30c9aaa6b46795c8565992d3f2bd11702c183fbe2d15b55dea5ce", func := "ledgerline/ledgerlinelaw20.ExecCounts", spec := "execCounts", inPlace := ["sync/atomic.LoadUint32", "(*internal/sync.Mutex).Lock", "internal/race.Disable", "sync/atomic.CompareAndSwapInt32", "internal/race.Enable", "internal/race.Acquire", "(*internal/sync.Mutex).lockSlow", "internal/sync.runtime_canSpin", "internal/sync.runtime_doSpin", "internal/sync.throw", "internal/sync.runtime_nanotime", "internal/sync.runtime_SemacquireMutex", "sync/atomic.AddInt32", "(*internal/sync.Mutex).Unlock", "internal/race.ReleaseMerge", "(*internal/sync.Mutex).unlockSlow", "internal/sync.fatal", "internal/sync.runtime_Semrelease", "sync/atomic.StoreUint32", "internal/bytealg.abigen_runtime_cmpstring", "slices.overlaps[ledgerline/table.Table]", "slices.overlaps[ledgerline/txn.Work]", "sync/atomic.AddInt64"], unfollowed := true, recurses := true, apart := false }
def ExecCountsSaid : Prop := execCountsRow.holds Tryz.pinned (OpenSpec.ofChange execCountsSpec)

/-- ITS FALSE NEIGHBOUR: 'it returns false'. Refute it at one input. -/
def execCountsWrong : ChangeSpec := { name := "execCounts", fn := fun _ => fun
  | [d] => { results := [.lit (.bool false)], args := [d] }
  | _ => none }
def ExecCountsWrongFalsely : Prop := execCountsRow.holds Tryz.pinned (OpenSpec.ofChange execCountsWrong)

/-- 'ledgerlinelaw20.ExecJoins': WHATEVER THE INPUT: true; the input reads as it did. -/
def execJoinsSpec : ChangeSpec := { name := "execJoins", fn := fun _ => fun
  | [d] => { results := [.lit (.bool true)], args := [d] }
  | _ => none }
def execJoinsRow : OpenClaim := { program := "ytekoaiendgjkdaagreat", sum := "e6f4e4add8f30c9aaa6b46795c8565992d3f2bd11702c183fbe2d15b55dea5ce", func := "ledgerline/ledgerlinelaw20.ExecJoins", spec := "execJoins", inPlace := ["sync/atomic.LoadUint32", "(*internal/sync.Mutex).Lock", "internal/race.Disable", "sync/atomic.CompareAndSwapInt32", "internal/race.Enable", "internal/race.Acquire", "(*internal/sync.Mutex).lockSlow", "internal/sync.runtime_canSpin", "internal/sync.runtime_doSpin", "internal/sync.throw", "internal/sync.runtime_nanotime", "internal/sync.runtime_SemacquireMutex", "sync/atomic.AddInt32", "(*internal/sync.Mutex).Unlock", "internal/race.ReleaseMerge", "(*internal/sync.Mutex).unlockSlow", "internal/sync.fatal", "internal/sync.runtime_Semrelease", "sync/atomic.StoreUint32", "internal/bytealg.abigen_runtime_cmpstring", "slices.overlaps[ledgerline/table.Table]", "slices.overlaps[ledgerline/txn.Work]", "sync/atomic.AddInt64"], unfollowed := true, recurses := true, apart := false }
def ExecJoinsSaid : Prop := execJoinsRow.holds Tryz.pinned (OpenSpec.ofChange execJoinsSpec)

/-- ITS FALSE NEIGHBOUR: 'it returns false'. Refute it at one input. -/
def execJoinsWrong : ChangeSpec := { name := "execJoins", fn := fun _ => fun
  | [d] => { results := [.lit (.bool false)], args := [d] }
  | _ => none }
def ExecJoinsWrongFalsely : Prop := execJoinsRow.holds Tryz.pinned (OpenSpec.ofChange execJoinsWrong)

/-- 'ledgerlinelaw20.ExecUpdates': WHATEVER THE INPUT: true; the input reads as it did. -/
def execUpdatesSpec : ChangeSpec := { name := "execUpdates", fn := fun _ => fun
  | [d1, d2] => { results := [.lit (.bool true)], args := [d1, d2] }
  | _ => none }
def execUpdatesRow : OpenClaim := { program := "ytekoaiendgjkdaagreat", sum := "e6f4e4add8f30c9aaa6b46795c8565992d3f2bd11702c183fbe2d15b55dea5ce", func := "ledgerline/ledgerlinelaw20.ExecUpdates", spec := "execUpdates", inPlace := ["sync/atomic.LoadUint32", "(*internal/sync.Mutex).Lock", "internal/race.Disable", "sync/atomic.CompareAndSwapInt32", "internal/race.Enable", "internal/race.Acquire", "(*internal/sync.Mutex).lockSlow", "internal/sync.runtime_canSpin", "internal/sync.runtime_doSpin", "internal/sync.throw", "internal/sync.runtime_nanotime", "internal/sync.runtime_SemacquireMutex", "sync/atomic.AddInt32", "(*internal/sync.Mutex).Unlock", "internal/race.ReleaseMerge", "(*internal/sync.Mutex).unlockSlow", "internal/sync.fatal", "internal/sync.runtime_Semrelease", "sync/atomic.StoreUint32", "internal/bytealg.abigen_runtime_cmpstring", "slices.overlaps[ledgerline/table.Table]", "slices.overlaps[ledgerline/txn.Work]", "sync/atomic.AddInt64"], unfollowed := true, recurses := true, apart := false }
def ExecUpdatesSaid : Prop := execUpdatesRow.holds Tryz.pinned (OpenSpec.ofChange execUpdatesSpec)

/-- ITS FALSE NEIGHBOUR: 'it returns false'. Refute it at one input. -/
def execUpdatesWrong : ChangeSpec := { name := "execUpdates", fn := fun _ => fun
  | [d1, d2] => { results := [.lit (.bool false)], args := [d1, d2] }
  | _ => none }
def ExecUpdatesWrongFalsely : Prop := execUpdatesRow.holds Tryz.pinned (OpenSpec.ofChange execUpdatesWrong)

/-- 'ledgerlinelaw20.ExecInserts': WHATEVER THE INPUT: true; the input reads as it did. -/
def execInsertsSpec : ChangeSpec := { name := "execInserts", fn := fun _ => fun
  | [d1, d2, d3] => { results := [.lit (.bool true)], args := [d1, d2, d3] }
  | _ => none }
def execInsertsRow : OpenClaim := { program := "ytekoaiendgjkdaagreat", sum := "e6f4e4add8f30c9aaa6b46795c8565992d3f2bd11702c183fbe2d15b55dea5ce", func := "ledgerline/ledgerlinelaw20.ExecInserts", spec := "execInserts", inPlace := ["sync/atomic.LoadUint32", "(*internal/sync.Mutex).Lock", "internal/race.Disable", "sync/atomic.CompareAndSwapInt32", "internal/race.Enable", "internal/race.Acquire", "(*internal/sync.Mutex).lockSlow", "internal/sync.runtime_canSpin", "internal/sync.runtime_doSpin", "internal/sync.throw", "internal/sync.runtime_nanotime", "internal/sync.runtime_SemacquireMutex", "sync/atomic.AddInt32", "(*internal/sync.Mutex).Unlock", "internal/race.ReleaseMerge", "(*internal/sync.Mutex).unlockSlow", "internal/sync.fatal", "internal/sync.runtime_Semrelease", "sync/atomic.StoreUint32", "internal/bytealg.abigen_runtime_cmpstring", "slices.overlaps[ledgerline/table.Table]", "slices.overlaps[ledgerline/txn.Work]", "sync/atomic.AddInt64"], unfollowed := true, recurses := true, apart := false }
def ExecInsertsSaid : Prop := execInsertsRow.holds Tryz.pinned (OpenSpec.ofChange execInsertsSpec)

/-- ITS FALSE NEIGHBOUR: 'it returns false'. Refute it at one input. -/
def execInsertsWrong : ChangeSpec := { name := "execInserts", fn := fun _ => fun
  | [d1, d2, d3] => { results := [.lit (.bool false)], args := [d1, d2, d3] }
  | _ => none }
def ExecInsertsWrongFalsely : Prop := execInsertsRow.holds Tryz.pinned (OpenSpec.ofChange execInsertsWrong)

/-- 'ledgerlinelaw20.ExecWheres': WHATEVER THE INPUT: true; the input reads as it did. -/
def execWheresSpec : ChangeSpec := { name := "execWheres", fn := fun _ => fun
  | [d1, d2, d3] => { results := [.lit (.bool true)], args := [d1, d2, d3] }
  | _ => none }
def execWheresRow : OpenClaim := { program := "ytekoaiendgjkdaagreat", sum := "e6f4e4add8f30c9aaa6b46795c8565992d3f2bd11702c183fbe2d15b55dea5ce", func := "ledgerline/ledgerlinelaw20.ExecWheres", spec := "execWheres", inPlace := ["sync/atomic.LoadUint32", "(*internal/sync.Mutex).Lock", "internal/race.Disable", "sync/atomic.CompareAndSwapInt32", "internal/race.Enable", "internal/race.Acquire", "(*internal/sync.Mutex).lockSlow", "internal/sync.runtime_canSpin", "internal/sync.runtime_doSpin", "internal/sync.throw", "internal/sync.runtime_nanotime", "internal/sync.runtime_SemacquireMutex", "sync/atomic.AddInt32", "(*internal/sync.Mutex).Unlock", "internal/race.ReleaseMerge", "(*internal/sync.Mutex).unlockSlow", "internal/sync.fatal", "internal/sync.runtime_Semrelease", "sync/atomic.StoreUint32", "internal/bytealg.abigen_runtime_cmpstring", "slices.overlaps[ledgerline/table.Table]", "slices.overlaps[ledgerline/txn.Work]", "sync/atomic.AddInt64"], unfollowed := true, recurses := true, apart := false }
def ExecWheresSaid : Prop := execWheresRow.holds Tryz.pinned (OpenSpec.ofChange execWheresSpec)

/-- ITS FALSE NEIGHBOUR: 'it returns false'. Refute it at one input. -/
def execWheresWrong : ChangeSpec := { name := "execWheres", fn := fun _ => fun
  | [d1, d2, d3] => { results := [.lit (.bool false)], args := [d1, d2, d3] }
  | _ => none }
def ExecWheresWrongFalsely : Prop := execWheresRow.holds Tryz.pinned (OpenSpec.ofChange execWheresWrong)

/-- 'ledgerlinelaw20.ExecGroups': WHATEVER THE INPUT: true; the input reads as it did. -/
def execGroupsSpec : ChangeSpec := { name := "execGroups", fn := fun _ => fun
  | [d] => { results := [.lit (.bool true)], args := [d] }
  | _ => none }
def execGroupsRow : OpenClaim := { program := "ytekoaiendgjkdaagreat", sum := "e6f4e4add8f30c9aaa6b46795c8565992d3f2bd11702c183fbe2d15b55dea5ce", func := "ledgerline/ledgerlinelaw20.ExecGroups", spec := "execGroups", inPlace := ["sync/atomic.LoadUint32", "(*internal/sync.Mutex).Lock", "internal/race.Disable", "sync/atomic.CompareAndSwapInt32", "internal/race.Enable", "internal/race.Acquire", "(*internal/sync.Mutex).lockSlow", "internal/sync.runtime_canSpin", "internal/sync.runtime_doSpin", "internal/sync.throw", "internal/sync.runtime_nanotime", "internal/sync.runtime_SemacquireMutex", "sync/atomic.AddInt32", "(*internal/sync.Mutex).Unlock", "internal/race.ReleaseMerge", "(*internal/sync.Mutex).unlockSlow", "internal/sync.fatal", "internal/sync.runtime_Semrelease", "sync/atomic.StoreUint32", "internal/bytealg.abigen_runtime_cmpstring", "slices.overlaps[ledgerline/table.Table]", "slices.overlaps[ledgerline/txn.Work]", "sync/atomic.AddInt64"], unfollowed := true, recurses := true, apart := false }
def ExecGroupsSaid : Prop := execGroupsRow.holds Tryz.pinned (OpenSpec.ofChange execGroupsSpec)

/-- ITS FALSE NEIGHBOUR: 'it returns false'. Refute it at one input. -/
def execGroupsWrong : ChangeSpec := { name := "execGroups", fn := fun _ => fun
  | [d] => { results := [.lit (.bool false)], args := [d] }
  | _ => none }
def ExecGroupsWrongFalsely : Prop := execGroupsRow.holds Tryz.pinned (OpenSpec.ofChange execGroupsWrong)

/-- 'ledgerlinelaw20.ExecKinds': WHATEVER THE INPUT: true; the input reads as it did. -/
def execKindsSpec : ChangeSpec := { name := "execKinds", fn := fun _ => fun
  | [d1, d2] => { results := [.lit (.bool true)], args := [d1, d2] }
  | _ => none }
def execKindsRow : OpenClaim := { program := "ytekoaiendgjkdaagreat", sum := "e6f4e4add8f30c9aaa6b46795c8565992d3f2bd11702c183fbe2d15b55dea5ce", func := "ledgerline/ledgerlinelaw20.ExecKinds", spec := "execKinds", inPlace := ["sync/atomic.LoadUint32", "(*internal/sync.Mutex).Lock", "internal/race.Disable", "sync/atomic.CompareAndSwapInt32", "internal/race.Enable", "internal/race.Acquire", "(*internal/sync.Mutex).lockSlow", "internal/sync.runtime_canSpin", "internal/sync.runtime_doSpin", "internal/sync.throw", "internal/sync.runtime_nanotime", "internal/sync.runtime_SemacquireMutex", "sync/atomic.AddInt32", "(*internal/sync.Mutex).Unlock", "internal/race.ReleaseMerge", "(*internal/sync.Mutex).unlockSlow", "internal/sync.fatal", "internal/sync.runtime_Semrelease", "sync/atomic.StoreUint32", "internal/bytealg.abigen_runtime_cmpstring", "slices.overlaps[ledgerline/table.Table]", "slices.overlaps[ledgerline/txn.Work]", "sync/atomic.AddInt64"], unfollowed := true, recurses := true, apart := false }
def ExecKindsSaid : Prop := execKindsRow.holds Tryz.pinned (OpenSpec.ofChange execKindsSpec)

/-- ITS FALSE NEIGHBOUR: 'it returns false'. Refute it at one input. -/
def execKindsWrong : ChangeSpec := { name := "execKinds", fn := fun _ => fun
  | [d1, d2] => { results := [.lit (.bool false)], args := [d1, d2] }
  | _ => none }
def ExecKindsWrongFalsely : Prop := execKindsRow.holds Tryz.pinned (OpenSpec.ofChange execKindsWrong)

/-- 'ledgerlinelaw20.ExecNames': WHATEVER THE INPUT: true; the input reads as it did. -/
def execNamesSpec : ChangeSpec := { name := "execNames", fn := fun _ => fun
  | [d] => { results := [.lit (.bool true)], args := [d] }
  | _ => none }
def execNamesRow : OpenClaim := { program := "ytekoaiendgjkdaagreat", sum := "e6f4e4add8f30c9aaa6b46795c8565992d3f2bd11702c183fbe2d15b55dea5ce", func := "ledgerline/ledgerlinelaw20.ExecNames", spec := "execNames", inPlace := ["sync/atomic.LoadUint32", "(*internal/sync.Mutex).Lock", "internal/race.Disable", "sync/atomic.CompareAndSwapInt32", "internal/race.Enable", "internal/race.Acquire", "(*internal/sync.Mutex).lockSlow", "internal/sync.runtime_canSpin", "internal/sync.runtime_doSpin", "internal/sync.throw", "internal/sync.runtime_nanotime", "internal/sync.runtime_SemacquireMutex", "sync/atomic.AddInt32", "(*internal/sync.Mutex).Unlock", "internal/race.ReleaseMerge", "(*internal/sync.Mutex).unlockSlow", "internal/sync.fatal", "internal/sync.runtime_Semrelease", "sync/atomic.StoreUint32", "internal/bytealg.abigen_runtime_cmpstring", "slices.overlaps[ledgerline/table.Table]", "slices.overlaps[ledgerline/txn.Work]", "sync/atomic.AddInt64"], unfollowed := true, recurses := true, apart := false }
def ExecNamesSaid : Prop := execNamesRow.holds Tryz.pinned (OpenSpec.ofChange execNamesSpec)

/-- ITS FALSE NEIGHBOUR: 'it returns false'. Refute it at one input. -/
def execNamesWrong : ChangeSpec := { name := "execNames", fn := fun _ => fun
  | [d] => { results := [.lit (.bool false)], args := [d] }
  | _ => none }
def ExecNamesWrongFalsely : Prop := execNamesRow.holds Tryz.pinned (OpenSpec.ofChange execNamesWrong)

/-- 'ledgerlinelaw20.ExecSteady': WHATEVER THE INPUT: true; the input reads as it did. -/
def execSteadySpec : ChangeSpec := { name := "execSteady", fn := fun _ => fun
  | [d] => { results := [.lit (.bool true)], args := [d] }
  | _ => none }
def execSteadyRow : OpenClaim := { program := "ytekoaiendgjkdaagreat", sum := "e6f4e4add8f30c9aaa6b46795c8565992d3f2bd11702c183fbe2d15b55dea5ce", func := "ledgerline/ledgerlinelaw20.ExecSteady", spec := "execSteady", inPlace := ["sync/atomic.LoadUint32", "(*internal/sync.Mutex).Lock", "internal/race.Disable", "sync/atomic.CompareAndSwapInt32", "internal/race.Enable", "internal/race.Acquire", "(*internal/sync.Mutex).lockSlow", "internal/sync.runtime_canSpin", "internal/sync.runtime_doSpin", "internal/sync.throw", "internal/sync.runtime_nanotime", "internal/sync.runtime_SemacquireMutex", "sync/atomic.AddInt32", "(*internal/sync.Mutex).Unlock", "internal/race.ReleaseMerge", "(*internal/sync.Mutex).unlockSlow", "internal/sync.fatal", "internal/sync.runtime_Semrelease", "sync/atomic.StoreUint32", "internal/bytealg.abigen_runtime_cmpstring", "slices.overlaps[ledgerline/table.Table]", "slices.overlaps[ledgerline/txn.Work]", "sync/atomic.AddInt64"], unfollowed := true, recurses := true, apart := false }
def ExecSteadySaid : Prop := execSteadyRow.holds Tryz.pinned (OpenSpec.ofChange execSteadySpec)

/-- ITS FALSE NEIGHBOUR: 'it returns false'. Refute it at one input. -/
def execSteadyWrong : ChangeSpec := { name := "execSteady", fn := fun _ => fun
  | [d] => { results := [.lit (.bool false)], args := [d] }
  | _ => none }
def ExecSteadyWrongFalsely : Prop := execSteadyRow.holds Tryz.pinned (OpenSpec.ofChange execSteadyWrong)

/-- 'ledgerlinelaw20.ExecSaves': WHATEVER THE INPUT: true; the input reads as it did. -/
def execSavesSpec : ChangeSpec := { name := "execSaves", fn := fun _ => fun
  | [d1, d2] => { results := [.lit (.bool true)], args := [d1, d2] }
  | _ => none }
def execSavesRow : OpenClaim := { program := "ytekoaiendgjkdaagreat", sum := "e6f4e4add8f30c9aaa6b46795c8565992d3f2bd11702c183fbe2d15b55dea5ce", func := "ledgerline/ledgerlinelaw20.ExecSaves", spec := "execSaves", inPlace := ["sync/atomic.LoadUint32", "(*internal/sync.Mutex).Lock", "internal/race.Disable", "sync/atomic.CompareAndSwapInt32", "internal/race.Enable", "internal/race.Acquire", "(*internal/sync.Mutex).lockSlow", "internal/sync.runtime_canSpin", "internal/sync.runtime_doSpin", "internal/sync.throw", "internal/sync.runtime_nanotime", "internal/sync.runtime_SemacquireMutex", "sync/atomic.AddInt32", "(*internal/sync.Mutex).Unlock", "internal/race.ReleaseMerge", "(*internal/sync.Mutex).unlockSlow", "internal/sync.fatal", "internal/sync.runtime_Semrelease", "sync/atomic.StoreUint32", "internal/bytealg.abigen_runtime_cmpstring", "slices.overlaps[ledgerline/table.Table]", "slices.overlaps[ledgerline/txn.Work]", "sync/atomic.AddInt64"], unfollowed := true, recurses := true, apart := false }
def ExecSavesSaid : Prop := execSavesRow.holds Tryz.pinned (OpenSpec.ofChange execSavesSpec)

/-- ITS FALSE NEIGHBOUR: 'it returns false'. Refute it at one input. -/
def execSavesWrong : ChangeSpec := { name := "execSaves", fn := fun _ => fun
  | [d1, d2] => { results := [.lit (.bool false)], args := [d1, d2] }
  | _ => none }
def ExecSavesWrongFalsely : Prop := execSavesRow.holds Tryz.pinned (OpenSpec.ofChange execSavesWrong)

/-- 'ledgerlinelaw20.ExecLimits': WHATEVER THE INPUT: true; the input reads as it did. -/
def execLimitsSpec : ChangeSpec := { name := "execLimits", fn := fun _ => fun
  | [d1, d2] => { results := [.lit (.bool true)], args := [d1, d2] }
  | _ => none }
def execLimitsRow : OpenClaim := { program := "ytekoaiendgjkdaagreat", sum := "e6f4e4add8f30c9aaa6b46795c8565992d3f2bd11702c183fbe2d15b55dea5ce", func := "ledgerline/ledgerlinelaw20.ExecLimits", spec := "execLimits", inPlace := ["sync/atomic.LoadUint32", "(*internal/sync.Mutex).Lock", "internal/race.Disable", "sync/atomic.CompareAndSwapInt32", "internal/race.Enable", "internal/race.Acquire", "(*internal/sync.Mutex).lockSlow", "internal/sync.runtime_canSpin", "internal/sync.runtime_doSpin", "internal/sync.throw", "internal/sync.runtime_nanotime", "internal/sync.runtime_SemacquireMutex", "sync/atomic.AddInt32", "(*internal/sync.Mutex).Unlock", "internal/race.ReleaseMerge", "(*internal/sync.Mutex).unlockSlow", "internal/sync.fatal", "internal/sync.runtime_Semrelease", "sync/atomic.StoreUint32", "internal/bytealg.abigen_runtime_cmpstring", "slices.overlaps[ledgerline/table.Table]", "slices.overlaps[ledgerline/txn.Work]", "sync/atomic.AddInt64"], unfollowed := true, recurses := true, apart := false }
def ExecLimitsSaid : Prop := execLimitsRow.holds Tryz.pinned (OpenSpec.ofChange execLimitsSpec)

/-- ITS FALSE NEIGHBOUR: 'it returns false'. Refute it at one input. -/
def execLimitsWrong : ChangeSpec := { name := "execLimits", fn := fun _ => fun
  | [d1, d2] => { results := [.lit (.bool false)], args := [d1, d2] }
  | _ => none }
def ExecLimitsWrongFalsely : Prop := execLimitsRow.holds Tryz.pinned (OpenSpec.ofChange execLimitsWrong)

/-- 'ledgerlinelaw20.ExecPlays': WHATEVER THE INPUT: true; the input reads as it did. -/
def execPlaysSpec : ChangeSpec := { name := "execPlays", fn := fun _ => fun
  | [d] => { results := [.lit (.bool true)], args := [d] }
  | _ => none }
def execPlaysRow : OpenClaim := { program := "ytekoaiendgjkdaagreat", sum := "e6f4e4add8f30c9aaa6b46795c8565992d3f2bd11702c183fbe2d15b55dea5ce", func := "ledgerline/ledgerlinelaw20.ExecPlays", spec := "execPlays", inPlace := ["sync/atomic.LoadUint32", "(*internal/sync.Mutex).Lock", "internal/race.Disable", "sync/atomic.CompareAndSwapInt32", "internal/race.Enable", "internal/race.Acquire", "(*internal/sync.Mutex).lockSlow", "internal/sync.runtime_canSpin", "internal/sync.runtime_doSpin", "internal/sync.throw", "internal/sync.runtime_nanotime", "internal/sync.runtime_SemacquireMutex", "sync/atomic.AddInt32", "(*internal/sync.Mutex).Unlock", "internal/race.ReleaseMerge", "(*internal/sync.Mutex).unlockSlow", "internal/sync.fatal", "internal/sync.runtime_Semrelease", "sync/atomic.StoreUint32", "internal/bytealg.abigen_runtime_cmpstring", "slices.overlaps[ledgerline/table.Table]", "slices.overlaps[ledgerline/txn.Work]", "sync/atomic.AddInt64"], unfollowed := true, recurses := true, apart := false }
def ExecPlaysSaid : Prop := execPlaysRow.holds Tryz.pinned (OpenSpec.ofChange execPlaysSpec)

/-- ITS FALSE NEIGHBOUR: 'it returns false'. Refute it at one input. -/
def execPlaysWrong : ChangeSpec := { name := "execPlays", fn := fun _ => fun
  | [d] => { results := [.lit (.bool false)], args := [d] }
  | _ => none }
def ExecPlaysWrongFalsely : Prop := execPlaysRow.holds Tryz.pinned (OpenSpec.ofChange execPlaysWrong)

/- THE SECOND FORM. 'bulk': how many values and letters a reading holds, each counted each time it is reached (what is shared counts as often as it is met; a slice's spare places count too). A statement '..UptoSaid' is the law's where the arguments, and the package variables that the reading takes, are together of bulk at most 1048576: NARROWER than '..Said'. Prove '..Said' where nothing that the law and all that it calls make is longer than what came in: it says more and counts as full. Else prove '..UptoSaid'. A law counts once. -/
mutual
def uptoBulk {H : Type} : DataW H → Nat
  | .lit (.string bytes) => bytes.length + 1
  | .lit _ => 1
  | .nil => 1
  | .ptr d => uptoBulk d + 1
  | .slice elems spare => uptoBulkAll elems + uptoBulkAll spare + 1
  | .agg parts => uptoBulkAll parts + 1
  | .iface _ d => uptoBulk d + 1
  | .map entries => uptoBulkEntries entries + 1
  | .held _ => 1
def uptoBulkAll {H : Type} : List (DataW H) → Nat
  | [] => 0
  | d :: r => uptoBulk d + uptoBulkAll r
def uptoBulkEntries {H : Type} : List (Lit × DataW H) → Nat
  | [] => 0
  | x :: r => uptoBulkEntry x + uptoBulkEntries r
def uptoBulkEntry {H : Type} : Lit × DataW H → Nat
  | (.string bytes, d) => bytes.length + uptoBulk d + 1
  | (_, d) => uptoBulk d + 1
 end
def uptoSmall : (H : Type) → List (DataW H) → Bool := fun _ ds => decide (uptoBulkAll ds ≤ 1048576)
def OpenSpec.upto (s : _root_.Go.ChangeSpec) : _root_.Go.OpenSpec := { _root_.Go.OpenSpec.ofChange s with cond := some uptoSmall }

/-- 'ledgerlinelaw20.ExecRefused', WHERE WHAT IT READS IS OF BULK AT MOST 1048576: true; the input reads as it did. -/
def execRefusedUptoRow : OpenClaim := { program := "ytekoaiendgjkdaagreat", sum := "e6f4e4add8f30c9aaa6b46795c8565992d3f2bd11702c183fbe2d15b55dea5ce", func := "ledgerline/ledgerlinelaw20.ExecRefused", spec := "execRefused", inPlace := ["sync/atomic.LoadUint32", "(*internal/sync.Mutex).Lock", "internal/race.Disable", "sync/atomic.CompareAndSwapInt32", "internal/race.Enable", "internal/race.Acquire", "(*internal/sync.Mutex).lockSlow", "internal/sync.runtime_canSpin", "internal/sync.runtime_doSpin", "internal/sync.throw", "internal/sync.runtime_nanotime", "internal/sync.runtime_SemacquireMutex", "sync/atomic.AddInt32", "(*internal/sync.Mutex).Unlock", "internal/race.ReleaseMerge", "(*internal/sync.Mutex).unlockSlow", "internal/sync.fatal", "internal/sync.runtime_Semrelease", "sync/atomic.StoreUint32", "internal/bytealg.abigen_runtime_cmpstring", "slices.overlaps[ledgerline/table.Table]", "slices.overlaps[ledgerline/txn.Work]", "sync/atomic.AddInt64"], unfollowed := true, recurses := true, apart := false, narrowed := true }
def ExecRefusedUptoSaid : Prop := execRefusedUptoRow.holds Tryz.pinned (OpenSpec.upto execRefusedSpec)

/-- 'ledgerlinelaw20.ExecSelects', WHERE WHAT IT READS IS OF BULK AT MOST 1048576: true; the input reads as it did. -/
def execSelectsUptoRow : OpenClaim := { program := "ytekoaiendgjkdaagreat", sum := "e6f4e4add8f30c9aaa6b46795c8565992d3f2bd11702c183fbe2d15b55dea5ce", func := "ledgerline/ledgerlinelaw20.ExecSelects", spec := "execSelects", inPlace := ["sync/atomic.LoadUint32", "(*internal/sync.Mutex).Lock", "internal/race.Disable", "sync/atomic.CompareAndSwapInt32", "internal/race.Enable", "internal/race.Acquire", "(*internal/sync.Mutex).lockSlow", "internal/sync.runtime_canSpin", "internal/sync.runtime_doSpin", "internal/sync.throw", "internal/sync.runtime_nanotime", "internal/sync.runtime_SemacquireMutex", "sync/atomic.AddInt32", "(*internal/sync.Mutex).Unlock", "internal/race.ReleaseMerge", "(*internal/sync.Mutex).unlockSlow", "internal/sync.fatal", "internal/sync.runtime_Semrelease", "sync/atomic.StoreUint32", "internal/bytealg.abigen_runtime_cmpstring", "slices.overlaps[ledgerline/table.Table]", "slices.overlaps[ledgerline/txn.Work]", "sync/atomic.AddInt64"], unfollowed := true, recurses := true, apart := false, narrowed := true }
def ExecSelectsUptoSaid : Prop := execSelectsUptoRow.holds Tryz.pinned (OpenSpec.upto execSelectsSpec)

/-- 'ledgerlinelaw20.ExecCounts', WHERE WHAT IT READS IS OF BULK AT MOST 1048576: true; the input reads as it did. -/
def execCountsUptoRow : OpenClaim := { program := "ytekoaiendgjkdaagreat", sum := "e6f4e4add8f30c9aaa6b46795c8565992d3f2bd11702c183fbe2d15b55dea5ce", func := "ledgerline/ledgerlinelaw20.ExecCounts", spec := "execCounts", inPlace := ["sync/atomic.LoadUint32", "(*internal/sync.Mutex).Lock", "internal/race.Disable", "sync/atomic.CompareAndSwapInt32", "internal/race.Enable", "internal/race.Acquire", "(*internal/sync.Mutex).lockSlow", "internal/sync.runtime_canSpin", "internal/sync.runtime_doSpin", "internal/sync.throw", "internal/sync.runtime_nanotime", "internal/sync.runtime_SemacquireMutex", "sync/atomic.AddInt32", "(*internal/sync.Mutex).Unlock", "internal/race.ReleaseMerge", "(*internal/sync.Mutex).unlockSlow", "internal/sync.fatal", "internal/sync.runtime_Semrelease", "sync/atomic.StoreUint32", "internal/bytealg.abigen_runtime_cmpstring", "slices.overlaps[ledgerline/table.Table]", "slices.overlaps[ledgerline/txn.Work]", "sync/atomic.AddInt64"], unfollowed := true, recurses := true, apart := false, narrowed := true }
def ExecCountsUptoSaid : Prop := execCountsUptoRow.holds Tryz.pinned (OpenSpec.upto execCountsSpec)

/-- 'ledgerlinelaw20.ExecJoins', WHERE WHAT IT READS IS OF BULK AT MOST 1048576: true; the input reads as it did. -/
def execJoinsUptoRow : OpenClaim := { program := "ytekoaiendgjkdaagreat", sum := "e6f4e4add8f30c9aaa6b46795c8565992d3f2bd11702c183fbe2d15b55dea5ce", func := "ledgerline/ledgerlinelaw20.ExecJoins", spec := "execJoins", inPlace := ["sync/atomic.LoadUint32", "(*internal/sync.Mutex).Lock", "internal/race.Disable", "sync/atomic.CompareAndSwapInt32", "internal/race.Enable", "internal/race.Acquire", "(*internal/sync.Mutex).lockSlow", "internal/sync.runtime_canSpin", "internal/sync.runtime_doSpin", "internal/sync.throw", "internal/sync.runtime_nanotime", "internal/sync.runtime_SemacquireMutex", "sync/atomic.AddInt32", "(*internal/sync.Mutex).Unlock", "internal/race.ReleaseMerge", "(*internal/sync.Mutex).unlockSlow", "internal/sync.fatal", "internal/sync.runtime_Semrelease", "sync/atomic.StoreUint32", "internal/bytealg.abigen_runtime_cmpstring", "slices.overlaps[ledgerline/table.Table]", "slices.overlaps[ledgerline/txn.Work]", "sync/atomic.AddInt64"], unfollowed := true, recurses := true, apart := false, narrowed := true }
def ExecJoinsUptoSaid : Prop := execJoinsUptoRow.holds Tryz.pinned (OpenSpec.upto execJoinsSpec)

/-- 'ledgerlinelaw20.ExecUpdates', WHERE WHAT IT READS IS OF BULK AT MOST 1048576: true; the input reads as it did. -/
def execUpdatesUptoRow : OpenClaim := { program := "ytekoaiendgjkdaagreat", sum := "e6f4e4add8f30c9aaa6b46795c8565992d3f2bd11702c183fbe2d15b55dea5ce", func := "ledgerline/ledgerlinelaw20.ExecUpdates", spec := "execUpdates", inPlace := ["sync/atomic.LoadUint32", "(*internal/sync.Mutex).Lock", "internal/race.Disable", "sync/atomic.CompareAndSwapInt32", "internal/race.Enable", "internal/race.Acquire", "(*internal/sync.Mutex).lockSlow", "internal/sync.runtime_canSpin", "internal/sync.runtime_doSpin", "internal/sync.throw", "internal/sync.runtime_nanotime", "internal/sync.runtime_SemacquireMutex", "sync/atomic.AddInt32", "(*internal/sync.Mutex).Unlock", "internal/race.ReleaseMerge", "(*internal/sync.Mutex).unlockSlow", "internal/sync.fatal", "internal/sync.runtime_Semrelease", "sync/atomic.StoreUint32", "internal/bytealg.abigen_runtime_cmpstring", "slices.overlaps[ledgerline/table.Table]", "slices.overlaps[ledgerline/txn.Work]", "sync/atomic.AddInt64"], unfollowed := true, recurses := true, apart := false, narrowed := true }
def ExecUpdatesUptoSaid : Prop := execUpdatesUptoRow.holds Tryz.pinned (OpenSpec.upto execUpdatesSpec)

/-- 'ledgerlinelaw20.ExecInserts', WHERE WHAT IT READS IS OF BULK AT MOST 1048576: true; the input reads as it did. -/
def execInsertsUptoRow : OpenClaim := { program := "ytekoaiendgjkdaagreat", sum := "e6f4e4add8f30c9aaa6b46795c8565992d3f2bd11702c183fbe2d15b55dea5ce", func := "ledgerline/ledgerlinelaw20.ExecInserts", spec := "execInserts", inPlace := ["sync/atomic.LoadUint32", "(*internal/sync.Mutex).Lock", "internal/race.Disable", "sync/atomic.CompareAndSwapInt32", "internal/race.Enable", "internal/race.Acquire", "(*internal/sync.Mutex).lockSlow", "internal/sync.runtime_canSpin", "internal/sync.runtime_doSpin", "internal/sync.throw", "internal/sync.runtime_nanotime", "internal/sync.runtime_SemacquireMutex", "sync/atomic.AddInt32", "(*internal/sync.Mutex).Unlock", "internal/race.ReleaseMerge", "(*internal/sync.Mutex).unlockSlow", "internal/sync.fatal", "internal/sync.runtime_Semrelease", "sync/atomic.StoreUint32", "internal/bytealg.abigen_runtime_cmpstring", "slices.overlaps[ledgerline/table.Table]", "slices.overlaps[ledgerline/txn.Work]", "sync/atomic.AddInt64"], unfollowed := true, recurses := true, apart := false, narrowed := true }
def ExecInsertsUptoSaid : Prop := execInsertsUptoRow.holds Tryz.pinned (OpenSpec.upto execInsertsSpec)

/-- 'ledgerlinelaw20.ExecWheres', WHERE WHAT IT READS IS OF BULK AT MOST 1048576: true; the input reads as it did. -/
def execWheresUptoRow : OpenClaim := { program := "ytekoaiendgjkdaagreat", sum := "e6f4e4add8f30c9aaa6b46795c8565992d3f2bd11702c183fbe2d15b55dea5ce", func := "ledgerline/ledgerlinelaw20.ExecWheres", spec := "execWheres", inPlace := ["sync/atomic.LoadUint32", "(*internal/sync.Mutex).Lock", "internal/race.Disable", "sync/atomic.CompareAndSwapInt32", "internal/race.Enable", "internal/race.Acquire", "(*internal/sync.Mutex).lockSlow", "internal/sync.runtime_canSpin", "internal/sync.runtime_doSpin", "internal/sync.throw", "internal/sync.runtime_nanotime", "internal/sync.runtime_SemacquireMutex", "sync/atomic.AddInt32", "(*internal/sync.Mutex).Unlock", "internal/race.ReleaseMerge", "(*internal/sync.Mutex).unlockSlow", "internal/sync.fatal", "internal/sync.runtime_Semrelease", "sync/atomic.StoreUint32", "internal/bytealg.abigen_runtime_cmpstring", "slices.overlaps[ledgerline/table.Table]", "slices.overlaps[ledgerline/txn.Work]", "sync/atomic.AddInt64"], unfollowed := true, recurses := true, apart := false, narrowed := true }
def ExecWheresUptoSaid : Prop := execWheresUptoRow.holds Tryz.pinned (OpenSpec.upto execWheresSpec)

/-- 'ledgerlinelaw20.ExecGroups', WHERE WHAT IT READS IS OF BULK AT MOST 1048576: true; the input reads as it did. -/
def execGroupsUptoRow : OpenClaim := { program := "ytekoaiendgjkdaagreat", sum := "e6f4e4add8f30c9aaa6b46795c8565992d3f2bd11702c183fbe2d15b55dea5ce", func := "ledgerline/ledgerlinelaw20.ExecGroups", spec := "execGroups", inPlace := ["sync/atomic.LoadUint32", "(*internal/sync.Mutex).Lock", "internal/race.Disable", "sync/atomic.CompareAndSwapInt32", "internal/race.Enable", "internal/race.Acquire", "(*internal/sync.Mutex).lockSlow", "internal/sync.runtime_canSpin", "internal/sync.runtime_doSpin", "internal/sync.throw", "internal/sync.runtime_nanotime", "internal/sync.runtime_SemacquireMutex", "sync/atomic.AddInt32", "(*internal/sync.Mutex).Unlock", "internal/race.ReleaseMerge", "(*internal/sync.Mutex).unlockSlow", "internal/sync.fatal", "internal/sync.runtime_Semrelease", "sync/atomic.StoreUint32", "internal/bytealg.abigen_runtime_cmpstring", "slices.overlaps[ledgerline/table.Table]", "slices.overlaps[ledgerline/txn.Work]", "sync/atomic.AddInt64"], unfollowed := true, recurses := true, apart := false, narrowed := true }
def ExecGroupsUptoSaid : Prop := execGroupsUptoRow.holds Tryz.pinned (OpenSpec.upto execGroupsSpec)

/-- 'ledgerlinelaw20.ExecKinds', WHERE WHAT IT READS IS OF BULK AT MOST 1048576: true; the input reads as it did. -/
def execKindsUptoRow : OpenClaim := { program := "ytekoaiendgjkdaagreat", sum := "e6f4e4add8f30c9aaa6b46795c8565992d3f2bd11702c183fbe2d15b55dea5ce", func := "ledgerline/ledgerlinelaw20.ExecKinds", spec := "execKinds", inPlace := ["sync/atomic.LoadUint32", "(*internal/sync.Mutex).Lock", "internal/race.Disable", "sync/atomic.CompareAndSwapInt32", "internal/race.Enable", "internal/race.Acquire", "(*internal/sync.Mutex).lockSlow", "internal/sync.runtime_canSpin", "internal/sync.runtime_doSpin", "internal/sync.throw", "internal/sync.runtime_nanotime", "internal/sync.runtime_SemacquireMutex", "sync/atomic.AddInt32", "(*internal/sync.Mutex).Unlock", "internal/race.ReleaseMerge", "(*internal/sync.Mutex).unlockSlow", "internal/sync.fatal", "internal/sync.runtime_Semrelease", "sync/atomic.StoreUint32", "internal/bytealg.abigen_runtime_cmpstring", "slices.overlaps[ledgerline/table.Table]", "slices.overlaps[ledgerline/txn.Work]", "sync/atomic.AddInt64"], unfollowed := true, recurses := true, apart := false, narrowed := true }
def ExecKindsUptoSaid : Prop := execKindsUptoRow.holds Tryz.pinned (OpenSpec.upto execKindsSpec)

/-- 'ledgerlinelaw20.ExecNames', WHERE WHAT IT READS IS OF BULK AT MOST 1048576: true; the input reads as it did. -/
def execNamesUptoRow : OpenClaim := { program := "ytekoaiendgjkdaagreat", sum := "e6f4e4add8f30c9aaa6b46795c8565992d3f2bd11702c183fbe2d15b55dea5ce", func := "ledgerline/ledgerlinelaw20.ExecNames", spec := "execNames", inPlace := ["sync/atomic.LoadUint32", "(*internal/sync.Mutex).Lock", "internal/race.Disable", "sync/atomic.CompareAndSwapInt32", "internal/race.Enable", "internal/race.Acquire", "(*internal/sync.Mutex).lockSlow", "internal/sync.runtime_canSpin", "internal/sync.runtime_doSpin", "internal/sync.throw", "internal/sync.runtime_nanotime", "internal/sync.runtime_SemacquireMutex", "sync/atomic.AddInt32", "(*internal/sync.Mutex).Unlock", "internal/race.ReleaseMerge", "(*internal/sync.Mutex).unlockSlow", "internal/sync.fatal", "internal/sync.runtime_Semrelease", "sync/atomic.StoreUint32", "internal/bytealg.abigen_runtime_cmpstring", "slices.overlaps[ledgerline/table.Table]", "slices.overlaps[ledgerline/txn.Work]", "sync/atomic.AddInt64"], unfollowed := true, recurses := true, apart := false, narrowed := true }
def ExecNamesUptoSaid : Prop := execNamesUptoRow.holds Tryz.pinned (OpenSpec.upto execNamesSpec)

/-- 'ledgerlinelaw20.ExecSteady', WHERE WHAT IT READS IS OF BULK AT MOST 1048576: true; the input reads as it did. -/
def execSteadyUptoRow : OpenClaim := { program := "ytekoaiendgjkdaagreat", sum := "e6f4e4add8f30c9aaa6b46795c8565992d3f2bd11702c183fbe2d15b55dea5ce", func := "ledgerline/ledgerlinelaw20.ExecSteady", spec := "execSteady", inPlace := ["sync/atomic.LoadUint32", "(*internal/sync.Mutex).Lock", "internal/race.Disable", "sync/atomic.CompareAndSwapInt32", "internal/race.Enable", "internal/race.Acquire", "(*internal/sync.Mutex).lockSlow", "internal/sync.runtime_canSpin", "internal/sync.runtime_doSpin", "internal/sync.throw", "internal/sync.runtime_nanotime", "internal/sync.runtime_SemacquireMutex", "sync/atomic.AddInt32", "(*internal/sync.Mutex).Unlock", "internal/race.ReleaseMerge", "(*internal/sync.Mutex).unlockSlow", "internal/sync.fatal", "internal/sync.runtime_Semrelease", "sync/atomic.StoreUint32", "internal/bytealg.abigen_runtime_cmpstring", "slices.overlaps[ledgerline/table.Table]", "slices.overlaps[ledgerline/txn.Work]", "sync/atomic.AddInt64"], unfollowed := true, recurses := true, apart := false, narrowed := true }
def ExecSteadyUptoSaid : Prop := execSteadyUptoRow.holds Tryz.pinned (OpenSpec.upto execSteadySpec)

/-- 'ledgerlinelaw20.ExecSaves', WHERE WHAT IT READS IS OF BULK AT MOST 1048576: true; the input reads as it did. -/
def execSavesUptoRow : OpenClaim := { program := "ytekoaiendgjkdaagreat", sum := "e6f4e4add8f30c9aaa6b46795c8565992d3f2bd11702c183fbe2d15b55dea5ce", func := "ledgerline/ledgerlinelaw20.ExecSaves", spec := "execSaves", inPlace := ["sync/atomic.LoadUint32", "(*internal/sync.Mutex).Lock", "internal/race.Disable", "sync/atomic.CompareAndSwapInt32", "internal/race.Enable", "internal/race.Acquire", "(*internal/sync.Mutex).lockSlow", "internal/sync.runtime_canSpin", "internal/sync.runtime_doSpin", "internal/sync.throw", "internal/sync.runtime_nanotime", "internal/sync.runtime_SemacquireMutex", "sync/atomic.AddInt32", "(*internal/sync.Mutex).Unlock", "internal/race.ReleaseMerge", "(*internal/sync.Mutex).unlockSlow", "internal/sync.fatal", "internal/sync.runtime_Semrelease", "sync/atomic.StoreUint32", "internal/bytealg.abigen_runtime_cmpstring", "slices.overlaps[ledgerline/table.Table]", "slices.overlaps[ledgerline/txn.Work]", "sync/atomic.AddInt64"], unfollowed := true, recurses := true, apart := false, narrowed := true }
def ExecSavesUptoSaid : Prop := execSavesUptoRow.holds Tryz.pinned (OpenSpec.upto execSavesSpec)

/-- 'ledgerlinelaw20.ExecLimits', WHERE WHAT IT READS IS OF BULK AT MOST 1048576: true; the input reads as it did. -/
def execLimitsUptoRow : OpenClaim := { program := "ytekoaiendgjkdaagreat", sum := "e6f4e4add8f30c9aaa6b46795c8565992d3f2bd11702c183fbe2d15b55dea5ce", func := "ledgerline/ledgerlinelaw20.ExecLimits", spec := "execLimits", inPlace := ["sync/atomic.LoadUint32", "(*internal/sync.Mutex).Lock", "internal/race.Disable", "sync/atomic.CompareAndSwapInt32", "internal/race.Enable", "internal/race.Acquire", "(*internal/sync.Mutex).lockSlow", "internal/sync.runtime_canSpin", "internal/sync.runtime_doSpin", "internal/sync.throw", "internal/sync.runtime_nanotime", "internal/sync.runtime_SemacquireMutex", "sync/atomic.AddInt32", "(*internal/sync.Mutex).Unlock", "internal/race.ReleaseMerge", "(*internal/sync.Mutex).unlockSlow", "internal/sync.fatal", "internal/sync.runtime_Semrelease", "sync/atomic.StoreUint32", "internal/bytealg.abigen_runtime_cmpstring", "slices.overlaps[ledgerline/table.Table]", "slices.overlaps[ledgerline/txn.Work]", "sync/atomic.AddInt64"], unfollowed := true, recurses := true, apart := false, narrowed := true }
def ExecLimitsUptoSaid : Prop := execLimitsUptoRow.holds Tryz.pinned (OpenSpec.upto execLimitsSpec)

/-- 'ledgerlinelaw20.ExecPlays', WHERE WHAT IT READS IS OF BULK AT MOST 1048576: true; the input reads as it did. -/
def execPlaysUptoRow : OpenClaim := { program := "ytekoaiendgjkdaagreat", sum := "e6f4e4add8f30c9aaa6b46795c8565992d3f2bd11702c183fbe2d15b55dea5ce", func := "ledgerline/ledgerlinelaw20.ExecPlays", spec := "execPlays", inPlace := ["sync/atomic.LoadUint32", "(*internal/sync.Mutex).Lock", "internal/race.Disable", "sync/atomic.CompareAndSwapInt32", "internal/race.Enable", "internal/race.Acquire", "(*internal/sync.Mutex).lockSlow", "internal/sync.runtime_canSpin", "internal/sync.runtime_doSpin", "internal/sync.throw", "internal/sync.runtime_nanotime", "internal/sync.runtime_SemacquireMutex", "sync/atomic.AddInt32", "(*internal/sync.Mutex).Unlock", "internal/race.ReleaseMerge", "(*internal/sync.Mutex).unlockSlow", "internal/sync.fatal", "internal/sync.runtime_Semrelease", "sync/atomic.StoreUint32", "internal/bytealg.abigen_runtime_cmpstring", "slices.overlaps[ledgerline/table.Table]", "slices.overlaps[ledgerline/txn.Work]", "sync/atomic.AddInt64"], unfollowed := true, recurses := true, apart := false, narrowed := true }
def ExecPlaysUptoSaid : Prop := execPlaysUptoRow.holds Tryz.pinned (OpenSpec.upto execPlaysSpec)

end Rows
end Go.Proofs.YtekoaiendgjkdaaGreat
