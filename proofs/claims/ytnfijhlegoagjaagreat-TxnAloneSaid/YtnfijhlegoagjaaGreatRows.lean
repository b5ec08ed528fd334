/-
  No cell of these rows narrows 'for every input' (looked for: loops, veiled, ifaces, maps, wideKeys, modest, calm, conditions, laid).
  DERIVED. THE GIVEN ROWS OF THIS SEAT. 11 by the template 'for every input the law returns true; each argument reads behind the call as it read before'; 0 by the template 'total and deterministic' (their statements: YtnfijhlegoagjaaGreatTotals.lean).
  GIVEN WITH THE SEED: the statements are not yours to turn. If you find one false, say at which input.
  Laid BY PROGRAM, IN A SANDBOX (cutbox-rows.mjs): the forced cells as the released guide's own fill.sh prints them over the translation fd4c9bd3ec22af46… (all of the seat's roots in one cut). By AI agents, Wed Nov 11 2026. No macro, syntax, notation, axiom, sorry.
-/
import Derived.Test.YtnfijhlegoagjaaGreatChecked
import GoSem.Claim
import GoSem.ClaimJoined
import GoSem.ClaimMapViews
import Derived.JoinedTies
import Derived.KernelRfl
namespace Go.Proofs.YtnfijhlegoagjaaGreat
/- THE CELL 'sum', in the pinned program and in every row, IS THE sha256 OF THE DUMP (.gsa) THAT YtnfijhlegoagjaaGreatProg.lean LOADS. Nothing in Lean hashes anything: it is a label: what it is worth is what the hold of that sum in a sandbox is worth. -/
noncomputable def Tryz.pinned : Pinned := { name := "ytnfijhlegoagjaagreat", sum := "fd4c9bd3ec22af4627e9f371f410bbb613c3fafd8fcb2421762951985f6ee0c1", checked := Tryz.checked }
namespace Rows
def none {H : Type} : Left H := { results := [], args := [] }

/-- 'ledgerlinelaw13.TxnTables': WHATEVER THE INPUT: true; the input reads as it did. -/
def txnTablesSpec : ChangeSpec := { name := "txnTables", fn := fun _ => fun
  | [d] => { results := [.lit (.bool true)], args := [d] }
  | _ => none }
def txnTablesRow : OpenClaim := { program := "ytnfijhlegoagjaagreat", sum := "fd4c9bd3ec22af4627e9f371f410bbb613c3fafd8fcb2421762951985f6ee0c1", func := "ledgerline/ledgerlinelaw13.TxnTables", spec := "txnTables", inPlace := ["sync/atomic.LoadUint32", "(*internal/sync.Mutex).Lock", "internal/race.Disable", "sync/atomic.CompareAndSwapInt32", "internal/race.Enable", "internal/race.Acquire", "(*internal/sync.Mutex).lockSlow", "internal/sync.runtime_canSpin", "internal/sync.runtime_doSpin", "internal/sync.throw", "internal/sync.runtime_nanotime", "internal/sync.runtime_SemacquireMutex", "sync/atomic.AddInt32", "(*internal/sync.Mutex).Unlock", "internal/race.ReleaseMerge", "(*internal/sync.Mutex).unlockSlow", "internal/sync.fatal", "internal/sync.runtime_Semrelease", "sync/atomic.StoreUint32", "internal/bytealg.abigen_runtime_cmpstring", "slices.overlaps[ledgerline/table.Table]", "slices.overlaps[ledgerline/txn.Work]", "sync/atomic.AddInt64"], unfollowed := true, recurses := true, apart := false }
def TxnTablesSaid : Prop := txnTablesRow.holds Tryz.pinned (OpenSpec.ofChange txnTablesSpec)

/-- ITS FALSE NEIGHBOUR: 'it returns false'. Refute it at one input. -/
def txnTablesWrong : ChangeSpec := { name := "txnTables", fn := fun _ => fun
  | [d] => { results := [.lit (.bool false)], args := [d] }
  | _ => none }
def TxnTablesWrongFalsely : Prop := txnTablesRow.holds Tryz.pinned (OpenSpec.ofChange txnTablesWrong)

/-- 'ledgerlinelaw13.TxnDead': WHATEVER THE INPUT: true; the input reads as it did. -/
def txnDeadSpec : ChangeSpec := { name := "txnDead", fn := fun _ => fun
  | [d1, d2, d3] => { results := [.lit (.bool true)], args := [d1, d2, d3] }
  | _ => none }
def txnDeadRow : OpenClaim := { program := "ytnfijhlegoagjaagreat", sum := "fd4c9bd3ec22af4627e9f371f410bbb613c3fafd8fcb2421762951985f6ee0c1", func := "ledgerline/ledgerlinelaw13.TxnDead", spec := "txnDead", inPlace := ["sync/atomic.LoadUint32", "(*internal/sync.Mutex).Lock", "internal/race.Disable", "sync/atomic.CompareAndSwapInt32", "internal/race.Enable", "internal/race.Acquire", "(*internal/sync.Mutex).lockSlow", "internal/sync.runtime_canSpin", "internal/sync.runtime_doSpin", "internal/sync.throw", "internal/sync.runtime_nanotime", "internal/sync.runtime_SemacquireMutex", "sync/atomic.AddInt32", "(*internal/sync.Mutex).Unlock", "internal/race.ReleaseMerge", "(*internal/sync.Mutex).unlockSlow", "internal/sync.fatal", "internal/sync.runtime_Semrelease", "sync/atomic.StoreUint32", "internal/bytealg.abigen_runtime_cmpstring", "slices.overlaps[ledgerline/table.Table]", "slices.overlaps[ledgerline/txn.Work]", "sync/atomic.AddInt64"], unfollowed := true, recurses := true, apart := false }
def TxnDeadSaid : Prop := txnDeadRow.holds Tryz.pinned (OpenSpec.ofChange txnDeadSpec)

/-- ITS FALSE NEIGHBOUR: 'it returns false'. Refute it at one input. -/
def txnDeadWrong : ChangeSpec := { name := "txnDead", fn := fun _ => fun
  | [d1, d2, d3] => { results := [.lit (.bool false)], args := [d1, d2, d3] }
  | _ => none }
def TxnDeadWrongFalsely : Prop := txnDeadRow.holds Tryz.pinned (OpenSpec.ofChange txnDeadWrong)

/-- 'ledgerlinelaw13.TxnOnly': WHATEVER THE INPUT: true; the input reads as it did. -/
def txnOnlySpec : ChangeSpec := { name := "txnOnly", fn := fun _ => fun
  | [d] => { results := [.lit (.bool true)], args := [d] }
  | _ => none }
def txnOnlyRow : OpenClaim := { program := "ytnfijhlegoagjaagreat", sum := "fd4c9bd3ec22af4627e9f371f410bbb613c3fafd8fcb2421762951985f6ee0c1", func := "ledgerline/ledgerlinelaw13.TxnOnly", spec := "txnOnly", inPlace := ["sync/atomic.LoadUint32", "(*internal/sync.Mutex).Lock", "internal/race.Disable", "sync/atomic.CompareAndSwapInt32", "internal/race.Enable", "internal/race.Acquire", "(*internal/sync.Mutex).lockSlow", "internal/sync.runtime_canSpin", "internal/sync.runtime_doSpin", "internal/sync.throw", "internal/sync.runtime_nanotime", "internal/sync.runtime_SemacquireMutex", "sync/atomic.AddInt32", "(*internal/sync.Mutex).Unlock", "internal/race.ReleaseMerge", "(*internal/sync.Mutex).unlockSlow", "internal/sync.fatal", "internal/sync.runtime_Semrelease", "sync/atomic.StoreUint32", "internal/bytealg.abigen_runtime_cmpstring", "slices.overlaps[ledgerline/table.Table]", "slices.overlaps[ledgerline/txn.Work]", "sync/atomic.AddInt64"], unfollowed := true, recurses := true, apart := false }
def TxnOnlySaid : Prop := txnOnlyRow.holds Tryz.pinned (OpenSpec.ofChange txnOnlySpec)

/-- ITS FALSE NEIGHBOUR: 'it returns false'. Refute it at one input. -/
def txnOnlyWrong : ChangeSpec := { name := "txnOnly", fn := fun _ => fun
  | [d] => { results := [.lit (.bool false)], args := [d] }
  | _ => none }
def TxnOnlyWrongFalsely : Prop := txnOnlyRow.holds Tryz.pinned (OpenSpec.ofChange txnOnlyWrong)

/-- 'ledgerlinelaw13.TxnMany': WHATEVER THE INPUT: true; the input reads as it did. -/
def txnManySpec : ChangeSpec := { name := "txnMany", fn := fun _ => fun
  | [d] => { results := [.lit (.bool true)], args := [d] }
  | _ => none }
def txnManyRow : OpenClaim := { program := "ytnfijhlegoagjaagreat", sum := "fd4c9bd3ec22af4627e9f371f410bbb613c3fafd8fcb2421762951985f6ee0c1", func := "ledgerline/ledgerlinelaw13.TxnMany", spec := "txnMany", inPlace := ["sync/atomic.LoadUint32", "(*internal/sync.Mutex).Lock", "internal/race.Disable", "sync/atomic.CompareAndSwapInt32", "internal/race.Enable", "internal/race.Acquire", "(*internal/sync.Mutex).lockSlow", "internal/sync.runtime_canSpin", "internal/sync.runtime_doSpin", "internal/sync.throw", "internal/sync.runtime_nanotime", "internal/sync.runtime_SemacquireMutex", "sync/atomic.AddInt32", "(*internal/sync.Mutex).Unlock", "internal/race.ReleaseMerge", "(*internal/sync.Mutex).unlockSlow", "internal/sync.fatal", "internal/sync.runtime_Semrelease", "sync/atomic.StoreUint32", "internal/bytealg.abigen_runtime_cmpstring", "slices.overlaps[ledgerline/table.Table]", "slices.overlaps[ledgerline/txn.Work]", "sync/atomic.AddInt64"], unfollowed := true, recurses := true, apart := false }
def TxnManySaid : Prop := txnManyRow.holds Tryz.pinned (OpenSpec.ofChange txnManySpec)

/-- ITS FALSE NEIGHBOUR: 'it returns false'. Refute it at one input. -/
def txnManyWrong : ChangeSpec := { name := "txnMany", fn := fun _ => fun
  | [d] => { results := [.lit (.bool false)], args := [d] }
  | _ => none }
def TxnManyWrongFalsely : Prop := txnManyRow.holds Tryz.pinned (OpenSpec.ofChange txnManyWrong)

/-- 'ledgerlinelaw13.TxnLog': WHATEVER THE INPUT: true; the input reads as it did. -/
def txnLogSpec : ChangeSpec := { name := "txnLog", fn := fun _ => fun
  | [d] => { results := [.lit (.bool true)], args := [d] }
  | _ => none }
def txnLogRow : OpenClaim := { program := "ytnfijhlegoagjaagreat", sum := "fd4c9bd3ec22af4627e9f371f410bbb613c3fafd8fcb2421762951985f6ee0c1", func := "ledgerline/ledgerlinelaw13.TxnLog", spec := "txnLog", inPlace := ["sync/atomic.LoadUint32", "(*internal/sync.Mutex).Lock", "internal/race.Disable", "sync/atomic.CompareAndSwapInt32", "internal/race.Enable", "internal/race.Acquire", "(*internal/sync.Mutex).lockSlow", "internal/sync.runtime_canSpin", "internal/sync.runtime_doSpin", "internal/sync.throw", "internal/sync.runtime_nanotime", "internal/sync.runtime_SemacquireMutex", "sync/atomic.AddInt32", "(*internal/sync.Mutex).Unlock", "internal/race.ReleaseMerge", "(*internal/sync.Mutex).unlockSlow", "internal/sync.fatal", "internal/sync.runtime_Semrelease", "sync/atomic.StoreUint32", "internal/bytealg.abigen_runtime_cmpstring", "slices.overlaps[ledgerline/table.Table]", "slices.overlaps[ledgerline/txn.Work]", "sync/atomic.AddInt64"], unfollowed := true, recurses := true, apart := false }
def TxnLogSaid : Prop := txnLogRow.holds Tryz.pinned (OpenSpec.ofChange txnLogSpec)

/-- ITS FALSE NEIGHBOUR: 'it returns false'. Refute it at one input. -/
def txnLogWrong : ChangeSpec := { name := "txnLog", fn := fun _ => fun
  | [d] => { results := [.lit (.bool false)], args := [d] }
  | _ => none }
def TxnLogWrongFalsely : Prop := txnLogRow.holds Tryz.pinned (OpenSpec.ofChange txnLogWrong)

/-- 'ledgerlinelaw13.TxnDrops': WHATEVER THE INPUT: true; the input reads as it did. -/
def txnDropsSpec : ChangeSpec := { name := "txnDrops", fn := fun _ => fun
  | [d1, d2] => { results := [.lit (.bool true)], args := [d1, d2] }
  | _ => none }
def txnDropsRow : OpenClaim := { program := "ytnfijhlegoagjaagreat", sum := "fd4c9bd3ec22af4627e9f371f410bbb613c3fafd8fcb2421762951985f6ee0c1", func := "ledgerline/ledgerlinelaw13.TxnDrops", spec := "txnDrops", inPlace := ["sync/atomic.LoadUint32", "(*internal/sync.Mutex).Lock", "internal/race.Disable", "sync/atomic.CompareAndSwapInt32", "internal/race.Enable", "internal/race.Acquire", "(*internal/sync.Mutex).lockSlow", "internal/sync.runtime_canSpin", "internal/sync.runtime_doSpin", "internal/sync.throw", "internal/sync.runtime_nanotime", "internal/sync.runtime_SemacquireMutex", "sync/atomic.AddInt32", "(*internal/sync.Mutex).Unlock", "internal/race.ReleaseMerge", "(*internal/sync.Mutex).unlockSlow", "internal/sync.fatal", "internal/sync.runtime_Semrelease", "sync/atomic.StoreUint32", "internal/bytealg.abigen_runtime_cmpstring", "slices.overlaps[ledgerline/table.Table]", "slices.overlaps[ledgerline/txn.Work]", "sync/atomic.AddInt64"], unfollowed := true, recurses := true, apart := false }
def TxnDropsSaid : Prop := txnDropsRow.holds Tryz.pinned (OpenSpec.ofChange txnDropsSpec)

/-- ITS FALSE NEIGHBOUR: 'it returns false'. Refute it at one input. -/
def txnDropsWrong : ChangeSpec := { name := "txnDrops", fn := fun _ => fun
  | [d1, d2] => { results := [.lit (.bool false)], args := [d1, d2] }
  | _ => none }
def TxnDropsWrongFalsely : Prop := txnDropsRow.holds Tryz.pinned (OpenSpec.ofChange txnDropsWrong)

/-- 'ledgerlinelaw13.TxnMarks': WHATEVER THE INPUT: true; the input reads as it did. -/
def txnMarksSpec : ChangeSpec := { name := "txnMarks", fn := fun _ => fun
  | [d1, d2, d3] => { results := [.lit (.bool true)], args := [d1, d2, d3] }
  | _ => none }
def txnMarksRow : OpenClaim := { program := "ytnfijhlegoagjaagreat", sum := "fd4c9bd3ec22af4627e9f371f410bbb613c3fafd8fcb2421762951985f6ee0c1", func := "ledgerline/ledgerlinelaw13.TxnMarks", spec := "txnMarks", inPlace := ["sync/atomic.LoadUint32", "(*internal/sync.Mutex).Lock", "internal/race.Disable", "sync/atomic.CompareAndSwapInt32", "internal/race.Enable", "internal/race.Acquire", "(*internal/sync.Mutex).lockSlow", "internal/sync.runtime_canSpin", "internal/sync.runtime_doSpin", "internal/sync.throw", "internal/sync.runtime_nanotime", "internal/sync.runtime_SemacquireMutex", "sync/atomic.AddInt32", "(*internal/sync.Mutex).Unlock", "internal/race.ReleaseMerge", "(*internal/sync.Mutex).unlockSlow", "internal/sync.fatal", "internal/sync.runtime_Semrelease", "sync/atomic.StoreUint32", "internal/bytealg.abigen_runtime_cmpstring", "slices.overlaps[ledgerline/table.Table]", "slices.overlaps[ledgerline/txn.Work]", "sync/atomic.AddInt64"], unfollowed := true, recurses := true, apart := false }
def TxnMarksSaid : Prop := txnMarksRow.holds Tryz.pinned (OpenSpec.ofChange txnMarksSpec)

/-- ITS FALSE NEIGHBOUR: 'it returns false'. Refute it at one input. -/
def txnMarksWrong : ChangeSpec := { name := "txnMarks", fn := fun _ => fun
  | [d1, d2, d3] => { results := [.lit (.bool false)], args := [d1, d2, d3] }
  | _ => none }
def TxnMarksWrongFalsely : Prop := txnMarksRow.holds Tryz.pinned (OpenSpec.ofChange txnMarksWrong)

/-- 'ledgerlinelaw13.TxnNone': WHATEVER THE INPUT: true; the input reads as it did. -/
def txnNoneSpec : ChangeSpec := { name := "txnNone", fn := fun _ => fun
  | [d1, d2] => { results := [.lit (.bool true)], args := [d1, d2] }
  | _ => none }
def txnNoneRow : OpenClaim := { program := "ytnfijhlegoagjaagreat", sum := "fd4c9bd3ec22af4627e9f371f410bbb613c3fafd8fcb2421762951985f6ee0c1", func := "ledgerline/ledgerlinelaw13.TxnNone", spec := "txnNone", inPlace := ["sync/atomic.LoadUint32", "(*internal/sync.Mutex).Lock", "internal/race.Disable", "sync/atomic.CompareAndSwapInt32", "internal/race.Enable", "internal/race.Acquire", "(*internal/sync.Mutex).lockSlow", "internal/sync.runtime_canSpin", "internal/sync.runtime_doSpin", "internal/sync.throw", "internal/sync.runtime_nanotime", "internal/sync.runtime_SemacquireMutex", "sync/atomic.AddInt32", "(*internal/sync.Mutex).Unlock", "internal/race.ReleaseMerge", "(*internal/sync.Mutex).unlockSlow", "internal/sync.fatal", "internal/sync.runtime_Semrelease", "sync/atomic.StoreUint32", "internal/bytealg.abigen_runtime_cmpstring", "slices.overlaps[ledgerline/table.Table]", "slices.overlaps[ledgerline/txn.Work]", "sync/atomic.AddInt64"], unfollowed := true, recurses := true, apart := false }
def TxnNoneSaid : Prop := txnNoneRow.holds Tryz.pinned (OpenSpec.ofChange txnNoneSpec)

/-- ITS FALSE NEIGHBOUR: 'it returns false'. Refute it at one input. -/
def txnNoneWrong : ChangeSpec := { name := "txnNone", fn := fun _ => fun
  | [d1, d2] => { results := [.lit (.bool false)], args := [d1, d2] }
  | _ => none }
def TxnNoneWrongFalsely : Prop := txnNoneRow.holds Tryz.pinned (OpenSpec.ofChange txnNoneWrong)

/-- 'ledgerlinelaw13.TxnBack': WHATEVER THE INPUT: true; the input reads as it did. -/
def txnBackSpec : ChangeSpec := { name := "txnBack", fn := fun _ => fun
  | [d1, d2] => { results := [.lit (.bool true)], args := [d1, d2] }
  | _ => none }
def txnBackRow : OpenClaim := { program := "ytnfijhlegoagjaagreat", sum := "fd4c9bd3ec22af4627e9f371f410bbb613c3fafd8fcb2421762951985f6ee0c1", func := "ledgerline/ledgerlinelaw13.TxnBack", spec := "txnBack", inPlace := ["sync/atomic.LoadUint32", "(*internal/sync.Mutex).Lock", "internal/race.Disable", "sync/atomic.CompareAndSwapInt32", "internal/race.Enable", "internal/race.Acquire", "(*internal/sync.Mutex).lockSlow", "internal/sync.runtime_canSpin", "internal/sync.runtime_doSpin", "internal/sync.throw", "internal/sync.runtime_nanotime", "internal/sync.runtime_SemacquireMutex", "sync/atomic.AddInt32", "(*internal/sync.Mutex).Unlock", "internal/race.ReleaseMerge", "(*internal/sync.Mutex).unlockSlow", "internal/sync.fatal", "internal/sync.runtime_Semrelease", "sync/atomic.StoreUint32", "internal/bytealg.abigen_runtime_cmpstring", "slices.overlaps[ledgerline/table.Table]", "slices.overlaps[ledgerline/txn.Work]", "sync/atomic.AddInt64"], unfollowed := true, recurses := true, apart := false }
def TxnBackSaid : Prop := txnBackRow.holds Tryz.pinned (OpenSpec.ofChange txnBackSpec)

/-- ITS FALSE NEIGHBOUR: 'it returns false'. Refute it at one input. -/
def txnBackWrong : ChangeSpec := { name := "txnBack", fn := fun _ => fun
  | [d1, d2] => { results := [.lit (.bool false)], args := [d1, d2] }
  | _ => none }
def TxnBackWrongFalsely : Prop := txnBackRow.holds Tryz.pinned (OpenSpec.ofChange txnBackWrong)

/-- 'ledgerlinelaw13.TxnAlone': WHATEVER THE INPUT: true; the input reads as it did. -/
def txnAloneSpec : ChangeSpec := { name := "txnAlone", fn := fun _ => fun
  | [d1, d2] => { results := [.lit (.bool true)], args := [d1, d2] }
  | _ => none }
def txnAloneRow : OpenClaim := { program := "ytnfijhlegoagjaagreat", sum := "fd4c9bd3ec22af4627e9f371f410bbb613c3fafd8fcb2421762951985f6ee0c1", func := "ledgerline/ledgerlinelaw13.TxnAlone", spec := "txnAlone", inPlace := ["sync/atomic.LoadUint32", "(*internal/sync.Mutex).Lock", "internal/race.Disable", "sync/atomic.CompareAndSwapInt32", "internal/race.Enable", "internal/race.Acquire", "(*internal/sync.Mutex).lockSlow", "internal/sync.runtime_canSpin", "internal/sync.runtime_doSpin", "internal/sync.throw", "internal/sync.runtime_nanotime", "internal/sync.runtime_SemacquireMutex", "sync/atomic.AddInt32", "(*internal/sync.Mutex).Unlock", "internal/race.ReleaseMerge", "(*internal/sync.Mutex).unlockSlow", "internal/sync.fatal", "internal/sync.runtime_Semrelease", "sync/atomic.StoreUint32", "internal/bytealg.abigen_runtime_cmpstring", "slices.overlaps[ledgerline/table.Table]", "slices.overlaps[ledgerline/txn.Work]", "sync/atomic.AddInt64"], unfollowed := true, recurses := true, apart := false }
def TxnAloneSaid : Prop := txnAloneRow.holds Tryz.pinned (OpenSpec.ofChange txnAloneSpec)

/-- ITS FALSE NEIGHBOUR: 'it returns false'. Refute it at one input. -/
def txnAloneWrong : ChangeSpec := { name := "txnAlone", fn := fun _ => fun
  | [d1, d2] => { results := [.lit (.bool false)], args := [d1, d2] }
  | _ => none }
def TxnAloneWrongFalsely : Prop := txnAloneRow.holds Tryz.pinned (OpenSpec.ofChange txnAloneWrong)

/-- 'ledgerlinelaw13.TxnPlays': WHATEVER THE INPUT: true; the input reads as it did. -/
def txnPlaysSpec : ChangeSpec := { name := "txnPlays", fn := fun _ => fun
  | [d] => { results := [.lit (.bool true)], args := [d] }
  | _ => none }
def txnPlaysRow : OpenClaim := { program := "ytnfijhlegoagjaagreat", sum := "fd4c9bd3ec22af4627e9f371f410bbb613c3fafd8fcb2421762951985f6ee0c1", func := "ledgerline/ledgerlinelaw13.TxnPlays", spec := "txnPlays", inPlace := ["sync/atomic.LoadUint32", "(*internal/sync.Mutex).Lock", "internal/race.Disable", "sync/atomic.CompareAndSwapInt32", "internal/race.Enable", "internal/race.Acquire", "(*internal/sync.Mutex).lockSlow", "internal/sync.runtime_canSpin", "internal/sync.runtime_doSpin", "internal/sync.throw", "internal/sync.runtime_nanotime", "internal/sync.runtime_SemacquireMutex", "sync/atomic.AddInt32", "(*internal/sync.Mutex).Unlock", "internal/race.ReleaseMerge", "(*internal/sync.Mutex).unlockSlow", "internal/sync.fatal", "internal/sync.runtime_Semrelease", "sync/atomic.StoreUint32", "internal/bytealg.abigen_runtime_cmpstring", "slices.overlaps[ledgerline/table.Table]", "slices.overlaps[ledgerline/txn.Work]", "sync/atomic.AddInt64"], unfollowed := true, recurses := true, apart := false }
def TxnPlaysSaid : Prop := txnPlaysRow.holds Tryz.pinned (OpenSpec.ofChange txnPlaysSpec)

/-- ITS FALSE NEIGHBOUR: 'it returns false'. Refute it at one input. -/
def txnPlaysWrong : ChangeSpec := { name := "txnPlays", fn := fun _ => fun
  | [d] => { results := [.lit (.bool false)], args := [d] }
  | _ => none }
def TxnPlaysWrongFalsely : Prop := txnPlaysRow.holds Tryz.pinned (OpenSpec.ofChange txnPlaysWrong)

/- THE SECOND FORM. 'bulk': how many values and letters a reading holds, each counted each time it is reached (what is shared counts as often as it is met; a slice's spare places count too). A statement '..UptoSaid' is the law's where the arguments, and the package variables that the reading takes, are together of bulk at most 1048576: NARROWER than '..Said'. Prove '..Said' where nothing that the law and all that it calls make is longer than what came in: it says more and counts as full. Else prove '..UptoSaid'. A law counts once. -/
mutual
def uptoBulk {H : Type} : DataW H → Nat
  | .lit (.string bytes) => bytes.length + 1
  | .lit _ => 1
  | .nil => 1
  | .ptr d => uptoBulk d + 1
  | .slice elems spare => uptoBulkAll elems + uptoBulkAll spare + 1
  | .agg parts => uptoBulkAll parts + 1
  | .iface _ d => uptoBulk d + 1
  | .map entries => uptoBulkEntries entries + 1
  | .held _ => 1
def uptoBulkAll {H : Type} : List (DataW H) → Nat
  | [] => 0
  | d :: r => uptoBulk d + uptoBulkAll r
def uptoBulkEntries {H : Type} : List (Lit × DataW H) → Nat
  | [] => 0
  | x :: r => uptoBulkEntry x + uptoBulkEntries r
def uptoBulkEntry {H : Type} : Lit × DataW H → Nat
  | (.string bytes, d) => bytes.length + uptoBulk d + 1
  | (_, d) => uptoBulk d + 1
 end
def uptoSmall : (H : Type) → List (DataW H) → Bool := fun _ ds => decide (uptoBulkAll ds ≤ 1048576)
def OpenSpec.upto (s : _root_.Go.ChangeSpec) : _root_.Go.OpenSpec := { _root_.Go.OpenSpec.ofChange s with cond := some uptoSmall }

/-- 'ledgerlinelaw13.TxnTables', WHERE WHAT IT READS IS OF BULK AT MOST 1048576: true; the input reads as it did. -/
def txnTablesUptoRow : OpenClaim := { program := "ytnfijhlegoagjaagreat", sum := "fd4c9bd3ec22af4627e9f371f410bbb613c3fafd8fcb2421762951985f6ee0c1", func := "ledgerline/ledgerlinelaw13.TxnTables", spec := "txnTables", inPlace := ["sync/atomic.LoadUint32", "(*internal/sync.Mutex).Lock", "internal/race.Disable", "sync/atomic.CompareAndSwapInt32", "internal/race.Enable", "internal/race.Acquire", "(*internal/sync.Mutex).lockSlow", "internal/sync.runtime_canSpin", "internal/sync.runtime_doSpin", "internal/sync.throw", "internal/sync.runtime_nanotime", "internal/sync.runtime_SemacquireMutex", "sync/atomic.AddInt32", "(*internal/sync.Mutex).Unlock", "internal/race.ReleaseMerge", "(*internal/sync.Mutex).unlockSlow", "internal/sync.fatal", "internal/sync.runtime_Semrelease", "sync/atomic.StoreUint32", "internal/bytealg.abigen_runtime_cmpstring", "slices.overlaps[ledgerline/table.Table]", "slices.overlaps[ledgerline/txn.Work]", "sync/atomic.AddInt64"], unfollowed := true, recurses := true, apart := false, narrowed := true }
def TxnTablesUptoSaid : Prop := txnTablesUptoRow.holds Tryz.pinned (OpenSpec.upto txnTablesSpec)

/-- 'ledgerlinelaw13.TxnDead', WHERE WHAT IT READS IS OF BULK AT MOST 1048576: true; the input reads as it did. -/
def txnDeadUptoRow : OpenClaim := { program := "ytnfijhlegoagjaagreat", sum := "fd4c9bd3ec22af4627e9f371f410bbb613c3fafd8fcb2421762951985f6ee0c1", func := "ledgerline/ledgerlinelaw13.TxnDead", spec := "txnDead", inPlace := ["sync/atomic.LoadUint32", "(*internal/sync.Mutex).Lock", "internal/race.Disable", "sync/atomic.CompareAndSwapInt32", "internal/race.Enable", "internal/race.Acquire", "(*internal/sync.Mutex).lockSlow", "internal/sync.runtime_canSpin", "internal/sync.runtime_doSpin", "internal/sync.throw", "internal/sync.runtime_nanotime", "internal/sync.runtime_SemacquireMutex", "sync/atomic.AddInt32", "(*internal/sync.Mutex).Unlock", "internal/race.ReleaseMerge", "(*internal/sync.Mutex).unlockSlow", "internal/sync.fatal", "internal/sync.runtime_Semrelease", "sync/atomic.StoreUint32", "internal/bytealg.abigen_runtime_cmpstring", "slices.overlaps[ledgerline/table.Table]", "slices.overlaps[ledgerline/txn.Work]", "sync/atomic.AddInt64"], unfollowed := true, recurses := true, apart := false, narrowed := true }
def TxnDeadUptoSaid : Prop := txnDeadUptoRow.holds Tryz.pinned (OpenSpec.upto txnDeadSpec)

/-- 'ledgerlinelaw13.TxnOnly', WHERE WHAT IT READS IS OF BULK AT MOST 1048576: true; the input reads as it did. -/
def txnOnlyUptoRow : OpenClaim := { program := "ytnfijhlegoagjaagreat", sum := "fd4c9bd3ec22af4627e9f371f410bbb613c3fafd8fcb2421762951985f6ee0c1", func := "ledgerline/ledgerlinelaw13.TxnOnly", spec := "txnOnly", inPlace := ["sync/atomic.LoadUint32", "(*internal/sync.Mutex).Lock", "internal/race.Disable", "sync/atomic.CompareAndSwapInt32", "internal/race.Enable", "internal/race.Acquire", "(*internal/sync.Mutex).lockSlow", "internal/sync.runtime_canSpin", "internal/sync.runtime_doSpin", "internal/sync.throw", "internal/sync.runtime_nanotime", "internal/sync.runtime_SemacquireMutex", "sync/atomic.AddInt32", "(*internal/sync.Mutex).Unlock", "internal/race.ReleaseMerge", "(*internal/sync.Mutex).unlockSlow", "internal/sync.fatal", "internal/sync.runtime_Semrelease", "sync/atomic.StoreUint32", "internal/bytealg.abigen_runtime_cmpstring", "slices.overlaps[ledgerline/table.Table]", "slices.overlaps[ledgerline/txn.Work]", "sync/atomic.AddInt64"], unfollowed := true, recurses := true, apart := false, narrowed := true }
def TxnOnlyUptoSaid : Prop := txnOnlyUptoRow.holds Tryz.pinned (OpenSpec.upto txnOnlySpec)

/-- 'ledgerlinelaw13.TxnMany', WHERE WHAT IT READS IS OF BULK AT MOST 1048576: true; the input reads as it did. -/
def txnManyUptoRow : OpenClaim := { program := "ytnfijhlegoagjaagreat", sum := "fd4c9bd3ec22af4627e9f371f410bbb613c3fafd8fcb2421762951985f6ee0c1", func := "ledgerline/ledgerlinelaw13.TxnMany", spec := "txnMany", inPlace := ["sync/atomic.LoadUint32", "(*internal/sync.Mutex).Lock", "internal/race.Disable", "sync/atomic.CompareAndSwapInt32", "internal/race.Enable", "internal/race.Acquire", "(*internal/sync.Mutex).lockSlow", "internal/sync.runtime_canSpin", "internal/sync.runtime_doSpin", "internal/sync.throw", "internal/sync.runtime_nanotime", "internal/sync.runtime_SemacquireMutex", "sync/atomic.AddInt32", "(*internal/sync.Mutex).Unlock", "internal/race.ReleaseMerge", "(*internal/sync.Mutex).unlockSlow", "internal/sync.fatal", "internal/sync.runtime_Semrelease", "sync/atomic.StoreUint32", "internal/bytealg.abigen_runtime_cmpstring", "slices.overlaps[ledgerline/table.Table]", "slices.overlaps[ledgerline/txn.Work]", "sync/atomic.AddInt64"], unfollowed := true, recurses := true, apart := false, narrowed := true }
def TxnManyUptoSaid : Prop := txnManyUptoRow.holds Tryz.pinned (OpenSpec.upto txnManySpec)

/-- 'ledgerlinelaw13.TxnLog', WHERE WHAT IT READS IS OF BULK AT MOST 1048576: true; the input reads as it did. -/
def txnLogUptoRow : OpenClaim := { program := "ytnfijhlegoagjaagreat", sum := "fd4c9bd3ec22af4627e9f371f410bbb613c3fafd8fcb2421762951985f6ee0c1", func := "ledgerline/ledgerlinelaw13.TxnLog", spec := "txnLog", inPlace := ["sync/atomic.LoadUint32", "(*internal/sync.Mutex).Lock", "internal/race.Disable", "sync/atomic.CompareAndSwapInt32", "internal/race.Enable", "internal/race.Acquire", "(*internal/sync.Mutex).lockSlow", "internal/sync.runtime_canSpin", "internal/sync.runtime_doSpin", "internal/sync.throw", "internal/sync.runtime_nanotime", "internal/sync.runtime_SemacquireMutex", "sync/atomic.AddInt32", "(*internal/sync.Mutex).Unlock", "internal/race.ReleaseMerge", "(*internal/sync.Mutex).unlockSlow", "internal/sync.fatal", "internal/sync.runtime_Semrelease", "sync/atomic.StoreUint32", "internal/bytealg.abigen_runtime_cmpstring", "slices.overlaps[ledgerline/table.Table]", "slices.overlaps[ledgerline/txn.Work]", "sync/atomic.AddInt64"], unfollowed := true, recurses := true, apart := false, narrowed := true }
def TxnLogUptoSaid : Prop := txnLogUptoRow.holds Tryz.pinned (OpenSpec.upto txnLogSpec)

/-- 'ledgerlinelaw13.TxnDrops', WHERE WHAT IT READS IS OF BULK AT MOST 1048576: true; the input reads as it did. -/
def txnDropsUptoRow : OpenClaim := { program := "ytnfijhlegoagjaagreat", sum := "fd4c9bd3ec22af4627e9f371f410bbb613c3fafd8fcb2421762951985f6ee0c1", func := "ledgerline/ledgerlinelaw13.TxnDrops", spec := "txnDrops", inPlace := ["sync/atomic.LoadUint32", "(*internal/sync.Mutex).Lock", "internal/race.Disable", "sync/atomic.CompareAndSwapInt32", "internal/race.Enable", "internal/race.Acquire", "(*internal/sync.Mutex).lockSlow", "internal/sync.runtime_canSpin", "internal/sync.runtime_doSpin", "internal/sync.throw", "internal/sync.runtime_nanotime", "internal/sync.runtime_SemacquireMutex", "sync/atomic.AddInt32", "(*internal/sync.Mutex).Unlock", "internal/race.ReleaseMerge", "(*internal/sync.Mutex).unlockSlow", "internal/sync.fatal", "internal/sync.runtime_Semrelease", "sync/atomic.StoreUint32", "internal/bytealg.abigen_runtime_cmpstring", "slices.overlaps[ledgerline/table.Table]", "slices.overlaps[ledgerline/txn.Work]", "sync/atomic.AddInt64"], unfollowed := true, recurses := true, apart := false, narrowed := true }
def TxnDropsUptoSaid : Prop := txnDropsUptoRow.holds Tryz.pinned (OpenSpec.upto txnDropsSpec)

/-- 'ledgerlinelaw13.TxnMarks', WHERE WHAT IT READS IS OF BULK AT MOST 1048576: true; the input reads as it did. -/
def txnMarksUptoRow : OpenClaim := { program := "ytnfijhlegoagjaagreat", sum := "fd4c9bd3ec22af4627e9f371f410bbb613c3fafd8fcb2421762951985f6ee0c1", func := "ledgerline/ledgerlinelaw13.TxnMarks", spec := "txnMarks", inPlace := ["sync/atomic.LoadUint32", "(*internal/sync.Mutex).Lock", "internal/race.Disable", "sync/atomic.CompareAndSwapInt32", "internal/race.Enable", "internal/race.Acquire", "(*internal/sync.Mutex).lockSlow", "internal/sync.runtime_canSpin", "internal/sync.runtime_doSpin", "internal/sync.throw", "internal/sync.runtime_nanotime", "internal/sync.runtime_SemacquireMutex", "sync/atomic.AddInt32", "(*internal/sync.Mutex).Unlock", "internal/race.ReleaseMerge", "(*internal/sync.Mutex).unlockSlow", "internal/sync.fatal", "internal/sync.runtime_Semrelease", "sync/atomic.StoreUint32", "internal/bytealg.abigen_runtime_cmpstring", "slices.overlaps[ledgerline/table.Table]", "slices.overlaps[ledgerline/txn.Work]", "sync/atomic.AddInt64"], unfollowed := true, recurses := true, apart := false, narrowed := true }
def TxnMarksUptoSaid : Prop := txnMarksUptoRow.holds Tryz.pinned (OpenSpec.upto txnMarksSpec)

/-- 'ledgerlinelaw13.TxnNone', WHERE WHAT IT READS IS OF BULK AT MOST 1048576: true; the input reads as it did. -/
def txnNoneUptoRow : OpenClaim := { program := "ytnfijhlegoagjaagreat", sum := "fd4c9bd3ec22af4627e9f371f410bbb613c3fafd8fcb2421762951985f6ee0c1", func := "ledgerline/ledgerlinelaw13.TxnNone", spec := "txnNone", inPlace := ["sync/atomic.LoadUint32", "(*internal/sync.Mutex).Lock", "internal/race.Disable", "sync/atomic.CompareAndSwapInt32", "internal/race.Enable", "internal/race.Acquire", "(*internal/sync.Mutex).lockSlow", "internal/sync.runtime_canSpin", "internal/sync.runtime_doSpin", "internal/sync.throw", "internal/sync.runtime_nanotime", "internal/sync.runtime_SemacquireMutex", "sync/atomic.AddInt32", "(*internal/sync.Mutex).Unlock", "internal/race.ReleaseMerge", "(*internal/sync.Mutex).unlockSlow", "internal/sync.fatal", "internal/sync.runtime_Semrelease", "sync/atomic.StoreUint32", "internal/bytealg.abigen_runtime_cmpstring", "slices.overlaps[ledgerline/table.Table]", "slices.overlaps[ledgerline/txn.Work]", "sync/atomic.AddInt64"], unfollowed := true, recurses := true, apart := false, narrowed := true }
def TxnNoneUptoSaid : Prop := txnNoneUptoRow.holds Tryz.pinned (OpenSpec.upto txnNoneSpec)

/-- 'ledgerlinelaw13.TxnBack', WHERE WHAT IT READS IS OF BULK AT MOST 1048576: true; the input reads as it did. -/
def txnBackUptoRow : OpenClaim := { program := "ytnfijhlegoagjaagreat", sum := "fd4c9bd3ec22af4627e9f371f410bbb613c3fafd8fcb2421762951985f6ee0c1", func := "ledgerline/ledgerlinelaw13.TxnBack", spec := "txnBack", inPlace := ["sync/atomic.LoadUint32", "(*internal/sync.Mutex).Lock", "internal/race.Disable", "sync/atomic.CompareAndSwapInt32", "internal/race.Enable", "internal/race.Acquire", "(*internal/sync.Mutex).lockSlow", "internal/sync.runtime_canSpin", "internal/sync.runtime_doSpin", "internal/sync.throw", "internal/sync.runtime_nanotime", "internal/sync.runtime_SemacquireMutex", "sync/atomic.AddInt32", "(*internal/sync.Mutex).Unlock", "internal/race.ReleaseMerge", "(*internal/sync.Mutex).unlockSlow", "internal/sync.fatal", "internal/sync.runtime_Semrelease", "sync/atomic.StoreUint32", "internal/bytealg.abigen_runtime_cmpstring", "slices.overlaps[ledgerline/table.Table]", "slices.overlaps[ledgerline/txn.Work]", "sync/atomic.AddInt64"], unfollowed := true, recurses := true, apart := false, narrowed := true }
def TxnBackUptoSaid : Prop := txnBackUptoRow.holds Tryz.pinned (OpenSpec.upto txnBackSpec)

/-- 'ledgerlinelaw13.TxnAlone', WHERE WHAT IT READS IS OF BULK AT MOST 1048576: true; the input reads as it did. -/
def txnAloneUptoRow : OpenClaim := { program := "ytnfijhlegoagjaagreat", sum := "fd4c9bd3ec22af4627e9f371f410bbb613c3fafd8fcb2421762951985f6ee0c1", func := "ledgerline/ledgerlinelaw13.TxnAlone", spec := "txnAlone", inPlace := ["sync/atomic.LoadUint32", "(*internal/sync.Mutex).Lock", "internal/race.Disable", "sync/atomic.CompareAndSwapInt32", "internal/race.Enable", "internal/race.Acquire", "(*internal/sync.Mutex).lockSlow", "internal/sync.runtime_canSpin", "internal/sync.runtime_doSpin", "internal/sync.throw", "internal/sync.runtime_nanotime", "internal/sync.runtime_SemacquireMutex", "sync/atomic.AddInt32", "(*internal/sync.Mutex).Unlock", "internal/race.ReleaseMerge", "(*internal/sync.Mutex).unlockSlow", "internal/sync.fatal", "internal/sync.runtime_Semrelease", "sync/atomic.StoreUint32", "internal/bytealg.abigen_runtime_cmpstring", "slices.overlaps[ledgerline/table.Table]", "slices.overlaps[ledgerline/txn.Work]", "sync/atomic.AddInt64"], unfollowed := true, recurses := true, apart := false, narrowed := true }
def TxnAloneUptoSaid : Prop := txnAloneUptoRow.holds Tryz.pinned (OpenSpec.upto txnAloneSpec)

/-- 'ledgerlinelaw13.TxnPlays', WHERE WHAT IT READS IS OF BULK AT MOST 1048576: true; the input reads as it did. -/
def txnPlaysUptoRow : OpenClaim := { program := "ytnfijhlegoagjaagreat", sum := "fd4c9bd3ec22af4627e9f371f410bbb613c3fafd8fcb2421762951985f6ee0c1", func := "ledgerline/ledgerlinelaw13.TxnPlays", spec := "txnPlays", inPlace := ["sync/atomic.LoadUint32", "(*internal/sync.Mutex).Lock", "internal/race.Disable", "sync/atomic.CompareAndSwapInt32", "internal/race.Enable", "internal/race.Acquire", "(*internal/sync.Mutex).lockSlow", "internal/sync.runtime_canSpin", "internal/sync.runtime_doSpin", "internal/sync.throw", "internal/sync.runtime_nanotime", "internal/sync.runtime_SemacquireMutex", "sync/atomic.AddInt32", "(*internal/sync.Mutex).Unlock", "internal/race.ReleaseMerge", "(*internal/sync.Mutex).unlockSlow", "internal/sync.fatal", "internal/sync.runtime_Semrelease", "sync/atomic.StoreUint32", "internal/bytealg.abigen_runtime_cmpstring", "slices.overlaps[ledgerline/table.Table]", "slices.overlaps[ledgerline/txn.Work]", "sync/atomic.AddInt64"], unfollowed := true, recurses := true, apart := false, narrowed := true }
def TxnPlaysUptoSaid : Prop := txnPlaysUptoRow.holds Tryz.pinned (OpenSpec.upto txnPlaysSpec)

end Rows
end Go.Proofs.YtnfijhlegoagjaaGreat
