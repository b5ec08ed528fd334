import Derived.Test.YtnfijhlegoagjaaGreatRows
import Derived.Test.YtnfijhlegoagjaaGreatF3
import Derived.Test.YtnfijhlegoagjaaGreatEC
set_option linter.unusedVariables false
set_option linter.unusedSimpArgs false
set_option linter.unusedSectionVars false
set_option maxRecDepth 100000
set_option maxHeartbeats 8000000
set_option linter.unusedVariables false
namespace Go.S
open Go.Sx Go.Proofs Go.ChangeShapes Go.WideShapes Go.ChangeAt Go.RowKit

/-- The whole memory as a partial heap. -/
def full (w : World) : Heap := fun b => w.heap[b]?
theorem full_agr (w : World) : Agr (full w) w := fun b o h => h

/-- A law's call, in any memory: it answers true, and what was there is there. -/
theorem law_calls {f : FuncId} {args : List Value} {w : World} (c : Ct f args (full w) (fun v h' => Le (full w) h' ∧ v = .bool true)) :
    Calls Tryz.prog f args.toArray w fun e w' => e = .returned (.bool true) ∧ w'.os = w.os ∧ w'.output = w.output ∧ ∀ b, b < w.heap.size → w'.heap[b]? = w.heap[b]? :=
  (c.out w (full_agr w)).mono fun e w' ⟨v, h', he, ⟨hl, hv⟩, ha⟩ => by
    subst hv
    refine ⟨he, ha.os, ha.output, fun b hb => ?_⟩
    have h1 : w.heap[b]? = some w.heap[b] := by simp [hb]
    rw [ha.agr b _ (hl b _ (show full w b = _ from h1)), h1]

theorem addN (b o n : Nat) : (⟨b, o, none⟩ : Addr).add n = ⟨b, o + n, none⟩ := add_none b o n

theorem i64_of_wf {n : Int} (h : (Lit.int .i64 n).wf = true) : -2 ^ 63 ≤ n ∧ n < 2 ^ 63 := by
  have h : IntKind.i64.min ≤ n ∧ n ≤ 9223372036854775807 := by simpa [Lit.wf] using h
  have hm : IntKind.i64.min = -9223372036854775808 := by decide
  rw [hm] at h
  omega
end Go.S

