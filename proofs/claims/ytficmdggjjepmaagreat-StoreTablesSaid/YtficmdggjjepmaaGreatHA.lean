import Derived.Test.YtficmdggjjepmaaGreatGC
import Derived.Test.YtficmdggjjepmaaGreatEC
set_option linter.all false
set_option maxRecDepth 100000
set_option maxHeartbeats 16000000
namespace Go.S
open Go.Sx Go.Proofs

def nTa : ByteArray := ⟨#[116, 97]⟩
def nM : ByteArray := ⟨#[109]⟩
/-- The three tables, and one session at work. -/
def dbW (s : Int) : DB := ⟨startE.tabs, [⟨s, [], []⟩], [], []⟩

end Go.S

set_option maxRecDepth 100000
set_option maxHeartbeats 4000000
namespace Go.S
open Go.Sx Go.Proofs

/-! Rows that 'Fit' makes for the three tables. -/
def RowOk (r : Row) : Prop := ∃ a v, r = [⟨2, a, noS⟩, v] ∧ (v = ⟨0, 0, noS⟩ ∨ ∃ s, v = ⟨3, 0, s⟩ ∧ s.size ≤ 60)
theorem cmpB_self (s : ByteArray) : cmpB s s = 0 := by
  unfold cmpB
  have h : ∀ l : List UInt8, Lib.compareBytes l l = 0 := fun l => by
    induction l with
    | nil => rfl
    | cons x r ih => unfold Lib.compareBytes; simp [ih]
  exact h _
/-! 'TxnOnly', the plain part. -/
def nTc : ByteArray := ⟨#[116, 99]⟩
def only1 (r : Row) : DB := ⟨[tblS 0, tblS 1, ⟨shapeS 2, [r]⟩], [⟨0, [⟨nTc, 1, r⟩], []⟩], [⟨0, nTc, true⟩], []⟩
def only2 (r : Row) : DB := ⟨[⟨shapeS 0, [r]⟩, tblS 1, ⟨shapeS 2, [r]⟩], [⟨0, [⟨nTc, 1, r⟩, ⟨nTa, 1, r⟩], []⟩], [⟨0, nTc, true⟩, ⟨0, nTa, true⟩], []⟩
def only4 (r : Row) : DB := ⟨[⟨shapeS 0, []⟩, tblS 1, ⟨shapeS 2, [r]⟩], [⟨0, [⟨nTc, 1, r⟩, ⟨nTa, 1, r⟩, ⟨nTa, 2, r⟩], []⟩], [⟨0, nTc, true⟩, ⟨0, nTa, true⟩], []⟩
end Go.S

set_option maxRecDepth 100000
set_option maxHeartbeats 4000000
namespace Go.S
open Go.Sx Go.Proofs

/-! One session, one table in use. -/
def hX (s : Int) : Hld := ⟨s, nTa, true⟩
def mnD (s : Int) (R : List Row) (L : List Chg) (M : List Mrk) (H : List Hld) : DB := ⟨[⟨shapeS 0, R⟩, tblS 1, tblS 2], [⟨s, L, M⟩], H, []⟩
def pick3 {α : Type} (e : Int) (n : Nat) (a b c : α) : α := if (decide (e ≠ 19) && decide ((n : Int) ≥ 60)) = true then a else if decide (e = 0) = true then b else c
/-- What a put does to the rows and the log. -/
def putR (R : List Row) (L : List Chg) (r : Row) : List Row × List Chg × Int :=
  pick3 (tblPut ⟨shapeS 0, R⟩ r).2 L.length (R, L, 4) ((tblPut ⟨shapeS 0, R⟩ r).1.rows, L ++ [⟨nTa, 1, r⟩], 0) (R, L, (tblPut ⟨shapeS 0, R⟩ r).2)
def takeR (R : List Row) (L : List Chg) (k : Val) : List Row × List Chg × Int :=
  pick3 (tblTake ⟨shapeS 0, R⟩ k).2.2 L.length (R, L, 4) ((tblTake ⟨shapeS 0, R⟩ k).1.rows, L ++ [⟨nTa, 2, (tblTake ⟨shapeS 0, R⟩ k).2.1⟩], 0) (R, L, (tblTake ⟨shapeS 0, R⟩ k).2.2)
end Go.S
namespace Go.Sx
end Go.Sx

set_option maxRecDepth 100000
set_option maxHeartbeats 16000000
namespace Go.S
open Go.Sx Go.Proofs

end Go.S

set_option maxRecDepth 100000
set_option maxHeartbeats 16000000
namespace Go.S
open Go.Sx Go.Proofs

abbrev W12.cells (v : W12) : List Value := [.slice v.b1 v.n1 v.c1, .slice v.b2 v.n2 v.c2, .slice v.b3 v.n3 v.c3, .slice v.b4 v.n4 v.c4]
abbrev W12.val (v : W12) : Value := .agg #[.slice v.b1 v.n1 v.c1, .slice v.b2 v.n2 v.c2, .slice v.b3 v.n3 v.c3, .slice v.b4 v.n4 v.c4]
def w0 : W12 := ⟨none, 0, 0, none, 0, 0, none, 0, 0, none, 0, 0⟩
def cmD (R : List Row) : DB := ⟨[⟨shapeS 0, R⟩, tblS 1, tblS 2], [], [], []⟩
def drD : DB := ⟨[tblS 1, tblS 2], [], [], []⟩
end Go.S

set_option maxRecDepth 100000
set_option maxHeartbeats 16000000
namespace Go.S
open Go.Sx Go.Proofs

def rowN (j : Int) : Row := [⟨2, j, noS⟩, ⟨0, 0, noS⟩]
def rowsN (m : Nat) : List Row := (List.range m).map fun j : Nat => rowN (j : Int)
def logN (m : Nat) : List Chg := (List.range m).map fun j : Nat => ⟨nTa, 1, rowN (j : Int)⟩
def mkH (i : Nat) : List Hld := if i = 0 then [] else [hX 0]
def mkD (i : Nat) : DB := mnD 0 (rowsN (min i 60)) (logN (min i 60)) [] (mkH i)
def svD (p j : Nat) : DB := mnD 0 (rowsN p) (logN p) (List.replicate (min j 10) ⟨nM, (p : Int)⟩) [hX 0]
end Go.S

