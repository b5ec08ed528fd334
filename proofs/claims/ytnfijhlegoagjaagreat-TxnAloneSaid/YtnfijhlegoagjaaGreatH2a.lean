import Derived.Test.YtnfijhlegoagjaaGreatH1
import Derived.Test.YtnfijhlegoagjaaGreatGC
set_option linter.unusedVariables false
set_option linter.unusedSimpArgs false
set_option linter.unusedSectionVars false
set_option maxRecDepth 100000
set_option maxHeartbeats 4000000
set_option linter.unusedVariables false
set_option linter.unusedSimpArgs false
namespace Go.S
open Go.Sx Go.Proofs

/-! Rows that 'Fit' makes for the three tables. -/
def RowOk (r : Row) : Prop := ∃ a v, r = [⟨2, a, noS⟩, v] ∧ (v = ⟨0, 0, noS⟩ ∨ ∃ s, v = ⟨3, 0, s⟩ ∧ s.size ≤ 60)
theorem fit_ok (n : Int) : RowOk (fitL shColsE n 2) := by
  refine ⟨fitK 0 n, fitV ⟨⟨#[98]⟩, 3, true⟩ 1 n, by simp [fitL, List.range, List.range.loop, shColsE, fitV], ?_⟩
  unfold fitV
  by_cases h : n % 5 = 0
  · left; simp [h]
  · right
    refine ⟨fitAbc.extract 0 (fitK 1 n % 9).toNat, by simp [h], ?_⟩
    have h1 : fitAbc.size = 26 := by kernel_rfl
    have : (fitAbc.extract 0 (fitK 1 n % 9).toNat).size ≤ 26 := by
      rw [ByteArray.size_extract]; omega
    omega
theorem cmpB_self (s : ByteArray) : cmpB s s = 0 := by
  unfold cmpB
  have h : ∀ l : List UInt8, Lib.compareBytes l l = 0 := fun l => by
    induction l with
    | nil => rfl
    | cons x r ih => unfold Lib.compareBytes; simp [ih]
  exact h _
theorem cmpI_self (a : Int) : cmpI a a = 0 := by unfold cmpI; simp
theorem RowOk.fits {r : Row} (h : RowOk r) : fitsErr shColsE r = 0 := by
  obtain ⟨a, v, rfl, hv⟩ := h
  have e0 : ¬ ((noS.size : Int) > 60) := by decide
  have e1 : valErr ⟨2, a, noS⟩ = 0 := by
    have : (⟨#[]⟩ : ByteArray) = noS := rfl
    simp [valErr, sameV, bareV, this, e0]
  have e2 : valErr v = 0 ∧ (v.k = 0 ∨ v.k = 3) := by
    rcases hv with rfl | ⟨s, rfl, hs⟩
    · refine ⟨?_, .inl rfl⟩
      have : (⟨#[]⟩ : ByteArray) = noS := rfl
      simp [valErr, sameV, bareV, this, e0]
    · refine ⟨?_, .inr rfl⟩
      have : ¬ ((s.size : Int) > 60) := by omega
      simp [valErr, sameV, bareV, this]
  have f1 : fitErr1 ⟨nA, 2, false⟩ ⟨2, a, noS⟩ = 0 := by simp [fitErr1, e1]
  have f2 : fitErr1 ⟨⟨#[98]⟩, 3, true⟩ v = 0 := by
    unfold fitErr1
    rw [e2.1]
    rcases e2.2 with h | h <;> simp [h]
  unfold fitsErr
  simp [shColsE, f1, f2, firstNZ]

/-! 'TxnOnly', the plain part. -/
def nTc : ByteArray := ⟨#[116, 99]⟩
def only1 (r : Row) : DB := ⟨[tblS 0, tblS 1, ⟨shapeS 2, [r]⟩], [⟨0, [⟨nTc, 1, r⟩], []⟩], [⟨0, nTc, true⟩], []⟩
def only2 (r : Row) : DB := ⟨[⟨shapeS 0, [r]⟩, tblS 1, ⟨shapeS 2, [r]⟩], [⟨0, [⟨nTc, 1, r⟩, ⟨nTa, 1, r⟩], []⟩], [⟨0, nTc, true⟩, ⟨0, nTa, true⟩], []⟩
def only4 (r : Row) : DB := ⟨[⟨shapeS 0, []⟩, tblS 1, ⟨shapeS 2, [r]⟩], [⟨0, [⟨nTc, 1, r⟩, ⟨nTa, 1, r⟩, ⟨nTa, 2, r⟩], []⟩], [⟨0, nTc, true⟩, ⟨0, nTa, true⟩], []⟩
end Go.S

