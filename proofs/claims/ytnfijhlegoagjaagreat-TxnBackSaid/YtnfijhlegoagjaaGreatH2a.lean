import Derived.Test.YtnfijhlegoagjaaGreatH1
import Derived.Test.YtnfijhlegoagjaaGreatGC
set_option linter.unusedVariables false
set_option linter.unusedSimpArgs false
set_option linter.unusedSectionVars false
set_option maxRecDepth 100000
set_option maxHeartbeats 4000000
set_option linter.unusedVariables false
set_option linter.unusedSimpArgs false
namespace Go.S
open Go.Sx Go.Proofs

/-! Rows that 'Fit' makes for the three tables. -/
def RowOk (r : Row) : Prop := ∃ a v, r = [⟨2, a, noS⟩, v] ∧ (v = ⟨0, 0, noS⟩ ∨ ∃ s, v = ⟨3, 0, s⟩ ∧ s.size ≤ 60)
theorem fit_ok (n : Int) : RowOk (fitL shColsE n 2) := by
  refine ⟨fitK 0 n, fitV ⟨⟨#[98]⟩, 3, true⟩ 1 n, by simp [fitL, List.range, List.range.loop, shColsE, fitV], ?_⟩
  unfold fitV
  by_cases h : n % 5 = 0
  · left; simp [h]
  · right
    refine ⟨fitAbc.extract 0 (fitK 1 n % 9).toNat, by simp [h], ?_⟩
    have h1 : fitAbc.size = 26 := by kernel_rfl
    have : (fitAbc.extract 0 (fitK 1 n % 9).toNat).size ≤ 26 := by
      rw [ByteArray.size_extract]; omega
    omega
theorem cmpB_self (s : ByteArray) : cmpB s s = 0 := by
  unfold cmpB
  have h : ∀ l : List UInt8, Lib.compareBytes l l = 0 := fun l => by
    induction l with
    | nil => rfl
    | cons x r ih => unfold Lib.compareBytes; simp [ih]
  exact h _
theorem cmpI_self (a : Int) : cmpI a a = 0 := by unfold cmpI; simp
theorem valCmp_self (v : Val) : valCmp v v = 0 := by unfold valCmp; simp [firstNZ, cmpI_self, cmpB_self]
theorem RowOk.fits {r : Row} (h : RowOk r) : fitsErr shColsE r = 0 := by
  obtain ⟨a, v, rfl, hv⟩ := h
  have e0 : ¬ ((noS.size : Int) > 60) := by decide
  have e1 : valErr ⟨2, a, noS⟩ = 0 := by
    have : (⟨#[]⟩ : ByteArray) = noS := rfl
    simp [valErr, sameV, bareV, this, e0]
  have e2 : valErr v = 0 ∧ (v.k = 0 ∨ v.k = 3) := by
    rcases hv with rfl | ⟨s, rfl, hs⟩
    · refine ⟨?_, .inl rfl⟩
      have : (⟨#[]⟩ : ByteArray) = noS := rfl
      simp [valErr, sameV, bareV, this, e0]
    · refine ⟨?_, .inr rfl⟩
      have : ¬ ((s.size : Int) > 60) := by omega
      simp [valErr, sameV, bareV, this]
  have f1 : fitErr1 ⟨nA, 2, false⟩ ⟨2, a, noS⟩ = 0 := by simp [fitErr1, e1]
  have f2 : fitErr1 ⟨⟨#[98]⟩, 3, true⟩ v = 0 := by
    unfold fitErr1
    rw [e2.1]
    rcases e2.2 with h | h <;> simp [h]
  unfold fitsErr
  simp [shColsE, f1, f2, firstNZ]

/-- A row that is put where it fits and is not yet. -/
theorem putF_ok {d d1 : DB} {s : Int} {nm : ByteArray} {r : Row} {ti wi : Nat} {t t' : Tbl} {w : Wrk} (hh : holdF d ⟨s, nm, true⟩ = (d1, 0)) (hti : bsI (tabCmps d1.tabs nm) = ti) (hwi : bsI (wrkC d1.works s) = wi) (ht : d1.tabs[ti]? = some t) (hw : d1.works[wi]? = some w)
    (hp : tblPut t r = (t', 0)) (hl : w.log.length < 60) : putF d s nm r = (⟨d1.tabs.set ti t', d1.works.set wi ⟨w.s, w.log ++ [⟨nm, 1, r⟩], w.marks⟩, d1.holds, d1.waits⟩, 0) := by
  unfold putF changeF
  rw [hh]
  simp only
  rw [hti, hwi, ht, hw]
  have : decide ((w.log.length : Int) ≥ 60) = false := decide_eq_false (by omega)
  simp [doPut, hp, this]
theorem takeF_ok {d d1 : DB} {s : Int} {nm : ByteArray} {k : Val} {r : Row} {ti wi : Nat} {t t' : Tbl} {w : Wrk} (hh : holdF d ⟨s, nm, true⟩ = (d1, 0)) (hti : bsI (tabCmps d1.tabs nm) = ti) (hwi : bsI (wrkC d1.works s) = wi) (ht : d1.tabs[ti]? = some t) (hw : d1.works[wi]? = some w)
    (ho : t.S.only = false) (hp : tblTake t k = (t', r, 0)) (hl : w.log.length < 60) : takeF d s nm k = (⟨d1.tabs.set ti t', d1.works.set wi ⟨w.s, w.log ++ [⟨nm, 2, r⟩], w.marks⟩, d1.holds, d1.waits⟩, 0) := by
  unfold takeF changeF
  rw [hh]
  simp only
  rw [hti, hwi, ht, hw]
  have : decide ((w.log.length : Int) ≥ 60) = false := decide_eq_false (by omega)
  simp [doTake, ho, hp, this]
theorem takeF_only {d d1 : DB} {s : Int} {nm : ByteArray} {k : Val} {ti wi : Nat} {t : Tbl} {w : Wrk} (hh : holdF d ⟨s, nm, true⟩ = (d1, 0)) (hti : bsI (tabCmps d1.tabs nm) = ti) (hwi : bsI (wrkC d1.works s) = wi) (ht : d1.tabs[ti]? = some t) (hw : d1.works[wi]? = some w)
    (ho : t.S.only = true) : takeF d s nm k = (d1, 19) := by
  unfold takeF changeF
  rw [hh]
  simp only
  rw [hti, hwi, ht, hw]
  simp [doTake, ho]
theorem bs_nil : bsB [] = false := by kernel_rfl
theorem tblPut_new {S : Sch} {r : Row} (hf : fitsErr S.cols r = 0) : tblPut ⟨S, []⟩ r = (⟨S, [r]⟩, 0) := by
  have e : bsB (rowCmps ⟨S, []⟩ (keyOf S.key r)) = false := by
    have : rowCmps ⟨S, []⟩ (keyOf S.key r) = [] := rfl
    rw [this]; exact bs_nil
  unfold tblPut
  rw [hf, e]
  simp [tblIns]
theorem bs_one : bsB [0] = true ∧ bsI [0] = 0 := ⟨by kernel_rfl, by kernel_rfl⟩
theorem tblTake_one {S : Sch} {r : Row} {k : Val} (hk : keyOf S.key r = k) : tblTake ⟨S, [r]⟩ k = (⟨S, []⟩, r, 0) := by
  have e : rowCmps ⟨S, [r]⟩ k = [0] := by simp [rowCmps, hk, valCmp_self]
  unfold tblTake
  rw [e, bs_one.1, bs_one.2]
  simp [tblDel]

/-! 'TxnOnly', the plain part. -/
def nTc : ByteArray := ⟨#[116, 99]⟩
def only1 (r : Row) : DB := ⟨[tblS 0, tblS 1, ⟨shapeS 2, [r]⟩], [⟨0, [⟨nTc, 1, r⟩], []⟩], [⟨0, nTc, true⟩], []⟩
def only2 (r : Row) : DB := ⟨[⟨shapeS 0, [r]⟩, tblS 1, ⟨shapeS 2, [r]⟩], [⟨0, [⟨nTc, 1, r⟩, ⟨nTa, 1, r⟩], []⟩], [⟨0, nTc, true⟩, ⟨0, nTa, true⟩], []⟩
def only4 (r : Row) : DB := ⟨[⟨shapeS 0, []⟩, tblS 1, ⟨shapeS 2, [r]⟩], [⟨0, [⟨nTc, 1, r⟩, ⟨nTa, 1, r⟩, ⟨nTa, 2, r⟩], []⟩], [⟨0, nTc, true⟩, ⟨0, nTa, true⟩], []⟩
theorem only_put1 {r : Row} (h : RowOk r) : putF (dbW 0) 0 nTc r = (only1 r, 0) :=
  putF_ok (d1 := ⟨startE.tabs, [⟨0, [], []⟩], [⟨0, nTc, true⟩], []⟩) (ti := 2) (wi := 0) (t := tblS 2) (w := ⟨0, [], []⟩) (by kernel_rfl) (by kernel_rfl) (by kernel_rfl) rfl rfl (tblPut_new (S := shapeS 2) h.fits) (by simp)
theorem only_put2 {r : Row} (h : RowOk r) : putF (only1 r) 0 nTa r = (only2 r, 0) :=
  putF_ok (d1 := ⟨(only1 r).tabs, (only1 r).works, [⟨0, nTc, true⟩, ⟨0, nTa, true⟩], []⟩) (ti := 0) (wi := 0) (t := tblS 0) (w := ⟨0, [⟨nTc, 1, r⟩], []⟩) (by kernel_rfl) (by kernel_rfl) (by kernel_rfl) rfl rfl (tblPut_new (S := shapeS 0) h.fits) (by simp)
theorem only_take3 (r : Row) (k : Val) : takeF (only2 r) 0 nTc k = (only2 r, 19) :=
  takeF_only (d1 := only2 r) (ti := 2) (wi := 0) (t := ⟨shapeS 2, [r]⟩) (w := ⟨0, [⟨nTc, 1, r⟩, ⟨nTa, 1, r⟩], []⟩) (by kernel_rfl) (by kernel_rfl) (by kernel_rfl) rfl rfl rfl
theorem only_take4 {r : Row} {k : Val} (hk : keyOf 0 r = k) : takeF (only2 r) 0 nTa k = (only4 r, 0) :=
  takeF_ok (d1 := only2 r) (ti := 0) (wi := 0) (t := ⟨shapeS 0, [r]⟩) (w := ⟨0, [⟨nTc, 1, r⟩, ⟨nTa, 1, r⟩], []⟩) (by kernel_rfl) (by kernel_rfl) (by kernel_rfl) rfl rfl rfl (tblTake_one (S := shapeS 0) hk) (by simp)
end Go.S

