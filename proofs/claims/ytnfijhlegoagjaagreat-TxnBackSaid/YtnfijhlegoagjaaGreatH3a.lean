import Derived.Test.YtnfijhlegoagjaaGreatH2a
set_option linter.unusedVariables false
set_option linter.unusedSimpArgs false
set_option linter.unusedSectionVars false
set_option maxRecDepth 100000
set_option maxHeartbeats 4000000
set_option linter.unusedVariables false
set_option linter.unusedSimpArgs false
namespace Go.S
open Go.Sx Go.Proofs

/-! One session, one table in use. -/
def hX (s : Int) : Hld := ⟨s, nTa, true⟩
def mnD (s : Int) (R : List Row) (L : List Chg) (M : List Mrk) (H : List Hld) : DB := ⟨[⟨shapeS 0, R⟩, tblS 1, tblS 2], [⟨s, L, M⟩], H, []⟩
theorem mn_hold0 (R : List Row) (L : List Chg) (M : List Mrk) : holdF (mnD 0 R L M []) ⟨0, nTa, true⟩ = (mnD 0 R L M [hX 0], 0) ∧ holdF (mnD 0 R L M [hX 0]) ⟨0, nTa, true⟩ = (mnD 0 R L M [hX 0], 0) := ⟨by kernel_rfl, by kernel_rfl⟩
theorem mn_hold2 (R : List Row) (L : List Chg) (M : List Mrk) : holdF (mnD 2 R L M []) ⟨2, nTa, true⟩ = (mnD 2 R L M [hX 2], 0) ∧ holdF (mnD 2 R L M [hX 2]) ⟨2, nTa, true⟩ = (mnD 2 R L M [hX 2], 0) := ⟨by kernel_rfl, by kernel_rfl⟩
theorem mn_bs0 (R : List Row) (L : List Chg) (M : List Mrk) (H : List Hld) : bsI (tabCmps (mnD 0 R L M H).tabs nTa) = 0 ∧ bsI (wrkC (mnD 0 R L M H).works 0) = 0 ∧ bsB (wrkC (mnD 0 R L M H).works 0) = true ∧ bsB (tabCmps (mnD 0 R L M H).tabs nTa) = true := ⟨by kernel_rfl, by kernel_rfl, by kernel_rfl, by kernel_rfl⟩
theorem mn_bs2 (R : List Row) (L : List Chg) (M : List Mrk) (H : List Hld) : bsI (tabCmps (mnD 2 R L M H).tabs nTa) = 0 ∧ bsI (wrkC (mnD 2 R L M H).works 2) = 0 ∧ bsB (wrkC (mnD 2 R L M H).works 2) = true ∧ bsB (tabCmps (mnD 2 R L M H).tabs nTa) = true := ⟨by kernel_rfl, by kernel_rfl, by kernel_rfl, by kernel_rfl⟩

def pick3 {α : Type} (e : Int) (n : Nat) (a b c : α) : α := if (decide (e ≠ 19) && decide ((n : Int) ≥ 60)) = true then a else if decide (e = 0) = true then b else c
theorem pick3_map {α β : Type} (f : α → β) (e : Int) (n : Nat) (a b c : α) : f (pick3 e n a b c) = pick3 e n (f a) (f b) (f c) := by
  unfold pick3
  split
  · rfl
  · split <;> rfl
/-- What a put does to the rows and the log. -/
def putR (R : List Row) (L : List Chg) (r : Row) : List Row × List Chg × Int :=
  pick3 (tblPut ⟨shapeS 0, R⟩ r).2 L.length (R, L, 4) ((tblPut ⟨shapeS 0, R⟩ r).1.rows, L ++ [⟨nTa, 1, r⟩], 0) (R, L, (tblPut ⟨shapeS 0, R⟩ r).2)
def takeR (R : List Row) (L : List Chg) (k : Val) : List Row × List Chg × Int :=
  pick3 (tblTake ⟨shapeS 0, R⟩ k).2.2 L.length (R, L, 4) ((tblTake ⟨shapeS 0, R⟩ k).1.rows, L ++ [⟨nTa, 2, (tblTake ⟨shapeS 0, R⟩ k).2.1⟩], 0) (R, L, (tblTake ⟨shapeS 0, R⟩ k).2.2)
theorem tblPut_S (t : Tbl) (r : Row) : (tblPut t r).1.S = t.S := by
  unfold tblPut
  repeat' split
  all_goals rfl
theorem tblTake_S (t : Tbl) (k : Val) : (tblTake t k).1.S = t.S := by unfold tblTake; split <;> rfl
theorem tbl_eta {t : Tbl} {S : Sch} (h : t.S = S) : t = ⟨S, t.rows⟩ := by cases t; simp at h; rw [h]

theorem mn_change (s : Int) {R : List Row} {L : List Chg} {M : List Mrk} {H : List Hld} (act : Tbl → Tbl × Chg × Int) (hS : (act ⟨shapeS 0, R⟩).1.S = shapeS 0) (hh : holdF (mnD s R L M H) ⟨s, nTa, true⟩ = (mnD s R L M [hX s], 0))
    (hb : bsI (tabCmps (mnD s R L M [hX s]).tabs nTa) = 0 ∧ bsI (wrkC (mnD s R L M [hX s]).works s) = 0) :
    changeF (mnD s R L M H) ⟨s, nTa, true⟩ act = pick3 (act ⟨shapeS 0, R⟩).2.2 L.length (mnD s R L M [hX s], 4)
      (mnD s (act ⟨shapeS 0, R⟩).1.rows (L ++ [⟨nTa, (act ⟨shapeS 0, R⟩).2.1.op, (act ⟨shapeS 0, R⟩).2.1.row⟩]) M [hX s], 0) (mnD s R L M [hX s], (act ⟨shapeS 0, R⟩).2.2) := by
  unfold changeF
  rw [hh]
  simp only
  rw [hb.1, hb.2]
  have t0 : (mnD s R L M [hX s]).tabs[0]? = some ⟨shapeS 0, R⟩ := rfl
  have w0 : (mnD s R L M [hX s]).works[0]? = some ⟨s, L, M⟩ := rfl
  rw [t0, w0]
  have he := tbl_eta hS
  have e0 : decide ((0 : Int) ≠ 0) = false := rfl
  rw [e0]
  simp only [Bool.false_eq_true, if_false]
  generalize act ⟨shapeS 0, R⟩ = a at *
  obtain ⟨t, c, e⟩ := a
  simp only at he
  simp only
  have e1 : (mnD s R L M [hX s]).tabs.set 0 t = [⟨shapeS 0, t.rows⟩, tblS 1, tblS 2] := by rw [← he]; rfl
  rw [e1]
  rfl
theorem putF_mn0 {R : List Row} {L : List Chg} {M : List Mrk} {H : List Hld} (hH : H = [] ∨ H = [hX 0]) (r : Row) : putF (mnD 0 R L M H) 0 nTa r = (mnD 0 (putR R L r).1 (putR R L r).2.1 M [hX 0], (putR R L r).2.2) := by
  have hh : holdF (mnD 0 R L M H) ⟨0, nTa, true⟩ = (mnD 0 R L M [hX 0], 0) := by
    rcases hH with rfl | rfl
    · exact (mn_hold0 R L M).1
    · exact (mn_hold0 R L M).2
  have h2 := mn_bs0 R L M [hX 0]
  unfold putF
  rw [mn_change 0 (doPut r) (tblPut_S _ _) hh ⟨h2.1, h2.2.1⟩]
  unfold putR
  exact (pick3_map (fun x : List Row × List Chg × Int => (mnD 0 x.1 x.2.1 M [hX 0], x.2.2)) (tblPut ⟨shapeS 0, R⟩ r).2 L.length (R, L, 4) ((tblPut ⟨shapeS 0, R⟩ r).1.rows, L ++ [⟨nTa, 1, r⟩], 0) (R, L, (tblPut ⟨shapeS 0, R⟩ r).2)).symm
theorem putF_mn2 {R : List Row} {L : List Chg} {M : List Mrk} {H : List Hld} (hH : H = [] ∨ H = [hX 2]) (r : Row) : putF (mnD 2 R L M H) 2 nTa r = (mnD 2 (putR R L r).1 (putR R L r).2.1 M [hX 2], (putR R L r).2.2) := by
  have hh : holdF (mnD 2 R L M H) ⟨2, nTa, true⟩ = (mnD 2 R L M [hX 2], 0) := by
    rcases hH with rfl | rfl
    · exact (mn_hold2 R L M).1
    · exact (mn_hold2 R L M).2
  have h2 := mn_bs2 R L M [hX 2]
  unfold putF
  rw [mn_change 2 (doPut r) (tblPut_S _ _) hh ⟨h2.1, h2.2.1⟩]
  unfold putR
  exact (pick3_map (fun x : List Row × List Chg × Int => (mnD 2 x.1 x.2.1 M [hX 2], x.2.2)) (tblPut ⟨shapeS 0, R⟩ r).2 L.length (R, L, 4) ((tblPut ⟨shapeS 0, R⟩ r).1.rows, L ++ [⟨nTa, 1, r⟩], 0) (R, L, (tblPut ⟨shapeS 0, R⟩ r).2)).symm
theorem doTake_S (R : List Row) (k : Val) : doTake k ⟨shapeS 0, R⟩ = ((tblTake ⟨shapeS 0, R⟩ k).1, ⟨noName, 2, (tblTake ⟨shapeS 0, R⟩ k).2.1⟩, (tblTake ⟨shapeS 0, R⟩ k).2.2) := by
  unfold doTake
  have : (shapeS 0).only = false := by kernel_rfl
  rw [show (⟨shapeS 0, R⟩ : Tbl).S.only = (shapeS 0).only from rfl, this]
  rfl
theorem takeF_mn2 {R : List Row} {L : List Chg} {M : List Mrk} {H : List Hld} (hH : H = [] ∨ H = [hX 2]) (k : Val) : takeF (mnD 2 R L M H) 2 nTa k = (mnD 2 (takeR R L k).1 (takeR R L k).2.1 M [hX 2], (takeR R L k).2.2) := by
  have hh : holdF (mnD 2 R L M H) ⟨2, nTa, true⟩ = (mnD 2 R L M [hX 2], 0) := by
    rcases hH with rfl | rfl
    · exact (mn_hold2 R L M).1
    · exact (mn_hold2 R L M).2
  have h2 := mn_bs2 R L M [hX 2]
  unfold takeF
  rw [mn_change 2 (doTake k) (by rw [doTake_S]; exact tblTake_S _ _) hh ⟨h2.1, h2.2.1⟩, doTake_S]
  unfold takeR
  exact (pick3_map (fun x : List Row × List Chg × Int => (mnD 2 x.1 x.2.1 M [hX 2], x.2.2)) (tblTake ⟨shapeS 0, R⟩ k).2.2 L.length (R, L, 4) ((tblTake ⟨shapeS 0, R⟩ k).1.rows, L ++ [⟨nTa, 2, (tblTake ⟨shapeS 0, R⟩ k).2.1⟩], 0) (R, L, (tblTake ⟨shapeS 0, R⟩ k).2.2)).symm
theorem putR_len {R : List Row} {L : List Chg} (r : Row) (h : R.length ≤ 2 ^ 36) : (putR R L r).1.length ≤ 2 ^ 36 := by
  unfold putR
  rw [pick3_map (fun x : List Row × List Chg × Int => x.1)]
  unfold pick3
  split
  · exact h
  · split
    · exact tblPut_rows _ _ h
    · exact h
theorem takeR_len {R : List Row} {L : List Chg} (k : Val) (h : R.length ≤ 2 ^ 36) : (takeR R L k).1.length ≤ 2 ^ 36 := by
  unfold takeR
  rw [pick3_map (fun x : List Row × List Chg × Int => x.1)]
  unfold pick3
  split
  · exact h
  · split
    · exact tblTake_rows _ _ h
    · exact h
theorem mn_ok {s : Int} (hs : 0 ≤ s ∧ s < 8) {R : List Row} {L : List Chg} {M : List Mrk} {H : List Hld} (hH : H = [] ∨ H = [hX s]) (hR : R.length ≤ 2 ^ 36) : Okd 2 (mnD s R L M H) := by
  refine ⟨by simp [mnD], by simp [mnD], by simp [mnD]; exact hs, ?_, ?_, by simp [mnD], ?_⟩
  · intro t ht
    simp [mnD, tblS] at ht
    rcases ht with rfl | rfl | rfl
    · exact hR
    · simp
    · simp
  · rcases hH with rfl | rfl <;> simp [mnD]
  · rcases hH with rfl | rfl
    · simp [mnD]
    · simp [mnD, hX]; exact hs
theorem dbW_mn (s : Int) : dbW s = mnD s [] [] [] [] := rfl
end Go.S
namespace Go.Sx
/-- An element is read, and read again. -/
theorem SlB.loadP {α : Type} {A : Ar} [ArOk A] {s : Sh α} {h : Heap} {b : Option Addr} {len cap : Nat} {xs : List α} (q : SlB s h (.slice b len cap) xs) {i : Nat} {x : α} (hx : xs[i]? = some x) {n : Int} (hn : n = (i : Int))
    {k : List Value → Prop} (hk : ∀ cs, s.R h cs x → (∀ h' k', Le h h' → k' cs → LdX h' (A.elt b n s.n) s.n k') → k cs) : LdX h (A.elt b n s.n) s.n k := by
  have key : ∃ cs, rdc h (A.elt b n s.n) s.n cs ∧ s.R h cs x := by
    have := (q.load (A := A) hx hn (k := fun cs => s.R h cs x) (fun cs hcs => hcs)).out
    exact this
  obtain ⟨cs, h1, h2⟩ := key
  exact ⟨cs, h1, hk cs h2 (fun h' k' l hk' => ⟨cs, h1.le l, hk'⟩)⟩
end Go.Sx

