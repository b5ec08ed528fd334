import Derived.Test.YtnfijhlegoagjaaGreatJ1
import Derived.Test.YtnfijhlegoagjaaGreatGB
import Derived.Test.YtnfijhlegoagjaaGreatI2a
import Derived.Test.YtnfijhlegoagjaaGreatH4
set_option linter.unusedVariables false
set_option linter.unusedSimpArgs false
set_option linter.unusedSectionVars false
set_option maxRecDepth 100000
set_option maxHeartbeats 4000000
set_option linter.unusedVariables false
set_option linter.unusedSimpArgs false
namespace Go.S
open Go.Sx Go.Proofs

/-! Rows, their log, and the way back. -/
def tT (R : List Row) : List Tbl := [⟨shapeS 0, R⟩, tblS 1, tblS 2]
structure SO (R : List Row) : Prop where
  sr : SR R
  ok : ∀ row ∈ R, RowOk row
  le : R.length ≤ 200
theorem SO.nil : SO [] := ⟨SR.nil, by simp, by simp⟩
theorem t3_bs (R : List Row) : bsB (tabCmps (tT R) nTa) = true ∧ bsI (tabCmps (tT R) nTa) = 0 := ⟨by kernel_rfl, by kernel_rfl⟩
theorem undo_put {R : List Row} {r : Row} : undo1 (tT R) ⟨nTa, 2, r⟩ = tT (tblPut ⟨shapeS 0, R⟩ r).1.rows := by
  have h := tblPut_S ⟨shapeS 0, R⟩ r
  have e := tbl_eta h
  unfold undo1
  rw [(t3_bs R).1, (t3_bs R).2]
  rw [show (tT R)[0]? = some ⟨shapeS 0, R⟩ from rfl]
  simp only [if_true, decide_true]
  rw [e]
  rfl
theorem undo_take {R : List Row} {a : Int} {v : Val} : undo1 (tT R) ⟨nTa, 1, [⟨2, a, noS⟩, v]⟩ = tT (tblTake ⟨shapeS 0, R⟩ ⟨2, a, noS⟩).1.rows := by
  have h := tblTake_S ⟨shapeS 0, R⟩ ⟨2, a, noS⟩
  have e := tbl_eta h
  have hv : valAt [⟨2, a, noS⟩, v] (shapeS 0).key = ⟨2, a, noS⟩ := by rw [key0]; rfl
  have hk : (decide ((shapeS 0).key ≥ 0) && decide ((shapeS 0).key < (([⟨2, a, noS⟩, v] : Row).length : Int))) = true := by rw [key0]; rfl
  unfold undo1
  rw [(t3_bs R).1, (t3_bs R).2]
  rw [show (tT R)[0]? = some ⟨shapeS 0, R⟩ from rfl]
  simp only [if_true]
  rw [show decide ((1 : Int) = 2) = false from rfl]
  simp only [Bool.false_eq_true, if_false]
  rw [hk]
  simp only [if_true]
  rw [hv, e]
  rfl
theorem At.ins {R : List Row} {a : Int} {v : Val} {p : Nat} (q : At R a p) : At (R.take p ++ [[⟨2, a, noS⟩, v]] ++ R.drop p) a p ∧ hasK (R.take p ++ [[⟨2, a, noS⟩, v]] ++ R.drop p) a p = true := by
  have hp := q.le
  have ht : (R.take p).length = p := by simp; omega
  have e1 : ∀ i, i < p → (R.take p ++ [[⟨2, a, noS⟩, v]] ++ R.drop p)[i]? = R[i]? := fun i hi => by
    rw [List.append_assoc, List.getElem?_append_left (by omega), List.getElem?_take, if_pos hi]
  have e2 : (R.take p ++ [[⟨2, a, noS⟩, v]] ++ R.drop p)[p]? = some [⟨2, a, noS⟩, v] := by
    rw [List.append_assoc, List.getElem?_append_right (by omega), ht, Nat.sub_self]; rfl
  have e3 : ∀ i, p < i → (R.take p ++ [[⟨2, a, noS⟩, v]] ++ R.drop p)[i]? = R[i - 1]? := fun i hi => by
    rw [List.getElem?_append_right (by simp; omega), List.getElem?_drop]
    congr 1
    simp; omega
  refine ⟨⟨by simp; omega, fun i row hi hr => ?_, fun i row hi hr => ?_⟩, ?_⟩
  · rw [e1 i hi] at hr; exact q.lo i row hi hr
  · rcases Nat.eq_or_lt_of_le hi with h | h
    · subst h; rw [e2] at hr; cases hr; exact Int.le_refl _
    · rw [e3 i h] at hr; exact q.hi (i - 1) row (by omega) hr
  · unfold hasK; rw [e2]; exact decide_eq_true rfl
theorem ins_del {R : List Row} {x : Row} {p : Nat} (hp : p ≤ R.length) : (R.take p ++ [x] ++ R.drop p).take p ++ (R.take p ++ [x] ++ R.drop p).drop (p + 1) = R := by
  have ht : (R.take p).length = p := by simp; omega
  rw [List.append_assoc, List.take_append_of_le_length (by omega), List.take_of_length_le (by omega), ← List.append_assoc, List.drop_append_of_le_length (by simp; omega), List.drop_of_length_le (by simp; omega), List.nil_append, List.take_append_drop]
theorem putR_U {R : List Row} {L : List Chg} {r : Row} (h : SO R) (hr : RowOk r) : ∃ R' L' e, putR R L r = (R', L', e) ∧ SO R' ∧ ((L' = L ∧ R' = R) ∨ ∃ x, L' = L ++ [x] ∧ undo1 (tT R') x = tT R) := by
  have hf := hr.fits
  have hr' := hr
  obtain ⟨a, v, rfl, -⟩ := hr'
  obtain ⟨p, q⟩ := h.sr.at_ a
  have hp := tblPut_SR key0 h.sr (S := shapeS 0) hf q
  unfold putR
  rw [hp]
  have same : ∀ e : Int, e ≠ 0 → ∃ R' L' e', pick3 e L.length (R, L, (4 : Int)) (R, L ++ [⟨nTa, 1, [⟨2, a, noS⟩, v]⟩], 0) (R, L, e) = (R', L', e') ∧ SO R' ∧ ((L' = L ∧ R' = R) ∨ ∃ x, L' = L ++ [x] ∧ undo1 (tT R') x = tT R) := fun e he => by
    unfold pick3
    split
    · exact ⟨R, L, 4, rfl, h, .inl ⟨rfl, rfl⟩⟩
    · rw [if_neg (by simpa using he)]
      exact ⟨R, L, e, rfl, h, .inl ⟨rfl, rfl⟩⟩
  by_cases h1 : hasK R a p = true
  · rw [if_pos h1]; exact same 7 (by decide)
  · rw [if_neg h1]
    by_cases h2 : decide ((R.length : Int) ≥ 200) = true
    · rw [if_pos h2]; exact same 4 (by decide)
    · rw [if_neg h2]
      have h2 : R.length < 200 := by simp at h2; omega
      have h3 := h.sr.ins (v := v) q (by simpa using h1)
      unfold pick3
      split
      · exact ⟨R, L, 4, rfl, h, .inl ⟨rfl, rfl⟩⟩
      · refine ⟨_, _, 0, rfl, ⟨h3, fun row hrow => ?_, ?_⟩, .inr ⟨_, rfl, ?_⟩⟩
        · rcases List.mem_append.1 hrow with hrow | hrow
          · rcases List.mem_append.1 hrow with hrow | hrow
            · exact h.ok row (List.mem_of_mem_take hrow)
            · simp at hrow; rw [hrow]; exact hr
          · exact h.ok row (List.mem_of_mem_drop hrow)
        · have := q.le
          simp; omega
        · obtain ⟨q1, q2⟩ := q.ins (v := v)
          rw [undo_take, tblTake_SR key0 h3 q1, if_pos q2, ins_del q.le]
theorem At.del {R : List Row} {a : Int} {p : Nat} (h : SR R) (q : At R a p) (hk : hasK R a p = true) : At (R.take p ++ R.drop (p + 1)) a p ∧ hasK (R.take p ++ R.drop (p + 1)) a p = false := by
  have hlt : p < R.length := by
    unfold hasK at hk
    cases hr : R[p]? with
    | none => rw [hr] at hk; cases hk
    | some row => exact (List.getElem?_eq_some_iff.1 hr).1
  have ht : (R.take p).length = p := by simp; omega
  have e1 : ∀ i, i < p → (R.take p ++ R.drop (p + 1))[i]? = R[i]? := fun i hi => by
    rw [List.getElem?_append_left (by omega), List.getElem?_take, if_pos hi]
  have e3 : ∀ i, p ≤ i → (R.take p ++ R.drop (p + 1))[i]? = R[i + 1]? := fun i hi => by
    rw [List.getElem?_append_right (by omega), List.getElem?_drop]
    congr 1
    omega
  have hi2 : ∀ i row, p < i → R[i]? = some row → a < kN row := fun i row hi hr => by
    unfold hasK at hk
    obtain ⟨row0, hr0⟩ := get_ex hlt
    rw [hr0] at hk
    have hka : kN row0 = a := of_decide_eq_true hk
    have h4 := List.pairwise_iff_getElem.1 h.srt p i hlt (List.getElem?_eq_some_iff.1 hr).1 hi
    rw [(List.getElem?_eq_some_iff.1 hr0).2, (List.getElem?_eq_some_iff.1 hr).2] at h4
    omega
  refine ⟨⟨by simp; omega, fun i row hi hr => ?_, fun i row hi hr => ?_⟩, ?_⟩
  · rw [e1 i hi] at hr; exact q.lo i row hi hr
  · rw [e3 i hi] at hr; have := hi2 (i + 1) row (by omega) hr; omega
  · unfold hasK
    rw [e3 p (Nat.le_refl _)]
    cases hr : R[p + 1]? with
    | none => rfl
    | some row => have := hi2 (p + 1) row (by omega) hr; exact decide_eq_false (by omega)
theorem del_ins {R : List Row} {x : Row} {p : Nat} (hx : R[p]? = some x) : (R.take p ++ R.drop (p + 1)).take p ++ [x] ++ (R.take p ++ R.drop (p + 1)).drop p = R := by
  have hlt := (List.getElem?_eq_some_iff.1 hx).1
  have ht : (R.take p).length = p := by simp; omega
  rw [List.take_append_of_le_length (by omega), List.take_of_length_le (by omega), List.drop_append_of_le_length (by omega), List.drop_of_length_le (by omega), List.nil_append, List.append_assoc]
  conv => rhs; rw [← List.take_append_drop p R, List.drop_eq_getElem_cons hlt, (List.getElem?_eq_some_iff.1 hx).2]
  rfl
theorem takeR_U {R : List Row} {L : List Chg} {a : Int} (h : SO R) : ∃ R' L' e, takeR R L ⟨2, a, noS⟩ = (R', L', e) ∧ SO R' ∧ ((L' = L ∧ R' = R) ∨ ∃ x, L' = L ++ [x] ∧ undo1 (tT R') x = tT R) := by
  obtain ⟨p, q⟩ := h.sr.at_ a
  have hp := tblTake_SR key0 h.sr (S := shapeS 0) q
  unfold takeR
  rw [hp]
  by_cases h1 : hasK R a p = true
  · rw [if_pos h1]
    obtain ⟨row, hr, hk, hfil⟩ := q.filter h.sr h1
    have hlt := (List.getElem?_eq_some_iff.1 hr).1
    have hsub := take_drop_sub R p
    have h3 := h.sr.sub hsub
    unfold pick3
    split
    · exact ⟨R, L, 4, rfl, h, .inl ⟨rfl, rfl⟩⟩
    · refine ⟨_, _, 0, rfl, ⟨h3, fun row hrow => h.ok row (hsub.subset hrow), Nat.le_trans hsub.length_le h.le⟩, .inr ⟨_, rfl, ?_⟩⟩
      obtain ⟨q1, q2⟩ := q.del h.sr h1
      have hro := h.ok row (List.mem_of_getElem? hr)
      have hf := hro.fits
      obtain ⟨b, v, rfl, -⟩ := hro
      have hb : b = a := hk
      subst hb
      have hle := h.le
      have hlen : (R.take p ++ R.drop (p + 1)).length = R.length - 1 := by simp; omega
      rw [undo_put, hr]
      rw [show (some ([⟨2, b, noS⟩, v] : Row)).getD [] = [⟨2, b, noS⟩, v] from rfl]
      rw [tblPut_SR key0 h3 (S := shapeS 0) hf q1, if_neg (by rw [q2]; decide), if_neg (by rw [hlen]; simp; omega)]
      rw [del_ins hr]
  · rw [if_neg h1]
    unfold pick3
    split
    · exact ⟨R, L, 4, rfl, h, .inl ⟨rfl, rfl⟩⟩
    · exact ⟨R, L, 2, rfl, h, .inl ⟨rfl, rfl⟩⟩
/-- The way back to a mark. -/
structure Bk (R : List Row) (L : List Chg) (R0 : List Row) (n : Nat) : Prop where
  le : n ≤ L.length
  un : undoL (tT R) (L.drop n) = tT R0
theorem Bk.here (R : List Row) (L : List Chg) : Bk R L R L.length := ⟨Nat.le_refl _, by rw [List.drop_length]; rfl⟩
theorem Bk.step {R : List Row} {L : List Chg} {R0 : List Row} {n : Nat} (q : Bk R L R0 n) {R' : List Row} {L' : List Chg} (h : (L' = L ∧ R' = R) ∨ ∃ x, L' = L ++ [x] ∧ undo1 (tT R') x = tT R) : Bk R' L' R0 n := by
  rcases h with ⟨rfl, rfl⟩ | ⟨x, rfl, h⟩
  · exact q
  · refine ⟨by simp; have := q.le; omega, ?_⟩
    rw [List.drop_append_of_le_length q.le]
    unfold undoL
    rw [List.foldr_append]
    show undoL (undo1 (tT R') x) (L.drop n) = tT R0
    rw [h, q.un]
theorem stepLen {R R' : List Row} {L L' : List Chg} (h : (L' = L ∧ R' = R) ∨ ∃ x, L' = L ++ [x] ∧ undo1 (tT R') x = tT R) : L'.length ≤ L.length + 1 := by
  rcases h with ⟨rfl, -⟩ | ⟨x, rfl, -⟩
  · omega
  · simp

/-! The session's calls. -/
def hR : Hld := ⟨0, nTa, false⟩
def HH (H : List Hld) : Prop := H = [] ∨ H = [hX 0] ∨ H = [hR]
def nHere : ByteArray := ⟨#[104, 101, 114, 101]⟩
def nLater : ByteArray := ⟨#[108, 97, 116, 101, 114]⟩
theorem mnh_w {H : List Hld} (hH : HH H) (R : List Row) (L : List Chg) (M : List Mrk) : holdF (mnD 0 R L M H) ⟨0, nTa, true⟩ = (mnD 0 R L M [hX 0], 0) := by
  rcases hH with rfl | rfl | rfl <;> kernel_rfl
theorem mnh_r {H : List Hld} (hH : HH H) (R : List Row) (L : List Chg) (M : List Mrk) : ∃ H', HH H' ∧ holdF (mnD 0 R L M H) ⟨0, nTa, false⟩ = (mnD 0 R L M H', 0) := by
  rcases hH with rfl | rfl | rfl
  · exact ⟨[hR], .inr (.inr rfl), by kernel_rfl⟩
  · exact ⟨[hX 0], .inr (.inl rfl), by kernel_rfl⟩
  · exact ⟨[hR], .inr (.inr rfl), by kernel_rfl⟩
theorem putF_j {R : List Row} {L : List Chg} {M : List Mrk} {H : List Hld} (hH : HH H) (r : Row) : putF (mnD 0 R L M H) 0 nTa r = (mnD 0 (putR R L r).1 (putR R L r).2.1 M [hX 0], (putR R L r).2.2) := by
  have h2 := mn_bs0 R L M [hX 0]
  unfold putF
  rw [mn_change 0 (doPut r) (tblPut_S _ _) (mnh_w hH R L M) ⟨h2.1, h2.2.1⟩]
  unfold putR
  exact (pick3_map (fun x : List Row × List Chg × Int => (mnD 0 x.1 x.2.1 M [hX 0], x.2.2)) (tblPut ⟨shapeS 0, R⟩ r).2 L.length (R, L, 4) ((tblPut ⟨shapeS 0, R⟩ r).1.rows, L ++ [⟨nTa, 1, r⟩], 0) (R, L, (tblPut ⟨shapeS 0, R⟩ r).2)).symm
theorem takeF_j {R : List Row} {L : List Chg} {M : List Mrk} {H : List Hld} (hH : HH H) (k : Val) : takeF (mnD 0 R L M H) 0 nTa k = (mnD 0 (takeR R L k).1 (takeR R L k).2.1 M [hX 0], (takeR R L k).2.2) := by
  have h2 := mn_bs0 R L M [hX 0]
  unfold takeF
  rw [mn_change 0 (doTake k) (by rw [doTake_S]; exact tblTake_S _ _) (mnh_w hH R L M) ⟨h2.1, h2.2.1⟩, doTake_S]
  unfold takeR
  exact (pick3_map (fun x : List Row × List Chg × Int => (mnD 0 x.1 x.2.1 M [hX 0], x.2.2)) (tblTake ⟨shapeS 0, R⟩ k).2.2 L.length (R, L, 4) ((tblTake ⟨shapeS 0, R⟩ k).1.rows, L ++ [⟨nTa, 2, (tblTake ⟨shapeS 0, R⟩ k).2.1⟩], 0) (R, L, (tblTake ⟨shapeS 0, R⟩ k).2.2)).symm
theorem rowsD_j {R : List Row} {L : List Chg} {M : List Mrk} {H : List Hld} (hH : HH H) : ∃ H', HH H' ∧ rowsD (mnD 0 R L M H) 0 nTa = (mnD 0 R L M H', R, 0) := by
  obtain ⟨H', h1, h2⟩ := mnh_r hH R L M
  refine ⟨H', h1, ?_⟩
  unfold rowsD
  rw [h2]
  have h3 := (mn_bs0 R L M H').1
  simp only
  rw [h3]
  rfl
theorem saveD_j {R : List Row} {L : List Chg} {M : List Mrk} {H : List Hld} {nm : ByteArray} (hnm : markBad nm = false) (hM : M.length < 10) : saveD (mnD 0 R L M H) 0 nm = (mnD 0 R L (M ++ [⟨nm, (L.length : Int)⟩]) H, 0) := by
  have hb := mn_bs0 R L M H
  have hw : (mnD 0 R L M H).works[0]? = some ⟨0, L, M⟩ := rfl
  unfold saveD
  rw [hb.2.2.1, hb.2.1, hw, hnm]
  simp only [if_true, Bool.false_eq_true, if_false]
  rw [show decide (((M.length : Nat) : Int) ≥ 10) = false from decide_eq_false (by omega)]
  rfl
theorem mb_here : markBad nHere = false := by kernel_rfl
theorem mb_later : markBad nLater = false := by kernel_rfl
theorem ne_names : nLater ≠ nHere := by decide
theorem mkF_here {m : Mrk} (hm : m.name = nHere) {l : List Mrk} (hl : ∀ x ∈ l, x.name = nLater) : ∀ j, j ≤ l.length → mkF (m :: l) nHere (j + 1) = some 0
  | 0, _ => by
    unfold mkF
    rw [show (m :: l)[0]? = some m from rfl]
    simp only
    rw [if_pos (decide_eq_true hm)]
  | j + 1, hj => by
    obtain ⟨x, hx⟩ := get_ex (xs := l) (i := j) (by omega)
    have hn := hl x (List.mem_of_getElem? hx)
    unfold mkF
    rw [show (m :: l)[j + 1]? = l[j]? from rfl, hx]
    simp only
    rw [if_neg (by rw [hn]; simp [ne_names])]
    exact mkF_here hm hl j (by omega)
theorem backM_j {R : List Row} {L : List Chg} {H : List Hld} {R0 : List Row} {n : Nat} (q : Bk R L R0 n) {l : List Mrk} (hl : ∀ x ∈ l, x.name = nLater) : backM (mnD 0 R L (⟨nHere, (n : Int)⟩ :: l) H) 0 nHere = (mnD 0 R0 (L.take n) [⟨nHere, (n : Int)⟩] H, 0) := by
  have hb := mn_bs0 R L (⟨nHere, (n : Int)⟩ :: l) H
  have hw : (mnD 0 R L (⟨nHere, (n : Int)⟩ :: l) H).works[0]? = some ⟨0, L, ⟨nHere, (n : Int)⟩ :: l⟩ := rfl
  have hk := mkF_here (m := ⟨nHere, (n : Int)⟩) rfl hl l.length (Nat.le_refl _)
  unfold backM
  rw [hb.2.2.1, hb.2.1, hw]
  simp only [if_true]
  rw [show (⟨nHere, (n : Int)⟩ :: l : List Mrk).length = l.length + 1 from rfl, hk]
  simp only
  have e1 : undoN (((((⟨nHere, (n : Int)⟩ :: l : List Mrk)[0]?).map (·.at_)).getD 0)) L.length = n := by
    show min ((n : Int)).toNat L.length = n
    have := q.le
    omega
  rw [e1]
  rw [show (mnD 0 R L (⟨nHere, (n : Int)⟩ :: l) H).tabs = tT R from rfl, q.un]
  rfl
theorem backM_none {R : List Row} {L : List Chg} {H : List Hld} : backM (mnD 0 R L [] H) 0 nHere = (mnD 0 R L [] H, 2) := by
  have hb := mn_bs0 R L [] H
  have hw : (mnD 0 R L [] H).works[0]? = some ⟨0, L, []⟩ := rfl
  unfold backM
  rw [hb.2.2.1, hb.2.1, hw]
  rfl
theorem backM_later {R : List Row} {L : List Chg} {H : List Hld} {n : Nat} : backM (mnD 0 R L [⟨nHere, (n : Int)⟩] H) 0 nLater = (mnD 0 R L [⟨nHere, (n : Int)⟩] H, 2) := by
  have hb := mn_bs0 R L [⟨nHere, (n : Int)⟩] H
  have hw : (mnD 0 R L [⟨nHere, (n : Int)⟩] H).works[0]? = some ⟨0, L, [⟨nHere, (n : Int)⟩]⟩ := rfl
  have hk : mkF [⟨nHere, (n : Int)⟩] nLater 1 = none := by
    unfold mkF
    rw [show ([⟨nHere, (n : Int)⟩] : List Mrk)[0]? = some ⟨nHere, (n : Int)⟩ from rfl]
    simp only
    rw [if_neg (by simp; exact fun h => ne_names h.symm)]
    rfl
  unfold backM
  rw [hb.2.2.1, hb.2.1, hw]
  simp only [if_true]
  rw [show ([⟨nHere, (n : Int)⟩] : List Mrk).length = 1 from rfl, hk]
theorem mn_okj {R : List Row} {L : List Chg} {M : List Mrk} {H : List Hld} (hH : HH H) (hR' : R.length ≤ 200) : Okd 2 (mnD 0 R L M H) := by
  rcases hH with hH | hH | hH
  · exact mn_ok (by decide) (.inl hH) (by omega)
  · exact mn_ok (by decide) (.inr hH) (by omega)
  · subst hH
    have h0 := mn_ok (s := 0) (by decide) (R := R) (L := L) (M := M) (H := []) (.inl rfl) (by omega)
    refine ⟨h0.tabs, h0.srt, h0.rng, h0.rows, ?_, ?_, ?_⟩ 
    · simp [mnD]
    · simp [mnD]
    · simp [mnD, hR]
theorem mnj_work (R : List Row) (L : List Chg) (M : List Mrk) (H : List Hld) : (mnD 0 R L M H).works[0]? = some ⟨0, L, M⟩ ∧ (mnD 0 R L M H).works.length = 1 := ⟨rfl, rfl⟩
end Go.S

