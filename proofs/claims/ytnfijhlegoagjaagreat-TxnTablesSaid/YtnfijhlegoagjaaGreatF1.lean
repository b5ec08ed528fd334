import Derived.Test.YtnfijhlegoagjaaGreatEC
set_option linter.unusedVariables false
set_option linter.unusedSimpArgs false
set_option linter.unusedSectionVars false
set_option maxRecDepth 100000
set_option maxHeartbeats 8000000
set_option linter.unusedVariables false
set_option linter.unusedSimpArgs false
namespace Go.S
open Go.Sx Go.Proofs

/-! Tables by sorted letters: the plain part of 'TxnTables'. -/
def tn (k : Nat) : ByteArray := ⟨#[116, UInt8.ofNat (97 + k)]⟩
def shCols : List Col := [⟨nA, 2, false⟩, ⟨⟨#[98]⟩, 3, true⟩]
def tSch (k : Nat) : Sch := ⟨tn k, shCols, 0, false⟩
def dk (ks : List Nat) : DB := ⟨ks.map fun k => ⟨tSch k, []⟩, [], [], []⟩

theorem cmp_tn {j k : Nat} (hj : j < 26) (hk : k < 26) : cmpB (tn j) (tn k) = cmpI (j : Int) (k : Int) := by
  have h : ((List.range 26).all fun j => (List.range 26).all fun k => decide (cmpB (tn j) (tn k) = cmpI (j : Int) (k : Int))) = true := by kernel_rfl
  have := List.all_eq_true.1 (List.all_eq_true.1 h j (by simpa using hj)) k (by simpa using hk)
  simpa using this
theorem sch_tn {k : Nat} (hk : k < 26) (h14 : k ≠ 14) : schErr (tSch k) = 0 := by
  have h : ((List.range 26).all fun k => k == 14 || decide (schErr (tSch k) = 0)) = true := by kernel_rfl
  have := List.all_eq_true.1 h k (by simpa using hk)
  simp [h14] at this
  exact this
theorem less_tn {j k : Nat} (hjk : j < k) (hk : k < 26) : Op.bytesLess (tn j).toList (tn k).toList = true := by
  have h : ((List.range 26).all fun j => (List.range 26).all fun k => !(decide (j < k)) || Op.bytesLess (tn j).toList (tn k).toList) = true := by kernel_rfl
  have := List.all_eq_true.1 (List.all_eq_true.1 h j (by simp; omega)) k (by simpa using hk)
  simpa [hjk] using this
theorem cmp_zz {j : Nat} (hj : j < 26) : cmpB (tn j) ⟨#[122, 122]⟩ = -1 := by
  have h : ((List.range 26).all fun j => decide (cmpB (tn j) ⟨#[122, 122]⟩ = -1)) = true := by kernel_rfl
  have := List.all_eq_true.1 h j (by simpa using hj)
  simpa using this

theorem tabCmps_dk (ks : List Nat) (nm : ByteArray) : tabCmps (dk ks).tabs nm = ks.map fun j => cmpB (tn j) nm := by
  simp [tabCmps, dk, tSch, Function.comp_def]

/-- Where a letter stands among sorted ones. -/
def posK (ks : List Nat) (k : Nat) : Nat := (ks.filter fun j => decide (j < k)).length
theorem sorted_split : ∀ {ks : List Nat} (k : Nat), ks.Pairwise (· < ·) → ∀ i, i < ks.length → (ks.getD i 0 < k ↔ i < posK ks k)
  | [], k, _, i, hi => by simp at hi
  | x :: r, k, hs, i, hi => by
    have hx : ∀ y ∈ r, x < y := fun y hy => List.rel_of_pairwise_cons hs hy
    have hr := List.Pairwise.of_cons hs
    unfold posK
    by_cases h : x < k
    · rw [List.filter_cons_of_pos (by simpa using h), List.length_cons]
      cases i with
      | zero => simp [h]
      | succ i =>
        have := sorted_split k hr i (by simpa using hi)
        unfold posK at this
        simp only [List.getD_cons_succ]
        omega
    · have hall : (r.filter fun j => decide (j < k)) = [] := by
        rw [List.filter_eq_nil_iff]
        intro y hy
        have := hx y hy
        simp; omega
      rw [List.filter_cons_of_neg (by simpa using h), hall]
      cases i with
      | zero => simp [h]
      | succ i =>
        simp only [List.getD_cons_succ, List.length_nil, Nat.not_lt_zero, iff_false]
        have hi' : i < r.length := by simpa using hi
        have : r.getD i 0 ∈ r := by
          rw [List.getD_eq_getElem?_getD, List.getElem?_eq_getElem hi']
          exact List.getElem_mem hi'
        have := hx _ this
        omega
theorem posK_le (ks : List Nat) (k : Nat) : posK ks k ≤ ks.length := List.length_filter_le _ _

theorem bs_dk {ks : List Nat} {k : Nat} (hs : ks.Pairwise (· < ·)) (hb : ∀ j ∈ ks, j < 26) (hk : k < 26) :
    bsI (tabCmps (dk ks).tabs (tn k)) = posK ks k ∧ bsB (tabCmps (dk ks).tabs (tn k)) = decide (k ∈ ks) := by
  rw [tabCmps_dk]
  generalize hl : (ks.map fun j => cmpB (tn j) (tn k)) = l
  have hlen : l.length = ks.length := by rw [← hl]; simp
  have hget : ∀ i, i < ks.length → l.getD i 0 = cmpI ((ks.getD i 0 : Nat) : Int) (k : Int) := fun i hi => by
    rw [← hl]
    rw [List.getD_eq_getElem?_getD, List.getElem?_map, List.getElem?_eq_getElem hi, List.getD_eq_getElem?_getD, List.getElem?_eq_getElem hi]
    simp only [Option.map_some, Option.getD_some]
    exact cmp_tn (hb _ (List.getElem_mem hi)) hk
  have hneg : ∀ a b : Int, cmpI a b < 0 ↔ a < b := fun a b => by
    unfold cmpI
    by_cases h : a < b
    · simp [h]
    · by_cases h2 : a > b
      · simp [h, h2]
      · simp [h, h2]
  have hzero : ∀ a b : Int, cmpI a b = 0 ↔ a = b := fun a b => by
    unfold cmpI
    by_cases h : a < b
    · simp [h]; omega
    · by_cases h2 : a > b
      · simp [h, h2]; omega
      · simp [h, h2]; omega
  have hp := posK_le ks k
  have hI : bsI l = posK ks k := by
    unfold bsI
    refine bsAt_eq l (posK ks k) (fun i hi => ?_) 0 l.length (fun i hi1 hi2 => ?_) (Nat.zero_le _) (by omega)
    · rw [hget i (by omega), hneg]
      have := (sorted_split k hs i (by omega)).2 hi
      omega
    · rw [hget i (by omega), hneg]
      have := (not_congr (sorted_split k hs i (by omega))).2 (by omega)
      omega
  refine ⟨hI, ?_⟩
  unfold bsB
  rw [hI, decide_eq_decide, hlen]
  constructor
  · rintro ⟨h1, h2⟩
    rw [hget _ h1, hzero] at h2
    have : ks.getD (posK ks k) 0 ∈ ks := by
      rw [List.getD_eq_getElem?_getD, List.getElem?_eq_getElem h1]
      exact List.getElem_mem h1
    have he : ks.getD (posK ks k) 0 = k := by omega
    rw [he] at this; exact this
  · intro hm
    obtain ⟨i, hi, he⟩ := List.getElem_of_mem hm
    have hgd : ks.getD i 0 = k := by rw [List.getD_eq_getElem?_getD, List.getElem?_eq_getElem hi]; exact he
    have h1 := (not_congr (sorted_split k hs i hi)).1 (by omega)
    have h3 : posK ks k < ks.length := by omega
    refine ⟨h3, ?_⟩
    rw [hget _ h3, hzero]
    have h4 := (not_congr (sorted_split k hs _ h3)).2 (by omega)
    rcases Nat.lt_or_ge (posK ks k) i with hlt | hge
    · have := List.pairwise_iff_getElem.1 hs _ i h3 hi hlt
      have e : ks.getD (posK ks k) 0 = ks[posK ks k] := by rw [List.getD_eq_getElem?_getD, List.getElem?_eq_getElem h3]; rfl
      omega
    · have : posK ks k = i := by omega
      rw [this, hgd]

def insK (ks : List Nat) (k : Nat) : List Nat := ks.take (posK ks k) ++ [k] ++ ks.drop (posK ks k)
theorem insK_mem {ks : List Nat} {k j : Nat} : j ∈ insK ks k ↔ j = k ∨ j ∈ ks := by
  unfold insK
  simp only [List.mem_append, List.mem_singleton]
  constructor
  · rintro ((h | h) | h)
    · exact .inr (List.mem_of_mem_take h)
    · exact .inl h
    · exact .inr (List.mem_of_mem_drop h)
  · rintro (h | h)
    · exact .inl (.inr h)
    · rw [← List.take_append_drop (posK ks k) ks] at h
      rcases List.mem_append.1 h with h | h
      · exact .inl (.inl h)
      · exact .inr h
theorem insK_len {ks : List Nat} {k : Nat} : (insK ks k).length = ks.length + 1 := by
  have := posK_le ks k
  unfold insK; simp; omega
theorem insK_sorted {ks : List Nat} {k : Nat} (hs : ks.Pairwise (· < ·)) (hk : k ∉ ks) : (insK ks k).Pairwise (· < ·) := by
  have hp := posK_le ks k
  have hlow : ∀ j ∈ ks.take (posK ks k), j < k := fun j hj => by
    obtain ⟨i, hi, he⟩ := List.getElem_of_mem hj
    rw [List.length_take] at hi
    rw [List.getElem_take] at he
    have := (sorted_split k hs i (by omega)).2 (by omega)
    rw [List.getD_eq_getElem?_getD, List.getElem?_eq_getElem (by omega)] at this
    simp at this; omega
  have hhigh : ∀ j ∈ ks.drop (posK ks k), k < j := fun j hj => by
    have hm := List.mem_of_mem_drop hj
    obtain ⟨i, hi, he⟩ := List.getElem_of_mem hj
    rw [List.length_drop] at hi
    rw [List.getElem_drop] at he
    have := (not_congr (sorted_split k hs (posK ks k + i) (by omega))).2 (by omega)
    rw [List.getD_eq_getElem?_getD, List.getElem?_eq_getElem (by omega)] at this
    simp at this
    have hne : j ≠ k := fun e => hk (e ▸ hm)
    omega
  unfold insK
  rw [List.pairwise_append, List.pairwise_append]
  refine ⟨⟨hs.sublist (List.take_sublist _ _), by simp, fun a ha b hb => ?_⟩, hs.sublist (List.drop_sublist _ _), fun a ha b hb => ?_⟩
  · simp at hb; subst hb; exact hlow a ha
  · rcases List.mem_append.1 ha with ha | ha
    · have := hlow a ha; have := hhigh b hb; omega
    · simp at ha; subst ha; exact hhigh b hb

theorem create_dk {ks : List Nat} {k : Nat} (hs : ks.Pairwise (· < ·)) (hb : ∀ j ∈ ks, j < 26) (hk : k < 26) (h14 : k ≠ 14) :
    createD (dk ks) (tSch k) = if k ∈ ks then (dk ks, 7) else if ks.length ≥ 8 then (dk ks, 4) else (dk (insK ks k), 0) := by
  obtain ⟨h1, h2⟩ := bs_dk hs hb hk
  have hl : (dk ks).tabs.length = ks.length := by simp [dk]
  have hw : (dk ks).works.length = 0 := rfl
  unfold createD
  have e : (tSch k).name = tn k := rfl
  rw [e, h1, h2]
  have hse := sch_tn hk h14
  have hE : createE (dk ks) (tSch k) (decide (k ∈ ks)) = if k ∈ ks then 7 else if ks.length ≥ 8 then 4 else 0 := by
    unfold createE
    rw [hse, hl, hw]
    by_cases hm : k ∈ ks
    · simp [hm]
    · by_cases h8 : ks.length ≥ 8
      · simp [hm, h8]
      · simp [hm, h8]
  unfold createR
  rw [hE]
  by_cases hm : k ∈ ks
  · simp [hm]
  · by_cases h8 : ks.length ≥ 8
    · simp [hm, h8]
    · have : (dk (insK ks k)) = setTabs (dk ks) ((dk ks).tabs.take (posK ks k) ++ [⟨tSch k, []⟩] ++ (dk ks).tabs.drop (posK ks k)) := by
        simp [setTabs, dk, insK, List.map_take, List.map_drop]
      rw [this]
      simp [hm, h8]

theorem begin_dk (ks : List Nat) : beginD (dk ks) 3 = (⟨(dk ks).tabs, [⟨3, [], []⟩], [], []⟩, 0) := by
  unfold beginD beginR
  simp [dk, wrkC, bsI, bsB, bsAt, setWorks]

def zzSch : Sch := ⟨⟨#[122, 122]⟩, shCols, 0, false⟩
theorem schzz : schErr zzSch = 0 := by kernel_rfl
theorem create_zz {ks : List Nat} (hb : ∀ j ∈ ks, j < 26) : (createD ⟨(dk ks).tabs, [⟨3, [], []⟩], [], []⟩ zzSch).2 = if ks.length ≥ 8 then 4 else 18 := by
  have hl : (dk ks).tabs.length = ks.length := by simp [dk]
  have hB : bsB (tabCmps (dk ks).tabs ⟨#[122, 122]⟩) = false := by
    rw [tabCmps_dk]
    unfold bsB
    refine decide_eq_false (fun ⟨h1, h2⟩ => ?_)
    generalize bsI (ks.map fun j => cmpB (tn j) ⟨#[122, 122]⟩) = i at h1 h2
    rw [List.length_map] at h1
    rw [List.getD_eq_getElem?_getD, List.getElem?_map, List.getElem?_eq_getElem h1] at h2
    simp only [Option.map_some, Option.getD_some] at h2
    rw [cmp_zz (hb _ (List.getElem_mem h1))] at h2
    cases h2
  unfold createD
  have e : zzSch.name = ⟨#[122, 122]⟩ := rfl
  rw [e, hB]
  have hE : createE ⟨(dk ks).tabs, [⟨3, [], []⟩], [], []⟩ zzSch false = if ks.length ≥ 8 then 4 else 18 := by
    unfold createE
    rw [schzz]
    simp only [hl]
    by_cases h8 : ks.length ≥ 8
    · simp [h8]
    · simp [h8]
  unfold createR
  rw [hE]
  by_cases h8 : ks.length ≥ 8
  · simp [h8]
  · simp [h8]
end Go.S

