import Derived.Test.YtnfijhlegoagjaaGreatGC
import Derived.Test.YtnfijhlegoagjaaGreatEC
set_option linter.unusedVariables false
set_option linter.unusedSimpArgs false
set_option linter.unusedSectionVars false
set_option maxRecDepth 100000
set_option maxHeartbeats 16000000
set_option linter.unusedVariables false
set_option linter.unusedSimpArgs false
namespace Go.S
open Go.Sx Go.Proofs

def nTa : ByteArray := ⟨#[116, 97]⟩
def nM : ByteArray := ⟨#[109]⟩
/-- The three tables, and one session at work. -/
def dbW (s : Int) : DB := ⟨startE.tabs, [⟨s, [], []⟩], [], []⟩

theorem holdF_off {B : DB} (s : Int) (nm : ByteArray) (x : Bool) (h : bsB (wrkC B.works s) = false) : holdF B ⟨s, nm, x⟩ = (B, 2) := by
  unfold holdF onD; rw [h]; rfl
theorem changeF_off {B : DB} (s : Int) (nm : ByteArray) (act : Tbl → Tbl × Chg × Int) (h : bsB (wrkC B.works s) = false) : changeF B ⟨s, nm, true⟩ act = (B, 2) := by
  unfold changeF; rw [holdF_off s nm true h]; rfl
theorem rowsD_off {B : DB} (s : Int) (nm : ByteArray) (h : bsB (wrkC B.works s) = false) : rowsD B s nm = (B, [], 2) := by
  unfold rowsD; rw [holdF_off s nm false h]; rfl
theorem saveD_off {B : DB} (s : Int) (nm : ByteArray) (h : bsB (wrkC B.works s) = false) : saveD B s nm = (B, 2) := by unfold saveD; rw [h]; rfl
theorem backM_off {B : DB} (s : Int) (nm : ByteArray) (h : bsB (wrkC B.works s) = false) : backM B s nm = (B, 2) := by unfold backM; rw [h]; rfl
theorem commitD_off {B : DB} (s : Int) (h : bsB (wrkC B.works s) = false) : commitD B s = (B, [], 2) := by unfold commitD; rw [h]; rfl
theorem rollbackD_off {B : DB} (s : Int) (h : bsB (wrkC B.works s) = false) : rollbackD B s = (B, 2) := by unfold rollbackD; rw [h]; rfl
theorem dbW_ok (s : Int) (h : 0 ≤ s ∧ s < 8) : Okd 0 (dbW s) := by
  refine ⟨by show 3 ≤ 2 ^ 30; decide, by simp [dbW], fun w hw => ?_, fun t ht => ?_, by simp [dbW], by simp [dbW], fun x hx => by simp [dbW] at hx⟩
  · simp [dbW] at hw; rw [hw]; exact h
  · have := startE_small.rows t ht
    simp [dbW, startE, tblS] at ht
    rcases ht with rfl | rfl | rfl <;> simp
theorem dbW_off {s : Int} {t : Int} (ht : 0 ≤ t ∧ t < 8) (hs : -2 ^ 63 ≤ s ∧ s < 2 ^ 63) (hne : s ≠ t) : bsB (wrkC (dbW t).works s) = false := by
  cases h : bsB (wrkC (dbW t).works s) with
  | false => rfl
  | true =>
    obtain ⟨w, hw, he⟩ := work_in (ws := (dbW t).works) (fun w hw => by simp [dbW] at hw; rw [hw]; exact ht) hs h
    have := List.mem_of_getElem? hw
    simp [dbW] at this
    rw [this] at he
    exact absurd he.symm hne
theorem begin_start (s : Int) (h : 0 ≤ s ∧ s < 8) : beginD startE s = (dbW s, 0) := by
  unfold beginD beginR
  have e : wrkC startE.works s = [] := rfl
  rw [e]
  have h1 : decide (s < 0) = false := decide_eq_false (by omega)
  have h2 : decide (s ≥ 8) = false := decide_eq_false (by omega)
  rw [h1, h2]
  have e2 : bsB [] = false := by kernel_rfl
  have e3 : bsI [] = 0 := by kernel_rfl
  rw [e2, e3]
  rfl

theorem beginB (s : Int) (hs : -2 ^ 63 ≤ s ∧ s < 2 ^ 63) (hne : s ≠ 1) : (beginD (dbW 1) s).2 = if (decide (s < 0) || decide (s ≥ 8)) = true then 1 else 0 := by
  unfold beginD beginR
  rw [dbW_off (by decide) hs hne]
  split <;> rfl
theorem beginB1 : (beginD (dbW 1) 1).2 = 7 := by kernel_rfl

theorem none10 (s n : Int) (hs : -2 ^ 63 ≤ s ∧ s < 2 ^ 63) (hn : -2 ^ 63 ≤ n ∧ n < 2 ^ 63) (h : Heap) : Ct 10 [.int .i64 s, .int .i64 n] h (fun v h' => Le h h' ∧ v = .bool true) := by
  obtain ⟨A, hA⟩ := Ar.ex
  have hnot1 : A .not true = false := by rw [hA.not]; rfl
  have hnot0 : A .not false = true := by rw [hA.not]; rfl
  have e22 : A .icm .eql 2 2 = true := by rw [icm_eql A]; rfl
  have e11 : A .icm .eql 1 1 = true := by rw [icm_eql A]; rfl
  have e00 : A .icm .eql 0 0 = true := by rw [icm_eql A]; rfl
  have e77 : A .icm .eql 7 7 = true := by rw [icm_eql A]; rfl
  have e10 : A .icm .eql 1 0 = false := by rw [icm_eql A]; rfl
  have ok0 := dbW_ok 1 (by decide)
  obtain ⟨B, hB⟩ : ∃ B, B = dbW 1 := ⟨_, rfl⟩
  have hbeg : beginD startE 1 = (B, 0) := by rw [hB]; exact begin_start 1 (by decide)
  have hoff : ∀ t, -2 ^ 63 ≤ t ∧ t < 2 ^ 63 → t ≠ 1 → bsB (wrkC B.works t) = false := fun t h1 h2 => by rw [hB]; exact dbW_off (by decide) h1 h2
  have hbB := fun t h1 h2 => beginB t h1 h2
  obtain ⟨D1, hb1⟩ : ∃ D, beginD B 1 = D := ⟨_, rfl⟩
  have hD1 : D1.2 = 7 := by rw [← hb1, hB]; exact beginB1
  obtain ⟨B1, eB1⟩ := D1
  have hD1 : eB1 = 7 := hD1
  subst hD1
  rw [← hB] at ok0 hbB
  clear hB
  generalize gs : A .icm .eql s 1 = us
  have fs := gs
  rw [icm_eql A] at gs
  refine fn_of_sx A (tabOk T10.plan T10.pub) Tryz.func10 rfl (by kernel_rfl) ?_
  cbv
  refine (known14 h).mono (fun v h0 hR => ?_)
  obtain ⟨l0, rfl⟩ := hR
  cbv
  rw [hnot1]
  cbv
  refine begun21 1 hbeg (fun h1 b1 n1 c1 b2 n2 c2 b3 n3 c3 b4 n4 c4 l1' q1' => ?_)
  have q1 : RDB h1 _ B := q1'
  clear q1'
  have l1 := l0.trans l1'
  cbv
  rw [fs]
  cases us with
  | false =>
    have hne : s ≠ 1 := of_decide_eq_false gs
    have hb := hoff s hs hne
    obtain ⟨DS, hbS⟩ : ∃ D, beginD B s = D := ⟨_, rfl⟩
    have heS : DS.2 = if (decide (s < 0) || decide (s ≥ 8)) = true then 1 else 0 := by rw [← hbS]; exact hbB s hs hne
    cbv
    refine hold20K q1 ok0 (by decide) s nTa false (D := (B, 2)) (holdF_off s nTa false hb) (fun h2 b1 n1 c1 b2 n2 c2 b3 n3 c3 b4 n4 c4 l2 _ => ?_)
    have q2 := q1.mono l2
    cbv
    refine shape16 (z := 0) (t := 0) ⟨rfl⟩ (by omega) h2 (fun h3 sb sn sc nm o l3 hnm ho qs => ?_)
    have q3 := q2.mono l3
    cbv
    refine fit22 qs (by decide) n hn (fun h4 fb fn fc l4 hf => ?_)
    have q4 := q3.mono l4
    cbv
    refine put23F q4 ok0 (by decide) s hs nTa hf.sl (D := (B, 2)) (changeF_off s nTa _ hb) (fun h5 b1 n1 c1 b2 n2 c2 b3 n3 c3 b4 n4 c4 l5 _ => ?_)
    have q5 := q4.mono l5
    cbv
    refine take24F q5 ok0 (by decide) s hs nTa ⟨2, 0, noName⟩ (D := (B, 2)) (changeF_off s nTa _ hb) (fun h6 b1 n1 c1 b2 n2 c2 b3 n3 c3 b4 n4 c4 l6 _ => ?_)
    have q6 := q5.mono l6
    cbv
    refine rows31K q6 ok0 (by decide) s hs nTa (D := (B, [], 2)) (rowsD_off s nTa hb) (fun h7 b1 n1 c1 b2 n2 c2 b3 n3 c3 b4 n4 c4 b5 n5 c5 l7 _ _ => ?_)
    have q7 := q6.mono l7
    cbv
    refine save27K q7 s nM (D := (B, 2)) (saveD_off s nM hb) (fun h8 b1 n1 c1 b2 n2 c2 b3 n3 c3 b4 n4 c4 l8 _ => ?_)
    have q8 := q7.mono l8
    cbv
    refine back32K q8 ok0 s nM (D := (B, 2)) (backM_off s nM hb) (fun h9 b1 n1 c1 b2 n2 c2 b3 n3 c3 b4 n4 c4 l9 _ => ?_)
    have q9 := q8.mono l9
    cbv
    refine commit28K q9 ok0 (by decide) s (D := (B, [], 2)) (commitD_off s hb) (fun h10 b1 n1 c1 b2 n2 c2 b3 n3 c3 b4 n4 c4 b5 n5 c5 l10 _ _ => ?_)
    have q10 := q9.mono l10
    cbv
    refine rollback34K q10 ok0 (by decide) s (D := (B, 2)) (rollbackD_off s hb) (fun h11 b1 n1 c1 b2 n2 c2 b3 n3 c3 b4 n4 c4 l11 _ => ?_)
    have q11 := q10.mono l11
    cbv
    refine begin18K q11 s (ok0.small (by decide)) hbS (fun h12 b1 n1 c1 b2 n2 c2 b3 n3 c3 b4 n4 c4 l12 _ => ?_)
    have q12 := q11.mono l12
    cbv
    refine begin18K q12 1 (ok0.small (by decide)) hb1 (fun h13 b1 n1 c1 b2 n2 c2 b3 n3 c3 b4 n4 c4 l13 _ => ?_)
    have lall : Le h h13 := (((((((((((l1.trans l2).trans l3).trans l4).trans l5).trans l6).trans l7).trans l8).trans l9).trans l10).trans l11).trans l12).trans l13
    obtain ⟨Bs, eb⟩ := DS
    have heb : eb = if (decide (s < 0) || decide (s ≥ 8)) = true then 1 else 0 := heS
    have hfin : Le h h13 ∧ Value.bool true = .bool true := ⟨lall, rfl⟩
    generalize g0 : A .icm .geq s 0 = u0
    have f0 := g0
    rw [icm_geq A] at g0
    generalize g8 : A .icm .lss s 8 = u8
    have f8 := g8
    rw [icm_lss A] at g8
    have hu : eb = if (u0 && u8) = true then 0 else 1 := by
      rw [heb, ← g0, ← g8]
      by_cases a1 : s < 0
      · rw [decide_eq_true a1, decide_eq_false (show ¬ s ≥ 0 by omega)]; rfl
      · by_cases a2 : s ≥ 8
        · rw [decide_eq_false a1, decide_eq_true a2, decide_eq_true (show s ≥ 0 by omega), decide_eq_false (show ¬ s < 8 by omega)]; rfl
        · rw [decide_eq_false a1, decide_eq_false a2, decide_eq_true (show s ≥ 0 by omega), decide_eq_true (show s < 8 by omega)]; rfl
    cbv
    rw [f0]
    cases u0 with
    | false =>
      have hu : eb = 1 := hu
      subst hu
      cbv
      rw [e22]
      cbv
      rw [e22]
      cbv
      rw [e22]
      cbv
      rw [e22]
      cbv
      rw [e22]
      cbv
      rw [e22]
      cbv
      rw [e22]
      cbv
      rw [e22]
      cbv
      rw [hnot0]
      cbv
      rw [e11]
      cbv
      rw [e77]
      exact hfin
    | true =>
      cbv
      rw [f8]
      cases u8 with
      | false =>
        have hu : eb = 1 := hu
        subst hu
        cbv
        rw [e22]
        cbv
        rw [e22]
        cbv
        rw [e22]
        cbv
        rw [e22]
        cbv
        rw [e22]
        cbv
        rw [e22]
        cbv
        rw [e22]
        cbv
        rw [e22]
        cbv
        rw [hnot0]
        cbv
        rw [e11]
        cbv
        rw [e77]
        exact hfin
      | true =>
        have hu : eb = 0 := hu
        subst hu
        cbv
        rw [e22]
        cbv
        rw [e22]
        cbv
        rw [e22]
        cbv
        rw [e22]
        cbv
        rw [e22]
        cbv
        rw [e22]
        cbv
        rw [e22]
        cbv
        rw [e22]
        cbv
        rw [e00]
        cbv
        rw [e77]
        exact hfin
  | true =>
    have hb := hoff 2 (by decide) (by decide)
    have hs : -2 ^ 63 ≤ (2 : Int) ∧ (2 : Int) < 2 ^ 63 := by decide
    obtain ⟨DS, hbS⟩ : ∃ D, beginD B 2 = D := ⟨_, rfl⟩
    have heS : DS.2 = if (decide ((2 : Int) < 0) || decide ((2 : Int) ≥ 8)) = true then 1 else 0 := by rw [← hbS]; exact hbB 2 (by decide) (by decide)
    cbv
    refine hold20K q1 ok0 (by decide) 2 nTa false (D := (B, 2)) (holdF_off 2 nTa false hb) (fun h2 b1 n1 c1 b2 n2 c2 b3 n3 c3 b4 n4 c4 l2 _ => ?_)
    have q2 := q1.mono l2
    cbv
    refine shape16 (z := 0) (t := 0) ⟨rfl⟩ (by omega) h2 (fun h3 sb sn sc nm o l3 hnm ho qs => ?_)
    have q3 := q2.mono l3
    cbv
    refine fit22 qs (by decide) n hn (fun h4 fb fn fc l4 hf => ?_)
    have q4 := q3.mono l4
    cbv
    refine put23F q4 ok0 (by decide) 2 hs nTa hf.sl (D := (B, 2)) (changeF_off 2 nTa _ hb) (fun h5 b1 n1 c1 b2 n2 c2 b3 n3 c3 b4 n4 c4 l5 _ => ?_)
    have q5 := q4.mono l5
    cbv
    refine take24F q5 ok0 (by decide) 2 hs nTa ⟨2, 0, noName⟩ (D := (B, 2)) (changeF_off 2 nTa _ hb) (fun h6 b1 n1 c1 b2 n2 c2 b3 n3 c3 b4 n4 c4 l6 _ => ?_)
    have q6 := q5.mono l6
    cbv
    refine rows31K q6 ok0 (by decide) 2 hs nTa (D := (B, [], 2)) (rowsD_off 2 nTa hb) (fun h7 b1 n1 c1 b2 n2 c2 b3 n3 c3 b4 n4 c4 b5 n5 c5 l7 _ _ => ?_)
    have q7 := q6.mono l7
    cbv
    refine save27K q7 2 nM (D := (B, 2)) (saveD_off 2 nM hb) (fun h8 b1 n1 c1 b2 n2 c2 b3 n3 c3 b4 n4 c4 l8 _ => ?_)
    have q8 := q7.mono l8
    cbv
    refine back32K q8 ok0 2 nM (D := (B, 2)) (backM_off 2 nM hb) (fun h9 b1 n1 c1 b2 n2 c2 b3 n3 c3 b4 n4 c4 l9 _ => ?_)
    have q9 := q8.mono l9
    cbv
    refine commit28K q9 ok0 (by decide) 2 (D := (B, [], 2)) (commitD_off 2 hb) (fun h10 b1 n1 c1 b2 n2 c2 b3 n3 c3 b4 n4 c4 b5 n5 c5 l10 _ _ => ?_)
    have q10 := q9.mono l10
    cbv
    refine rollback34K q10 ok0 (by decide) 2 (D := (B, 2)) (rollbackD_off 2 hb) (fun h11 b1 n1 c1 b2 n2 c2 b3 n3 c3 b4 n4 c4 l11 _ => ?_)
    have q11 := q10.mono l11
    cbv
    refine begin18K q11 2 (ok0.small (by decide)) hbS (fun h12 b1 n1 c1 b2 n2 c2 b3 n3 c3 b4 n4 c4 l12 _ => ?_)
    have q12 := q11.mono l12
    cbv
    refine begin18K q12 1 (ok0.small (by decide)) hb1 (fun h13 b1 n1 c1 b2 n2 c2 b3 n3 c3 b4 n4 c4 l13 _ => ?_)
    have lall : Le h h13 := (((((((((((l1.trans l2).trans l3).trans l4).trans l5).trans l6).trans l7).trans l8).trans l9).trans l10).trans l11).trans l12).trans l13
    obtain ⟨Bs, eb⟩ := DS
    have heb : eb = if (decide (2 < 0) || decide (2 ≥ 8)) = true then 1 else 0 := heS
    have hfin : Le h h13 ∧ Value.bool true = .bool true := ⟨lall, rfl⟩
    generalize g0 : A .icm .geq 2 0 = u0
    have f0 := g0
    rw [icm_geq A] at g0
    generalize g8 : A .icm .lss 2 8 = u8
    have f8 := g8
    rw [icm_lss A] at g8
    have hu : eb = if (u0 && u8) = true then 0 else 1 := by
      rw [heb, ← g0, ← g8]
      rfl
    cbv
    rw [f0]
    cases u0 with
    | false =>
      have hu : eb = 1 := hu
      subst hu
      cbv
      rw [e22]
      cbv
      rw [e22]
      cbv
      rw [e22]
      cbv
      rw [e22]
      cbv
      rw [e22]
      cbv
      rw [e22]
      cbv
      rw [e22]
      cbv
      rw [e22]
      cbv
      rw [hnot0]
      cbv
      rw [e11]
      cbv
      rw [e77]
      exact hfin
    | true =>
      cbv
      rw [f8]
      cases u8 with
      | false =>
        have hu : eb = 1 := hu
        subst hu
        cbv
        rw [e22]
        cbv
        rw [e22]
        cbv
        rw [e22]
        cbv
        rw [e22]
        cbv
        rw [e22]
        cbv
        rw [e22]
        cbv
        rw [e22]
        cbv
        rw [e22]
        cbv
        rw [hnot0]
        cbv
        rw [e11]
        cbv
        rw [e77]
        exact hfin
      | true =>
        have hu : eb = 0 := hu
        subst hu
        cbv
        rw [e22]
        cbv
        rw [e22]
        cbv
        rw [e22]
        cbv
        rw [e22]
        cbv
        rw [e22]
        cbv
        rw [e22]
        cbv
        rw [e22]
        cbv
        rw [e22]
        cbv
        rw [e00]
        cbv
        rw [e77]
        exact hfin
end Go.S

