import Derived.Test.YtnfijhlegoagjaaGreatK3
import Derived.Test.YtnfijhlegoagjaaGreatJ3a
set_option linter.unusedVariables false
set_option linter.unusedSimpArgs false
set_option linter.unusedSectionVars false
set_option maxRecDepth 100000
set_option maxHeartbeats 4000000
set_option linter.unusedVariables false
set_option linter.unusedSimpArgs false
namespace Go.S
open Go.Sx Go.Proofs

/-! One session alone with three tables. -/
def TG (F : Nat → List Row) : List Tbl := [⟨shapeS 0, F 0⟩, ⟨shapeS 1, F 1⟩, ⟨shapeS 2, F 2⟩]
def upd (F : Nat → List Row) (t : Nat) (R : List Row) : Nat → List Row := fun j => if j = t then R else F j
theorem upd_upd (F : Nat → List Row) (t : Nat) (R : List Row) : upd (upd F t R) t (F t) = F := by
  funext j
  unfold upd
  by_cases h : j = t
  · rw [if_pos h, h]
  · rw [if_neg h, if_neg h]
theorem upd_self (F : Nat → List Row) (t : Nat) : upd F t (F t) = F := by
  funext j
  unfold upd
  by_cases h : j = t
  · rw [if_pos h, h]
  · rw [if_neg h]
theorem upd_at (F : Nat → List Row) (t : Nat) (R : List Row) : upd F t R t = R := if_pos rfl
def GD (s : Int) (F : Nat → List Row) (L : List Chg) (M : List Mrk) (H : List Hld) : DB := ⟨TG F, [⟨s, L, M⟩], H, []⟩
theorem three {t : Nat} (h : t < 3) : t = 0 ∨ t = 1 ∨ t = 2 := by omega
theorem tg_get (F : Nat → List Row) {t : Nat} (h : t < 3) : (TG F)[t]? = some ⟨shapeS t, F t⟩ := by
  rcases three h with rfl | rfl | rfl <;> rfl
theorem tg_set (F : Nat → List Row) {t : Nat} (h : t < 3) (R : List Row) : (TG F).set t ⟨shapeS t, R⟩ = TG (upd F t R) := by
  rcases three h with rfl | rfl | rfl <;> rfl
theorem tg_bs (F : Nat → List Row) {t : Nat} (h : t < 3) : bsB (tabCmps (TG F) (shapeS t).name) = true ∧ bsI (tabCmps (TG F) (shapeS t).name) = t := by
  rcases three h with rfl | rfl | rfl
  · exact ⟨by kernel_rfl, by kernel_rfl⟩
  · exact ⟨by kernel_rfl, by kernel_rfl⟩
  · exact ⟨by kernel_rfl, by kernel_rfl⟩
theorem w1_bs (s : Int) (L : List Chg) (M : List Mrk) : bsB (wrkC [⟨s, L, M⟩] s) = true ∧ bsI (wrkC [⟨s, L, M⟩] s) = 0 := by
  have e : wrkC [⟨s, L, M⟩] s = [0] := by
    unfold wrkC
    simp only [List.map_cons, List.map_nil]
    rw [Int.sub_self]
    rfl
  rw [e]
  exact ⟨by kernel_rfl, by kernel_rfl⟩
def AllS (s : Int) (H : List Hld) : Prop := ∀ x ∈ H, x.s = s
theorem AllS.any {s : Int} {H : List Hld} (h : AllS s H) (n : ByteArray) (x : Bool) : H.any (agst ⟨s, n, x⟩) = false := by
  rw [List.any_eq_false]
  intro o ho
  unfold agst
  rw [h o ho]
  simp
theorem AllS.out {s : Int} {H : List Hld} (h : AllS s H) : wout H s = [] := by
  unfold wout
  rw [List.filter_eq_nil_iff]
  intro x hx
  rw [h x hx]
  simp
theorem AllS.ask {s : Int} {H : List Hld} (h : AllS s H) (n : ByteArray) (x : Bool) : AllS s (askH H ⟨s, n, x⟩) ∧ (askH H ⟨s, n, x⟩).length ≤ H.length + 1 := by
  unfold askH
  split
  · split
    · exact ⟨h, by omega⟩
    · split
      · rename_i i _
        refine ⟨fun y hy => ?_, by simp⟩
        rcases List.mem_or_eq_of_mem_set hy with h1 | h1
        · exact h y h1
        · rw [h1]
      · refine ⟨fun y hy => ?_, by simp⟩
        rcases List.mem_append.1 hy with h1 | h1
        · exact h y h1
        · simp at h1; rw [h1]
  · exact ⟨h, by omega⟩
theorem gd_hold {s : Int} {F : Nat → List Row} {L : List Chg} {M : List Mrk} {H : List Hld} (h : AllS s H) {t : Nat} (ht : t < 3) (x : Bool) :
    ∃ H', holdF (GD s F L M H) ⟨s, (shapeS t).name, x⟩ = (GD s F L M H', 0) ∧ AllS s H' ∧ H'.length ≤ H.length + 1 := by
  have hf : askFree H ⟨s, (shapeS t).name, x⟩ = true := by
    unfold askFree
    rw [h.any]; simp
  obtain ⟨a1, a2⟩ := h.ask (shapeS t).name x
  refine ⟨_, ?_, a1, a2⟩
  have ho : onD (GD s F L M H) ⟨s, (shapeS t).name, x⟩ = true := by
    unfold onD
    simp only [Bool.and_eq_true]
    exact ⟨(w1_bs s L M).1, (tg_bs F ht).1⟩
  unfold holdF
  rw [if_pos ho]
  unfold holdL
  rw [show (GD s F L M H).holds = H from rfl, if_pos hf]
  have hw : askW H (GD s F L M H).waits ⟨s, (shapeS t).name, x⟩ = [] := by
    unfold askW
    rw [if_pos hf]
    rfl
  rw [hw]
  rfl

/-- A table's put and take, and the way back. -/
theorem tput {R : List Row} {r : Row} (h : SO R) (hr : RowOk r) (t : Nat) : (∃ e, e ≠ 0 ∧ tblPut ⟨shapeS t, R⟩ r = (⟨shapeS t, R⟩, e)) ∨
    ∃ R', tblPut ⟨shapeS t, R⟩ r = (⟨shapeS t, R'⟩, 0) ∧ SO R' ∧ (tblTake ⟨shapeS t, R'⟩ (valAt r 0)).1 = ⟨shapeS t, R⟩ := by
  have hf := hr.fits
  have hr' := hr
  obtain ⟨a, v, rfl, -⟩ := hr'
  obtain ⟨p, q⟩ := h.sr.at_ a
  rw [tblPut_SR (S := shapeS t) rfl h.sr hf q]
  by_cases h1 : hasK R a p = true
  · rw [if_pos h1]; exact .inl ⟨7, by decide, rfl⟩
  · rw [if_neg h1]
    by_cases h2 : decide ((R.length : Int) ≥ 200) = true
    · rw [if_pos h2]; exact .inl ⟨4, by decide, rfl⟩
    · rw [if_neg h2]
      have h2 : R.length < 200 := by simp at h2; omega
      have h3 := h.sr.ins (v := v) q (by simpa using h1)
      refine .inr ⟨_, rfl, ⟨h3, fun row hrow => ?_, ?_⟩, ?_⟩
      · rcases List.mem_append.1 hrow with hrow | hrow
        · rcases List.mem_append.1 hrow with hrow | hrow
          · exact h.ok row (List.mem_of_mem_take hrow)
          · simp at hrow; rw [hrow]; exact hr
        · exact h.ok row (List.mem_of_mem_drop hrow)
      · have := q.le
        simp; omega
      · obtain ⟨q1, q2⟩ := q.ins (v := v)
        rw [show valAt [⟨2, a, noS⟩, v] 0 = ⟨2, a, noS⟩ from rfl, tblTake_SR (S := shapeS t) rfl h3 q1, if_pos q2, ins_del q.le]
theorem ttake {R : List Row} (h : SO R) (a : Int) (t : Nat) : (∃ e, e ≠ 0 ∧ tblTake ⟨shapeS t, R⟩ ⟨2, a, noS⟩ = (⟨shapeS t, R⟩, [], e)) ∨
    ∃ R' row, tblTake ⟨shapeS t, R⟩ ⟨2, a, noS⟩ = (⟨shapeS t, R'⟩, row, 0) ∧ SO R' ∧ (tblPut ⟨shapeS t, R'⟩ row).1 = ⟨shapeS t, R⟩ := by
  obtain ⟨p, q⟩ := h.sr.at_ a
  rw [tblTake_SR (S := shapeS t) rfl h.sr q]
  by_cases h1 : hasK R a p = true
  · rw [if_pos h1]
    obtain ⟨row, hr, hk, hfil⟩ := q.filter h.sr h1
    have hlt := (List.getElem?_eq_some_iff.1 hr).1
    have hsub := take_drop_sub R p
    have h3 := h.sr.sub hsub
    refine .inr ⟨_, _, rfl, ⟨h3, fun row hrow => h.ok row (hsub.subset hrow), Nat.le_trans hsub.length_le h.le⟩, ?_⟩
    obtain ⟨q1, q2⟩ := q.del h.sr h1
    have hro := h.ok row (List.mem_of_getElem? hr)
    have hf := hro.fits
    obtain ⟨b, v, rfl, -⟩ := hro
    have hb : b = a := hk
    subst hb
    have hle := h.le
    have hlen : (R.take p ++ R.drop (p + 1)).length = R.length - 1 := by simp; omega
    rw [hr]
    rw [show (some ([⟨2, b, noS⟩, v] : Row)).getD [] = [⟨2, b, noS⟩, v] from rfl]
    rw [tblPut_SR (S := shapeS t) rfl h3 hf q1, if_neg (by rw [q2]; decide), if_neg (by rw [hlen]; simp; omega)]
    rw [del_ins hr]
  · rw [if_neg h1]
    exact .inl ⟨2, by decide, rfl⟩

def SOF (F : Nat → List Row) : Prop := ∀ j, j < 3 → SO (F j)
theorem SOF.upd {F : Nat → List Row} (h : SOF F) {t : Nat} {R : List Row} (hR : SO R) : SOF (upd F t R) := fun j hj => by
  unfold Go.S.upd
  split
  · exact hR
  · exact h j hj
/-- One step, and back. -/
def Stp (F : Nat → List Row) (L : List Chg) (F' : Nat → List Row) (L' : List Chg) : Prop := (L' = L ∧ F' = F) ∨ ∃ x, L' = L ++ [x] ∧ undo1 (TG F') x = TG F
theorem Stp.refl (F : Nat → List Row) (L : List Chg) : Stp F L F L := .inl ⟨rfl, rfl⟩
theorem Stp.undo {F F' F0 : Nat → List Row} {L L' : List Chg} (h : Stp F L F' L') (u : undoL (TG F) L = TG F0) : undoL (TG F') L' = TG F0 := by
  rcases h with ⟨rfl, rfl⟩ | ⟨x, rfl, h⟩
  · exact u
  · unfold undoL
    rw [List.foldr_append]
    show undoL (undo1 (TG F') x) L = TG F0
    rw [h, u]
theorem gd_change {s : Int} {F : Nat → List Row} {L : List Chg} {M : List Mrk} {H : List Hld} (h : AllS s H) {t : Nat} (ht : t < 3) (act : Tbl → Tbl × Chg × Int)
    (hact : (∃ T1 c e, e ≠ 0 ∧ act ⟨shapeS t, F t⟩ = (T1, c, e)) ∨ ∃ R' c, act ⟨shapeS t, F t⟩ = (⟨shapeS t, R'⟩, c, 0) ∧ SO R' ∧ undo1 (TG (upd F t R')) ⟨(shapeS t).name, c.op, c.row⟩ = TG F) (hF : SOF F) :
    ∃ F' L' H' e, changeF (GD s F L M H) ⟨s, (shapeS t).name, true⟩ act = (GD s F' L' M H', e) ∧ AllS s H' ∧ H'.length ≤ H.length + 1 ∧ SOF F' ∧ Stp F L F' L' := by
  obtain ⟨H', h1, h2, h3⟩ := gd_hold (F := F) (L := L) (M := M) h ht true
  obtain ⟨b1, b2⟩ := tg_bs F ht
  obtain ⟨b3, b4⟩ := w1_bs s L M
  unfold changeF
  rw [h1]
  simp only
  rw [show (GD s F L M H').tabs = TG F from rfl, show (GD s F L M H').works = [⟨s, L, M⟩] from rfl, b2, b4, tg_get F ht]
  rw [show decide ((0 : Int) ≠ 0) = false from rfl]
  simp only [Bool.false_eq_true, if_false]
  rw [show ([⟨s, L, M⟩] : List Wrk)[0]? = some ⟨s, L, M⟩ from rfl]
  simp only
  split
  · exact ⟨F, L, H', 4, rfl, h2, h3, hF, Stp.refl F L⟩
  · rcases hact with ⟨T1, c, e, he, ha⟩ | ⟨R', c, ha, hR, hu⟩
    · rw [ha]
      simp only
      rw [if_neg (by simpa using he)]
      exact ⟨F, L, H', e, rfl, h2, h3, hF, Stp.refl F L⟩
    · rw [ha]
      simp only
      rw [if_pos (by rfl), tg_set F ht]
      exact ⟨upd F t R', L ++ [⟨(shapeS t).name, c.op, c.row⟩], H', 0, rfl, h2, h3, hF.upd hR, .inr ⟨_, rfl, hu⟩⟩
theorem gd_put {s : Int} {F : Nat → List Row} {L : List Chg} {M : List Mrk} {H : List Hld} (h : AllS s H) {t : Nat} (ht : t < 3) (hF : SOF F) {r : Row} (hr : RowOk r) :
    ∃ F' L' H' e, putF (GD s F L M H) s (shapeS t).name r = (GD s F' L' M H', e) ∧ AllS s H' ∧ H'.length ≤ H.length + 1 ∧ SOF F' ∧ Stp F L F' L' := by
  refine gd_change h ht (doPut r) ?_ hF
  unfold doPut
  rcases tput (hF t ht) hr t with ⟨e, he, hp⟩ | ⟨R', hp, hR, hu⟩
  · rw [hp]; exact .inl ⟨_, _, e, he, rfl⟩
  · rw [hp]
    refine .inr ⟨R', _, rfl, hR, ?_⟩
    obtain ⟨b1, b2⟩ := tg_bs (upd F t R') ht
    have hk : (decide ((shapeS t).key ≥ 0) && decide ((shapeS t).key < (r.length : Int))) = true := by
      obtain ⟨a, v, rfl, -⟩ := hr; rfl
    unfold undo1
    simp only
    rw [b1, b2, tg_get _ ht]
    simp only [if_true, upd_at]
    rw [if_neg (show ¬ (decide ((1 : Int) = 2) = true) by decide), if_pos hk, show (shapeS t).key = 0 from rfl, hu, tg_set _ ht, upd_upd]
theorem gd_take {s : Int} {F : Nat → List Row} {L : List Chg} {M : List Mrk} {H : List Hld} (h : AllS s H) {t : Nat} (ht : t < 3) (hF : SOF F) (a : Int) :
    ∃ F' L' H' e, takeF (GD s F L M H) s (shapeS t).name ⟨2, a, noS⟩ = (GD s F' L' M H', e) ∧ AllS s H' ∧ H'.length ≤ H.length + 1 ∧ SOF F' ∧ Stp F L F' L' := by
  refine gd_change h ht (doTake ⟨2, a, noS⟩) ?_ hF
  unfold doTake
  by_cases ho : (shapeS t).only = true
  · rw [if_pos ho]; exact .inl ⟨_, _, 19, by decide, rfl⟩
  · rw [if_neg ho]
    rcases ttake (hF t ht) a t with ⟨e, he, hp⟩ | ⟨R', row, hp, hR, hu⟩
    · rw [hp]; exact .inl ⟨_, _, e, he, rfl⟩
    · rw [hp]
      refine .inr ⟨R', _, rfl, hR, ?_⟩
      obtain ⟨b1, b2⟩ := tg_bs (upd F t R') ht
      unfold undo1
      simp only
      rw [b1, b2, tg_get _ ht]
      simp only [if_true, upd_at]
      simp only [decide_true, if_true]
      rw [hu, tg_set _ ht, upd_upd]
theorem gd_save {s : Int} {F : Nat → List Row} {L : List Chg} {M : List Mrk} {H : List Hld} (nm : ByteArray) : ∃ M' e, saveD (GD s F L M H) s nm = (GD s F L M' H, e) := by
  obtain ⟨b3, b4⟩ := w1_bs s L M
  unfold saveD
  rw [show (GD s F L M H).works = [⟨s, L, M⟩] from rfl, b3, b4]
  simp only [if_true]
  split
  · exact ⟨M, 12, rfl⟩
  · rw [show ([⟨s, L, M⟩] : List Wrk)[0]? = some ⟨s, L, M⟩ from rfl]
    simp only
    split
    · exact ⟨M, 4, rfl⟩
    · exact ⟨_, 0, rfl⟩
def G0 (F : Nat → List Row) : DB := ⟨TG F, [], [], []⟩
theorem gd_commit {s : Int} {F : Nat → List Row} {L : List Chg} {M : List Mrk} {H : List Hld} (h : AllS s H) : commitD (GD s F L M H) s = (G0 F, L, 0) := by
  obtain ⟨b3, b4⟩ := w1_bs s L M
  unfold commitD endK
  rw [show (GD s F L M H).works = [⟨s, L, M⟩] from rfl, b3, b4, show (GD s F L M H).holds = H from rfl, h.out]
  rfl
theorem g0_begin {s : Int} (hs : 0 ≤ s ∧ s < 8) (F : Nat → List Row) : beginD (G0 F) s = (GD s F [] [] [], 0) := by
  unfold beginD beginR
  have e : wrkC (G0 F).works s = [] := rfl
  rw [e]
  have h1 : decide (s < 0) = false := decide_eq_false (by omega)
  have h2 : decide (s ≥ 8) = false := decide_eq_false (by omega)
  rw [h1, h2]
  have e2 : bsB [] = false := by kernel_rfl
  have e3 : bsI [] = 0 := by kernel_rfl
  rw [e2, e3]
  rfl
theorem gd_roll {s : Int} {F F0 : Nat → List Row} {L : List Chg} {M : List Mrk} {H : List Hld} (h : AllS s H) (u : undoL (TG F) L = TG F0) : rollbackD (GD s F L M H) s = (G0 F0, 0) := by
  obtain ⟨b3, b4⟩ := w1_bs s L M
  unfold rollbackD backD backK endK
  rw [show (GD s F L M H).works = [⟨s, L, M⟩] from rfl, b3, b4, show (GD s F L M H).holds = H from rfl, h.out, show (GD s F L M H).tabs = TG F from rfl]
  simp only [if_true]
  rw [show ([⟨s, L, M⟩] : List Wrk)[0]? = some ⟨s, L, M⟩ from rfl]
  simp only
  rw [u]
  rfl
theorem gd_ok {s : Int} (hs : 0 ≤ s ∧ s < 8) {F : Nat → List Row} {L : List Chg} {M : List Mrk} {H : List Hld} (h : AllS s H) (hF : SOF F) {n : Nat} (hn : H.length ≤ n) : Okd n (GD s F L M H) := by
  refine ⟨by simp [GD, TG], by simp [GD], by simp [GD]; exact hs, ?_, hn, by simp [GD], fun x hx => by rw [h x hx]; exact hs⟩
  intro t ht
  have hle := fun j hj => (hF j hj).le
  simp [GD, TG] at ht
  rcases ht with rfl | rfl | rfl
  · exact Nat.le_trans (hle 0 (by omega)) (by decide)
  · exact Nat.le_trans (hle 1 (by omega)) (by decide)
  · exact Nat.le_trans (hle 2 (by omega)) (by decide)
theorem g0_small (F : Nat → List Row) (hF : SOF F) : Small (G0 F) := by
  refine ⟨by simp [G0, TG], by simp [G0], ?_, by simp [G0], by simp [G0]⟩
  intro t ht
  have hle := fun j hj => (hF j hj).le
  simp [G0, TG] at ht
  rcases ht with rfl | rfl | rfl
  · exact Nat.le_trans (hle 0 (by omega)) (by decide)
  · exact Nat.le_trans (hle 1 (by omega)) (by decide)
  · exact Nat.le_trans (hle 2 (by omega)) (by decide)
theorem startE_G : startE = G0 (fun _ => []) := rfl
end Go.S

