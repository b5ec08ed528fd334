import Derived.Test.YtnfijhlegoagjaaGreatF4
import Derived.Test.YtnfijhlegoagjaaGreatI2a
import Derived.Deep.Slices
set_option linter.unusedVariables false
set_option linter.unusedSimpArgs false
set_option linter.unusedSectionVars false
set_option maxRecDepth 100000
set_option maxHeartbeats 8000000
set_option linter.unusedVariables false
namespace Go.S
open Go.Sx Go.Proofs Go.ChangeShapes Go.WideShapes Go.ChangeAt Go.RowKit
theorem five {α : Type} {xs : List α} (h : xs.length = 5) : ∃ a b c d e, xs = [a, b, c, d, e] := by
  match xs, h with
  | [a, b, c, d, e], _ => exact ⟨a, b, c, d, e, rfl⟩
/-- An act, read from its cells. -/
theorem act_cells {H : Type} {enc : TypeId × Value → H} {W : World} {n : Nat} {cs : List Value} {x : DataW H × List MemPlace} (h : DataW.trod enc Tryz.prog W 0 (fun _ => true) true n 75 cs = some x) :
    ∃ a : Act1, shAct.R (full W) cs a ∧ ActOk a := by
  obtain ⟨xs, m, -, -, hl, hx, hf⟩ := DataW.trod_struct Tryz.underlying75 h
  have hl : cs.length = 5 := hl.trans (by kernel_rfl)
  obtain ⟨c0, c1, c2, c3, c4, rfl⟩ := five hl
  obtain ⟨y0, y1, y2, y3, y4, rfl⟩ := five (hx.trans (by rfl))
  have e1 : Tryz.prog.cellsOf 3 = 1 := by kernel_rfl
  have e2 : Tryz.prog.cellsOf 4 = 1 := by kernel_rfl
  have f0 := hf 0 _ rfl
  have f1 := hf 1 _ rfl
  have f2 := hf 2 _ rfl
  have f3 := hf 3 _ rfl
  have f4 := hf 4 _ rfl
  change DataW.trod enc Tryz.prog W 0 (fun _ => true) true m 3 (([c0, c1, c2, c3, c4].drop 0).take (Tryz.prog.cellsOf 3)) = some y0 at f0
  rw [e1] at f0
  change DataW.trod enc Tryz.prog W 0 (fun _ => true) true m 3 [c0] = some y0 at f0
  change DataW.trod enc Tryz.prog W 0 (fun _ => true) true m 3 (([c0, c1, c2, c3, c4].drop 1).take (Tryz.prog.cellsOf 3)) = some y1 at f1
  rw [e1] at f1
  change DataW.trod enc Tryz.prog W 0 (fun _ => true) true m 3 [c1] = some y1 at f1
  change DataW.trod enc Tryz.prog W 0 (fun _ => true) true m 3 (([c0, c1, c2, c3, c4].drop 2).take (Tryz.prog.cellsOf 3)) = some y2 at f2
  rw [e1] at f2
  change DataW.trod enc Tryz.prog W 0 (fun _ => true) true m 3 [c2] = some y2 at f2
  change DataW.trod enc Tryz.prog W 0 (fun _ => true) true m 3 (([c0, c1, c2, c3, c4].drop 3).take (Tryz.prog.cellsOf 3)) = some y3 at f3
  rw [e1] at f3
  change DataW.trod enc Tryz.prog W 0 (fun _ => true) true m 3 [c3] = some y3 at f3
  change DataW.trod enc Tryz.prog W 0 (fun _ => true) true m 4 (([c0, c1, c2, c3, c4].drop 4).take (Tryz.prog.cellsOf 4)) = some y4 at f4
  rw [e2] at f4
  change DataW.trod enc Tryz.prog W 0 (fun _ => true) true m 4 [c4] = some y4 at f4
  obtain ⟨k, h0, -, w0⟩ := DataW.trod_int Tryz.underlying3 f0
  obtain ⟨s, h1, -, w1⟩ := DataW.trod_int Tryz.underlying3 f1
  obtain ⟨t, h2, -, w2⟩ := DataW.trod_int Tryz.underlying3 f2
  obtain ⟨u, h3, -, w3⟩ := DataW.trod_int Tryz.underlying3 f3
  obtain ⟨b, h4, -⟩ := DataW.trod_bool Tryz.underlying4 f4
  simp only [List.cons.injEq, and_true] at h0 h1 h2 h3 h4
  subst h0 h1 h2 h3 h4
  exact ⟨⟨k, s, t, u, b⟩, rfl, i64_of_wf w0, i64_of_wf w1, i64_of_wf w2, i64_of_wf w3⟩
theorem full_cell {w : World} {blk i : Nat} {v : Value} (h : w.cell? ⟨blk, i, none⟩ = some v) : ∃ c e fr, full w blk = some (.cells c e fr) ∧ c[i]? = some v := by
  simp only [World.cell?] at h
  split at h
  · rename_i cc e fr hb
    exact ⟨cc, e, fr, hb, by simpa using h⟩
  · cases h
instance : Inhabited Act1 := ⟨⟨0, 0, 0, 0, false⟩⟩
theorem acts_arg {H : Type} {enc : TypeId × Value → H} {W : World} {v : Value} {d : DataW H} {p : List MemPlace} (h : DataW.Trod enc Tryz.prog W 0 (fun _ => true) true 73 v d p)
    (hok : ∃ a l c, v = .slice a l c) (hs : ∀ elems spare, d = .slice elems spare → (elems.length + spare.length) * 40 ≤ 2 ^ 47) : ∃ xs, SlB shAct (full W) v xs ∧ ∀ x ∈ xs, ActOk x := by
  obtain ⟨n, hn⟩ := h
  obtain ⟨a, l, c, rfl⟩ := hok
  have e5 : Tryz.prog.cellsOf 75 = 5 := by kernel_rfl
  rcases Go.Deep.open_slice Tryz.underlying73 hn with ⟨h1, h2⟩ | ⟨a', len, cap, m, k, D, Pl, h1, h2, h3, h4, h5, h6, h7⟩
  · cases h1
    exact ⟨[], ⟨_, _, rfl, by simp, .inl rfl⟩, by simp⟩
  · cases h1
    have hm : m = c := h5
    subst hm
    cases h6
    have hsz := hs _ _ rfl
    have hll : l ≤ 2 ^ 50 := by
      simp only [List.length_map, List.length_range] at hsz
      omega
    rw [e5] at h7
    have each : ∀ i, i < l → ∃ a : Act1, ActOk a ∧ ∃ cs, shAct.R (full W) cs a ∧ cs.length = 5 ∧ ∀ j, j < 5 → W.cell? ((a'.add (i * 5)).add j) = cs[j]? := by
      intro i hi
      obtain ⟨cs, q1, q2⟩ := h7 i (by omega)
      obtain ⟨-, q3, q4⟩ := World.cells?_some q1
      obtain ⟨a, qa, qo⟩ := act_cells q2
      exact ⟨a, qo, cs, qa, q3, q4⟩
    obtain ⟨F, hF⟩ := Go.Deep.choose_lt each
    have hg : ∀ {i x}, ((List.range l).map F)[i]? = some x → i < l ∧ x = F i := by
      intro i x hx
      have hi := (List.getElem?_eq_some_iff.1 hx).1
      simp only [List.length_map, List.length_range] at hi
      rw [List.getElem?_map, List.getElem?_range hi] at hx
      exact ⟨hi, by cases hx; rfl⟩
    refine ⟨(List.range l).map F, ⟨some a', m, ?_, ?_, ?_⟩, fun x hx => ?_⟩
    · simp
    · simpa using hll
    · rcases Nat.eq_zero_or_pos l with h0 | h0
      · left; rw [h0]; rfl
      · right
        obtain ⟨cs0, q1, q2, q3⟩ := (hF 0 h0).2
        obtain ⟨blk, off, spot⟩ := a'
        have qc := q3 0 (by omega)
        have hsp : spot = none := by
          cases spot with
          | none => rfl
          | some x =>
            simp only [World.cell?] at qc
            split at qc
            · simp [Addr.add, q2] at qc
            · rw [List.getElem?_eq_getElem (by omega)] at qc; cases qc
        subst hsp
        simp only [addN] at hF qc
        rw [List.getElem?_eq_getElem (by omega)] at qc
        obtain ⟨cc, e, fr, hb, -⟩ := full_cell qc
        have hcell : ∀ i, i < l → ∀ j, j < 5 → ∃ cs, shAct.R (full W) cs (F i) ∧ cs.length = 5 ∧ cc[off + i * 5 + j]? = cs[j]? := by
          intro i hi j hj
          obtain ⟨cs, r1, r2, r3⟩ := (hF i hi).2
          have := r3 j hj
          rw [List.getElem?_eq_getElem (by omega)] at this
          obtain ⟨cc', e', fr', hb', hcc⟩ := full_cell this
          rw [hb] at hb'
          cases hb'
          exact ⟨cs, r1, r2, by rw [hcc, List.getElem?_eq_getElem (by omega)]⟩
        refine ⟨blk, off, cc, e, fr, rfl, hb, ?_, fun i x hx => ?_⟩
        · obtain ⟨cs, r1, r2, r3⟩ := hcell (l - 1) (by omega) 4 (by omega)
          rw [List.getElem?_eq_getElem (by omega)] at r3
          have := (Array.getElem?_eq_some_iff.1 r3).1
          simp only [List.length_map, List.length_range, shAct, Array.length_toList]
          omega
        · obtain ⟨hi, rfl⟩ := hg hx
          show _ = _
          apply List.ext_getElem?
          intro j
          rw [List.getElem?_take]
          split
          · rename_i hj
            obtain ⟨cs, r1, r2, r3⟩ := hcell i hi j hj
            have : cs = [.int .i64 (F i).k, .int .i64 (F i).s, .int .i64 (F i).t, .int .i64 (F i).n, .bool (F i).x] := r1
            rw [← this, ← r3, List.getElem?_drop, Array.getElem?_toList]
            rfl
          · rename_i hj
            have hj : ¬ j < 5 := hj
            rw [List.getElem?_eq_none (by simp; omega)]
    · obtain ⟨i, hi⟩ := List.getElem?_of_mem hx
      obtain ⟨hj, rfl⟩ := hg hi
      exact (hF i hj).1
end Go.S

