import Derived.Test.YtficmdggjjepmaaGreatKA
import Derived.Test.YtficmdggjjepmaaGreatEC
import Derived.Test.YtficmdggjjepmaaGreatP1
set_option linter.all false
set_option maxRecDepth 100000
set_option maxHeartbeats 8000000
namespace Go.S
open Go.Sx Go.Proofs

/-! The document's own functions: the small ones. -/
end Go.S

set_option maxRecDepth 100000
set_option maxHeartbeats 8000000
namespace Go.S
open Go.Sx Go.Proofs
end Go.S

set_option maxRecDepth 100000
set_option maxHeartbeats 8000000
namespace Go.S
open Go.Sx Go.Proofs
end Go.S

set_option maxRecDepth 100000
set_option maxHeartbeats 8000000
namespace Go.S
open Go.Sx Go.Proofs
end Go.S

set_option maxRecDepth 100000
set_option maxHeartbeats 8000000
namespace Go.S
open Go.Sx Go.Proofs
end Go.S

set_option maxRecDepth 100000
set_option maxHeartbeats 8000000
namespace Go.S
open Go.Sx Go.Proofs
abbrev RDK (h : Heap) (d' : DB) (k : Value → Heap → Prop) : Prop :=
  ∀ h' b1 n1 c1 b2 n2 c2 b3 n3 c3 b4 n4 c4, Le h h' → RP h' b1 n1 c1 b2 n2 c2 b3 n3 c3 b4 n4 c4 d' → k (.agg #[.slice b1 n1 c1, .slice b2 n2 c2, .slice b3 n3 c3, .slice b4 n4 c4]) h'
end Go.S

set_option maxRecDepth 100000
set_option maxHeartbeats 8000000
namespace Go.S
open Go.Sx Go.Proofs

/-! Names in their order. -/
theorem cmpL_zero : ∀ a b : List UInt8, Lib.compareBytes a b = 0 ↔ a = b
  | [], [] => by simp [Lib.compareBytes]
  | [], y :: b => by simp [Lib.compareBytes]
  | x :: a, [] => by simp [Lib.compareBytes]
  | x :: a, y :: b => by
    unfold Lib.compareBytes
    by_cases h : x < y
    · simp [h]; intro e; subst e; exact absurd h (UInt8.lt_irrefl x)
    · by_cases h2 : y < x
      · simp [h, h2]; intro e; subst e; exact absurd h2 (UInt8.lt_irrefl x)
      · have : x = y := by
          rw [UInt8.lt_iff_toNat_lt] at h h2
          exact UInt8.toNat_inj.1 (by omega)
        subst this
        simp [h, cmpL_zero a b]
theorem cmpL_neg : ∀ a b : List UInt8, Lib.compareBytes a b = - Lib.compareBytes b a
  | [], [] => by simp [Lib.compareBytes]
  | [], y :: b => by simp [Lib.compareBytes]
  | x :: a, [] => by simp [Lib.compareBytes]
  | x :: a, y :: b => by
    unfold Lib.compareBytes
    by_cases h : x < y
    · have h2 : ¬ y < x := by rw [UInt8.lt_iff_toNat_lt] at h ⊢; omega
      simp [h, h2]
    · by_cases h2 : y < x
      · simp [h, h2]
      · simp [h, h2, cmpL_neg a b]
theorem cmpB_zero {a b : ByteArray} (h : cmpB a b = 0) : a = b := by
  unfold cmpB at h
  have := (cmpL_zero _ _).1 h
  cases a with
  | mk a =>
    cases b with
    | mk b =>
      congr 1
      exact Array.ext' this
theorem cmpB_neg (a b : ByteArray) : cmpB a b = - cmpB b a := by unfold cmpB; exact cmpL_neg _ _

/-- Tables as they stand. -/
structure TW (T : List Tbl) : Prop where
  srt : T.Pairwise (fun a b => cmpB a.S.name b.S.name < 0)
  ok : ∀ t ∈ T, t.S.cols = shColsE ∧ t.S.key = 0 ∧ SO t.rows ∧ t.S.name.size ≤ 12
  le : T.length ≤ 8
theorem tab_at {T : List Tbl} (h : T.Pairwise (fun a b => cmpB a.S.name b.S.name < 0)) {i : Nat} {t : Tbl} (hi : T[i]? = some t) : bsI (tabCmps T t.S.name) = i ∧ bsB (tabCmps T t.S.name) = true := by
  have hil := (List.getElem?_eq_some_iff.1 hi).1
  have hl : (tabCmps T t.S.name).length = T.length := by simp [tabCmps]
  have get : ∀ j x, T[j]? = some x → (tabCmps T t.S.name).getD j 0 = cmpB x.S.name t.S.name := fun j x hx => by
    rw [List.getD_eq_getElem?_getD]; unfold tabCmps; rw [List.getElem?_map, hx]; rfl
  refine bs_at _ i (by omega) (by rw [get i t hi]; exact cmpB_self _) (fun j hj => ?_) (fun j hj hj2 => ?_)
  · obtain ⟨x, hx⟩ := get_ex (xs := T) (i := j) (by omega)
    rw [get j x hx]
    have := List.pairwise_iff_getElem.1 h j i (List.getElem?_eq_some_iff.1 hx).1 hil hj
    rw [(List.getElem?_eq_some_iff.1 hx).2, (List.getElem?_eq_some_iff.1 hi).2] at this
    exact this
  · obtain ⟨x, hx⟩ := get_ex (xs := T) (i := j) (by omega)
    rw [get j x hx]
    have := List.pairwise_iff_getElem.1 h i j hil (List.getElem?_eq_some_iff.1 hx).1 hj
    rw [(List.getElem?_eq_some_iff.1 hx).2, (List.getElem?_eq_some_iff.1 hi).2] at this
    rw [cmpB_neg] at this
    omega
theorem tab_none {T : List Tbl} {nm : ByteArray} (h : ∀ t ∈ T, t.S.name ≠ nm) : bsB (tabCmps T nm) = false := by
  cases hb : bsB (tabCmps T nm) with
  | false => rfl
  | true =>
    unfold bsB at hb
    obtain ⟨h1, h2⟩ := of_decide_eq_true hb
    obtain ⟨t, ht⟩ := get_ex (xs := T) (i := bsI (tabCmps T nm)) (by simpa [tabCmps] using h1)
    have : (tabCmps T nm).getD (bsI (tabCmps T nm)) 0 = cmpB t.S.name nm := by
      conv => lhs; unfold tabCmps
      rw [List.getD_eq_getElem?_getD, List.getElem?_map]
      rw [show T.map (fun x => cmpB x.S.name nm) = tabCmps T nm from rfl, ht]; rfl
    rw [this] at h2
    exact absurd (cmpB_zero h2) (h t (List.mem_of_getElem? ht))
/-- The document's search and the program's meet. -/
theorem tab_idx {T : List Tbl} (h : T.Pairwise (fun a b => cmpB a.S.name b.S.name < 0)) {nm : ByteArray} {z : Int} (q : IdxR T (fun t => decide (t.S.name = nm)) z) :
    (z = -1 ∧ bsB (tabCmps T nm) = false ∧ ∀ t ∈ T, t.S.name ≠ nm) ∨ ∃ i t, IsN z i ∧ T[i]? = some t ∧ t.S.name = nm ∧ bsI (tabCmps T nm) = i ∧ bsB (tabCmps T nm) = true := by
  rcases q.out with ⟨rfl, hall⟩ | ⟨i, t, hz, ht, hp, -⟩
  · refine .inl ⟨rfl, tab_none (fun t ht => ?_), fun t ht => ?_⟩
    · exact of_decide_eq_false (hall t ht)
    · exact of_decide_eq_false (hall t ht)
  · have hn : t.S.name = nm := of_decide_eq_true hp
    obtain ⟨h1, h2⟩ := tab_at h ht
    rw [hn] at h1 h2
    exact .inr ⟨i, t, hz, ht, hn, h1, h2⟩

/-- A change that can be taken back. -/
structure ChOk (T : List Tbl) (x : Chg) : Prop where
  row : RowOk x.row
  op : x.op = 1 ∨ x.op = 2
  at_ : ∃ t ∈ T, t.S.name = x.table
end Go.S

set_option maxRecDepth 100000
set_option maxHeartbeats 8000000
namespace Go.S
open Go.Sx Go.Proofs
structure W15 where
  w : W12
  lb : Option Addr
  ln : Nat
  lc : Nat
end Go.S

set_option maxRecDepth 100000
set_option maxHeartbeats 8000000
namespace Go.S
open Go.Sx Go.Proofs
/-- A state as sessions make it. -/
structure SI (d : DB) : Prop where
  tw : TW d.tabs
  srt : d.works.Pairwise (fun a b => a.s < b.s)
  rng : ∀ w ∈ d.works, 0 ≤ w.s ∧ w.s < 8
  log : ∀ w ∈ d.works, (∀ x ∈ w.log, ChOk d.tabs x) ∧ w.log.length ≤ 60
  holds : d.holds.length ≤ 2 ^ 17
  waits : d.waits.length ≤ 2 ^ 17
end Go.S

