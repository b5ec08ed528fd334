import Derived.Test.YtficmdggjjepmaaGreatI1
import Derived.Test.YtficmdggjjepmaaGreatGB
import Derived.Test.YtficmdggjjepmaaGreatI2a
import Derived.Test.YtficmdggjjepmaaGreatHA
set_option linter.all false
set_option maxRecDepth 100000
set_option maxHeartbeats 8000000
namespace Go.S
open Go.Sx Go.Proofs

/-! Two of the same: they are told to be the same. -/
theorem samerow69 {xr : Row} {h : Heap} {b1 b2 : Option Addr} {n1 c1 n2 c2 : Nat} (q1 : Sl 87 shVal h (.slice b1 n1 c1) xr) (q2 : Sl 87 shVal h (.slice b2 n2 c2) xr) {k : Value → Heap → Prop} (hk : k (.bool true) h) :
    Ct 153 [.slice b1 n1 c1, .slice b2 n2 c2] h k := by
  obtain ⟨A, hA⟩ := Ar.ex
  have hl1 := q1.len
  have hl2 := q2.len
  have hbd := q1.bound.1
  have nn1 : A .icm .neq (A .nat n1) (A .nat n2) = false := by rw [hl1, hl2, icm_neq A]; simp
  have ss : ∀ s : ByteArray, A .scm .neq s s = false := fun s => by rw [hA.scm]; simp [Sx.scm]
  have ii : ∀ z : Int, A .icm .neq z z = false := fun z => by rw [icm_neq A]; simp
  have veq : ∀ (a b : Int) (s : ByteArray), A .not (A .and (A .icm .eql a a) (A .and (A .icm .eql b b) (A .and (A .scm .eql s s) true))) = false := fun a b s => by
    rw [hA.not, hA.and, icm_eql A, icm_eql A, scm_eql A]; simp
  refine fn_of_sx A (tabOk T153.plan T153.pub) Tryz.func153 rfl (by kernel_rfl) ?_
  cbv
  rw [nn1]
  cbv
  refine LoopX.go (G := Int) (fun g => [(5, .v (.int .i64 g))]) (fun _ => []) (fun m g h' => h' = h ∧ ∃ i, IsN g i ∧ m = n1 - i ∧ i ≤ n1) n1 0 ⟨?_, ?_, ?_⟩ ⟨rfl, 0, ⟨rfl⟩, by omega, by omega⟩ ?_
  · cbv
  · cbv
  · cbv
  · intro m g h' hI
    cbv
    obtain ⟨rfl, i, hz, hm, hi⟩ := hI
    refine bsel_mk (fun hc => ?_) (fun hc => ?_)
    · have hlt := hz.lt hc
      clear hc
      obtain ⟨⟨vk, vn, vs⟩, hx⟩ := get_ex (xs := xr) (i := i) (by omega)
      have ck1 : b1.isSome = true ∧ 0 ≤ g ∧ g < (n1 : Int) := ⟨q1.isSm (by omega), hz.ix hlt⟩
      have ck2 : b2.isSome = true ∧ 0 ≤ g ∧ g < (n2 : Int) := ⟨q2.isSm (by omega), hz.ix (by omega)⟩
      have hze := hz.eq
      have hnx := hz.succ (A := A) (by omega)
      cbv
      refine ⟨ck1, ?_⟩
      cbv
      refine q1.load hx hze (fun cs hcs => ?_)
      have hcs : cs = [.int .i64 vk, .int .i64 vn, .string vs] := hcs
      subst hcs
      cbv
      refine ⟨ck2, ?_⟩
      cbv
      refine q2.load hx hze (fun cs hcs => ?_)
      have hcs : cs = [.int .i64 vk, .int .i64 vn, .string vs] := hcs
      subst hcs
      cbv
      rw [veq]
      cbv
      refine ⟨n1 - (i + 1), _, by omega, ⟨?_, ?_, ?_⟩, rfl, i + 1, hnx, rfl, by omega⟩
      · cbv
      · cbv
      · cbv
    · cbv
      exact hk

end Go.S

set_option maxRecDepth 100000
set_option maxHeartbeats 4000000
namespace Go.S
open Go.Sx Go.Proofs

/-! Rows, their log, and the way back. -/
def tT (R : List Row) : List Tbl := [⟨shapeS 0, R⟩, tblS 1, tblS 2]
structure SO (R : List Row) : Prop where
  sr : SR R
  ok : ∀ row ∈ R, RowOk row
  le : R.length ≤ 200
/-- The way back to a mark. -/
structure Bk (R : List Row) (L : List Chg) (R0 : List Row) (n : Nat) : Prop where
  le : n ≤ L.length
  un : undoL (tT R) (L.drop n) = tT R0
/-! The session's calls. -/
def hR : Hld := ⟨0, nTa, false⟩
def HH (H : List Hld) : Prop := H = [] ∨ H = [hX 0] ∨ H = [hR]
def nHere : ByteArray := ⟨#[104, 101, 114, 101]⟩
def nLater : ByteArray := ⟨#[108, 97, 116, 101, 114]⟩
end Go.S

