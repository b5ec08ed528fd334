import Derived.Test.YtficmdggjjepmaaGreatEC
import Derived.Test.YtficmdggjjepmaaGreatGC
set_option linter.all false
set_option maxRecDepth 100000
set_option maxHeartbeats 8000000
namespace Go.S
open Go.Sx Go.Proofs

/-! Two of the same: they are told to be the same. -/
theorem samechg66 {x : Chg} {h : Heap} {b1 b2 : Option Addr} {n1 c1 n2 c2 : Nat} (q1 : Sl 87 shVal h (.slice b1 n1 c1) x.row) (q2 : Sl 87 shVal h (.slice b2 n2 c2) x.row) {k : Value → Heap → Prop} (hk : k (.bool true) h) :
    Ct 154 [.agg #[.string x.table, .int .i64 x.op, .slice b1 n1 c1], .agg #[.string x.table, .int .i64 x.op, .slice b2 n2 c2]] h k := by
  obtain ⟨A, hA⟩ := Ar.ex
  obtain ⟨xt, xo, xr⟩ := x
  have q1 : Sl 87 shVal h (.slice b1 n1 c1) xr := q1
  have q2 : Sl 87 shVal h (.slice b2 n2 c2) xr := q2
  have hl1 := q1.len
  have hl2 := q2.len
  have hbd := q1.bound.1
  have nn1 : A .icm .neq (A .nat n1) (A .nat n2) = false := by rw [hl1, hl2, icm_neq A]; simp
  have ss : ∀ s : ByteArray, A .scm .neq s s = false := fun s => by rw [hA.scm]; simp [Sx.scm]
  have ii : ∀ z : Int, A .icm .neq z z = false := fun z => by rw [icm_neq A]; simp
  have veq : ∀ (a b : Int) (s : ByteArray), A .not (A .and (A .icm .eql a a) (A .and (A .icm .eql b b) (A .and (A .scm .eql s s) true))) = false := fun a b s => by
    rw [hA.not, hA.and, icm_eql A, icm_eql A, scm_eql A]; simp
  refine fn_of_sx A (tabOk T154.plan T154.pub) Tryz.func154 rfl (by kernel_rfl) ?_
  cbv
  rw [ss]
  cbv
  rw [ii]
  cbv
  rw [nn1]
  cbv
  refine LoopX.go (G := Int) (fun g => [(5, .v (.int .i64 g))]) (fun _ => [(2, [.string xt, .int .i64 xo, .slice b1 n1 c1]), (3, [.string xt, .int .i64 xo, .slice b2 n2 c2])]) (fun m g h' => h' = h ∧ ∃ i, IsN g i ∧ m = n1 - i ∧ i ≤ n1) n1 0 ⟨?_, ?_, ?_⟩ ⟨rfl, 0, ⟨rfl⟩, by omega, by omega⟩ ?_
  · cbv
  · cbv
  · cbv
  · intro m g h' hI
    cbv
    obtain ⟨rfl, i, hz, hm, hi⟩ := hI
    refine bsel_mk (fun hc => ?_) (fun hc => ?_)
    · have hlt := hz.lt hc
      clear hc
      obtain ⟨⟨vk, vn, vs⟩, hx⟩ := get_ex (xs := xr) (i := i) (by omega)
      have ck1 : b1.isSome = true ∧ 0 ≤ g ∧ g < (n1 : Int) := ⟨q1.isSm (by omega), hz.ix hlt⟩
      have ck2 : b2.isSome = true ∧ 0 ≤ g ∧ g < (n2 : Int) := ⟨q2.isSm (by omega), hz.ix (by omega)⟩
      have hze := hz.eq
      have hnx := hz.succ (A := A) (by omega)
      cbv
      refine ⟨ck1, ?_⟩
      cbv
      refine q1.load hx hze (fun cs hcs => ?_)
      have hcs : cs = [.int .i64 vk, .int .i64 vn, .string vs] := hcs
      subst hcs
      cbv
      refine ⟨ck2, ?_⟩
      cbv
      refine q2.load hx hze (fun cs hcs => ?_)
      have hcs : cs = [.int .i64 vk, .int .i64 vn, .string vs] := hcs
      subst hcs
      cbv
      rw [veq]
      cbv
      refine ⟨n1 - (i + 1), _, by omega, ⟨?_, ?_, ?_⟩, rfl, i + 1, hnx, rfl, by omega⟩
      · cbv
      · cbv
      · cbv
    · cbv
      exact hk

end Go.S

