import Derived.Test.YtnfijhlegoagjaaGreatK1
import Derived.Test.YtnfijhlegoagjaaGreatH4
set_option linter.unusedVariables false
set_option linter.unusedSimpArgs false
set_option linter.unusedSectionVars false
set_option maxRecDepth 100000
set_option maxHeartbeats 8000000
set_option linter.unusedVariables false
set_option linter.unusedSimpArgs false
namespace Go.S
open Go.Sx Go.Proofs
theorem same88 {cols : List Col} {nm : ByteArray} {key : Int} {only : Bool} {h : Heap} {b1 b2 : Option Addr} {n1 c1 n2 c2 : Nat} (q1 : Sl 104 shCol h (.slice b1 n1 c1) cols) (q2 : Sl 104 shCol h (.slice b2 n2 c2) cols) {k : Value → Heap → Prop} (hk : k (.bool true) h) :
    Ct 88 [.agg #[.string nm, .slice b1 n1 c1, .int .i64 key, .bool only], .agg #[.string nm, .slice b2 n2 c2, .int .i64 key, .bool only]] h k := by
  obtain ⟨A, hA⟩ := Ar.ex
  have ss : A .scm .eql nm nm = true := by rw [scm_eql A]; simp
  have ii : A .icm .eql key key = true := by rw [icm_eql A]; simp
  have bb : A .bcm .eql only only = true := by rw [hA.bcm]; cases only <;> rfl
  refine fn_of_sx A (tabOk T88.plan T88.pub) Tryz.func88 rfl (by kernel_rfl) ?_
  cbv
  rw [ss]
  cbv
  refine eq138 q1 q2 ?_
  cbv
  rw [ii]
  cbv
  rw [bb]
  cbv
  exact hk
theorem same40 {cols : List Col} {rows : List Row} {nm : ByteArray} {key : Int} {only : Bool} {h : Heap} {b1 b2 b3 b4 : Option Addr} {n1 c1 n2 c2 n3 c3 n4 c4 : Nat} (q1 : Sl 104 shCol h (.slice b1 n1 c1) cols) (q2 : Sl 104 shCol h (.slice b2 n2 c2) cols) (q3 : Sl 63 shRow h (.slice b3 n3 c3) rows) (q4 : Sl 63 shRow h (.slice b4 n4 c4) rows) {k : Value → Heap → Prop} (hk : ∀ h', Le h h' → k (.bool true) h') :
    Ct 40 [.agg #[.string nm, .slice b1 n1 c1, .int .i64 key, .bool only, .slice b3 n3 c3], .agg #[.string nm, .slice b2 n2 c2, .int .i64 key, .bool only, .slice b4 n4 c4]] h k := by
  obtain ⟨A, hA⟩ := Ar.ex
  refine fn_of_sx A (tabOk T40.plan T40.pub) Tryz.func40 rfl (by kernel_rfl) ?_
  cbv
  refine same88 (cols := cols) q1 q2 ?_
  cbv
  refine eqf89 q3 q4 (fun h' l => ?_)
  have hfin := hk h' l
  cbv
  exact hfin
theorem same78 {H W : List Hld} {h : Heap} {b1 b2 b3 b4 : Option Addr} {n1 c1 n2 c2 n3 c3 n4 c4 : Nat} (q1 : Sl 188 shHld h (.slice b1 n1 c1) H) (q2 : Sl 188 shHld h (.slice b2 n2 c2) H) (q3 : Sl 188 shHld h (.slice b3 n3 c3) W) (q4 : Sl 188 shHld h (.slice b4 n4 c4) W) {k : Value → Heap → Prop} (hk : k (.bool true) h) :
    Ct 78 [.agg #[.slice b1 n1 c1, .slice b3 n3 c3], .agg #[.slice b2 n2 c2, .slice b4 n4 c4]] h k := by
  obtain ⟨A, hA⟩ := Ar.ex
  refine fn_of_sx A (tabOk T78.plan T78.pub) Tryz.func78 rfl (by kernel_rfl) ?_
  cbv
  refine eq126 q1 q2 ?_
  cbv
  refine eq126 q3 q4 ?_
  cbv
  exact hk
theorem same73 {s : Int} {log : List Chg} {marks : List Mrk} {nb : Nat} {h : Heap} (g : h nb = some (.cells #[.func (.func 71) #[] #[]] 151 (0, 0))) {b1 b2 b3 b4 : Option Addr} {n1 c1 n2 c2 n3 c3 n4 c4 : Nat} (q1 : Sl 77 shChg h (.slice b1 n1 c1) log) (q2 : Sl 77 shChg h (.slice b2 n2 c2) log) (q3 : Sl 145 shMrk h (.slice b3 n3 c3) marks) (q4 : Sl 145 shMrk h (.slice b4 n4 c4) marks) {k : Value → Heap → Prop} (hk : ∀ h', Le h h' → k (.bool true) h') :
    Ct 73 [.agg #[.int .i64 s, .slice b1 n1 c1, .slice b3 n3 c3], .agg #[.int .i64 s, .slice b2 n2 c2, .slice b4 n4 c4], .pointer (some ⟨nb, 0, none⟩)] h k := by
  obtain ⟨A, hA⟩ := Ar.ex
  have ii : A .icm .eql s s = true := by rw [icm_eql A]; simp
  refine fn_of_sx A (tabOk T73.plan T73.pub) Tryz.func73 rfl (by kernel_rfl) ?_
  cbv
  rw [ii]
  cbv
  refine ldb g rfl rfl ?_
  cbv
  refine eqf74 q1 q2 (fun h' l => ?_)
  cbv
  refine eq75 (q3.mono (l.t _)) (q4.mono (l.t _)) ?_
  have hfin := hk h' l
  cbv
  exact hfin

theorem eqf76 {xs : List Tbl} {h : Heap} {b1 b2 : Option Addr} {n1 c1 n2 c2 : Nat} (q1 : Sl 43 shTbl h (.slice b1 n1 c1) xs) (q2 : Sl 43 shTbl h (.slice b2 n2 c2) xs) {k : Value → Heap → Prop} (hk : ∀ h', Le h h' → k (.bool true) h') :
    Ct 76 [.slice b1 n1 c1, .slice b2 n2 c2, .func (.func 40) #[] #[]] h k := by
  obtain ⟨A, hA⟩ := Ar.ex
  have hl1 := q1.len
  have hl2 := q2.len
  have hbd := q1.bound.1
  have nn1 : A .icm .neq (A .nat n1) (A .nat n2) = false := by rw [hl1, hl2, icm_neq A]; simp
  have hnot1 : A .not true = false := by rw [hA.not]; rfl
  refine fn_of_sx A (tabOk T76.plan T76.pub) Tryz.func76 rfl (by kernel_rfl) ?_
  cbv
  rw [nn1]
  cbv
  refine LoopX.go (G := Int) (fun g => [(17, .v (.int .i64 g))]) (fun _ => []) (fun m g h' => Le h h' ∧ ∃ i, IsN g i ∧ m = n1 - i ∧ i ≤ n1) n1 0 ⟨?_, ?_, ?_⟩ ⟨Le.refl _, 0, ⟨rfl⟩, by omega, by omega⟩ ?_
  · cbv
  · cbv
  · cbv
  · intro m g h' hI
    cbv
    obtain ⟨hle, i, hz, hm, hi⟩ := hI
    refine bsel_mk (fun hc => ?_) (fun hc => ?_)
    · have hlt := hz.lt hc
      clear hc
      obtain ⟨x, hx⟩ := get_ex (xs := xs) (i := i) (by omega)
      have ck1 : b1.isSome = true ∧ 0 ≤ g ∧ g < (n1 : Int) := ⟨q1.isSm (by omega), hz.ix hlt⟩
      have ck2 : b2.isSome = true ∧ 0 ≤ g ∧ g < (n2 : Int) := ⟨q2.isSm (by omega), hz.ix (by omega)⟩
      have hze := hz.eq
      have hnx := hz.succ (A := A) (by omega)
      cbv
      refine ⟨ck1, ?_⟩
      cbv
      refine (q1.mono (hle.t _)).load hx hze (fun cs hcs => ?_)
      obtain ⟨x1, x2, x3, x4, x5, x6, rfl, xs_, xr⟩ := hcs
      cbv
      refine ⟨ck2, ?_⟩
      cbv
      refine (q2.mono (hle.t _)).load hx hze (fun cs hcs => ?_)
      obtain ⟨y1, y2, y3, y4, y5, y6, rfl, ys_, yr⟩ := hcs
      cbv
      refine same40 xs_ ys_ xr yr (fun h2 l2 => ?_)
      have hle2 := hle.trans l2
      cbv
      rw [hnot1]
      cbv
      refine ⟨n1 - (i + 1), _, by omega, ⟨?_, ?_, ?_⟩, hle2, i + 1, hnx, rfl, by omega⟩
      · cbv
      · cbv
      · cbv
    · have hfin := hk h' hle
      cbv
      exact hfin

theorem eqf77 {xs : List (Wrk × Bool)} {h : Heap} {b1 b2 : Option Addr} {n1 c1 n2 c2 : Nat} {nb : Nat} (g0 : h nb = some (.cells #[.func (.func 71) #[] #[]] 151 (0, 0))) (q1 : Sl 60 shWrkG h (.slice b1 n1 c1) xs) (q2 : Sl 60 shWrkG h (.slice b2 n2 c2) xs) {k : Value → Heap → Prop} (hk : ∀ h', Le h h' → k (.bool true) h') :
    Ct 77 [.slice b1 n1 c1, .slice b2 n2 c2, .func (.func 73) #[] #[.pointer (some ⟨nb, 0, none⟩)]] h k := by
  obtain ⟨A, hA⟩ := Ar.ex
  have hl1 := q1.len
  have hl2 := q2.len
  have hbd := q1.bound.1
  have nn1 : A .icm .neq (A .nat n1) (A .nat n2) = false := by rw [hl1, hl2, icm_neq A]; simp
  have hnot1 : A .not true = false := by rw [hA.not]; rfl
  refine fn_of_sx A (tabOk T77.plan T77.pub) Tryz.func77 rfl (by kernel_rfl) ?_
  cbv
  rw [nn1]
  cbv
  refine LoopX.go (G := Int) (fun g => [(17, .v (.int .i64 g))]) (fun _ => []) (fun m g h' => Le h h' ∧ ∃ i, IsN g i ∧ m = n1 - i ∧ i ≤ n1) n1 0 ⟨?_, ?_, ?_⟩ ⟨Le.refl _, 0, ⟨rfl⟩, by omega, by omega⟩ ?_
  · cbv
  · cbv
  · cbv
  · intro m g h' hI
    cbv
    obtain ⟨hle, i, hz, hm, hi⟩ := hI
    refine bsel_mk (fun hc => ?_) (fun hc => ?_)
    · have hlt := hz.lt hc
      clear hc
      obtain ⟨x, hx⟩ := get_ex (xs := xs) (i := i) (by omega)
      have ck1 : b1.isSome = true ∧ 0 ≤ g ∧ g < (n1 : Int) := ⟨q1.isSm (by omega), hz.ix hlt⟩
      have ck2 : b2.isSome = true ∧ 0 ≤ g ∧ g < (n2 : Int) := ⟨q2.isSm (by omega), hz.ix (by omega)⟩
      have hze := hz.eq
      have hnx := hz.succ (A := A) (by omega)
      cbv
      refine ⟨ck1, ?_⟩
      cbv
      refine (q1.mono (hle.t _)).load hx hze (fun cs hcs => ?_)
      obtain ⟨x1, x2, x3, x4, x5, x6, rfl, xl, xm, -⟩ := hcs
      cbv
      refine ⟨ck2, ?_⟩
      cbv
      refine (q2.mono (hle.t _)).load hx hze (fun cs hcs => ?_)
      obtain ⟨y1, y2, y3, y4, y5, y6, rfl, yl, ym, -⟩ := hcs
      cbv
      refine same73 (hle _ _ g0) xl yl xm ym (fun h2 l2 => ?_)
      have hle2 := hle.trans l2
      cbv
      rw [hnot1]
      cbv
      refine ⟨n1 - (i + 1), _, by omega, ⟨?_, ?_, ?_⟩, hle2, i + 1, hnx, rfl, by omega⟩
      · cbv
      · cbv
      · cbv
    · have hfin := hk h' hle
      cbv
      exact hfin

end Go.S

