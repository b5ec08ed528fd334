import Derived.Test.YtnfijhlegoagjaaGreatJ1
import Derived.Test.YtnfijhlegoagjaaGreatH4
set_option linter.unusedVariables false
set_option linter.unusedSimpArgs false
set_option linter.unusedSectionVars false
set_option maxRecDepth 100000
set_option maxHeartbeats 8000000
set_option linter.unusedVariables false
set_option linter.unusedSimpArgs false
namespace Go.S
open Go.Sx Go.Proofs

theorem eq72 {xs : List Val} {h : Heap} {b1 b2 : Option Addr} {n1 c1 n2 c2 : Nat} (q1 : Sl 68 shVal h (.slice b1 n1 c1) xs) (q2 : Sl 68 shVal h (.slice b2 n2 c2) xs) {k : Value → Heap → Prop} (hk : k (.bool true) h) :
    Ct 72 [.slice b1 n1 c1, .slice b2 n2 c2] h k := by
  obtain ⟨A, hA⟩ := Ar.ex
  have hl1 := q1.len
  have hl2 := q2.len
  have hbd := q1.bound.1
  have nn1 : A .icm .neq (A .nat n1) (A .nat n2) = false := by rw [hl1, hl2, icm_neq A]; simp
  have ie : ∀ a : Int, A .icm .eql a a = true := fun a => by rw [icm_eql A]; simp
  have se : ∀ s : ByteArray, A .scm .eql s s = true := fun s => by rw [scm_eql A]; simp
  have be : ∀ x : Bool, A .bcm .eql x x = true := fun x => by rw [hA.bcm]; cases x <;> rfl
  have veq : ∀ (a b : Int) (s : ByteArray), A .not (A .and (A .icm .eql a a) (A .and (A .icm .eql b b) (A .and (A .scm .eql s s) true))) = false := by
    intros
    simp only [ie, se, be]
    rw [hA.not, hA.and]; rfl
  refine fn_of_sx A (tabOk T72.plan T72.pub) Tryz.func72 rfl (by kernel_rfl) ?_
  cbv
  rw [nn1]
  cbv
  refine LoopX.go (G := Int) (fun g => [(13, .v (.int .i64 g))]) (fun _ => []) (fun m g h' => h' = h ∧ ∃ i, IsN g i ∧ m = n1 - i ∧ i ≤ n1) n1 0 ⟨?_, ?_, ?_⟩ ⟨rfl, 0, ⟨rfl⟩, by omega, by omega⟩ ?_
  · cbv
  · cbv
  · cbv
  · intro m g h' hI
    cbv
    obtain ⟨rfl, i, hz, hm, hi⟩ := hI
    refine bsel_mk (fun hc => ?_) (fun hc => ?_)
    · have hlt := hz.lt hc
      clear hc
      obtain ⟨⟨va, vb, vc⟩, hx⟩ := get_ex (xs := xs) (i := i) (by omega)
      have ck1 : b1.isSome = true ∧ 0 ≤ g ∧ g < (n1 : Int) := ⟨q1.isSm (by omega), hz.ix hlt⟩
      have ck2 : b2.isSome = true ∧ 0 ≤ g ∧ g < (n2 : Int) := ⟨q2.isSm (by omega), hz.ix (by omega)⟩
      have hze := hz.eq
      have hnx := hz.succ (A := A) (by omega)
      cbv
      refine ⟨ck1, ?_⟩
      cbv
      refine q1.load hx hze (fun cs hcs => ?_)
      have hcs : cs = [.int .i64 va, .int .i64 vb, .string vc] := hcs
      subst hcs
      cbv
      refine ⟨ck2, ?_⟩
      cbv
      refine q2.load hx hze (fun cs hcs => ?_)
      have hcs : cs = [.int .i64 va, .int .i64 vb, .string vc] := hcs
      subst hcs
      cbv
      rw [veq]
      cbv
      refine ⟨n1 - (i + 1), _, by omega, ⟨?_, ?_, ?_⟩, rfl, i + 1, hnx, rfl, by omega⟩
      · cbv
      · cbv
      · cbv
    · cbv
      exact hk

theorem eq138 {xs : List Col} {h : Heap} {b1 b2 : Option Addr} {n1 c1 n2 c2 : Nat} (q1 : Sl 104 shCol h (.slice b1 n1 c1) xs) (q2 : Sl 104 shCol h (.slice b2 n2 c2) xs) {k : Value → Heap → Prop} (hk : k (.bool true) h) :
    Ct 138 [.slice b1 n1 c1, .slice b2 n2 c2] h k := by
  obtain ⟨A, hA⟩ := Ar.ex
  have hl1 := q1.len
  have hl2 := q2.len
  have hbd := q1.bound.1
  have nn1 : A .icm .neq (A .nat n1) (A .nat n2) = false := by rw [hl1, hl2, icm_neq A]; simp
  have ie : ∀ a : Int, A .icm .eql a a = true := fun a => by rw [icm_eql A]; simp
  have se : ∀ s : ByteArray, A .scm .eql s s = true := fun s => by rw [scm_eql A]; simp
  have be : ∀ x : Bool, A .bcm .eql x x = true := fun x => by rw [hA.bcm]; cases x <;> rfl
  have veq : ∀ (s : ByteArray) (a : Int) (b : Bool), A .not (A .and (A .scm .eql s s) (A .and (A .icm .eql a a) (A .and (A .bcm .eql b b) true))) = false := by
    intros
    simp only [ie, se, be]
    rw [hA.not, hA.and]; rfl
  refine fn_of_sx A (tabOk T138.plan T138.pub) Tryz.func138 rfl (by kernel_rfl) ?_
  cbv
  rw [nn1]
  cbv
  refine LoopX.go (G := Int) (fun g => [(13, .v (.int .i64 g))]) (fun _ => []) (fun m g h' => h' = h ∧ ∃ i, IsN g i ∧ m = n1 - i ∧ i ≤ n1) n1 0 ⟨?_, ?_, ?_⟩ ⟨rfl, 0, ⟨rfl⟩, by omega, by omega⟩ ?_
  · cbv
  · cbv
  · cbv
  · intro m g h' hI
    cbv
    obtain ⟨rfl, i, hz, hm, hi⟩ := hI
    refine bsel_mk (fun hc => ?_) (fun hc => ?_)
    · have hlt := hz.lt hc
      clear hc
      obtain ⟨⟨va, vb, vc⟩, hx⟩ := get_ex (xs := xs) (i := i) (by omega)
      have ck1 : b1.isSome = true ∧ 0 ≤ g ∧ g < (n1 : Int) := ⟨q1.isSm (by omega), hz.ix hlt⟩
      have ck2 : b2.isSome = true ∧ 0 ≤ g ∧ g < (n2 : Int) := ⟨q2.isSm (by omega), hz.ix (by omega)⟩
      have hze := hz.eq
      have hnx := hz.succ (A := A) (by omega)
      cbv
      refine ⟨ck1, ?_⟩
      cbv
      refine q1.load hx hze (fun cs hcs => ?_)
      have hcs : cs = [.string va, .int .i64 vb, .bool vc] := hcs
      subst hcs
      cbv
      refine ⟨ck2, ?_⟩
      cbv
      refine q2.load hx hze (fun cs hcs => ?_)
      have hcs : cs = [.string va, .int .i64 vb, .bool vc] := hcs
      subst hcs
      cbv
      rw [veq]
      cbv
      refine ⟨n1 - (i + 1), _, by omega, ⟨?_, ?_, ?_⟩, rfl, i + 1, hnx, rfl, by omega⟩
      · cbv
      · cbv
      · cbv
    · cbv
      exact hk

theorem eq126 {xs : List Hld} {h : Heap} {b1 b2 : Option Addr} {n1 c1 n2 c2 : Nat} (q1 : Sl 188 shHld h (.slice b1 n1 c1) xs) (q2 : Sl 188 shHld h (.slice b2 n2 c2) xs) {k : Value → Heap → Prop} (hk : k (.bool true) h) :
    Ct 126 [.slice b1 n1 c1, .slice b2 n2 c2] h k := by
  obtain ⟨A, hA⟩ := Ar.ex
  have hl1 := q1.len
  have hl2 := q2.len
  have hbd := q1.bound.1
  have nn1 : A .icm .neq (A .nat n1) (A .nat n2) = false := by rw [hl1, hl2, icm_neq A]; simp
  have ie : ∀ a : Int, A .icm .eql a a = true := fun a => by rw [icm_eql A]; simp
  have se : ∀ s : ByteArray, A .scm .eql s s = true := fun s => by rw [scm_eql A]; simp
  have be : ∀ x : Bool, A .bcm .eql x x = true := fun x => by rw [hA.bcm]; cases x <;> rfl
  have veq : ∀ (a : Int) (s : ByteArray) (b : Bool), A .not (A .and (A .icm .eql a a) (A .and (A .scm .eql s s) (A .and (A .bcm .eql b b) true))) = false := by
    intros
    simp only [ie, se, be]
    rw [hA.not, hA.and]; rfl
  refine fn_of_sx A (tabOk T126.plan T126.pub) Tryz.func126 rfl (by kernel_rfl) ?_
  cbv
  rw [nn1]
  cbv
  refine LoopX.go (G := Int) (fun g => [(13, .v (.int .i64 g))]) (fun _ => []) (fun m g h' => h' = h ∧ ∃ i, IsN g i ∧ m = n1 - i ∧ i ≤ n1) n1 0 ⟨?_, ?_, ?_⟩ ⟨rfl, 0, ⟨rfl⟩, by omega, by omega⟩ ?_
  · cbv
  · cbv
  · cbv
  · intro m g h' hI
    cbv
    obtain ⟨rfl, i, hz, hm, hi⟩ := hI
    refine bsel_mk (fun hc => ?_) (fun hc => ?_)
    · have hlt := hz.lt hc
      clear hc
      obtain ⟨⟨va, vb, vc⟩, hx⟩ := get_ex (xs := xs) (i := i) (by omega)
      have ck1 : b1.isSome = true ∧ 0 ≤ g ∧ g < (n1 : Int) := ⟨q1.isSm (by omega), hz.ix hlt⟩
      have ck2 : b2.isSome = true ∧ 0 ≤ g ∧ g < (n2 : Int) := ⟨q2.isSm (by omega), hz.ix (by omega)⟩
      have hze := hz.eq
      have hnx := hz.succ (A := A) (by omega)
      cbv
      refine ⟨ck1, ?_⟩
      cbv
      refine q1.load hx hze (fun cs hcs => ?_)
      have hcs : cs = [.int .i64 va, .string vb, .bool vc] := hcs
      subst hcs
      cbv
      refine ⟨ck2, ?_⟩
      cbv
      refine q2.load hx hze (fun cs hcs => ?_)
      have hcs : cs = [.int .i64 va, .string vb, .bool vc] := hcs
      subst hcs
      cbv
      rw [veq]
      cbv
      refine ⟨n1 - (i + 1), _, by omega, ⟨?_, ?_, ?_⟩, rfl, i + 1, hnx, rfl, by omega⟩
      · cbv
      · cbv
      · cbv
    · cbv
      exact hk

theorem eq75 {xs : List Mrk} {h : Heap} {b1 b2 : Option Addr} {n1 c1 n2 c2 : Nat} (q1 : Sl 145 shMrk h (.slice b1 n1 c1) xs) (q2 : Sl 145 shMrk h (.slice b2 n2 c2) xs) {k : Value → Heap → Prop} (hk : k (.bool true) h) :
    Ct 75 [.slice b1 n1 c1, .slice b2 n2 c2] h k := by
  obtain ⟨A, hA⟩ := Ar.ex
  have hl1 := q1.len
  have hl2 := q2.len
  have hbd := q1.bound.1
  have nn1 : A .icm .neq (A .nat n1) (A .nat n2) = false := by rw [hl1, hl2, icm_neq A]; simp
  have ie : ∀ a : Int, A .icm .eql a a = true := fun a => by rw [icm_eql A]; simp
  have se : ∀ s : ByteArray, A .scm .eql s s = true := fun s => by rw [scm_eql A]; simp
  have be : ∀ x : Bool, A .bcm .eql x x = true := fun x => by rw [hA.bcm]; cases x <;> rfl
  have veq : ∀ (s : ByteArray) (a : Int), A .not (A .and (A .scm .eql s s) (A .and (A .icm .eql a a) true)) = false := by
    intros
    simp only [ie, se, be]
    rw [hA.not, hA.and]; rfl
  refine fn_of_sx A (tabOk T75.plan T75.pub) Tryz.func75 rfl (by kernel_rfl) ?_
  cbv
  rw [nn1]
  cbv
  refine LoopX.go (G := Int) (fun g => [(13, .v (.int .i64 g))]) (fun _ => []) (fun m g h' => h' = h ∧ ∃ i, IsN g i ∧ m = n1 - i ∧ i ≤ n1) n1 0 ⟨?_, ?_, ?_⟩ ⟨rfl, 0, ⟨rfl⟩, by omega, by omega⟩ ?_
  · cbv
  · cbv
  · cbv
  · intro m g h' hI
    cbv
    obtain ⟨rfl, i, hz, hm, hi⟩ := hI
    refine bsel_mk (fun hc => ?_) (fun hc => ?_)
    · have hlt := hz.lt hc
      clear hc
      obtain ⟨⟨va, vb⟩, hx⟩ := get_ex (xs := xs) (i := i) (by omega)
      have ck1 : b1.isSome = true ∧ 0 ≤ g ∧ g < (n1 : Int) := ⟨q1.isSm (by omega), hz.ix hlt⟩
      have ck2 : b2.isSome = true ∧ 0 ≤ g ∧ g < (n2 : Int) := ⟨q2.isSm (by omega), hz.ix (by omega)⟩
      have hze := hz.eq
      have hnx := hz.succ (A := A) (by omega)
      cbv
      refine ⟨ck1, ?_⟩
      cbv
      refine q1.load hx hze (fun cs hcs => ?_)
      have hcs : cs = [.string va, .int .i64 vb] := hcs
      subst hcs
      cbv
      refine ⟨ck2, ?_⟩
      cbv
      refine q2.load hx hze (fun cs hcs => ?_)
      have hcs : cs = [.string va, .int .i64 vb] := hcs
      subst hcs
      cbv
      rw [veq]
      cbv
      refine ⟨n1 - (i + 1), _, by omega, ⟨?_, ?_, ?_⟩, rfl, i + 1, hnx, rfl, by omega⟩
      · cbv
      · cbv
      · cbv
    · cbv
      exact hk

theorem same90 {r : Row} {h : Heap} {b1 b2 : Option Addr} {n1 c1 n2 c2 : Nat} (q1 : Sl 68 shVal h (.slice b1 n1 c1) r) (q2 : Sl 68 shVal h (.slice b2 n2 c2) r) {k : Value → Heap → Prop} (hk : k (.bool true) h) :
    Ct 90 [.slice b1 n1 c1, .slice b2 n2 c2] h k := by
  obtain ⟨A, hA⟩ := Ar.ex
  refine fn_of_sx A (tabOk T90.plan T90.pub) Tryz.func90 rfl (by kernel_rfl) ?_
  cbv
  refine eq72 q1 q2 ?_
  cbv
  exact hk
theorem same71 {x : Chg} {h : Heap} {b1 b2 : Option Addr} {n1 c1 n2 c2 : Nat} (q1 : Sl 68 shVal h (.slice b1 n1 c1) x.row) (q2 : Sl 68 shVal h (.slice b2 n2 c2) x.row) {k : Value → Heap → Prop} (hk : k (.bool true) h) :
    Ct 71 [.agg #[.string x.table, .int .i64 x.op, .slice b1 n1 c1], .agg #[.string x.table, .int .i64 x.op, .slice b2 n2 c2]] h k := by
  obtain ⟨A, hA⟩ := Ar.ex
  obtain ⟨xt, xo, xr⟩ := x
  have ss : A .scm .eql xt xt = true := by rw [scm_eql A]; simp
  have ii : A .icm .eql xo xo = true := by rw [icm_eql A]; simp
  refine fn_of_sx A (tabOk T71.plan T71.pub) Tryz.func71 rfl (by kernel_rfl) ?_
  cbv
  rw [ss]
  cbv
  rw [ii]
  cbv
  refine eq72 (xs := xr) q1 q2 ?_
  cbv
  exact hk

theorem eqf74 {xs : List Chg} {h : Heap} {b1 b2 : Option Addr} {n1 c1 n2 c2 : Nat} (q1 : Sl 77 shChg h (.slice b1 n1 c1) xs) (q2 : Sl 77 shChg h (.slice b2 n2 c2) xs) {k : Value → Heap → Prop} (hk : ∀ h', Le h h' → k (.bool true) h') :
    Ct 74 [.slice b1 n1 c1, .slice b2 n2 c2, .func (.func 71) #[] #[]] h k := by
  obtain ⟨A, hA⟩ := Ar.ex
  have hl1 := q1.len
  have hl2 := q2.len
  have hbd := q1.bound.1
  have nn1 : A .icm .neq (A .nat n1) (A .nat n2) = false := by rw [hl1, hl2, icm_neq A]; simp
  have hnot1 : A .not true = false := by rw [hA.not]; rfl
  refine fn_of_sx A (tabOk T74.plan T74.pub) Tryz.func74 rfl (by kernel_rfl) ?_
  cbv
  rw [nn1]
  cbv
  refine LoopX.go (G := Int) (fun g => [(17, .v (.int .i64 g))]) (fun _ => []) (fun m g h' => Le h h' ∧ ∃ i, IsN g i ∧ m = n1 - i ∧ i ≤ n1) n1 0 ⟨?_, ?_, ?_⟩ ⟨Le.refl _, 0, ⟨rfl⟩, by omega, by omega⟩ ?_
  · cbv
  · cbv
  · cbv
  · intro m g h' hI
    cbv
    obtain ⟨hle, i, hz, hm, hi⟩ := hI
    refine bsel_mk (fun hc => ?_) (fun hc => ?_)
    · have hlt := hz.lt hc
      clear hc
      obtain ⟨x, hx⟩ := get_ex (xs := xs) (i := i) (by omega)
      have ck1 : b1.isSome = true ∧ 0 ≤ g ∧ g < (n1 : Int) := ⟨q1.isSm (by omega), hz.ix hlt⟩
      have ck2 : b2.isSome = true ∧ 0 ≤ g ∧ g < (n2 : Int) := ⟨q2.isSm (by omega), hz.ix (by omega)⟩
      have hze := hz.eq
      have hnx := hz.succ (A := A) (by omega)
      cbv
      refine ⟨ck1, ?_⟩
      cbv
      refine (q1.mono (hle.t _)).load hx hze (fun cs hcs => ?_)
      obtain ⟨x1, x2, x3, rfl, s1⟩ := hcs
      cbv
      refine ⟨ck2, ?_⟩
      cbv
      refine (q2.mono (hle.t _)).load hx hze (fun cs hcs => ?_)
      obtain ⟨y1, y2, y3, rfl, s2⟩ := hcs
      cbv
      refine same71 (x := x) s1 s2 ?_
      have hle2 := hle
      cbv
      rw [hnot1]
      cbv
      refine ⟨n1 - (i + 1), _, by omega, ⟨?_, ?_, ?_⟩, hle2, i + 1, hnx, rfl, by omega⟩
      · cbv
      · cbv
      · cbv
    · have hfin := hk h' hle
      cbv
      exact hfin

theorem eqf89 {xs : List Row} {h : Heap} {b1 b2 : Option Addr} {n1 c1 n2 c2 : Nat} (q1 : Sl 63 shRow h (.slice b1 n1 c1) xs) (q2 : Sl 63 shRow h (.slice b2 n2 c2) xs) {k : Value → Heap → Prop} (hk : ∀ h', Le h h' → k (.bool true) h') :
    Ct 89 [.slice b1 n1 c1, .slice b2 n2 c2, .func (.func 90) #[] #[]] h k := by
  obtain ⟨A, hA⟩ := Ar.ex
  have hl1 := q1.len
  have hl2 := q2.len
  have hbd := q1.bound.1
  have nn1 : A .icm .neq (A .nat n1) (A .nat n2) = false := by rw [hl1, hl2, icm_neq A]; simp
  have hnot1 : A .not true = false := by rw [hA.not]; rfl
  refine fn_of_sx A (tabOk T89.plan T89.pub) Tryz.func89 rfl (by kernel_rfl) ?_
  cbv
  rw [nn1]
  cbv
  refine LoopX.go (G := Int) (fun g => [(17, .v (.int .i64 g))]) (fun _ => []) (fun m g h' => Le h h' ∧ ∃ i, IsN g i ∧ m = n1 - i ∧ i ≤ n1) n1 0 ⟨?_, ?_, ?_⟩ ⟨Le.refl _, 0, ⟨rfl⟩, by omega, by omega⟩ ?_
  · cbv
  · cbv
  · cbv
  · intro m g h' hI
    cbv
    obtain ⟨hle, i, hz, hm, hi⟩ := hI
    refine bsel_mk (fun hc => ?_) (fun hc => ?_)
    · have hlt := hz.lt hc
      clear hc
      obtain ⟨x, hx⟩ := get_ex (xs := xs) (i := i) (by omega)
      have ck1 : b1.isSome = true ∧ 0 ≤ g ∧ g < (n1 : Int) := ⟨q1.isSm (by omega), hz.ix hlt⟩
      have ck2 : b2.isSome = true ∧ 0 ≤ g ∧ g < (n2 : Int) := ⟨q2.isSm (by omega), hz.ix (by omega)⟩
      have hze := hz.eq
      have hnx := hz.succ (A := A) (by omega)
      cbv
      refine ⟨ck1, ?_⟩
      cbv
      refine (q1.mono (hle.t _)).load hx hze (fun cs hcs => ?_)
      obtain ⟨r1, rfl, s1⟩ := hcs
      obtain ⟨x1, x2, x3, rfl⟩ := s1.form
      cbv
      refine ⟨ck2, ?_⟩
      cbv
      refine (q2.mono (hle.t _)).load hx hze (fun cs hcs => ?_)
      obtain ⟨r2, rfl, s2⟩ := hcs
      obtain ⟨y1, y2, y3, rfl⟩ := s2.form
      cbv
      refine same90 (r := x) s1 s2 ?_
      have hle2 := hle
      cbv
      rw [hnot1]
      cbv
      refine ⟨n1 - (i + 1), _, by omega, ⟨?_, ?_, ?_⟩, hle2, i + 1, hnx, rfl, by omega⟩
      · cbv
      · cbv
      · cbv
    · have hfin := hk h' hle
      cbv
      exact hfin

end Go.S

