import Derived.Test.YtficmdggjjepmaaGreatLB
import Derived.Test.YtficmdggjjepmaaGreatJX
import Derived.Test.YtficmdggjjepmaaGreatI1
set_option linter.all false
set_option maxRecDepth 100000
set_option maxHeartbeats 8000000
namespace Go.S
open Go.Sx Go.Proofs
/-- Two lists of numbers, each in a block of its own. -/
structure Q2 (h0 h : Heap) (sb : Option Addr) (sl sc : Nat) (tb : Option Addr) (tl tc : Nat) (seen todo : List Int) (p : Nat) : Prop where
  le : Le h0 h
  seen : Buf 3 shInt h0 h (.slice sb sl sc) seen
  todo : BufT 3 shInt h0 h (.slice tb tl tc) todo p
  sal : ∀ a, sb = some a → h a.block ≠ none
  tal : ∀ a, tb = some a → h a.block ≠ none
  dj : ∀ a a', sb = some a → tb = some a' → a.block ≠ a'.block
end Go.S

set_option maxRecDepth 100000
set_option maxHeartbeats 8000000
namespace Go.S
open Go.Sx Go.Proofs
structure Fx (E : List (Int × Int)) (M : Nat) (st : List Int × List Int) (p : Nat) : Prop where
  fm : pot E st.1 + st.2.length ≤ M
  fp : p + pot E st.1 ≤ E.length + 1
  ft : st.2.length ≤ p
  fs : st.1.length + pot E st.1 ≤ E.length
end Go.S

set_option maxRecDepth 100000
set_option maxHeartbeats 8000000
namespace Go.S
open Go.Sx Go.Proofs
end Go.S

set_option maxRecDepth 100000
set_option maxHeartbeats 8000000
namespace Go.S
open Go.Sx Go.Proofs
theorem rsame139 {cols : List Col} {nm : ByteArray} {key : Int} {only : Bool} {h : Heap} {b1 b2 : Option Addr} {n1 c1 n2 c2 : Nat} (q1 : Sl 58 shCol h (.slice b1 n1 c1) cols) (q2 : Sl 58 shCol h (.slice b2 n2 c2) cols) {k : Value → Heap → Prop} (hk : k (.bool true) h) :
    Ct 152 [.agg #[.string nm, .slice b1 n1 c1, .int .i64 key, .bool only], .agg #[.string nm, .slice b2 n2 c2, .int .i64 key, .bool only]] h k := by
  obtain ⟨A, hA⟩ := Ar.ex
  have hl1 := q1.len
  have hl2 := q2.len
  have hbd := q1.bound.1
  have nn1 : A .icm .neq (A .nat n1) (A .nat n2) = false := by rw [hl1, hl2, icm_neq A]; simp
  have sn : A .scm .neq nm nm = false := by rw [hA.scm]; simp [Go.Sx.scm]
  have inn : A .icm .neq key key = false := by rw [icm_neq A]; simp
  have bn : A .not (A .bcm .eql only only) = false := by rw [hA.bcm, hA.not]; cases only <;> rfl
  have ie : ∀ a : Int, A .icm .eql a a = true := fun a => by rw [icm_eql A]; simp
  have se : ∀ s : ByteArray, A .scm .eql s s = true := fun s => by rw [scm_eql A]; simp
  have be : ∀ x : Bool, A .bcm .eql x x = true := fun x => by rw [hA.bcm]; cases x <;> rfl
  have veq : ∀ (s : ByteArray) (a : Int) (b : Bool), A .not (A .and (A .scm .eql s s) (A .and (A .icm .eql a a) (A .and (A .bcm .eql b b) true))) = false := by
    intros
    simp only [ie, se, be]
    rw [hA.not, hA.and]; rfl
  refine fn_of_sx A (tabOk T152.plan T152.pub) Tryz.func152 rfl (by kernel_rfl) ?_
  cbv
  rw [sn]
  cbv
  rw [nn1]
  cbv
  rw [inn]
  cbv
  rw [bn]
  cbv
  refine LoopX.go (G := Int) (fun g => [(5, .v (.int .i64 g))]) (fun _ => [(2, [.string nm, .slice b1 n1 c1, .int .i64 key, .bool only]), (3, [.string nm, .slice b2 n2 c2, .int .i64 key, .bool only])]) (fun m g h' => h' = h ∧ ∃ i, IsN g i ∧ m = n1 - i ∧ i ≤ n1) n1 0 ⟨?_, ?_, ?_⟩ ⟨rfl, 0, ⟨rfl⟩, by omega, by omega⟩ ?_
  · cbv
  · cbv
  · cbv
  · intro m g h' hI
    cbv
    obtain ⟨rfl, i, hz, hm, hi⟩ := hI
    refine bsel_mk (fun hc => ?_) (fun hc => ?_)
    · have hlt := hz.lt hc
      clear hc
      have hze := hz.eq
      have hnx := hz.succ (A := A) (by omega)
      obtain ⟨⟨va, vb, vc⟩, hx⟩ := get_ex (xs := cols) (i := i) (by omega)
      have ck1 : b1.isSome = true ∧ 0 ≤ g ∧ g < (n1 : Int) := ⟨q1.isSm (by omega), hz.ix (by omega)⟩
      have ck2 : b2.isSome = true ∧ 0 ≤ g ∧ g < (n2 : Int) := ⟨q2.isSm (by omega), hz.ix (by omega)⟩
      cbv
      refine ⟨ck1, ?_⟩
      cbv
      refine q1.load hx hze (fun cs hcs => ?_)
      have hcs : cs = [.string va, .int .i64 vb, .bool vc] := hcs
      subst hcs
      cbv
      refine ⟨ck2, ?_⟩
      cbv
      refine q2.load hx hze (fun cs hcs => ?_)
      have hcs : cs = [.string va, .int .i64 vb, .bool vc] := hcs
      subst hcs
      cbv
      rw [veq]
      cbv
      refine ⟨n1 - (i + 1), _, by omega, ⟨?_, ?_, ?_⟩, rfl, i + 1, hnx, rfl, by omega⟩
      · cbv
      · cbv
      · cbv
    · cbv
      exact hk
theorem rsame92 {cols : List Col} {rows : List Row} {nm : ByteArray} {key : Int} {only : Bool} {h : Heap} {b1 b2 b3 b4 : Option Addr} {n1 c1 n2 c2 n3 c3 n4 c4 : Nat} (q1 : Sl 58 shCol h (.slice b1 n1 c1) cols) (q2 : Sl 58 shCol h (.slice b2 n2 c2) cols) (q3 : Sl 88 shRow h (.slice b3 n3 c3) rows) (q4 : Sl 88 shRow h (.slice b4 n4 c4) rows) {k : Value → Heap → Prop} (hk : k (.bool true) h) :
    Ct 68 [.agg #[.string nm, .slice b1 n1 c1, .int .i64 key, .bool only, .slice b3 n3 c3], .agg #[.string nm, .slice b2 n2 c2, .int .i64 key, .bool only, .slice b4 n4 c4]] h k := by
  obtain ⟨A, hA⟩ := Ar.ex
  have hl3 := q3.len
  have hl4 := q4.len
  have hbd := q3.bound.1
  have nn3 : A .icm .neq (A .nat n3) (A .nat n4) = false := by rw [hl3, hl4, icm_neq A]; simp
  have hnot1 : A .not true = false := by rw [hA.not]; rfl
  refine fn_of_sx A (tabOk T68.plan T68.pub) Tryz.func68 rfl (by kernel_rfl) ?_
  cbv
  refine rsame139 (cols := cols) q1 q2 ?_
  cbv
  rw [hnot1]
  cbv
  rw [nn3]
  cbv
  refine LoopX.go (G := Int) (fun g => [(5, .v (.int .i64 g))]) (fun _ => [(2, [.string nm, .slice b1 n1 c1, .int .i64 key, .bool only, .slice b3 n3 c3]), (3, [.string nm, .slice b2 n2 c2, .int .i64 key, .bool only, .slice b4 n4 c4])]) (fun m g h' => h' = h ∧ ∃ i, IsN g i ∧ m = n3 - i ∧ i ≤ n3) n3 0 ⟨?_, ?_, ?_⟩ ⟨rfl, 0, ⟨rfl⟩, by omega, by omega⟩ ?_
  · cbv
  · cbv
  · cbv
  · intro m g h' hI
    cbv
    obtain ⟨rfl, i, hz, hm, hi⟩ := hI
    refine bsel_mk (fun hc => ?_) (fun hc => ?_)
    · have hlt := hz.lt hc
      clear hc
      have hze := hz.eq
      have hnx := hz.succ (A := A) (by omega)
      obtain ⟨x, hx⟩ := get_ex (xs := rows) (i := i) (by omega)
      have ck1 : b3.isSome = true ∧ 0 ≤ g ∧ g < (n3 : Int) := ⟨q3.isSm (by omega), hz.ix (by omega)⟩
      have ck2 : b4.isSome = true ∧ 0 ≤ g ∧ g < (n4 : Int) := ⟨q4.isSm (by omega), hz.ix (by omega)⟩
      cbv
      refine ⟨ck1, ?_⟩
      cbv
      refine q3.load hx hze (fun cs hcs => ?_)
      obtain ⟨r1, rfl, s1⟩ := hcs
      obtain ⟨x1, x2, x3, rfl⟩ := s1.form
      cbv
      refine ⟨ck2, ?_⟩
      cbv
      refine q4.load hx hze (fun cs hcs => ?_)
      obtain ⟨r2, rfl, s2⟩ := hcs
      obtain ⟨y1, y2, y3, rfl⟩ := s2.form
      cbv
      refine samerow69 (xr := x) s1 s2 ?_
      cbv
      rw [hnot1]
      cbv
      refine ⟨n3 - (i + 1), _, by omega, ⟨?_, ?_, ?_⟩, rfl, i + 1, hnx, rfl, by omega⟩
      · cbv
      · cbv
      · cbv
    · cbv
      exact hk
end Go.S

set_option maxRecDepth 100000
set_option maxHeartbeats 8000000
namespace Go.S
open Go.Sx Go.Proofs
theorem rsame91 {H W : List Hld} {h : Heap} {b1 b2 b3 b4 : Option Addr} {n1 c1 n2 c2 n3 c3 n4 c4 : Nat} (q1 : Sl 314 shHld h (.slice b1 n1 c1) H) (q2 : Sl 314 shHld h (.slice b2 n2 c2) H) (q3 : Sl 314 shHld h (.slice b3 n3 c3) W) (q4 : Sl 314 shHld h (.slice b4 n4 c4) W) {k : Value → Heap → Prop} (hk : k (.bool true) h) :
    Ct 67 [.agg #[.slice b1 n1 c1, .slice b3 n3 c3], .agg #[.slice b2 n2 c2, .slice b4 n4 c4]] h k := by
  obtain ⟨A, hA⟩ := Ar.ex
  have hl1 := q1.len
  have hl2 := q2.len
  have hl3 := q3.len
  have hl4 := q4.len
  have hbd := q1.bound.1
  have hbd3 := q3.bound.1
  have nn1 : A .icm .neq (A .nat n1) (A .nat n2) = false := by rw [hl1, hl2, icm_neq A]; simp
  have nn3 : A .icm .neq (A .nat n3) (A .nat n4) = false := by rw [hl3, hl4, icm_neq A]; simp
  have ie : ∀ a : Int, A .icm .eql a a = true := fun a => by rw [icm_eql A]; simp
  have se : ∀ s : ByteArray, A .scm .eql s s = true := fun s => by rw [scm_eql A]; simp
  have be : ∀ x : Bool, A .bcm .eql x x = true := fun x => by rw [hA.bcm]; cases x <;> rfl
  have veq : ∀ (a : Int) (s : ByteArray) (b : Bool), A .not (A .and (A .icm .eql a a) (A .and (A .scm .eql s s) (A .and (A .bcm .eql b b) true))) = false := by
    intros
    simp only [ie, se, be]
    rw [hA.not, hA.and]; rfl
  refine fn_of_sx A (tabOk T67.plan T67.pub) Tryz.func67 rfl (by kernel_rfl) ?_
  cbv
  rw [nn1]
  cbv
  rw [nn3]
  cbv
  refine LoopX.go (G := Int) (fun g => [(5, .v (.int .i64 g))]) (fun _ => [(2, [.slice b1 n1 c1, .slice b3 n3 c3]), (3, [.slice b2 n2 c2, .slice b4 n4 c4])]) (fun m g h' => h' = h ∧ ∃ i, IsN g i ∧ m = n1 - i ∧ i ≤ n1) n1 0 ⟨?_, ?_, ?_⟩ ⟨rfl, 0, ⟨rfl⟩, by omega, by omega⟩ ?_
  · cbv
  · cbv
  · cbv
  · intro m g h' hI
    cbv
    obtain ⟨rfl, i, hz, hm, hi⟩ := hI
    refine bsel_mk (fun hc => ?_) (fun hc => ?_)
    · have hlt := hz.lt hc
      clear hc
      have hze := hz.eq
      have hnx := hz.succ (A := A) (by omega)
      obtain ⟨⟨va, vb, vc⟩, hx⟩ := get_ex (xs := H) (i := i) (by omega)
      have ck1 : b1.isSome = true ∧ 0 ≤ g ∧ g < (n1 : Int) := ⟨q1.isSm (by omega), hz.ix (by omega)⟩
      have ck2 : b2.isSome = true ∧ 0 ≤ g ∧ g < (n2 : Int) := ⟨q2.isSm (by omega), hz.ix (by omega)⟩
      cbv
      refine ⟨ck1, ?_⟩
      cbv
      refine q1.load hx hze (fun cs hcs => ?_)
      have hcs : cs = [.int .i64 va, .string vb, .bool vc] := hcs
      subst hcs
      cbv
      refine ⟨ck2, ?_⟩
      cbv
      refine q2.load hx hze (fun cs hcs => ?_)
      have hcs : cs = [.int .i64 va, .string vb, .bool vc] := hcs
      subst hcs
      cbv
      rw [veq]
      cbv
      refine ⟨n1 - (i + 1), _, by omega, ⟨?_, ?_, ?_⟩, rfl, i + 1, hnx, rfl, by omega⟩
      · cbv
      · cbv
      · cbv
    · cbv
      refine LoopX.go (G := Int) (fun g => [(6, .v (.int .i64 g))]) (fun _ => [(2, [.slice b1 n1 c1, .slice b3 n3 c3]), (3, [.slice b2 n2 c2, .slice b4 n4 c4])]) (fun m g h2 => h2 = h' ∧ ∃ i, IsN g i ∧ m = n3 - i ∧ i ≤ n3) n3 0 ⟨?_, ?_, ?_⟩ ⟨rfl, 0, ⟨rfl⟩, by omega, by omega⟩ ?_
      · cbv
      · cbv
      · cbv
      · intro m g h2 hI
        cbv
        obtain ⟨rfl, i, hz, hm, hi⟩ := hI
        refine bsel_mk (fun hc => ?_) (fun hc => ?_)
        · have hlt := hz.lt hc
          clear hc
          have hze := hz.eq
          have hnx := hz.succ (A := A) (by omega)
          obtain ⟨⟨va, vb, vc⟩, hx⟩ := get_ex (xs := W) (i := i) (by omega)
          have ck1 : b3.isSome = true ∧ 0 ≤ g ∧ g < (n3 : Int) := ⟨q3.isSm (by omega), hz.ix (by omega)⟩
          have ck2 : b4.isSome = true ∧ 0 ≤ g ∧ g < (n4 : Int) := ⟨q4.isSm (by omega), hz.ix (by omega)⟩
          cbv
          refine ⟨ck1, ?_⟩
          cbv
          refine q3.load hx hze (fun cs hcs => ?_)
          have hcs : cs = [.int .i64 va, .string vb, .bool vc] := hcs
          subst hcs
          cbv
          refine ⟨ck2, ?_⟩
          cbv
          refine q4.load hx hze (fun cs hcs => ?_)
          have hcs : cs = [.int .i64 va, .string vb, .bool vc] := hcs
          subst hcs
          cbv
          rw [veq]
          cbv
          refine ⟨n3 - (i + 1), _, by omega, ⟨?_, ?_, ?_⟩, rfl, i + 1, hnx, rfl, by omega⟩
          · cbv
          · cbv
          · cbv
        · cbv
          exact hk
end Go.S

set_option maxRecDepth 100000
set_option maxHeartbeats 8000000
namespace Go.S
open Go.Sx Go.Proofs
theorem rsame93 {s : Int} {L : List Chg} {M : List Mrk} {h : Heap} {b1 b2 b3 b4 : Option Addr} {n1 c1 n2 c2 n3 c3 n4 c4 : Nat} (q1 : Sl 228 shChg h (.slice b1 n1 c1) L) (q2 : Sl 228 shChg h (.slice b2 n2 c2) L) (q3 : Sl 214 shMrk h (.slice b3 n3 c3) M) (q4 : Sl 214 shMrk h (.slice b4 n4 c4) M) {k : Value → Heap → Prop} (hk : k (.bool true) h) :
    Ct 69 [.agg #[.int .i64 s, .slice b1 n1 c1, .slice b3 n3 c3], .agg #[.int .i64 s, .slice b2 n2 c2, .slice b4 n4 c4]] h k := by
  obtain ⟨A, hA⟩ := Ar.ex
  have hl1 := q1.len
  have hl2 := q2.len
  have hl3 := q3.len
  have hl4 := q4.len
  have hbd := q1.bound.1
  have hbd3 := q3.bound.1
  have hnot1 : A .not true = false := by rw [hA.not]; rfl
  have nns : A .icm .neq s s = false := by rw [icm_neq A]; simp
  have nn1 : A .icm .neq (A .nat n1) (A .nat n2) = false := by rw [hl1, hl2, icm_neq A]; simp
  have nn3 : A .icm .neq (A .nat n3) (A .nat n4) = false := by rw [hl3, hl4, icm_neq A]; simp
  have ie : ∀ a : Int, A .icm .eql a a = true := fun a => by rw [icm_eql A]; simp
  have se : ∀ s : ByteArray, A .scm .eql s s = true := fun s => by rw [scm_eql A]; simp
  have veq : ∀ (s : ByteArray) (a : Int), A .not (A .and (A .scm .eql s s) (A .and (A .icm .eql a a) true)) = false := by
    intros
    simp only [ie, se]
    rw [hA.not, hA.and]; rfl
  refine fn_of_sx A (tabOk T69.plan T69.pub) Tryz.func69 rfl (by kernel_rfl) ?_
  cbv
  rw [nns]
  cbv
  rw [nn1]
  cbv
  rw [nn3]
  cbv
  refine LoopX.go (G := Int) (fun g => [(5, .v (.int .i64 g))]) (fun _ => [(2, [.int .i64 s, .slice b1 n1 c1, .slice b3 n3 c3]), (3, [.int .i64 s, .slice b2 n2 c2, .slice b4 n4 c4])]) (fun m g h' => h' = h ∧ ∃ i, IsN g i ∧ m = n1 - i ∧ i ≤ n1) n1 0 ⟨?_, ?_, ?_⟩ ⟨rfl, 0, ⟨rfl⟩, by omega, by omega⟩ ?_
  · cbv
  · cbv
  · cbv
  · intro m g h' hI
    cbv
    obtain ⟨rfl, i, hz, hm, hi⟩ := hI
    refine bsel_mk (fun hc => ?_) (fun hc => ?_)
    · have hlt := hz.lt hc
      clear hc
      have hze := hz.eq
      have hnx := hz.succ (A := A) (by omega)
      obtain ⟨x, hx⟩ := get_ex (xs := L) (i := i) (by omega)
      have ck1 : b1.isSome = true ∧ 0 ≤ g ∧ g < (n1 : Int) := ⟨q1.isSm (by omega), hz.ix (by omega)⟩
      have ck2 : b2.isSome = true ∧ 0 ≤ g ∧ g < (n2 : Int) := ⟨q2.isSm (by omega), hz.ix (by omega)⟩
      cbv
      refine ⟨ck1, ?_⟩
      cbv
      refine q1.load hx hze (fun cs hcs => ?_)
      obtain ⟨x1, x2, x3, rfl, s1⟩ := hcs
      cbv
      refine ⟨ck2, ?_⟩
      cbv
      refine q2.load hx hze (fun cs hcs => ?_)
      obtain ⟨y1, y2, y3, rfl, s2⟩ := hcs
      cbv
      refine samechg66 (x := x) s1 s2 ?_
      cbv
      rw [hnot1]
      cbv
      refine ⟨n1 - (i + 1), _, by omega, ⟨?_, ?_, ?_⟩, rfl, i + 1, hnx, rfl, by omega⟩
      · cbv
      · cbv
      · cbv
    · cbv
      refine LoopX.go (G := Int) (fun g => [(6, .v (.int .i64 g))]) (fun _ => [(2, [.int .i64 s, .slice b1 n1 c1, .slice b3 n3 c3]), (3, [.int .i64 s, .slice b2 n2 c2, .slice b4 n4 c4])]) (fun m g h2 => h2 = h' ∧ ∃ i, IsN g i ∧ m = n3 - i ∧ i ≤ n3) n3 0 ⟨?_, ?_, ?_⟩ ⟨rfl, 0, ⟨rfl⟩, by omega, by omega⟩ ?_
      · cbv
      · cbv
      · cbv
      · intro m g h2 hI
        cbv
        obtain ⟨rfl, i, hz, hm, hi⟩ := hI
        refine bsel_mk (fun hc => ?_) (fun hc => ?_)
        · have hlt := hz.lt hc
          clear hc
          have hze := hz.eq
          have hnx := hz.succ (A := A) (by omega)
          obtain ⟨⟨va, vb⟩, hx⟩ := get_ex (xs := M) (i := i) (by omega)
          have ck1 : b3.isSome = true ∧ 0 ≤ g ∧ g < (n3 : Int) := ⟨q3.isSm (by omega), hz.ix (by omega)⟩
          have ck2 : b4.isSome = true ∧ 0 ≤ g ∧ g < (n4 : Int) := ⟨q4.isSm (by omega), hz.ix (by omega)⟩
          cbv
          refine ⟨ck1, ?_⟩
          cbv
          refine q3.load hx hze (fun cs hcs => ?_)
          have hcs : cs = [.string va, .int .i64 vb] := hcs
          subst hcs
          cbv
          refine ⟨ck2, ?_⟩
          cbv
          refine q4.load hx hze (fun cs hcs => ?_)
          have hcs : cs = [.string va, .int .i64 vb] := hcs
          subst hcs
          cbv
          rw [veq]
          cbv
          refine ⟨n3 - (i + 1), _, by omega, ⟨?_, ?_, ?_⟩, rfl, i + 1, hnx, rfl, by omega⟩
          · cbv
          · cbv
          · cbv
        · cbv
          exact hk
end Go.S

