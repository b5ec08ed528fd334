import Derived.Test.YtficmdggjjepmaaGreatGB
import Derived.Test.YtficmdggjjepmaaGreatEC
import Derived.Test.YtficmdggjjepmaaGreatRd
set_option linter.all false
set_option maxRecDepth 100000
set_option maxHeartbeats 8000000
namespace Go.S
open Go.Sx Go.Proofs

/-- A session's work whose marks lie in a block of their own (or nowhere). -/
def shWrkM : Sh (Wrk × Option Nat) where
  n := 3
  R h cs t := ∃ b1 n1 b2 n2 c2, cs = [.int .i64 t.1.s, .slice b1 n1 n1, .slice b2 n2 c2] ∧ Sl 228 shChg h (.slice b1 n1 n1) t.1.log ∧
    ((t.2 = none ∧ n2 = 0 ∧ c2 = 0 ∧ t.1.marks = []) ∨ ∃ nb, t.2 = some nb ∧ b2 = some ⟨nb, 0, none⟩ ∧ n2 = t.1.marks.length ∧ Own 213 shMrk h nb c2 t.1.marks)
  len := by rintro h cs x ⟨_, _, _, _, _, rfl, -⟩; rfl
  one := by rintro h cs x ⟨_, _, _, _, _, rfl, -⟩; rfl
  tys := [228, 87, 213]
  mono := by
    rintro h h' cs x hl ⟨b1, n1, b2, n2, c2, rfl, q1, q2⟩
    refine ⟨b1, n1, b2, n2, c2, rfl, q1.mono (hl.sub (by decide)), ?_⟩
    rcases q2 with q2 | ⟨nb, e1, e2, e3, o⟩
    · exact .inl q2
    · exact .inr ⟨nb, e1, e2, e3, o.mono (hl.sub (by decide))⟩
def Dist (gs : List (Option Nat)) : Prop := ∀ (i j nb : Nat), gs[i]? = some (some nb) → gs[j]? = some (some nb) → i = j
end Go.S

set_option maxRecDepth 100000
set_option maxHeartbeats 8000000
namespace Go.S
open Go.Sx Go.Proofs

def markBad (nm : ByteArray) : Bool := decide (schErr ⟨nm, [⟨nA, 2, false⟩], 0, false⟩ ≠ 0)
def saveD (d : DB) (s : Int) (nm : ByteArray) : DB × Int :=
  if bsB (wrkC d.works s) = true then if markBad nm = true then (d, 12) else match d.works[bsI (wrkC d.works s)]? with
    | some w => if decide ((w.marks.length : Int) ≥ 10) = true then (d, 4) else (⟨d.tabs, d.works.set (bsI (wrkC d.works s)) ⟨w.s, w.log, w.marks ++ [⟨nm, (w.log.length : Int)⟩]⟩, d.holds, d.waits⟩, 0)
    | none => (d, 2)
  else (d, 2)

end Go.S

set_option maxRecDepth 100000
set_option maxHeartbeats 8000000
namespace Go.S
open Go.Sx Go.Proofs

theorem toRef62K {nm : ByteArray} {key : Int} {only : Bool} {h : Heap} {b1 b2 : Option Addr} {n1 c1 n2 c2 : Nat} {k : Value → Heap → Prop}
    (hk : k (.agg #[.string nm, .slice b1 n1 c1, .int .i64 key, .bool only, .slice b2 n2 c2]) h) : Ct 71 [.agg #[.string nm, .slice b1 n1 c1, .int .i64 key, .bool only, .slice b2 n2 c2]] h k := by
  obtain ⟨A, hA⟩ := Ar.ex
  refine fn_of_sx A (tabOk T71.plan T71.pub) Tryz.func71 rfl (by kernel_rfl) ?_
  cbv
  exact hk

theorem toRef61K {H Wt : List Hld} {h : Heap} {b1 b2 : Option Addr} {n1 c1 n2 c2 : Nat} (q1 : Sl 316 shHld h (.slice b1 n1 c1) H) (q2 : Sl 316 shHld h (.slice b2 n2 c2) Wt) (hl1 : H.length ≤ 2 ^ 38) (hl2 : Wt.length ≤ 2 ^ 38) {k : Value → Heap → Prop}
    (hk : ∀ h' b n c b' n' c', Le h h' → Sl 314 shHld h' (.slice b n c) H → Sl 314 shHld h' (.slice b' n' c') Wt → k (.agg #[.slice b n c, .slice b' n' c']) h') : Ct 70 [.agg #[.slice b1 n1 c1, .slice b2 n2 c2]] h k := by
  obtain ⟨A, hA⟩ := Ar.ex
  have hn1 := q1.len
  have hn2 := q2.len
  refine fn_of_sx A (tabOk T70.plan T70.pub) Tryz.func70 rfl (by kernel_rfl) ?_
  obtain ⟨I, hI0⟩ : ∃ I : Nat → (Int × Option Addr × Nat × Nat) → Heap → Prop, ∀ m g h', I m g h' = ∃ i, IsN g.1 i ∧ m = n1 - i ∧ i ≤ n1 ∧ Le h h' ∧ Buf 314 shHld h h' (.slice g.2.1 g.2.2.1 g.2.2.2) (H.take i) := ⟨_, fun _ _ _ => rfl⟩
  cbv
  refine LoopX.go (G := Int × Option Addr × Nat × Nat) (fun g => [(4, .v (.int .i64 g.1))]) (fun g => [(1, [.slice b1 n1 c1, .slice b2 n2 c2]), (2, [.slice none 0 0, .slice none 0 0]), (3, [.slice g.2.1 g.2.2.1 g.2.2.2, .slice none 0 0])]) (fun m g h' => I m g h') n1 (0, none, 0, 0) ⟨?_, ?_, ?_⟩ (by rw [hI0]; exact ⟨0, ⟨rfl⟩, by omega, by omega, Le.refl _, Buf.nil⟩) ?_
  · cbv
  · cbv
  · cbv
  · intro m g h' hI
    rw [hI0] at hI
    cbv
    obtain ⟨i, hz, hm, hi, hle, hb⟩ := hI
    obtain ⟨z, y1, y2, y3⟩ := g
    have hz : IsN z i := hz
    have hb : Buf 314 shHld h h' (.slice y1 y2 y3) (H.take i) := hb
    have hyl : y2 = i := by have := hb.sl.len; rw [List.length_take] at this; omega
    refine bsel_mk (fun hc => ?_) (fun hc => ?_)
    · have hlt := hz.lt hc
      clear hc
      obtain ⟨⟨xs, xt, xx⟩, hx⟩ := get_ex (xs := H) (i := i) (by omega)
      have hck : b1.isSome = true ∧ 0 ≤ z ∧ z < (n1 : Int) := ⟨q1.isSm (by omega), hz.ix hlt⟩
      have qh := q1.mono (hle.t _)
      have hze := hz.eq
      have hnx := hz.succ (A := A) (by omega)
      cbv
      refine ⟨hck, ?_⟩
      cbv
      refine qh.loadF hx hze (o := 0) (m := 1) (by decide) (fun cs hcs => ?_)
      have hcs : cs = [.int .i64 xs, .string xt, .bool xx] := hcs
      subst hcs
      cbv
      refine ⟨hck, ?_⟩
      cbv
      refine qh.loadF hx hze (o := 1) (m := 1) (by decide) (fun cs hcs => ?_)
      have hcs : cs = [.int .i64 xs, .string xt, .bool xx] := hcs
      subst hcs
      cbv
      refine ⟨hck, ?_⟩
      cbv
      refine qh.loadF hx hze (o := 2) (m := 1) (by decide) (fun cs hcs => ?_)
      have hcs : cs = [.int .i64 xs, .string xt, .bool xx] := hcs
      subst hcs
      cbv
      intro n6 h6 g6 e6
      have l6 : Le h' h6 := by rw [e6]; exact Le.set g6
      have f6 := (congrFun e6 n6).trans hset_self
      cbv
      refine (hb.mono (l6.t _)).append (one_sl (s := shHld) f6 (x := ⟨xs, xt, xx⟩) rfl) (by decide) rfl (by decide) (by omega) (hle.trans l6) (fun mm b' c' h7 hmm l7 t7 k7 hb7 => ?_)
      have hI2 : I (n1 - (i + 1)) (A .ari .add .i64 z 1, b', mm, c') h7 := by
        rw [hI0]
        refine ⟨i + 1, hnx, rfl, by omega, l7, ?_⟩
        rw [List.take_add_one, hx]; exact hb7
      cbv
      refine ⟨n1 - (i + 1), (_, b', mm, c'), by omega, ⟨?_, ?_, ?_⟩, hI2⟩
      · cbv
      · cbv
      · cbv
    · have hge := hz.ge hc
      clear hc
      have hH : H.take i = H := List.take_of_length_le (by omega)
      rw [hH] at hb
      have q2h := q2.mono (hle.t _)
      have qH := hb.sl
      obtain ⟨I2, hI20⟩ : ∃ I : Nat → (Int × Option Addr × Nat × Nat) → Heap → Prop, ∀ m g h2, I m g h2 = ∃ i, IsN g.1 i ∧ m = n2 - i ∧ i ≤ n2 ∧ Le h' h2 ∧ Buf 314 shHld h' h2 (.slice g.2.1 g.2.2.1 g.2.2.2) (Wt.take i) := ⟨_, fun _ _ _ => rfl⟩
      cbv
      refine LoopX.go (G := Int × Option Addr × Nat × Nat) (fun g => [(5, .v (.int .i64 g.1))]) (fun g => [(1, [.slice b1 n1 c1, .slice b2 n2 c2]), (2, [.slice none 0 0, .slice none 0 0]), (3, [.slice y1 y2 y3, .slice g.2.1 g.2.2.1 g.2.2.2])]) (fun m g h' => I2 m g h') n2 (0, none, 0, 0) ⟨?_, ?_, ?_⟩ (by rw [hI20]; exact ⟨0, ⟨rfl⟩, by omega, by omega, Le.refl _, Buf.nil⟩) ?_
      · cbv
      · cbv
      · cbv
      · intro m g h2 hI
        rw [hI20] at hI
        cbv
        obtain ⟨j, hz, hm, hj, hle2, hb2⟩ := hI
        obtain ⟨z, x1, x2, x3⟩ := g
        have hz : IsN z j := hz
        have hb2 : Buf 314 shHld h' h2 (.slice x1 x2 x3) (Wt.take j) := hb2
        have hyl2 : x2 = j := by have := hb2.sl.len; rw [List.length_take] at this; omega
        refine bsel_mk (fun hc => ?_) (fun hc => ?_)
        · have hlt := hz.lt hc
          clear hc
          obtain ⟨⟨xs, xt, xx⟩, hx⟩ := get_ex (xs := Wt) (i := j) (by omega)
          have hck : b2.isSome = true ∧ 0 ≤ z ∧ z < (n2 : Int) := ⟨q2.isSm (by omega), hz.ix hlt⟩
          have qh := q2h.mono (hle2.t _)
          have hze := hz.eq
          have hnx := hz.succ (A := A) (by omega)
          cbv
          refine ⟨hck, ?_⟩
          cbv
          refine qh.loadF hx hze (o := 0) (m := 1) (by decide) (fun cs hcs => ?_)
          have hcs : cs = [.int .i64 xs, .string xt, .bool xx] := hcs
          subst hcs
          cbv
          refine ⟨hck, ?_⟩
          cbv
          refine qh.loadF hx hze (o := 1) (m := 1) (by decide) (fun cs hcs => ?_)
          have hcs : cs = [.int .i64 xs, .string xt, .bool xx] := hcs
          subst hcs
          cbv
          refine ⟨hck, ?_⟩
          cbv
          refine qh.loadF hx hze (o := 2) (m := 1) (by decide) (fun cs hcs => ?_)
          have hcs : cs = [.int .i64 xs, .string xt, .bool xx] := hcs
          subst hcs
          cbv
          intro n6 h6 g6 e6
          have l6 : Le h2 h6 := by rw [e6]; exact Le.set g6
          have f6 := (congrFun e6 n6).trans hset_self
          cbv
          refine (hb2.mono (l6.t _)).append (one_sl (s := shHld) f6 (x := ⟨xs, xt, xx⟩) rfl) (by decide) rfl (by decide) (by omega) (hle2.trans l6) (fun mm b' c' h7 hmm l7 t7 k7 hb7 => ?_)
          have hI2 : I2 (n2 - (j + 1)) (A .ari .add .i64 z 1, b', mm, c') h7 := by
            rw [hI20]
            refine ⟨j + 1, hnx, rfl, by omega, l7, ?_⟩
            rw [List.take_add_one, hx]; exact hb7
          cbv
          refine ⟨n2 - (j + 1), (_, b', mm, c'), by omega, ⟨?_, ?_, ?_⟩, hI2⟩
          · cbv
          · cbv
          · cbv
        · have hge := hz.ge hc
          have hW : Wt.take j = Wt := List.take_of_length_le (by omega)
          rw [hW] at hb2
          have hfin := hk h2 y1 y2 y3 x1 x2 x3 (hle.trans hle2) (qH.mono (hle2.t _)) hb2.sl
          cbv
          exact hfin
end Go.S

set_option maxRecDepth 100000
set_option maxHeartbeats 8000000
namespace Go.S
open Go.Sx Go.Proofs

theorem toRef26K {d : DB} {h : Heap} {v : Value} (q : RDB h v d) (ht38 : d.tabs.length ≤ 2 ^ 37) (hw38 : d.works.length ≤ 2 ^ 37) (hm38 : ∀ w ∈ d.works, w.marks.length ≤ 2 ^ 37) (hh38 : d.holds.length ≤ 2 ^ 37) (hwt38 : d.waits.length ≤ 2 ^ 37) {k : Value → Heap → Prop}
    (hk : ∀ h' b1 n1 c1 b2 n2 c2 b3 n3 c3 b4 n4 c4, Le h h' → RP h' b1 n1 c1 b2 n2 c2 b3 n3 c3 b4 n4 c4 d → k (.agg #[.slice b1 n1 c1, .slice b2 n2 c2, .slice b3 n3 c3, .slice b4 n4 c4]) h') : Ct 26 [v] h k := by
  obtain ⟨A, hA⟩ := Ar.ex
  obtain ⟨b1, n1, c1, b2, n2, c2, b3, n3, c3, b4, n4, c4, ws, rfl, q1, q2, q3, q4, qw⟩ := q.out
  have hn1 := q1.len
  have hn2 := q2.len
  have hwl : ws.length = d.works.length := by rw [← qw, List.length_map]
  refine fn_of_sx A (tabOk T26.plan T26.pub) Tryz.func26 rfl (by kernel_rfl) ?_
  cbv
  refine toRef61K q3 q4 (by omega) (by omega) (fun h1 e3 f3 g3 e4 f4 g4 l1 r3 r4 => ?_)
  obtain ⟨I, hI0⟩ : ∃ I : Nat → (Int × Option Addr × Nat × Nat) → Heap → Prop, ∀ m g h', I m g h' = ∃ i, IsN g.1 i ∧ m = n1 - i ∧ i ≤ n1 ∧ Le h1 h' ∧ Buf 198 shTbl h1 h' (.slice g.2.1 g.2.2.1 g.2.2.2) (d.tabs.take i) := ⟨_, fun _ _ _ => rfl⟩
  cbv
  refine LoopX.go (G := Int × Option Addr × Nat × Nat) (fun g => [(4, .v (.int .i64 g.1))]) (fun g => [(1, [.slice b1 n1 c1, .slice b2 n2 c2, .slice b3 n3 c3, .slice b4 n4 c4]), (2, [.slice none 0 0, .slice none 0 0, .slice none 0 0, .slice none 0 0]), (3, [.slice g.2.1 g.2.2.1 g.2.2.2, .slice none 0 0, .slice e3 f3 g3, .slice e4 f4 g4])]) (fun m g h' => I m g h') n1 (0, none, 0, 0) ⟨?_, ?_, ?_⟩ (by rw [hI0]; exact ⟨0, ⟨rfl⟩, by omega, by omega, Le.refl _, Buf.nil⟩) ?_
  · cbv
  · cbv
  · cbv
  · intro m g h' hI
    rw [hI0] at hI
    cbv
    obtain ⟨i, hz, hm, hi, hle, hb⟩ := hI
    obtain ⟨z, y1, y2, y3⟩ := g
    have hz : IsN z i := hz
    have hb : Buf 198 shTbl h1 h' (.slice y1 y2 y3) (d.tabs.take i) := hb
    have hyl : y2 = i := by have := hb.sl.len; rw [List.length_take] at this; omega
    refine bsel_mk (fun hc => ?_) (fun hc => ?_)
    · have hlt := hz.lt hc
      clear hc
      obtain ⟨⟨⟨tn, tc, tk, to⟩, tr⟩, hx⟩ := get_ex (xs := d.tabs) (i := i) (by omega)
      have hck : b1.isSome = true ∧ 0 ≤ z ∧ z < (n1 : Int) := ⟨q1.isSm (by omega), hz.ix hlt⟩
      have qh := q1.mono ((l1.trans hle).t _)
      have hze := hz.eq
      have hnx := hz.succ (A := A) (by omega)
      cbv
      refine ⟨hck, ?_⟩
      cbv
      refine ld_tbl qh hx hze (fun x1 x2 x3 x4 x5 x6 s1 s2 => ?_)
      cbv
      refine toRef62K ?_
      cbv
      intro n6 h6 g6 e6
      have l6 : Le h' h6 := by rw [e6]; exact Le.set g6
      have f6 := (congrFun e6 n6).trans hset_self
      have sx : Sl 198 shTbl h6 (.slice (some ⟨n6, 0, none⟩) 1 1) [⟨⟨tn, tc, tk, to⟩, tr⟩] := one_sl (s := shTbl) f6 ⟨_, _, _, _, _, _, rfl, s1.mono (l6.t _), s2.mono (l6.t _)⟩
      cbv
      refine (hb.mono (l6.t _)).append sx (by decide) rfl (by decide) (by omega) (hle.trans l6) (fun mm b' c' h7 hmm l7 t7 k7 hb7 => ?_)
      have hI2 : I (n1 - (i + 1)) (A .ari .add .i64 z 1, b', mm, c') h7 := by
        rw [hI0]
        refine ⟨i + 1, hnx, rfl, by omega, l7, ?_⟩
        rw [List.take_add_one, hx]; exact hb7
      cbv
      refine ⟨n1 - (i + 1), (_, b', mm, c'), by omega, ⟨?_, ?_, ?_⟩, hI2⟩
      · cbv
      · cbv
      · cbv
    · have hge := hz.ge hc
      clear hc
      have hT : d.tabs.take i = d.tabs := List.take_of_length_le (by omega)
      rw [hT] at hb
      have qT := hb.sl
      have q2h := q2.mono ((l1.trans hle).t _)
      obtain ⟨I2, hI20⟩ : ∃ I : Nat → (Int × Option Addr × Nat × Nat) → Heap → Prop, ∀ m g h2, I m g h2 = ∃ j, IsN g.1 j ∧ m = n2 - j ∧ j ≤ n2 ∧ Le h' h2 ∧ Buf 206 shWrkR h' h2 (.slice g.2.1 g.2.2.1 g.2.2.2) (d.works.take j) := ⟨_, fun _ _ _ => rfl⟩
      cbv
      refine LoopX.go (G := Int × Option Addr × Nat × Nat) (fun g => [(5, .v (.int .i64 g.1))]) (fun g => [(1, [.slice b1 n1 c1, .slice b2 n2 c2, .slice b3 n3 c3, .slice b4 n4 c4]), (2, [.slice none 0 0, .slice none 0 0, .slice none 0 0, .slice none 0 0]), (3, [.slice y1 y2 y3, .slice g.2.1 g.2.2.1 g.2.2.2, .slice e3 f3 g3, .slice e4 f4 g4])]) (fun m g h' => I2 m g h') n2 (0, none, 0, 0) ⟨?_, ?_, ?_⟩ (by rw [hI20]; exact ⟨0, ⟨rfl⟩, by omega, by omega, Le.refl _, Buf.nil⟩) ?_
      · cbv
      · cbv
      · cbv
      · intro m g h2 hI
        rw [hI20] at hI
        cbv
        obtain ⟨j, hz2, hm2, hj, hle2, hb2⟩ := hI
        obtain ⟨z2, x1, x2, x3⟩ := g
        have hz2 : IsN z2 j := hz2
        have hb2 : Buf 206 shWrkR h' h2 (.slice x1 x2 x3) (d.works.take j) := hb2
        have hyl2 : x2 = j := by have := hb2.sl.len; rw [List.length_take] at this; omega
        refine bsel_mk (fun hc => ?_) (fun hc => ?_)
        · have hlt := hz2.lt hc
          clear hc
          obtain ⟨⟨⟨wS, wL, wM⟩, wg⟩, hx⟩ := get_ex (xs := ws) (i := j) (by omega)
          have hxd : d.works[j]? = some ⟨wS, wL, wM⟩ := by rw [← qw, List.getElem?_map, hx]; rfl
          have hmk := hm38 _ (List.mem_of_getElem? hxd)
          have hmk : wM.length ≤ 2 ^ 37 := hmk
          have hck2 : b2.isSome = true ∧ 0 ≤ z2 ∧ z2 < (n2 : Int) := ⟨q2.isSm (by omega), hz2.ix hlt⟩
          have qh2 := q2h.mono (hle2.t _)
          have hze2 := hz2.eq
          have hnx2 := hz2.succ (A := A) (by omega)
          cbv
          refine ⟨hck2, ?_⟩
          cbv
          refine qh2.loadF hx hze2 (o := 0) (m := 1) (by simp [shWrkG]) (fun cs hcs => ?_)
          obtain ⟨_, _, _, _, _, _, rfl, -⟩ := hcs
          cbv
          refine ⟨hck2, ?_⟩
          cbv
          refine ld_log qh2 hx hze2 (fun lb ln lc ql _ _ => ?_)
          have ql : Sl 228 shChg h2 (.slice lb ln lc) wL := ql
          obtain ⟨I3, hI30⟩ : ∃ I : Nat → (Int × Option Addr × Nat × Nat) → Heap → Prop, ∀ m g h3, I m g h3 = ∃ t, IsN g.1 t ∧ m = wM.length - t ∧ t ≤ wM.length ∧ Le h2 h3 ∧ Buf 214 shMrk h2 h3 (.slice g.2.1 g.2.2.1 g.2.2.2) (wM.take t) := ⟨_, fun _ _ _ => rfl⟩
          cbv
          refine LoopX.go (G := Int × Option Addr × Nat × Nat) (fun g => [(7, .v (.int .i64 g.1))]) (fun g => [(1, [.slice b1 n1 c1, .slice b2 n2 c2, .slice b3 n3 c3, .slice b4 n4 c4]), (2, [.slice none 0 0, .slice none 0 0, .slice none 0 0, .slice none 0 0]), (3, [.slice y1 y2 y3, .slice x1 x2 x3, .slice e3 f3 g3, .slice e4 f4 g4]), (6, [.int .i64 wS, .slice lb ln lc, .slice g.2.1 g.2.2.1 g.2.2.2])]) (fun m g h' => I3 m g h') wM.length (0, none, 0, 0) ⟨?_, ?_, ?_⟩ (by rw [hI30]; exact ⟨0, ⟨rfl⟩, by omega, by omega, Le.refl _, Buf.nil⟩) ?_
          · cbv
          · cbv
          · cbv
          · intro m g h3 hI
            rw [hI30] at hI
            cbv
            obtain ⟨t, hz3, hm3, htt, hle3, hb3⟩ := hI
            obtain ⟨z3, w1, w2, w3⟩ := g
            have hz3 : IsN z3 t := hz3
            have hb3 : Buf 214 shMrk h2 h3 (.slice w1 w2 w3) (wM.take t) := hb3
            have hyl3 : w2 = t := by have := hb3.sl.len; rw [List.length_take] at this; omega
            have qh3 := qh2.mono (hle3.t _)
            refine ⟨hck2, ?_⟩
            cbv
            refine ld_marks qh3 hx hze2 (fun mb mn mc qm ag => ?_)
            have qm : Sl 213 shMrk h3 (.slice mb mn mc) wM := qm
            have hmn : mn = wM.length := qm.len
            cbv
            refine bsel_mk (fun hc => ?_) (fun hc => ?_)
            · have hlt3 := hz3.lt hc
              clear hc
              obtain ⟨⟨xn, xa⟩, hxm⟩ := get_ex (xs := wM) (i := t) (by omega)
              have hck3 : mb.isSome = true ∧ 0 ≤ z3 ∧ z3 < (mn : Int) := ⟨qm.isSm (by omega), hz3.ix hlt3⟩
              have hze3 := hz3.eq
              have hnx3 := hz3.succ (A := A) (by omega)
              cbv
              refine ⟨hck2, ?_⟩
              cbv
              refine ag _ _ (Le.refl _) ?_
              cbv
              refine ⟨hck3, ?_⟩
              cbv
              refine qm.loadF hxm hze3 (o := 0) (m := 1) (by decide) (fun cs hcs => ?_)
              have hcs : cs = [.string xn, .int .i64 xa] := hcs
              subst hcs
              cbv
              refine ⟨hck2, ?_⟩
              cbv
              refine ag _ _ (Le.refl _) ?_
              cbv
              refine ⟨hck3, ?_⟩
              cbv
              refine qm.loadF hxm hze3 (o := 1) (m := 1) (by decide) (fun cs hcs => ?_)
              have hcs : cs = [.string xn, .int .i64 xa] := hcs
              subst hcs
              cbv
              intro n6 h6 g6 e6
              have l6 : Le h3 h6 := by rw [e6]; exact Le.set g6
              have f6 := (congrFun e6 n6).trans hset_self
              cbv
              refine (hb3.mono (l6.t _)).append (one_sl (s := shMrk) f6 (x := ⟨xn, xa⟩) rfl) (by decide) rfl (by decide) (by omega) (hle3.trans l6) (fun mm b' c' h7 hmm l7 t7 k7 hb7 => ?_)
              have hI2 : I3 (wM.length - (t + 1)) (A .ari .add .i64 z3 1, b', mm, c') h7 := by
                rw [hI30]
                refine ⟨t + 1, hnx3, rfl, by omega, l7, ?_⟩
                rw [List.take_add_one, hxm]; exact hb7
              cbv
              refine ⟨wM.length - (t + 1), (_, b', mm, c'), by omega, ⟨?_, ?_, ?_⟩, hI2⟩
              · cbv
              · cbv
              · cbv
            · have hge3 := hz3.ge hc
              clear hc
              have hM : wM.take t = wM := List.take_of_length_le (by omega)
              rw [hM] at hb3
              have qM := hb3.sl
              cbv
              intro n6 h6 g6 e6
              have l6 : Le h3 h6 := by rw [e6]; exact Le.set g6
              have f6 := (congrFun e6 n6).trans hset_self
              have sx : Sl 206 shWrkR h6 (.slice (some ⟨n6, 0, none⟩) 1 1) [⟨wS, wL, wM⟩] := one_sl (s := shWrkR) f6 ⟨_, _, _, _, _, _, rfl, ql.mono ((hle3.trans l6).t _), qM.mono (l6.t _)⟩
              have l26 := hle3.trans l6
              cbv
              refine (hb2.mono (l26.t _)).append sx (by decide) rfl (by decide) (by omega) (hle2.trans l26) (fun mm b' c' h7 hmm l7 t7 k7 hb7 => ?_)
              have hI2 : I2 (n2 - (j + 1)) (A .ari .add .i64 z2 1, b', mm, c') h7 := by
                rw [hI20]
                refine ⟨j + 1, hnx2, rfl, by omega, l7, ?_⟩
                rw [List.take_add_one, hxd]; exact hb7
              cbv
              refine ⟨n2 - (j + 1), (_, b', mm, c'), by omega, ⟨?_, ?_, ?_⟩, hI2⟩
              · cbv
              · cbv
              · cbv
        · have hge := hz2.ge hc
          clear hc
          have hW : d.works.take j = d.works := List.take_of_length_le (by omega)
          rw [hW] at hb2
          have l02 := hle.trans hle2
          have hfin := hk h2 y1 y2 y3 x1 x2 x3 e3 f3 g3 e4 f4 g4 (l1.trans l02) ⟨qT.mono (hle2.t _), hb2.sl, r3.mono (l02.t _), r4.mono (l02.t _)⟩
          cbv
          exact hfin
end Go.S

