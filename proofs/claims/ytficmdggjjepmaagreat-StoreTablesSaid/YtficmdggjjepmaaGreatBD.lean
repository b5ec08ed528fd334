import Derived.Test.YtficmdggjjepmaaGreatBC
import Derived.Test.YtficmdggjjepmaaGreatEA
set_option linter.all false
set_option maxRecDepth 100000
set_option maxHeartbeats 8000000
namespace Go.S
open Go.Sx Go.Proofs
def goW (G : Lg) (d : DB) (D : DB × Int) (l : Bs) : Int × Lg × DB :=
  if D.2 ≠ 0 then (D.2, G, d) else ((appendD G l).1, (appendD G l).2, if (appendD G l).1 = 0 then D.1 else d)
def createW (G : Lg) (d : DB) (x : Sch) : Int × Lg × DB := goW G d (createD d x) (tabRec x)
def dropW (G : Lg) (d : DB) (nm : ByteArray) : Int × Lg × DB := goW G d (dropD d nm) (dropRec nm)
theorem WhO.lx {h h' : Heap} {s p : Nat} {G : Lg} {d : DB} {L : Value × Value × Value × Value} (q : WhO h s p G d L) (l : Le h h') : WhO h' s p G d L := by
  obtain ⟨g, x, qs, ql, qk, qx⟩ := q.out
  exact ⟨g, x, ⟨l _ _ qs.out⟩, ql.lt (l.t _), qk.le l, qx.le l⟩
theorem CreateS {h : Heap} {s p : Nat} {G : Lg} {d : DB} {L : Value × Value × Value × Value} (q : WhO h s p G d L) {nm : ByteArray} {cols : List Col} {key : Int} {only : Bool} {sb : Option Addr} {sn sc : Nat} (qs : Sl 58 shCol h (.slice sb sn sc) cols)
    (hn16 : sn ≤ 2 ^ 16) (h1 : nm.size ≤ 2 ^ 40) (h2 : ∀ x ∈ cols, x.name.size ≤ 2 ^ 40) (sm : Small d) (hs : G.s ≤ 2 ^ 29) (hn : G.n ≤ 2 ^ 29) (hw : G.D.ws.length ≤ 2 ^ 28) {k : Value → Heap → Prop}
    (hk : ∀ h', LeX whT h h' → WhO h' s p (createW G d ⟨nm, cols, key, only⟩).2.1 (createW G d ⟨nm, cols, key, only⟩).2.2 L → k (.int .i64 (createW G d ⟨nm, cols, key, only⟩).1) h') :
    Ct 21 [.pointer (some ⟨s, 0, none⟩), .agg #[.string nm, .slice sb sn sc, .int .i64 key, .bool only]] h k := by
  obtain ⟨A, hA⟩ := Ar.ex
  obtain ⟨g, x, qss, ql, qk, qx⟩ := q.out
  obtain ⟨b1, n1, c1, b2, n2, c2, b3, n3, c3, b4, n4, c4, gx, qd⟩ := qx.out
  have hC : createW G d ⟨nm, cols, key, only⟩ = goW G d (createD d ⟨nm, cols, key, only⟩) (tabRec ⟨nm, cols, key, only⟩) := rfl
  have hrl : (tabRec ⟨nm, cols, key, only⟩).length ≤ 65538 := by
    unfold tabRec
    have := txtB_len (strOf (schB ⟨nm, cols, key, only⟩))
    rw [List.length_append, List.length_singleton]; omega
  refine fn_of_sx A (tabOk T21.plan T21.pub) Tryz.func21 rfl (by kernel_rfl) ?_
  cbv
  rw [offm A]
  refine PLoad (cel_exp qss.out rfl) gx rfl ?_
  cbv
  rw [offm A]
  refine ldb gx rfl rfl ?_
  cbv
  refine create17K qd qs sm (D := createD d ⟨nm, cols, key, only⟩) rfl (fun h3 b1' n1' c1' b2' n2' c2' b3' n3' c3' b4' n4' c4' l3 qd3 => ?_)
  have q3 := q.lx l3
  have gx3 := l3 _ _ gx
  have qs3 := qs.mono (l3.t _)
  generalize createD d ⟨nm, cols, key, only⟩ = C at *
  obtain ⟨D1, ce⟩ := C
  have qd3 : RDB h3 (.agg #[.slice b1' n1' c1', .slice b2' n2' c2', .slice b3' n3' c3', .slice b4' n4' c4']) D1 := qd3
  have fe : A .icm .neq ce 0 = decide (ce ≠ 0) := icm_neq A ..
  by_cases hc : ce ≠ 0
  · have hC : createW G d ⟨nm, cols, key, only⟩ = (ce, G, d) := by rw [hC]; exact if_pos hc
    rw [hC] at hk
    have := hk h3 (l3.x _) q3
    rw [decide_eq_true hc] at fe
    clear hk hC
    cbv
    rw [fe]
    cbv
    exact this
  · have hC : createW G d ⟨nm, cols, key, only⟩ = ((appendD G (tabRec ⟨nm, cols, key, only⟩)).1, (appendD G (tabRec ⟨nm, cols, key, only⟩)).2, if (appendD G (tabRec ⟨nm, cols, key, only⟩)).1 = 0 then D1 else d) := by rw [hC]; exact if_neg hc
    rw [hC] at hk
    rw [decide_eq_false hc] at fe
    clear hC
    cbv
    rw [fe]
    cbv
    rw [offm A]
    refine ldb gx3 rfl rfl ?_
    cbv
    refine TabRec qs3 hn16 h1 h2 (fun h4 rb rn rc l4 q4 => ?_)
    have gx4 := l4 _ _ gx3
    have hrn := q4.sl.len
    generalize tabRec ⟨nm, cols, key, only⟩ = rec at *
    have hfin : ∀ h', LeX whT h4 h' → WhO h' s p (appendD G rec).2 (if (appendD G rec).1 = 0 then D1 else d) L → k (.int .i64 (appendD G rec).1) h' := fun h' x' w' => hk h' (((l3.trans l4).x _).trans x') w'
    cbv
    refine ldb gx4 rfl rfl ?_
    cbv
    refine ⟨⟨_, rfl, rfl⟩, ?_⟩
    cbv
    refine appS (q3.lx l4) q4.sl hs hn (by omega) hw (qd3.mono l4) (fun h5 x5 w5 => ?_)
    have := hfin h5 x5 w5
    generalize appendD G rec = R at *
    obtain ⟨e, G2⟩ := R
    cbv
    exact this
end Go.S

set_option maxRecDepth 100000
set_option maxHeartbeats 8000000
namespace Go.S
open Go.Sx Go.Proofs
theorem DropS {h : Heap} {s p : Nat} {G : Lg} {d : DB} {L : Value × Value × Value × Value} (q : WhO h s p G d L) (nm : ByteArray) (h1 : nm.size ≤ 2 ^ 40) (hs : G.s ≤ 2 ^ 29) (hn : G.n ≤ 2 ^ 29) (hw : G.D.ws.length ≤ 2 ^ 28) {k : Value → Heap → Prop}
    (hk : ∀ h', LeX whT h h' → WhO h' s p (dropW G d nm).2.1 (dropW G d nm).2.2 L → k (.int .i64 (dropW G d nm).1) h') :
    Ct 23 [.pointer (some ⟨s, 0, none⟩), .string nm] h k := by
  obtain ⟨A, hA⟩ := Ar.ex
  obtain ⟨g, x, qss, ql, qk, qx⟩ := q.out
  obtain ⟨b1, n1, c1, b2, n2, c2, b3, n3, c3, b4, n4, c4, gx, qd⟩ := qx.out
  have hC : dropW G d nm = goW G d (dropD d nm) (dropRec nm) := rfl
  have hrl : (dropRec nm).length ≤ 65538 := by
    unfold dropRec
    have := txtB_len nm
    rw [List.length_append, List.length_singleton]; omega
  refine fn_of_sx A (tabOk T23.plan T23.pub) Tryz.func23 rfl (by kernel_rfl) ?_
  cbv
  rw [offm A]
  refine PLoad (cel_exp qss.out rfl) gx rfl ?_
  cbv
  rw [offm A]
  refine ldb gx rfl rfl ?_
  cbv
  refine drop30K qd nm (D := dropD d nm) rfl (fun h3 b1' n1' c1' b2' n2' c2' b3' n3' c3' b4' n4' c4' l3 qd3 => ?_)
  have q3 := q.lx l3
  have gx3 := l3 _ _ gx
  generalize dropD d nm = C at *
  obtain ⟨D1, ce⟩ := C
  have qd3 : RDB h3 (.agg #[.slice b1' n1' c1', .slice b2' n2' c2', .slice b3' n3' c3', .slice b4' n4' c4']) D1 := qd3
  have fe : A .icm .neq ce 0 = decide (ce ≠ 0) := icm_neq A ..
  by_cases hc : ce ≠ 0
  · have hC : dropW G d nm = (ce, G, d) := by rw [hC]; exact if_pos hc
    rw [hC] at hk
    have := hk h3 (l3.x _) q3
    rw [decide_eq_true hc] at fe
    clear hk hC
    cbv
    rw [fe]
    cbv
    exact this
  · have hC : dropW G d nm = ((appendD G (dropRec nm)).1, (appendD G (dropRec nm)).2, if (appendD G (dropRec nm)).1 = 0 then D1 else d) := by rw [hC]; exact if_neg hc
    rw [hC] at hk
    rw [decide_eq_false hc] at fe
    clear hC
    cbv
    rw [fe]
    cbv
    rw [offm A]
    refine ldb gx3 rfl rfl ?_
    cbv
    refine DropRec nm h1 (fun h4 rb rn rc l4 q4 => ?_)
    have gx4 := l4 _ _ gx3
    have hrn := q4.sl.len
    generalize dropRec nm = rec at *
    have hfin : ∀ h', LeX whT h4 h' → WhO h' s p (appendD G rec).2 (if (appendD G rec).1 = 0 then D1 else d) L → k (.int .i64 (appendD G rec).1) h' := fun h' x' w' => hk h' (((l3.trans l4).x _).trans x') w'
    cbv
    refine ldb gx4 rfl rfl ?_
    cbv
    refine ⟨⟨_, rfl, rfl⟩, ?_⟩
    cbv
    refine appS (q3.lx l4) q4.sl hs hn (by omega) hw (qd3.mono l4) (fun h5 x5 w5 => ?_)
    have := hfin h5 x5 w5
    generalize appendD G rec = R at *
    obtain ⟨e, G2⟩ := R
    cbv
    exact this
end Go.S

set_option maxRecDepth 100000
set_option maxHeartbeats 8000000
namespace Go.S
open Go.Sx Go.Proofs
theorem set_rep {α : Type} {xs : List α} {x x0 : α} {i n : Nat} (hx : xs[i]? = some x) (hi : i < n) (hn : n = xs.length) : (xs.take i ++ List.replicate (n - i) x0).set i x = xs.take (i + 1) ++ List.replicate (n - (i + 1)) x0 := by
  have h1 : n - i = (n - (i + 1)) + 1 := by omega
  have h2 : (xs.take i).length = i := by rw [List.length_take]; omega
  rw [h1, List.replicate_succ, List.set_append_right _ _ (by omega), h2, Nat.sub_self, List.set_cons_zero, List.take_add_one, hx]
  simp
theorem OwnRow {h : Heap} {b : Option Addr} {n c : Nat} {xs : Row} (q : Sl 87 shVal h (.slice b n c) xs) {k : Value → Heap → Prop} (hk : ∀ h' b' c', Le h h' → Sl 87 shVal h' (.slice b' n c') xs → k (.slice b' n c') h') :
    Ct 253 [.slice b n c] h k := by
  obtain ⟨A, hA⟩ := Ar.ex
  refine fn_of_sx A (tabOk T253.plan T253.pub) Tryz.func253 rfl (by kernel_rfl) ?_
  cbv
  refine (cloneB122 q).mono (fun v h1 hR => ?_)
  obtain ⟨l1, b1, c1, rfl, q1⟩ := hR
  cbv
  exact hk _ _ _ l1 q1.sl
theorem EachRow {h : Heap} {b : Option Addr} {n c : Nat} {xs : List Row} (q : Sl 88 shRow h (.slice b n c) xs) {k : Value → Heap → Prop} (hk : ∀ h' b' c', Le h h' → Sl 88 shRow h' (.slice b' n c') xs → k (.slice b' n c') h') :
    Ct 252 [.slice b n c, .func (.func 253) #[] #[]] h k := by
  obtain ⟨A, hA⟩ := Ar.ex
  have hlen := q.len
  obtain ⟨hb1, hb2⟩ := q.bound
  have hx0 : ∀ h, shRow.R h [.slice none 0 0] [] := fun h => ⟨_, rfl, Sl.nil⟩
  refine fn_of_sx A (tabOk T252.plan T252.pub) Tryz.func252 rfl (by kernel_rfl) ?_
  cbv
  refine make_z (s := shRow) (x := []) hx0 (by omega) (by decide) (fun nb h1 hnb l1 o1 => ?_)
  obtain ⟨J, hJ0⟩ : ∃ J : Nat → Int → Heap → Prop, ∀ w z h', J w z h' = (∃ i, IsN z i ∧ w = n - i ∧ i ≤ n ∧ Le h h' ∧ Own 88 shRow h' nb n (xs.take i ++ List.replicate (n - i) [])) := ⟨_, fun _ _ _ => rfl⟩
  have hJ1 : J n 0 h1 := by rw [hJ0]; exact ⟨0, ⟨rfl⟩, rfl, by omega, l1, o1⟩
  cbv
  refine LoopX.go (G := Int) (fun z => [(13, .v (.int .i64 z))]) (fun _ => []) (fun w z h' => J w z h') n 0 ⟨?_, ?_, ?_⟩ hJ1 ?_
  · cbv
  · cbv
  · cbv
  · intro w z h2 hI
    rw [hJ0] at hI
    cbv
    obtain ⟨i, hz, hw, hi, l2, o2⟩ := hI
    have fl : A .icm .lss z (A .nat n) = decide (i < n) := by rw [icm_lss A, hz.eq, hA.nat]; exact decide_eq_decide.2 (by show (i : Int) < (n : Int) ↔ _; omega)
    rw [fl]
    by_cases hc : i < n
    · obtain ⟨x, hx⟩ := get_ex (xs := xs) (i := i) (by omega)
      have ix := hz.ix hc
      have hlt : n - (i + 1) < w := by omega
      have hzn := hz.succ (A := A) (by omega)
      have hse := set_rep (x0 := []) hx hc hlen
      have hil : i < (xs.take i ++ List.replicate (n - i) ([] : Row)).length := by rw [List.length_append, List.length_replicate, List.length_take]; omega
      have hJ2 : ∀ h', Le h h' → Own 88 shRow h' nb n (xs.take (i + 1) ++ List.replicate (n - (i + 1)) []) → J (n - (i + 1)) (A .ari .add .i64 z 1) h' := fun h' l' o' => by
        rw [hJ0]; exact ⟨i + 1, hzn, rfl, by omega, l', o'⟩
      rw [decide_eq_true hc]
      clear fl hJ0 hJ1
      generalize xs.take i ++ List.replicate (n - i) [] = ys at *
      generalize xs.take (i + 1) ++ List.replicate (n - (i + 1)) [] = zs at *
      cbv
      refine ⟨⟨q.isSm (by omega), ix⟩, ?_⟩
      cbv
      refine (q.mono (l2.t _)).load hx hz.eq (fun cs hcs => ?_)
      obtain ⟨v, rfl, qv⟩ := hcs
      obtain ⟨vb, vm, vc, rfl⟩ : ∃ vb vm vc, v = .slice vb vm vc := by
        obtain ⟨b', cap, e1, -⟩ := qv.out
        exact ⟨_, _, _, e1⟩
      cbv
      refine OwnRow qv (fun h3 b3 c3 l3 q3 => ?_)
      cbv
      refine ⟨⟨rfl, ix⟩, ?_⟩
      cbv
      refine (o2.mono (l3.t _)).setAt (by decide) (i := i) hil hz.eq rfl ⟨_, rfl, q3⟩ (fun h4 k4 t4 o4 => ?_)
      rw [hse] at o4
      have l4 : Le h h4 := (l2.trans l3).kpNew (bs := [nb]) (by simpa using hnb) k4
      have := hJ2 h4 l4 o4
      clear hJ2
      cbv
      refine ⟨n - (i + 1), A .ari .add .i64 z 1, hlt, ⟨?_, ?_, ?_⟩, this⟩
      · cbv
      · cbv
      · cbv
    · have hin : i = n := by omega
      have hxx : xs.take i ++ List.replicate (n - i) [] = xs := by rw [hin, Nat.sub_self, List.take_of_length_le (by omega)]; simp
      rw [hxx] at o2
      have := hk h2 (some ⟨nb, 0, none⟩) n l2 (o2.sl hlen)
      rw [decide_eq_false hc]
      cbv
      exact this
end Go.S

set_option maxRecDepth 100000
set_option maxHeartbeats 8000000
namespace Go.S
open Go.Sx Go.Proofs
def tbl0 : Tbl := ⟨⟨⟨#[]⟩, [], 0, false⟩, []⟩
def chg0 : Chg := ⟨⟨#[]⟩, 0, []⟩
theorem OwnTab {h : Heap} {nm : ByteArray} {key : Int} {only : Bool} {b1 b2 : Option Addr} {n1 c1 n2 c2 : Nat} {cols : List Col} {rows : List Row} (q1 : Sl 58 shCol h (.slice b1 n1 c1) cols) (q2 : Sl 88 shRow h (.slice b2 n2 c2) rows) {k : Value → Heap → Prop}
    (hk : ∀ h' b1' c1' b2' c2', Le h h' → Sl 58 shCol h' (.slice b1' n1 c1') cols → Sl 88 shRow h' (.slice b2' n2 c2') rows → k (.agg #[.string nm, .slice b1' n1 c1', .int .i64 key, .bool only, .slice b2' n2 c2']) h') :
    Ct 157 [.agg #[.string nm, .slice b1 n1 c1, .int .i64 key, .bool only, .slice b2 n2 c2]] h k := by
  obtain ⟨A, hA⟩ := Ar.ex
  refine fn_of_sx A (tabOk T157.plan T157.pub) Tryz.func157 rfl (by kernel_rfl) ?_
  cbv
  refine (cloneB107 q1).mono (fun v h3 hR => ?_)
  obtain ⟨l3, b3, c3, rfl, q3⟩ := hR
  cbv
  refine EachRow (q2.mono (l3.t _)) (fun h4 b4 c4 l4 q4 => ?_)
  have := hk h4 b3 c3 b4 c4 (l3.trans l4) (q3.sl.mono (l4.t _)) q4
  cbv
  exact this
theorem OwnChg {h : Heap} {nm : ByteArray} {op : Int} {b1 : Option Addr} {n1 c1 : Nat} {row : Row} (q1 : Sl 87 shVal h (.slice b1 n1 c1) row) {k : Value → Heap → Prop}
    (hk : ∀ h' b1' c1', Le h h' → Sl 87 shVal h' (.slice b1' n1 c1') row → k (.agg #[.string nm, .int .i64 op, .slice b1' n1 c1']) h') :
    Ct 255 [.agg #[.string nm, .int .i64 op, .slice b1 n1 c1]] h k := by
  obtain ⟨A, hA⟩ := Ar.ex
  refine fn_of_sx A (tabOk T255.plan T255.pub) Tryz.func255 rfl (by kernel_rfl) ?_
  cbv
  refine OwnRow q1 (fun h4 b4 c4 l4 q4 => ?_)
  have := hk h4 b4 c4 l4 q4
  cbv
  exact this
theorem EachTab {h : Heap} {b : Option Addr} {n c : Nat} {xs : List Tbl} (q : Sl 100 shTbl h (.slice b n c) xs) {k : Value → Heap → Prop} (hk : ∀ h' b' c', Le h h' → Sl 100 shTbl h' (.slice b' n c') xs → k (.slice b' n c') h') :
    Ct 156 [.slice b n c, .func (.func 157) #[] #[]] h k := by
  obtain ⟨A, hA⟩ := Ar.ex
  have hlen := q.len
  obtain ⟨hb1, hb2⟩ := q.bound
  have hx0 : ∀ h, shTbl.R h [.string ⟨#[]⟩, .slice none 0 0, .int .i64 0, .bool false, .slice none 0 0] tbl0 := fun h => ⟨_, _, _, _, _, _, rfl, Sl.nil, Sl.nil⟩
  refine fn_of_sx A (tabOk T156.plan T156.pub) Tryz.func156 rfl (by kernel_rfl) ?_
  cbv
  refine make_z (s := shTbl) (x := tbl0) hx0 (by omega) (by decide) (fun nb h1 hnb l1 o1 => ?_)
  obtain ⟨J, hJ0⟩ : ∃ J : Nat → Int → Heap → Prop, ∀ w z h', J w z h' = (∃ i, IsN z i ∧ w = n - i ∧ i ≤ n ∧ Le h h' ∧ Own 100 shTbl h' nb n (xs.take i ++ List.replicate (n - i) tbl0)) := ⟨_, fun _ _ _ => rfl⟩
  have hJ1 : J n 0 h1 := by rw [hJ0]; exact ⟨0, ⟨rfl⟩, rfl, by omega, l1, o1⟩
  cbv
  refine LoopX.go (G := Int) (fun z => [(13, .v (.int .i64 z))]) (fun _ => []) (fun w z h' => J w z h') n 0 ⟨?_, ?_, ?_⟩ hJ1 ?_
  · cbv
  · cbv
  · cbv
  · intro w z h2 hI
    rw [hJ0] at hI
    cbv
    obtain ⟨i, hz, hw, hi, l2, o2⟩ := hI
    have fl : A .icm .lss z (A .nat n) = decide (i < n) := by rw [icm_lss A, hz.eq, hA.nat]; exact decide_eq_decide.2 (by show (i : Int) < (n : Int) ↔ _; omega)
    rw [fl]
    by_cases hc : i < n
    · obtain ⟨x, hx⟩ := get_ex (xs := xs) (i := i) (by omega)
      have ix := hz.ix hc
      have hlt : n - (i + 1) < w := by omega
      have hzn := hz.succ (A := A) (by omega)
      have hse := set_rep (x0 := tbl0) hx hc hlen
      have hil : i < (xs.take i ++ List.replicate (n - i) (tbl0 : Tbl)).length := by rw [List.length_append, List.length_replicate, List.length_take]; omega
      have hJ2 : ∀ h', Le h h' → Own 100 shTbl h' nb n (xs.take (i + 1) ++ List.replicate (n - (i + 1)) tbl0) → J (n - (i + 1)) (A .ari .add .i64 z 1) h' := fun h' l' o' => by
        rw [hJ0]; exact ⟨i + 1, hzn, rfl, by omega, l', o'⟩
      rw [decide_eq_true hc]
      clear fl hJ0 hJ1
      generalize xs.take i ++ List.replicate (n - i) tbl0 = ys at *
      generalize xs.take (i + 1) ++ List.replicate (n - (i + 1)) tbl0 = zs at *
      cbv
      refine ⟨⟨q.isSm (by omega), ix⟩, ?_⟩
      cbv
      refine (q.mono (l2.t _)).load hx hz.eq (fun cs hcs => ?_)
      obtain ⟨b1, n1, c1, b2, n2, c2, rfl, qv1, qv2⟩ := hcs
      have hR : ∀ h' b1' c1' b2' c2', Sl 58 shCol h' (.slice b1' n1 c1') x.S.cols → Sl 88 shRow h' (.slice b2' n2 c2') x.rows → shTbl.R h' [.string x.S.name, .slice b1' n1 c1', .int .i64 x.S.key, .bool x.S.only, .slice b2' n2 c2'] x := fun h' b1' c1' b2' c2' a b => ⟨_, _, _, _, _, _, rfl, a, b⟩
      generalize x.S.name = xn at *
      generalize x.S.key = xk at *
      generalize x.S.only = xo at *
      cbv
      refine OwnTab qv1 qv2 (fun h3 b3 c3 b4 c4 l3 q3 q4 => ?_)
      have hR3 := hR h3 b3 c3 b4 c4 q3 q4
      cbv
      refine ⟨⟨rfl, ix⟩, ?_⟩
      cbv
      refine (o2.mono (l3.t _)).setAt (by decide) (i := i) hil hz.eq rfl hR3 (fun h4 k4 t4 o4 => ?_)
      rw [hse] at o4
      have l4 : Le h h4 := (l2.trans l3).kpNew (bs := [nb]) (by simpa using hnb) k4
      have := hJ2 h4 l4 o4
      clear hJ2
      cbv
      refine ⟨n - (i + 1), A .ari .add .i64 z 1, hlt, ⟨?_, ?_, ?_⟩, this⟩
      · cbv
      · cbv
      · cbv
    · have hin : i = n := by omega
      have hxx : xs.take i ++ List.replicate (n - i) tbl0 = xs := by rw [hin, Nat.sub_self, List.take_of_length_le (by omega)]; simp
      rw [hxx] at o2
      have := hk h2 (some ⟨nb, 0, none⟩) n l2 (o2.sl hlen)
      rw [decide_eq_false hc]
      cbv
      exact this
theorem EachChg {h : Heap} {b : Option Addr} {n c : Nat} {xs : List Chg} (q : Sl 228 shChg h (.slice b n c) xs) {k : Value → Heap → Prop} (hk : ∀ h' b' c', Le h h' → Sl 228 shChg h' (.slice b' n c') xs → k (.slice b' n c') h') :
    Ct 254 [.slice b n c, .func (.func 255) #[] #[]] h k := by
  obtain ⟨A, hA⟩ := Ar.ex
  have hlen := q.len
  obtain ⟨hb1, hb2⟩ := q.bound
  have hx0 : ∀ h, shChg.R h [.string ⟨#[]⟩, .int .i64 0, .slice none 0 0] chg0 := fun h => ⟨_, _, _, rfl, Sl.nil⟩
  refine fn_of_sx A (tabOk T254.plan T254.pub) Tryz.func254 rfl (by kernel_rfl) ?_
  cbv
  refine make_z (s := shChg) (x := chg0) hx0 (by omega) (by decide) (fun nb h1 hnb l1 o1 => ?_)
  obtain ⟨J, hJ0⟩ : ∃ J : Nat → Int → Heap → Prop, ∀ w z h', J w z h' = (∃ i, IsN z i ∧ w = n - i ∧ i ≤ n ∧ Le h h' ∧ Own 228 shChg h' nb n (xs.take i ++ List.replicate (n - i) chg0)) := ⟨_, fun _ _ _ => rfl⟩
  have hJ1 : J n 0 h1 := by rw [hJ0]; exact ⟨0, ⟨rfl⟩, rfl, by omega, l1, o1⟩
  cbv
  refine LoopX.go (G := Int) (fun z => [(13, .v (.int .i64 z))]) (fun _ => []) (fun w z h' => J w z h') n 0 ⟨?_, ?_, ?_⟩ hJ1 ?_
  · cbv
  · cbv
  · cbv
  · intro w z h2 hI
    rw [hJ0] at hI
    cbv
    obtain ⟨i, hz, hw, hi, l2, o2⟩ := hI
    have fl : A .icm .lss z (A .nat n) = decide (i < n) := by rw [icm_lss A, hz.eq, hA.nat]; exact decide_eq_decide.2 (by show (i : Int) < (n : Int) ↔ _; omega)
    rw [fl]
    by_cases hc : i < n
    · obtain ⟨x, hx⟩ := get_ex (xs := xs) (i := i) (by omega)
      have ix := hz.ix hc
      have hlt : n - (i + 1) < w := by omega
      have hzn := hz.succ (A := A) (by omega)
      have hse := set_rep (x0 := chg0) hx hc hlen
      have hil : i < (xs.take i ++ List.replicate (n - i) (chg0 : Chg)).length := by rw [List.length_append, List.length_replicate, List.length_take]; omega
      have hJ2 : ∀ h', Le h h' → Own 228 shChg h' nb n (xs.take (i + 1) ++ List.replicate (n - (i + 1)) chg0) → J (n - (i + 1)) (A .ari .add .i64 z 1) h' := fun h' l' o' => by
        rw [hJ0]; exact ⟨i + 1, hzn, rfl, by omega, l', o'⟩
      rw [decide_eq_true hc]
      clear fl hJ0 hJ1
      generalize xs.take i ++ List.replicate (n - i) chg0 = ys at *
      generalize xs.take (i + 1) ++ List.replicate (n - (i + 1)) chg0 = zs at *
      cbv
      refine ⟨⟨q.isSm (by omega), ix⟩, ?_⟩
      cbv
      refine (q.mono (l2.t _)).load hx hz.eq (fun cs hcs => ?_)
      obtain ⟨b1, n1, c1, rfl, qv1⟩ := hcs
      have hR : ∀ h' b1' c1', Sl 87 shVal h' (.slice b1' n1 c1') x.row → shChg.R h' [.string x.table, .int .i64 x.op, .slice b1' n1 c1'] x := fun h' b1' c1' a => ⟨_, _, _, rfl, a⟩
      generalize x.table = xn at *
      generalize x.op = xk at *
      cbv
      refine OwnChg qv1 (fun h3 b3 c3 l3 q3 => ?_)
      have hR3 := hR h3 b3 c3 q3
      cbv
      refine ⟨⟨rfl, ix⟩, ?_⟩
      cbv
      refine (o2.mono (l3.t _)).setAt (by decide) (i := i) hil hz.eq rfl hR3 (fun h4 k4 t4 o4 => ?_)
      rw [hse] at o4
      have l4 : Le h h4 := (l2.trans l3).kpNew (bs := [nb]) (by simpa using hnb) k4
      have := hJ2 h4 l4 o4
      clear hJ2
      cbv
      refine ⟨n - (i + 1), A .ari .add .i64 z 1, hlt, ⟨?_, ?_, ?_⟩, this⟩
      · cbv
      · cbv
      · cbv
    · have hin : i = n := by omega
      have hxx : xs.take i ++ List.replicate (n - i) chg0 = xs := by rw [hin, Nat.sub_self, List.take_of_length_le (by omega)]; simp
      rw [hxx] at o2
      have := hk h2 (some ⟨nb, 0, none⟩) n l2 (o2.sl hlen)
      rw [decide_eq_false hc]
      cbv
      exact this
end Go.S

set_option maxRecDepth 100000
set_option maxHeartbeats 8000000
namespace Go.S
open Go.Sx Go.Proofs
def wrk0 : Wrk × Bool := (⟨0, [], []⟩, false)
theorem OwnWrk {h : Heap} {s : Int} {b1 b2 : Option Addr} {n1 c1 n2 c2 : Nat} {lg : List Chg} {ms : List Mrk} (q1 : Sl 228 shChg h (.slice b1 n1 c1) lg) (q2 : Sl 213 shMrk h (.slice b2 n2 c2) ms) {k : Value → Heap → Prop}
    (hk : ∀ h' b1' c1' b2' c2', Le h h' → Sl 228 shChg h' (.slice b1' n1 c1') lg → Sl 213 shMrk h' (.slice b2' n2 c2') ms → k (.agg #[.int .i64 s, .slice b1' n1 c1', .slice b2' n2 c2']) h') :
    Ct 159 [.agg #[.int .i64 s, .slice b1 n1 c1, .slice b2 n2 c2]] h k := by
  obtain ⟨A, hA⟩ := Ar.ex
  refine fn_of_sx A (tabOk T159.plan T159.pub) Tryz.func159 rfl (by kernel_rfl) ?_
  cbv
  refine EachChg q1 (fun h3 b3 c3 l3 q3 => ?_)
  cbv
  refine (cloneB146 (q2.mono (l3.t _))).mono (fun v h4 hR => ?_)
  obtain ⟨l4, b4, c4, rfl, q4⟩ := hR
  have := hk h4 b3 c3 b4 c4 (l3.trans l4) (q3.mono (l4.t _)) q4.sl
  cbv
  exact this
theorem EachWrk {h : Heap} {b : Option Addr} {n c : Nat} {xs : List (Wrk × Bool)} (q : Sl 211 shWrkG h (.slice b n c) xs) {k : Value → Heap → Prop} (hk : ∀ h' b' c', Le h h' → Sl 211 shWrkG h' (.slice b' n c') (xs.map fun w => (w.1, false)) → k (.slice b' n c') h') :
    Ct 158 [.slice b n c, .func (.func 159) #[] #[]] h k := by
  obtain ⟨A, hA⟩ := Ar.ex
  have hlen := q.len
  obtain ⟨ys0, hys⟩ : ∃ ys0, ys0 = xs.map fun w => (w.1, false) := ⟨_, rfl⟩
  have hlen2 : n = ys0.length := by rw [hys, List.length_map]; exact hlen
  rw [← hys] at hk
  obtain ⟨hb1, hb2⟩ := q.bound
  have hx0 : ∀ h, shWrkG.R h [.int .i64 0, .slice none 0 0, .slice none 0 0] wrk0 := fun h => ⟨_, _, _, _, _, _, rfl, Sl.nil, Sl.nil, fun e => by cases e⟩
  refine fn_of_sx A (tabOk T158.plan T158.pub) Tryz.func158 rfl (by kernel_rfl) ?_
  cbv
  refine make_z (s := shWrkG) (x := wrk0) hx0 (by omega) (by decide) (fun nb h1 hnb l1 o1 => ?_)
  obtain ⟨J, hJ0⟩ : ∃ J : Nat → Int → Heap → Prop, ∀ w z h', J w z h' = (∃ i, IsN z i ∧ w = n - i ∧ i ≤ n ∧ Le h h' ∧ Own 211 shWrkG h' nb n (ys0.take i ++ List.replicate (n - i) wrk0)) := ⟨_, fun _ _ _ => rfl⟩
  have hJ1 : J n 0 h1 := by rw [hJ0]; exact ⟨0, ⟨rfl⟩, rfl, by omega, l1, o1⟩
  cbv
  refine LoopX.go (G := Int) (fun z => [(13, .v (.int .i64 z))]) (fun _ => []) (fun w z h' => J w z h') n 0 ⟨?_, ?_, ?_⟩ hJ1 ?_
  · cbv
  · cbv
  · cbv
  · intro w z h2 hI
    rw [hJ0] at hI
    cbv
    obtain ⟨i, hz, hw, hi, l2, o2⟩ := hI
    have fl : A .icm .lss z (A .nat n) = decide (i < n) := by rw [icm_lss A, hz.eq, hA.nat]; exact decide_eq_decide.2 (by show (i : Int) < (n : Int) ↔ _; omega)
    rw [fl]
    by_cases hc : i < n
    · obtain ⟨x, hx⟩ := get_ex (xs := xs) (i := i) (by omega)
      have ix := hz.ix hc
      have hlt : n - (i + 1) < w := by omega
      have hzn := hz.succ (A := A) (by omega)
      have hse := set_rep (x0 := wrk0) (xs := ys0) (x := (x.1, false)) (by rw [hys, List.getElem?_map, hx]; rfl) hc hlen2
      have hil : i < (ys0.take i ++ List.replicate (n - i) (wrk0 : (Wrk × Bool))).length := by rw [List.length_append, List.length_replicate, List.length_take]; omega
      have hJ2 : ∀ h', Le h h' → Own 211 shWrkG h' nb n (ys0.take (i + 1) ++ List.replicate (n - (i + 1)) wrk0) → J (n - (i + 1)) (A .ari .add .i64 z 1) h' := fun h' l' o' => by
        rw [hJ0]; exact ⟨i + 1, hzn, rfl, by omega, l', o'⟩
      rw [decide_eq_true hc]
      clear fl hJ0 hJ1
      generalize ys0.take i ++ List.replicate (n - i) wrk0 = ys at *
      generalize ys0.take (i + 1) ++ List.replicate (n - (i + 1)) wrk0 = zs at *
      cbv
      refine ⟨⟨q.isSm (by omega), ix⟩, ?_⟩
      cbv
      refine (q.mono (l2.t _)).load hx hz.eq (fun cs hcs => ?_)
      obtain ⟨b1, n1, c1, b2, n2, c2, rfl, qv1, qv2, -⟩ := hcs
      have hR : ∀ h' b1' c1' b2' c2', Sl 228 shChg h' (.slice b1' n1 c1') x.1.log → Sl 213 shMrk h' (.slice b2' n2 c2') x.1.marks → shWrkG.R h' [.int .i64 x.1.s, .slice b1' n1 c1', .slice b2' n2 c2'] (x.1, false) := fun h' b1' c1' b2' c2' a b => ⟨_, _, _, _, _, _, rfl, a, b, fun e => by cases e⟩
      generalize x.1.s = xn at *
      cbv
      refine OwnWrk qv1 qv2 (fun h3 b3 c3 b4 c4 l3 q3 q4 => ?_)
      have hR3 := hR h3 b3 c3 b4 c4 q3 q4
      cbv
      refine ⟨⟨rfl, ix⟩, ?_⟩
      cbv
      refine (o2.mono (l3.t _)).setAt (by decide) (i := i) hil hz.eq rfl hR3 (fun h4 k4 t4 o4 => ?_)
      rw [hse] at o4
      have l4 : Le h h4 := (l2.trans l3).kpNew (bs := [nb]) (by simpa using hnb) k4
      have := hJ2 h4 l4 o4
      clear hJ2
      cbv
      refine ⟨n - (i + 1), A .ari .add .i64 z 1, hlt, ⟨?_, ?_, ?_⟩, this⟩
      · cbv
      · cbv
      · cbv
    · have hin : i = n := by omega
      have hxx : ys0.take i ++ List.replicate (n - i) wrk0 = ys0 := by rw [hin, Nat.sub_self, List.take_of_length_le (by omega)]; simp
      rw [hxx] at o2
      have := hk h2 (some ⟨nb, 0, none⟩) n l2 (o2.sl hlen2)
      rw [decide_eq_false hc]
      cbv
      exact this
end Go.S

set_option maxRecDepth 100000
set_option maxHeartbeats 8000000
namespace Go.S
open Go.Sx Go.Proofs
abbrev DbV (h : Heap) (d : DB) (k : Value → Heap → Prop) : Prop :=
  ∀ h' b1 n1 c1 b2 n2 c2 b3 n3 c3 b4 n4 c4, Le h h' → RDB h' (.agg #[.slice b1 n1 c1, .slice b2 n2 c2, .slice b3 n3 c3, .slice b4 n4 c4]) d → k (.agg #[.slice b1 n1 c1, .slice b2 n2 c2, .slice b3 n3 c3, .slice b4 n4 c4]) h'
theorem OwnDb {h : Heap} {d : DB} {b1 b2 b3 b4 : Option Addr} {n1 c1 n2 c2 n3 c3 n4 c4 : Nat} (q : RDB h (.agg #[.slice b1 n1 c1, .slice b2 n2 c2, .slice b3 n3 c3, .slice b4 n4 c4]) d) {k : Value → Heap → Prop} (hk : DbV h d k) :
    Ct 72 [.agg #[.slice b1 n1 c1, .slice b2 n2 c2, .slice b3 n3 c3, .slice b4 n4 c4]] h k := by
  obtain ⟨A, hA⟩ := Ar.ex
  obtain ⟨_, _, _, _, _, _, _, _, _, _, _, _, ws, he, q1, q2, q3, q4, hm⟩ := q.out
  cases he
  refine fn_of_sx A (tabOk T72.plan T72.pub) Tryz.func72 rfl (by kernel_rfl) ?_
  cbv
  refine (cloneB104 q3).mono (fun v h3 hR => ?_)
  obtain ⟨l3, b3', c3', rfl, q3'⟩ := hR
  cbv
  refine (cloneB104 (q4.mono (l3.t _))).mono (fun v h4 hR => ?_)
  obtain ⟨l4, b4', c4', rfl, q4'⟩ := hR
  have l34 := l3.trans l4
  cbv
  refine EachTab (q1.mono (l34.t _)) (fun h5 b5 c5 l5 q5 => ?_)
  cbv
  refine EachWrk (q2.mono ((l34.trans l5).t _)) (fun h6 b6 c6 l6 q6 => ?_)
  have l56 := l5.trans l6
  have := hk h6 b5 n1 c5 b6 n2 c6 b3' n3 c3' b4' n4 c4' (l34.trans l56) ⟨_, _, _, _, _, _, _, _, _, _, _, _, _, rfl, q5.mono (l6.t _), q6, q3'.sl.mono ((l4.trans l56).t _), q4'.sl.mono (l56.t _), by rw [← hm, List.map_map]; rfl⟩
  cbv
  exact this
theorem StDB {h : Heap} {s p : Nat} {G : Lg} {d : DB} {L : Value × Value × Value × Value} (q : WhO h s p G d L) {k : Value → Heap → Prop} (hk : DbV h d k) : Ct 27 [.pointer (some ⟨s, 0, none⟩)] h k := by
  obtain ⟨A, hA⟩ := Ar.ex
  obtain ⟨g, x, qs, ql, qk, qx⟩ := q.out
  obtain ⟨b1, n1, c1, b2, n2, c2, b3, n3, c3, b4, n4, c4, gx, qd⟩ := qx.out
  refine fn_of_sx A (tabOk T27.plan T27.pub) Tryz.func27 rfl (by kernel_rfl) ?_
  cbv
  rw [offm A]
  refine PLoad (cel_exp qs.out rfl) gx rfl ?_
  cbv
  rw [offm A]
  refine ldb gx rfl rfl ?_
  cbv
  refine OwnDb qd (fun h' b1 n1 c1 b2 n2 c2 b3 n3 c3 b4 n4 c4 l q => ?_)
  have := hk h' b1 n1 c1 b2 n2 c2 b3 n3 c3 b4 n4 c4 l q
  cbv
  exact this
end Go.S

