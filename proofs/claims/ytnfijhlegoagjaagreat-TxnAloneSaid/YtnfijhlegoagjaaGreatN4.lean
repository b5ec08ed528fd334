import Derived.Test.YtnfijhlegoagjaaGreatN3
set_option linter.unusedVariables false
set_option linter.unusedSimpArgs false
set_option linter.unusedSectionVars false
set_option maxRecDepth 100000
set_option maxHeartbeats 8000000
set_option linter.unusedVariables false
set_option linter.unusedSimpArgs false
namespace Go.S
open Go.Sx Go.Proofs
theorem start_SJ : SJ 0 startE := by
  have c01 : cmpB (tblS 0).S.name (tblS 1).S.name = -1 := by kernel_rfl
  have c02 : cmpB (tblS 0).S.name (tblS 2).S.name = -1 := by kernel_rfl
  have c12 : cmpB (tblS 1).S.name (tblS 2).S.name = -1 := by kernel_rfl
  have hok : ∀ t, (tblS t).S.cols = shColsE ∧ (tblS t).S.key = 0 ∧ SO (tblS t).rows := fun t => ⟨rfl, rfl, SO.nil⟩
  have hn0 : (tblS 0).S.name.size = 2 := by kernel_rfl
  have hn1 : (tblS 1).S.name.size = 2 := by kernel_rfl
  have hn2 : (tblS 2).S.name.size = 2 := by kernel_rfl
  have hT : TW startE.tabs := by
    refine ⟨?_, fun t ht => ?_, by show (3 : Nat) ≤ 8; omega⟩
    · show [tblS 0, tblS 1, tblS 2].Pairwise _
      simp only [List.pairwise_cons, List.mem_cons, List.not_mem_nil, or_false, forall_eq_or_imp, forall_eq, List.Pairwise.nil, and_true, c01, c02, c12, false_imp_iff, implies_true]
      decide
    · have ht : t ∈ [tblS 0, tblS 1, tblS 2] := ht
      simp only [List.mem_cons, List.not_mem_nil, or_false] at ht
      rcases ht with rfl | rfl | rfl
      · exact ⟨(hok 0).1, (hok 0).2.1, (hok 0).2.2, by omega⟩
      · exact ⟨(hok 1).1, (hok 1).2.1, (hok 1).2.2, by omega⟩
      · exact ⟨(hok 2).1, (hok 2).2.1, (hok 2).2.2, by omega⟩
  refine ⟨⟨hT, List.Pairwise.nil, fun w hw => (by cases hw), fun w hw => (by cases hw), fun w hw => (by cases hw), fun i j x y hi => ?_, fun x hx => (by cases hx), fun x hx => (by cases hx), fun w hw => (by cases hw)⟩, fun w hw => (by cases hw), Nat.le_refl _, Nat.le_refl _⟩
  have hi : ([] : List Hld)[i]? = some x := hi
  simp at hi
/-- The state's own value read as the document's. -/
theorem ref_of {n : Nat} {d : DB} {h : Heap} {v : Value} (q : RDB h v d) (J : SJ n d) (hn : n ≤ 2 ^ 20) {k : Value → Heap → Prop}
    (hk : ∀ h' b1 n1 c1 b2 n2 c2 b3 n3 c3 b4 n4 c4, Le h h' → RP h' b1 n1 c1 b2 n2 c2 b3 n3 c3 b4 n4 c4 d → k (.agg #[.slice b1 n1 c1, .slice b2 n2 c2, .slice b3 n3 c3, .slice b4 n4 c4]) h') : Ct 26 [v] h k := by
  have h1 := J.sc.tw.le
  have h2 := works_len J.sc.srt J.sc.rng
  have h3 := J.hn
  have h4 := J.wn
  exact toRef26K q (by omega) (by omega) (fun w hw => by have := (J.sc.mks w hw).1; omega) (by omega) (by omega) hk
theorem plays13 {h : Heap} {b : Option Addr} {len cap : Nat} {xs : List Act1} (q : SlB shAct h (.slice b len cap) xs) (hxs : ∀ x ∈ xs, ActOk x) : Ct 13 [.slice b len cap] h (fun v h' => Le h h' ∧ v = .bool true) := by
  obtain ⟨A, hA⟩ := Ar.ex
  have hlen := q.len
  have hnot1 : A .not true = false := by rw [hA.not]; rfl
  have hst := start_SJ
  obtain ⟨S0, hS0⟩ : ∃ S, S = startE := ⟨_, rfl⟩
  obtain ⟨I, hI0⟩ : ∃ I : Nat → Int × G4 × G4 → Heap → Prop, ∀ m g h', I m g h' = ∃ (i : Nat) (d : DB), IsN g.1 i ∧ m = 80 - i ∧ i ≤ 80 ∧ Le h h' ∧ RDB h' (.agg #[.slice g.2.1.b1 g.2.1.n1 g.2.1.c1, .slice g.2.1.b2 g.2.1.n2 g.2.1.c2, .slice g.2.1.b3 g.2.1.n3 g.2.1.c3, .slice g.2.1.b4 g.2.1.n4 g.2.1.c4]) d ∧
    RP h' g.2.2.b1 g.2.2.n1 g.2.2.c1 g.2.2.b2 g.2.2.n2 g.2.2.c2 g.2.2.b3 g.2.2.n3 g.2.2.c3 g.2.2.b4 g.2.2.n4 g.2.2.c4 d ∧ SJ i d := ⟨_, fun _ _ _ => rfl⟩
  refine fn_of_sx A (tabOk T13.plan T13.pub) Tryz.func13 rfl (by kernel_rfl) ?_
  cbv
  refine (known14 h).mono (fun v h0 hR => ?_)
  obtain ⟨l0, rfl⟩ := hR
  cbv
  rw [hnot1]
  cbv
  refine start19 (fun h1 b1 n1 c1 b2 n2 c2 b3 n3 c3 b4 n4 c4 d1 m1 e1 d2 m2 e2 d3 m3 e3 d4 m4 e4 l1 q1 p1 => ?_)
  have hJ : I 80 (0, ⟨b1, n1, c1, b2, n2, c2, b3, n3, c3, b4, n4, c4⟩, ⟨d1, m1, e1, d2, m2, e2, d3, m3, e3, d4, m4, e4⟩) h1 := by
    rw [hI0]
    exact ⟨0, startE, ⟨rfl⟩, rfl, by omega, l0.trans l1, q1, p1, hst⟩
  clear q1 p1 hst
  cbv
  refine LoopX.go (G := Int × G4 × G4) (fun g => [(5, .v (.int .i64 g.1))]) (fun g => [(3, [.slice g.2.1.b1 g.2.1.n1 g.2.1.c1, .slice g.2.1.b2 g.2.1.n2 g.2.1.c2, .slice g.2.1.b3 g.2.1.n3 g.2.1.c3, .slice g.2.1.b4 g.2.1.n4 g.2.1.c4]), (4, [.slice g.2.2.b1 g.2.2.n1 g.2.2.c1, .slice g.2.2.b2 g.2.2.n2 g.2.2.c2, .slice g.2.2.b3 g.2.2.n3 g.2.2.c3, .slice g.2.2.b4 g.2.2.n4 g.2.2.c4])]) (fun m g h' => I m g h') 80 (0, ⟨b1, n1, c1, b2, n2, c2, b3, n3, c3, b4, n4, c4⟩, ⟨d1, m1, e1, d2, m2, e2, d3, m3, e3, d4, m4, e4⟩) ⟨?_, ?_, ?_⟩ hJ ?_
  · cbv
  · cbv
  · cbv
  · intro m g h' hI
    rw [hI0] at hI
    cbv
    obtain ⟨i, d, hz, hm, hi, hle, qd, pd, hsj⟩ := hI
    obtain ⟨z, ⟨b1, n1, c1, b2, n2, c2, b3, n3, c3, b4, n4, c4⟩, ⟨d1, m1, e1, d2, m2, e2, d3, m3, e3, d4, m4, e4⟩⟩ := g
    have hz : IsN z i := hz
    have qd : RDB h' (.agg #[.slice b1 n1 c1, .slice b2 n2 c2, .slice b3 n3 c3, .slice b4 n4 c4]) d := qd
    have pd : RP h' d1 m1 e1 d2 m2 e2 d3 m3 e3 d4 m4 e4 d := pd
    have hnext : ∀ h2 b1 n1 c1 b2 n2 c2 b3 n3 c3 b4 n4 c4 d1 m1 e1 d2 m2 e2 d3 m3 e3 d4 m4 e4 d2', i < 80 → Le h h2 → RDB h2 (.agg #[.slice b1 n1 c1, .slice b2 n2 c2, .slice b3 n3 c3, .slice b4 n4 c4]) d2' → RP h2 d1 m1 e1 d2 m2 e2 d3 m3 e3 d4 m4 e4 d2' → SJ (i + 1) d2' → I (80 - (i + 1)) (A .ari .add .i64 z 1, ⟨b1, n1, c1, b2, n2, c2, b3, n3, c3, b4, n4, c4⟩, ⟨d1, m1, e1, d2, m2, e2, d3, m3, e3, d4, m4, e4⟩) h2 := fun h2 _ _ _ _ _ _ _ _ _ _ _ _ _ _ _ _ _ _ _ _ _ _ _ _ d2' a a2 a3 a4 a5 => by
      rw [hI0]
      exact ⟨i + 1, d2', hz.succ (A := A) (by omega), rfl, a, a2, a3, a4, a5⟩
    have f1 : A .icm .lss z (A .nat len) = decide (i < len) := hz.lt2 (IsN.nat len)
    have f2 : A .icm .lss z 80 = decide (i < 80) := hz.lt2 (w := 80) (j := 80) ⟨rfl⟩
    clear hI0
    rw [f1]
    by_cases hc1 : i < len
    · rw [decide_eq_true hc1]
      cbv
      rw [f2]
      by_cases hc2 : i < 80
      · obtain ⟨⟨ak, as_, at_, an, ax⟩, hx⟩ := get_ex (xs := xs) (i := i) (by omega)
        have hao := hxs _ (List.mem_of_getElem? hx)
        have has : -2 ^ 63 ≤ as_ ∧ as_ < 2 ^ 63 := hao.s
        have han : -2 ^ 63 ≤ an ∧ an < 2 ^ 63 := hao.n
        have hck : b.isSome = true ∧ 0 ≤ z ∧ z < (len : Int) := ⟨q.isSm (by omega), hz.ix hc1⟩
        have hze := hz.eq
        have hm' : 80 - (i + 1) < m := by omega
        rw [decide_eq_true hc2]
        cbv
        refine ref_of qd hsj (by omega) (fun h2 r1 s1 t1 r2 s2 t2 r3 s3 t3 r4 s4 t4 l2 p2 => ?_)
        cbv
        refine ⟨hck, ?_⟩
        cbv
        refine (q.mono (hle.trans l2)).load hx hze (fun cs hcs => ?_)
        have hcs : cs = [.int .i64 ak, .int .i64 as_, .int .i64 at_, .int .i64 an, .bool ax] := hcs
        subst hcs
        cbv
        refine do38 (qd.mono l2) (pd.mono l2) hsj (by omega) ak as_ at_ an ax has han (fun h3 pb1 pn1 pc1 pb2 pn2 pc2 pb3 pn3 pc3 pb4 pn4 pc4 rb1 rn1 rc1 rb2 rn2 rc2 rb3 rn3 rc3 rb4 rn4 rc4 d' se l3 q3 p3 hsj' _ _ => ?_)
        cbv
        rw [hnot1]
        cbv
        refine ref_of q3 hsj' (by omega) (fun h4 u1 v1 w1 u2 v2 w2 u3 v3 w3 u4 v4 w4 l4 p4 => ?_)
        cbv
        refine rsame42 p4 (p3.mono l4) ?_
        cbv
        rw [hnot1]
        cbv
        have l04 := (l2.trans l3).trans l4
        refine ref_of (qd.mono l04) hsj (by omega) (fun h5 u1 v1 w1 u2 v2 w2 u3 v3 w3 u4 v4 w4 l5 p5 => ?_)
        cbv
        refine rsame42 p5 (p2.mono ((l3.trans l4).trans l5)) ?_
        cbv
        rw [hnot1]
        have hI := hnext h5 pb1 pn1 pc1 pb2 pn2 pc2 pb3 pn3 pc3 pb4 pn4 pc4 rb1 rn1 rc1 rb2 rn2 rc2 rb3 rn3 rc3 rb4 rn4 rc4 d' hc2 (hle.trans (l04.trans l5)) (q3.mono (l4.trans l5)) (p3.mono (l4.trans l5)) hsj'
        clear hnext
        cbv
        refine ⟨⟨_, rfl, rfl⟩, ?_⟩
        cbv
        refine ⟨80 - (i + 1), (_, ⟨pb1, pn1, pc1, pb2, pn2, pc2, pb3, pn3, pc3, pb4, pn4, pc4⟩, ⟨rb1, rn1, rc1, rb2, rn2, rc2, rb3, rn3, rc3, rb4, rn4, rc4⟩), hm', ⟨?_, ?_, ?_⟩, hI⟩
        · cbv
        · cbv
        · cbv
      · obtain ⟨_, _, _, _, _, _, _, _, _, _, _, _, ws, hv, w1, w2, w3, w4, w5⟩ := qd.out
        cases hv
        rw [decide_eq_false hc2]
        cbv
        refine same35 w1 w2 w3 w4 w1 w2 w3 w4 (fun h3 l3 => ?_)
        have hfin := hle.trans l3
        cbv
        exact ⟨hfin, trivial⟩
    · obtain ⟨_, _, _, _, _, _, _, _, _, _, _, _, ws, hv, w1, w2, w3, w4, w5⟩ := qd.out
      cases hv
      rw [decide_eq_false hc1]
      cbv
      refine same35 w1 w2 w3 w4 w1 w2 w3 w4 (fun h3 l3 => ?_)
      have hfin := hle.trans l3
      cbv
      exact ⟨hfin, trivial⟩
end Go.S

