import Derived.Test.YtnfijhlegoagjaaGreatN4
import Derived.Test.YtnfijhlegoagjaaGreatN5
set_option linter.unusedVariables false
set_option linter.unusedSimpArgs false
set_option linter.unusedSectionVars false
set_option maxRecDepth 100000
set_option maxHeartbeats 8000000
set_option linter.unusedVariables false
set_option linter.unusedSimpArgs false
namespace Go.S
open Go.Sx Go.Proofs
def S3 : DB := ⟨startE.tabs, [⟨3, [], []⟩], [], []⟩
theorem begin_S3 : beginD startE 3 = (S3, 0) := by kernel_rfl
theorem rows_S3 : ∀ t, t < 3 → ∃ d1, rowsD S3 3 (shapeS t).name = (d1, [], 0) ∧ Keeps (shapeS t).name [] d1
  | 0, _ => ⟨⟨S3.tabs, S3.works, [⟨3, (shapeS 0).name, false⟩], []⟩, by kernel_rfl, ⟨_, List.mem_singleton.2 rfl, rfl, rfl⟩, tblS 0, (show tblS 0 ∈ [tblS 0, tblS 1, tblS 2] by simp), rfl, rfl⟩
  | 1, _ => ⟨⟨S3.tabs, S3.works, [⟨3, (shapeS 1).name, false⟩], []⟩, by kernel_rfl, ⟨_, List.mem_singleton.2 rfl, rfl, rfl⟩, tblS 1, (show tblS 1 ∈ [tblS 0, tblS 1, tblS 2] by simp), rfl, rfl⟩
  | 2, _ => ⟨⟨S3.tabs, S3.works, [⟨3, (shapeS 2).name, false⟩], []⟩, by kernel_rfl, ⟨_, List.mem_singleton.2 rfl, rfl, rfl⟩, tblS 2, (show tblS 2 ∈ [tblS 0, tblS 1, tblS 2] by simp), rfl, rfl⟩
  | t + 3, h => by omega
theorem of41 {nm : ByteArray} {key : Int} {only : Bool} {h : Heap} {b1 b2 : Option Addr} {n1 c1 n2 c2 : Nat} {k : Value → Heap → Prop} (hk : k (.agg #[.string nm, .slice b1 n1 c1, .int .i64 key, .bool only, .slice b2 n2 c2]) h) :
    Ct 41 [.agg #[.string nm, .slice b1 n1 c1, .int .i64 key, .bool only, .slice b2 n2 c2]] h k := by
  obtain ⟨A, hA⟩ := Ar.ex
  refine fn_of_sx A (tabOk T41.plan T41.pub) Tryz.func41 rfl (by kernel_rfl) ?_
  cbv
  exact hk
/-- What stands at the loop's head. -/
structure A12 (nm : ByteArray) (n : Nat) (d : DB) : Prop where
  sj : SJ n d
  a3 : At3 d
  kp : Keeps nm [] d
theorem a12_step {nm : ByteArray} {n : Nat} {d d' : DB} {se : Int} (q : A12 nm n d) (hn : n ≤ 2 ^ 17) (hs : 0 ≤ se ∧ se < 3) (J : SJ (n + 1) d') (h : StepR se d d') (h3 : At3 d') : A12 nm (n + 1) d' :=
  ⟨J, h3, step_keeps q.sj hn (by omega) (by omega) h (fun _ => q.kp) h3⟩
theorem alone12 {h : Heap} {b : Option Addr} {len cap : Nat} {xs : List Act1} (q : SlB shAct h (.slice b len cap) xs) (hxs : ∀ x ∈ xs, ActOk x) (rd : Int) (hrd : -2 ^ 63 ≤ rd ∧ rd < 2 ^ 63) : Ct 12 [.slice b len cap, .int .i64 rd] h (fun v h' => Le h h' ∧ v = .bool true) := by
  obtain ⟨A, hA⟩ := Ar.ex
  have hlen := q.len
  have hnot1 : A .not true = false := by rw [hA.not]; rfl
  have n00 : A .icm .neq 0 0 = false := by rw [icm_neq A]; rfl
  have lm1 : A .icm .lss (-1) 0 = true := by rw [icm_lss A]; rfl
  have hst := start_SJ
  have hstB := begin_S3
  have hsj3 : SJ 0 S3 := by have := sj_begin hst (by omega) 3; rw [hstB] at this; exact this
  have hrows := rows_S3
  obtain ⟨SE, hSE⟩ : ∃ S, S = startE := ⟨_, rfl⟩
  obtain ⟨SB, hSB⟩ : ∃ S, S = S3 := ⟨_, rfl⟩
  rw [← hSE] at hst hstB
  rw [← hSB] at hstB hsj3 hrows
  refine fn_of_sx A (tabOk T12.plan T12.pub) Tryz.func12 rfl (by kernel_rfl) ?_
  cbv
  refine (known14 h).mono (fun v h0 hR => ?_)
  obtain ⟨l0, rfl⟩ := hR
  cbv
  rw [hnot1]
  cbv
  refine start19 (fun h1 b1 n1 c1 b2 n2 c2 b3 n3 c3 b4 n4 c4 d1 m1 e1 d2 m2 e2 d3 m3 e3 d4 m4 e4 l1 q1 p1 => ?_)
  rw [← hSE] at q1 p1
  clear hSE
  cbv
  refine within15 rd 3 (by omega) (by omega) h1 (fun zr ir hzr hir hir3 => ?_)
  cbv
  refine begin18K q1 3 (hst.okd.small (by omega)) hstB (fun h2 b1 n1 c1 b2 n2 c2 b3 n3 c3 b4 n4 c4 l2 q2 => ?_)
  have q2 : RDB h2 _ SB := q2
  cbv
  refine begin36 (p1.mono l2) (hst.sc.si hst.okd (by omega)) 3 (by decide) hstB (fun h3 d1 m1 e1 d2 m2 e2 d3 m3 e3 d4 m4 e4 l3 p3 => ?_)
  have p3 : RP h3 d1 m1 e1 d2 m2 e2 d3 m3 e3 d4 m4 e4 SB := p3
  have q3 := q2.mono l3
  have l03 := ((l0.trans l1).trans l2).trans l3
  clear q1 p1 q2 l0 l1 l2 l3 hst hstB
  obtain ⟨D1, hD1, hk1⟩ := hrows ir hir3
  have hsj1 : SJ 1 D1 := by have := sj_rows hsj3 3 (shapeS ir).name (by decide); rw [hD1] at this; exact this
  obtain ⟨nm, hnm⟩ : ∃ nm, nm = (shapeS ir).name := ⟨_, rfl⟩
  rw [← hnm] at hD1 hk1
  have hat1 : At3 D1 := by
    obtain ⟨⟨x, hx, he, -⟩, -⟩ := hk1
    obtain ⟨w, hw, hws⟩ := hsj1.sc.hw x hx
    exact ⟨w, hw, hws.trans he⟩
  have h12 : A12 nm 1 D1 := ⟨hsj1, hat1, hk1⟩
  clear hrows hk1 hat1
  cbv
  refine shape16 hzr hir3 h3 (fun h4 sb sn sc nm4 o4 l4 hnm4 ho4 qs4 => ?_)
  obtain rfl : nm4 = nm := by rw [hnm4, hnm]
  cbv
  refine rows31K (q3.mono l4) hsj3.okd (by omega) 3 (by decide) nm4 hD1 (fun h5 b1 n1 c1 b2 n2 c2 b3 n3 c3 b4 n4 c4 x1 y1 z1 l5 q5 s5 => ?_)
  have q5 : RDB h5 _ D1 := q5
  have s5 : Sl 63 shRow h5 (.slice x1 y1 z1) [] := s5
  cbv
  refine shape16 hzr hir3 h5 (fun h6 sb6 sn6 sc6 nm6 o6 l6 hnm6 ho6 qs6 => ?_)
  obtain rfl : nm6 = nm4 := by rw [hnm6, hnm4]
  cbv
  refine rows37 (p3.mono ((l4.trans l5).trans l6)) hsj3.sc hsj3.okd (by omega) 3 nm6 (by decide) hD1 (fun h7 d1 m1 e1 d2 m2 e2 d3 m3 e3 d4 m4 e4 x2 y2 z2 l7 p7 s7 => ?_)
  have p7 : RP h7 d1 m1 e1 d2 m2 e2 d3 m3 e3 d4 m4 e4 D1 := p7
  have q7 := q5.mono (l6.trans l7)
  have sF := s5.mono ((l6.trans l7).t _)
  have l07 : Le h h7 := (((l03.trans l4).trans l5).trans l6).trans l7
  clear q3 p3 q5 s5 s7 l03 l4 l5 l6 l7 qs4 qs6 hD1 hsj1 hsj3 hnm4 hnm6 ho4 ho6 hSB
  obtain ⟨I, hI0⟩ : ∃ I : Nat → Int × G4 × G4 → Heap → Prop, ∀ m g h', I m g h' = ∃ (i : Nat) (d : DB), IsN g.1 i ∧ m = 40 - i ∧ i ≤ 40 ∧ Le h7 h' ∧ RDB h' (.agg #[.slice g.2.1.b1 g.2.1.n1 g.2.1.c1, .slice g.2.1.b2 g.2.1.n2 g.2.1.c2, .slice g.2.1.b3 g.2.1.n3 g.2.1.c3, .slice g.2.1.b4 g.2.1.n4 g.2.1.c4]) d ∧
    RP h' g.2.2.b1 g.2.2.n1 g.2.2.c1 g.2.2.b2 g.2.2.n2 g.2.2.c2 g.2.2.b3 g.2.2.n3 g.2.2.c3 g.2.2.b4 g.2.2.n4 g.2.2.c4 d ∧ A12 nm6 (i + 1) d := ⟨_, fun _ _ _ => rfl⟩
  have hJ : I 40 (0, ⟨b1, n1, c1, b2, n2, c2, b3, n3, c3, b4, n4, c4⟩, ⟨d1, m1, e1, d2, m2, e2, d3, m3, e3, d4, m4, e4⟩) h7 := by
    rw [hI0]
    exact ⟨0, D1, ⟨rfl⟩, rfl, by omega, Le.refl _, q7, p7, h12⟩
  clear q7 p7 h12
  cbv
  refine ⟨⟨_, rfl, rfl⟩, ?_⟩
  cbv
  rw [n00]
  cbv
  refine LoopX.go (G := Int × G4 × G4) (fun g => [(13, .v (.int .i64 g.1))]) (fun g => [(5, [.slice g.2.1.b1 g.2.1.n1 g.2.1.c1, .slice g.2.1.b2 g.2.1.n2 g.2.1.c2, .slice g.2.1.b3 g.2.1.n3 g.2.1.c3, .slice g.2.1.b4 g.2.1.n4 g.2.1.c4]), (6, [.slice g.2.2.b1 g.2.2.n1 g.2.2.c1, .slice g.2.2.b2 g.2.2.n2 g.2.2.c2, .slice g.2.2.b3 g.2.2.n3 g.2.2.c3, .slice g.2.2.b4 g.2.2.n4 g.2.2.c4]), (7, [.slice b1 n1 c1, .slice b2 n2 c2, .slice b3 n3 c3, .slice b4 n4 c4]), (10, [.slice d1 m1 e1, .slice d2 m2 e2, .slice d3 m3 e3, .slice d4 m4 e4])]) (fun m g h' => I m g h') 40 (0, ⟨b1, n1, c1, b2, n2, c2, b3, n3, c3, b4, n4, c4⟩, ⟨d1, m1, e1, d2, m2, e2, d3, m3, e3, d4, m4, e4⟩) ⟨?_, ?_, ?_⟩ hJ ?_
  · cbv
  · cbv
  · cbv
  · intro m g h' hI
    rw [hI0] at hI
    cbv
    obtain ⟨i, d, hz, hm, hi, hle, qd, pd, h12⟩ := hI
    obtain ⟨z, ⟨b1, n1, c1, b2, n2, c2, b3, n3, c3, b4, n4, c4⟩, ⟨d1, m1, e1, d2, m2, e2, d3, m3, e3, d4, m4, e4⟩⟩ := g
    have hz : IsN z i := hz
    have qd : RDB h' (.agg #[.slice b1 n1 c1, .slice b2 n2 c2, .slice b3 n3 c3, .slice b4 n4 c4]) d := qd
    have pd : RP h' d1 m1 e1 d2 m2 e2 d3 m3 e3 d4 m4 e4 d := pd
    have hnext : ∀ h2 b1 n1 c1 b2 n2 c2 b3 n3 c3 b4 n4 c4 d1 m1 e1 d2 m2 e2 d3 m3 e3 d4 m4 e4 d2', i < 40 → Le h7 h2 → RDB h2 (.agg #[.slice b1 n1 c1, .slice b2 n2 c2, .slice b3 n3 c3, .slice b4 n4 c4]) d2' → RP h2 d1 m1 e1 d2 m2 e2 d3 m3 e3 d4 m4 e4 d2' → A12 nm6 (i + 1 + 1) d2' → I (40 - (i + 1)) (A .ari .add .i64 z 1, ⟨b1, n1, c1, b2, n2, c2, b3, n3, c3, b4, n4, c4⟩, ⟨d1, m1, e1, d2, m2, e2, d3, m3, e3, d4, m4, e4⟩) h2 := fun h2 _ _ _ _ _ _ _ _ _ _ _ _ _ _ _ _ _ _ _ _ _ _ _ _ d2' a a2 a3 a4 a5 => by
      rw [hI0]
      exact ⟨i + 1, d2', hz.succ (A := A) (by omega), rfl, a, a2, a3, a4, a5⟩
    have f1 : A .icm .lss z (A .nat len) = decide (i < len) := hz.lt2 (IsN.nat len)
    have f2 : A .icm .lss z 40 = decide (i < 40) := hz.lt2 (w := 40) (j := 40) ⟨rfl⟩
    clear hI0 hJ
    have hend : ∀ P : Prop, (i < len ∧ i < 40 → P) → (¬ (i < len ∧ i < 40) → P) → P := fun P a b => by
      by_cases h : i < len ∧ i < 40
      · exact a h
      · exact b h
    rw [f1]
    by_cases hc1 : i < len
    · rw [decide_eq_true hc1]
      cbv
      rw [f2]
      by_cases hc2 : i < 40
      · obtain ⟨⟨ak, as_, at_, an, ax⟩, hx⟩ := get_ex (xs := xs) (i := i) (by omega)
        have hao := hxs _ (List.mem_of_getElem? hx)
        have has : -2 ^ 63 ≤ as_ ∧ as_ < 2 ^ 63 := hao.s
        have han : -2 ^ 63 ≤ an ∧ an < 2 ^ 63 := hao.n
        have hck : b.isSome = true ∧ 0 ≤ z ∧ z < (len : Int) := ⟨q.isSm (by omega), hz.ix hc1⟩
        have hze := hz.eq
        have hm' : 40 - (i + 1) < m := by omega
        rw [decide_eq_true hc2]
        cbv
        refine ⟨hck, ?_⟩
        cbv
        refine (q.mono (l07.trans hle)).load hx hze (fun cs hcs => ?_)
        have hcs : cs = [.int .i64 ak, .int .i64 as_, .int .i64 at_, .int .i64 an, .bool ax] := hcs
        subst hcs
        cbv
        refine within15 as_ 3 (by omega) (by omega) h' (fun zs is_ hzs his his3 => ?_)
        have hzs' : -2 ^ 63 ≤ zs ∧ zs < 2 ^ 63 := by have := hzs.eq; omega
        have hzs3 : 0 ≤ zs ∧ zs < 3 := by have := hzs.eq; omega
        have hi15 : i + 1 ≤ 2 ^ 15 := by omega
        have hi17 : i + 1 ≤ 2 ^ 17 := by omega
        clear hzs his his3
        cbv
        refine do38 qd pd h12.sj hi15 ak zs at_ an ax hzs' han (fun h3 pb1 pn1 pc1 pb2 pn2 pc2 pb3 pn3 pc3 pb4 pn4 pc4 rb1 rn1 rc1 rb2 rn2 rc2 rb3 rn3 rc3 rb4 rn4 rc4 d' se l3 q3 p3 hsj' hse hstep => ?_)
        have hse := hse hzs3
        subst hse
        have hnx12 := fun h3 => a12_step h12 hi17 hzs3 hsj' hstep h3
        have hSI : SI d' := hsj'.sc.si hsj'.okd (by omega)
        cbv
        rw [hnot1]
        cbv
        refine ⟨⟨_, rfl, rfl⟩, ?_⟩
        cbv
        refine who39 p3 3 (fun z3 hidx => ?_)
        rcases work_idx hSI (by decide) hidx with ⟨rfl, -⟩ | ⟨i3, w3, hz3, hw3, hws3, -, -⟩
        · have hfin := (l07.trans hle).trans l3
          clear hnext hnx12
          cbv
          rw [lm1]
          cbv
          exact ⟨hfin, trivial⟩
        · have hlt3 : A .icm .lss z3 0 = false := hz3.nlt0 (A := A)
          have h12' := hnx12 ⟨w3, List.mem_of_getElem? hw3, hws3⟩
          clear hidx hnx12
          cbv
          rw [hlt3]
          cbv
          refine shape16 hzr hir3 h3 (fun h4 sb sn sc nm4 o4 l4 hnm4 ho4 qs4 => ?_)
          obtain rfl : nm4 = nm6 := by rw [hnm4, hnm]
          cbv
          refine (find25 (p3.mono l4)).mono (fun v h5 hR => ?_)
          obtain ⟨l5, zf, rfl, hidx2⟩ := hR
          have q5 := q3.mono (l4.trans l5)
          obtain ⟨-, t, ht, htn, htr⟩ := h12'.kp
          have hsrt := hSI.tw.srt
          obtain ⟨_, _, _, _, _, _, _, _, _, _, _, _, ws, hv, w1, w2, w3, w4, w5⟩ := q5.out
          cases hv
          have hn1 : pn1 = d'.tabs.length := w1.len
          rcases tab_idx hsrt hidx2 with ⟨-, -, hno⟩ | ⟨jt, t', hzt, ht', hnm', hb', -⟩
          · exact absurd htn (hno t ht)
          · have htt : t' = t := by
              obtain ⟨j2, hj2⟩ := List.getElem?_of_mem ht
              obtain ⟨a2, -⟩ := tab_at hsrt hj2
              rw [htn, hb'] at a2
              subst a2
              rw [ht'] at hj2; cases hj2; rfl
            subst htt
            have hjl : jt < d'.tabs.length := (List.getElem?_eq_some_iff.1 ht').1
            have hckt : pb1.isSome = true ∧ 0 ≤ zf ∧ zf < (pn1 : Int) := ⟨w1.isSm (by omega), hzt.ix (by omega)⟩
            have hzte := hzt.eq
            obtain ⟨⟨tn, tc, tk, to_⟩, tR⟩ := t'
            have htr : tR = [] := htr
            subst htr
            clear hidx2
            cbv
            refine ⟨hckt, ?_⟩
            cbv
            refine w1.load ht' hzte (fun cs hcs => ?_)
            obtain ⟨y1, y2, y3, y4, y5, y6, rfl, s1, s2⟩ := hcs
            have s2 : Sl 63 shRow h5 (.slice y4 y5 y6) [] := s2
            cbv
            refine rows33 s2 (sF.mono ((((hle.trans l3).trans l4).trans l5).t _)) ?_
            have hI := hnext h5 pb1 pn1 pc1 pb2 pn2 pc2 pb3 pn3 pc3 pb4 pn4 pc4 rb1 rn1 rc1 rb2 rn2 rc2 rb3 rn3 rc3 rb4 rn4 rc4 d' hc2 (((hle.trans l3).trans l4).trans l5) q5 (p3.mono (l4.trans l5)) h12'
            clear hnext
            cbv
            rw [hnot1]
            cbv
            refine ⟨40 - (i + 1), (_, ⟨pb1, pn1, pc1, pb2, pn2, pc2, pb3, pn3, pc3, pb4, pn4, pc4⟩, ⟨rb1, rn1, rc1, rb2, rn2, rc2, rb3, rn3, rc3, rb4, rn4, rc4⟩), hm', ⟨?_, ?_, ?_⟩, hI⟩
            · cbv
            · cbv
            · cbv
      · obtain ⟨_, _, _, _, _, _, _, _, _, _, _, _, ws, hv, w1, w2, w3, w4, w5⟩ := qd.out
        cases hv
        obtain ⟨-, tx, htx, -, -⟩ := h12.kp
        obtain ⟨⟨⟨tn, tc, tk, to_⟩, tR⟩, ht0⟩ := get_ex (xs := d.tabs) (i := 0) (List.length_pos_of_mem htx)
        have hn1 : n1 = d.tabs.length := w1.len
        have hpos : 0 < d.tabs.length := List.length_pos_of_mem htx
        have hck0 : b1.isSome = true ∧ (0 : Int) ≤ 0 ∧ (0 : Int) < (n1 : Int) := ⟨w1.isSm (by omega), by omega, by omega⟩
        clear hnext
        rw [decide_eq_false hc2]
        cbv
        refine ⟨hck0, ?_⟩
        cbv
        refine w1.loadP ht0 (n := 0) rfl (fun cs hcs again => ?_)
        obtain ⟨y1, y2, y3, y4, y5, y6, rfl, s1, s2⟩ := hcs
        cbv
        refine ⟨hck0, ?_⟩
        cbv
        refine w1.loadF ht0 (n := 0) rfl (o := 0) (m := 4) (by decide) (fun cs hcs => ?_)
        obtain ⟨u1, u2, u3, u4, u5, u6, rfl, r1, r2⟩ := hcs
        cbv
        refine ⟨hck0, ?_⟩
        cbv
        refine w1.loadF ht0 (n := 0) rfl (o := 4) (m := 1) (by decide) (fun cs hcs => ?_)
        obtain ⟨v1, v2, v3, v4, v5, v6, rfl, r3, r4⟩ := hcs
        cbv
        refine of41 ?_
        cbv
        refine again _ _ (Le.refl _) ?_
        cbv
        refine ⟨⟨_, rfl, rfl⟩, ?_⟩
        cbv
        refine same40 s1 r1 s2 r4 (fun h3 l3 => ?_)
        have hfin := (l07.trans hle).trans l3
        cbv
        exact ⟨hfin, trivial⟩
    · obtain ⟨_, _, _, _, _, _, _, _, _, _, _, _, ws, hv, w1, w2, w3, w4, w5⟩ := qd.out
      cases hv
      obtain ⟨-, tx, htx, -, -⟩ := h12.kp
      obtain ⟨⟨⟨tn, tc, tk, to_⟩, tR⟩, ht0⟩ := get_ex (xs := d.tabs) (i := 0) (List.length_pos_of_mem htx)
      have hn1 : n1 = d.tabs.length := w1.len
      have hpos : 0 < d.tabs.length := List.length_pos_of_mem htx
      have hck0 : b1.isSome = true ∧ (0 : Int) ≤ 0 ∧ (0 : Int) < (n1 : Int) := ⟨w1.isSm (by omega), by omega, by omega⟩
      clear hnext
      rw [decide_eq_false hc1]
      cbv
      refine ⟨hck0, ?_⟩
      cbv
      refine w1.loadP ht0 (n := 0) rfl (fun cs hcs again => ?_)
      obtain ⟨y1, y2, y3, y4, y5, y6, rfl, s1, s2⟩ := hcs
      cbv
      refine ⟨hck0, ?_⟩
      cbv
      refine w1.loadF ht0 (n := 0) rfl (o := 0) (m := 4) (by decide) (fun cs hcs => ?_)
      obtain ⟨u1, u2, u3, u4, u5, u6, rfl, r1, r2⟩ := hcs
      cbv
      refine ⟨hck0, ?_⟩
      cbv
      refine w1.loadF ht0 (n := 0) rfl (o := 4) (m := 1) (by decide) (fun cs hcs => ?_)
      obtain ⟨v1, v2, v3, v4, v5, v6, rfl, r3, r4⟩ := hcs
      cbv
      refine of41 ?_
      cbv
      refine again _ _ (Le.refl _) ?_
      cbv
      refine ⟨⟨_, rfl, rfl⟩, ?_⟩
      cbv
      refine same40 s1 r1 s2 r4 (fun h3 l3 => ?_)
      have hfin := (l07.trans hle).trans l3
      cbv
      exact ⟨hfin, trivial⟩
end Go.S

