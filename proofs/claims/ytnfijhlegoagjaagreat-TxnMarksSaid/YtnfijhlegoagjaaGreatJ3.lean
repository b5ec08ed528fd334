import Derived.Test.YtnfijhlegoagjaaGreatJ3a
set_option linter.unusedVariables false
set_option linter.unusedSimpArgs false
set_option linter.unusedSectionVars false
set_option maxRecDepth 100000
set_option maxHeartbeats 16000000
set_option linter.unusedVariables false
set_option linter.unusedSimpArgs false
namespace Go.S
open Go.Sx Go.Proofs

theorem marks9 {h : Heap} {b : Option Addr} {len cap : Nat} {xs : List Int} (q : SlB shInt h (.slice b len cap) xs) (hxs : ∀ x ∈ xs, -2 ^ 63 ≤ x ∧ x < 2 ^ 63) (cut again : Int) (gc : -2 ^ 63 ≤ cut ∧ cut < 2 ^ 63) (ga : -2 ^ 63 ≤ again ∧ again < 2 ^ 63) : Ct 9 [.slice b len cap, .int .i64 cut, .int .i64 again] h (fun v h' => Le h h' ∧ v = .bool true) := by
  obtain ⟨A, hA⟩ := Ar.ex
  have hlen := q.len
  have hlb := q.bound
  have hnot1 : A .not true = false := by rw [hA.not]; rfl
  have e22 : A .icm .eql 2 2 = true := by rw [icm_eql A]; rfl
  have n00 : A .icm .neq 0 0 = false := by rw [icm_neq A]; rfl
  have n11 : A .icm .neq (A .nat 1) 1 = false := by rw [icm_neq A, hA.nat]; rfl
  have hnl : IsN (A .nat len) len := IsN.nat len
  have hnl1 : IsN (A .ari .add .i64 (A .nat len) 1) (len + 1) := hnl.succ (by omega)
  obtain ⟨MN, hMN⟩ : ∃ M, M = mnD 0 := ⟨_, rfl⟩
  have hbeg : beginD startE 0 = (MN [] [] [] [], 0) := by rw [hMN]; exact begin_start 0 (by decide)
  have mnok : ∀ {R L M H}, HH H → SO R → Okd 2 (MN R L M H) := by rw [hMN]; exact fun h h2 => mn_okj h h2.le
  have mnput : ∀ {R L M H}, HH H → ∀ r, putF (MN R L M H) 0 nTa r = (MN (putR R L r).1 (putR R L r).2.1 M [hX 0], (putR R L r).2.2) := by rw [hMN]; exact fun h r => putF_j h r
  have mntake : ∀ {R L M H}, HH H → ∀ r, takeF (MN R L M H) 0 nTa r = (MN (takeR R L r).1 (takeR R L r).2.1 M [hX 0], (takeR R L r).2.2) := by rw [hMN]; exact fun h r => takeF_j h r
  have mnrows : ∀ {R L M H}, HH H → ∃ H', HH H' ∧ rowsD (MN R L M H) 0 nTa = (MN R L M H', R, 0) := by rw [hMN]; exact fun h => rowsD_j h
  have mnsave1 : ∀ {R L M H}, M.length < 10 → saveD (MN R L M H) 0 nHere = (MN R L (M ++ [⟨nHere, (L.length : Int)⟩]) H, 0) := by rw [hMN]; exact fun h => saveD_j mb_here h
  have mnsave2 : ∀ {R L M H}, M.length < 10 → saveD (MN R L M H) 0 nLater = (MN R L (M ++ [⟨nLater, (L.length : Int)⟩]) H, 0) := by rw [hMN]; exact fun h => saveD_j mb_later h
  have mnback : ∀ {R L H R0 n}, Bk R L R0 n → ∀ {l : List Mrk}, (∀ x ∈ l, x.name = nLater) → backM (MN R L (⟨nHere, (n : Int)⟩ :: l) H) 0 nHere = (MN R0 (L.take n) [⟨nHere, (n : Int)⟩] H, 0) := by rw [hMN]; exact fun h _ h2 => backM_j h h2
  have mnback0 : ∀ {R L H}, backM (MN R L [] H) 0 nHere = (MN R L [] H, 2) := by rw [hMN]; exact backM_none
  have mnback2 : ∀ {R L H} {n : Nat}, backM (MN R L [⟨nHere, (n : Int)⟩] H) 0 nLater = (MN R L [⟨nHere, (n : Int)⟩] H, 2) := by rw [hMN]; exact backM_later
  have mnwork : ∀ R L M H, (MN R L M H).works[0]? = some ⟨0, L, M⟩ ∧ (MN R L M H).works.length = 1 := by rw [hMN]; exact mnj_work
  clear hMN
  have hsm := startE_small
  obtain ⟨E, hE⟩ : ∃ E, E = startE := ⟨_, rfl⟩
  rw [← hE] at hbeg hsm
  obtain ⟨cE, hcE⟩ : ∃ c, c = shColsE := ⟨_, rfl⟩
  have hcl : cE.length = 2 := by rw [hcE]; rfl
  have hfo : ∀ n, RowOk (fitL cE n cE.length) := fun n => by rw [hcl, hcE]; exact fit_ok n
  refine fn_of_sx A (tabOk T9.plan T9.pub) Tryz.func9 rfl (by kernel_rfl) ?_
  cbv
  refine (known14 h).mono (fun v h0 hR => ?_)
  obtain ⟨l0, rfl⟩ := hR
  cbv
  rw [hnot1]
  cbv
  refine start19 (fun h2 b1 n1 c1 b2 n2 c2 b3 n3 c3 b4 n4 c4 d1 m1 e1 d2 m2 e2 d3 m3 e3 d4 m4 e4 l2 qD qR => ?_)
  rw [← hE] at qD
  clear qR hE
  have l02 := l0.trans l2
  cbv
  refine begin18K qD 0 hsm hbeg (fun h3 b1 n1 c1 b2 n2 c2 b3 n3 c3 b4 n4 c4 l3 q3' => ?_)
  have q3 : RDB h3 (.agg #[.slice b1 n1 c1, .slice b2 n2 c2, .slice b3 n3 c3, .slice b4 n4 c4]) (MN [] [] [] []) := q3'
  clear q3'
  have l03 := l02.trans l3
  cbv
  refine within15W cut hnl1 (by omega) (by omega) h3 (fun zc C hzc hCe hC => ?_)
  obtain ⟨I, hI0⟩ : ∃ I : Nat → (Int × W12 × Option Addr × Nat × Nat) → Heap → Prop, ∀ m g h', I m g h' = ∃ (i : Nat) (R : List Row) (L : List Chg) (M : List Mrk) (H : List Hld), IsN g.1 i ∧ m = 40 - i ∧ i ≤ 40 ∧ i ≤ len ∧ Le h h' ∧ RDB h' g.2.1.val (MN R L M H) ∧ HH H ∧ SO R ∧ Mst h' C i R L M (.slice g.2.2.1 g.2.2.2.1 g.2.2.2.2) := ⟨_, fun _ _ _ => rfl⟩
  cbv
  refine LoopX.go (G := Int × W12 × Option Addr × Nat × Nat) (fun g => [(10, .v (.int .i64 g.1)), (9, .v (.slice g.2.2.1 g.2.2.2.1 g.2.2.2.2))]) (fun g => [(7, [.slice g.2.1.b1 g.2.1.n1 g.2.1.c1, .slice g.2.1.b2 g.2.1.n2 g.2.1.c2, .slice g.2.1.b3 g.2.1.n3 g.2.1.c3, .slice g.2.1.b4 g.2.1.n4 g.2.1.c4]), (8, [.slice d1 m1 e1, .slice d2 m2 e2, .slice d3 m3 e3, .slice d4 m4 e4])])
    (fun m g h' => I m g h') 40 (0, ⟨b1, n1, c1, b2, n2, c2, b3, n3, c3, b4, n4, c4⟩, none, 0, 0) ⟨?_, ?_, ?_⟩ (by rw [hI0]; exact ⟨0, [], [], [], [], ⟨rfl⟩, rfl, by omega, by omega, l03, q3, .inl rfl, SO.nil, .inl ⟨by omega, rfl⟩⟩) ?_
  · cbv
  · cbv
  · cbv
  · intro m g h' hI
    rw [hI0] at hI
    cbv
    obtain ⟨i, R, L, M, H, hz, hm, hi, hil, hle, hq, hH, hSO, hMst⟩ := hI
    obtain ⟨z, ⟨b1, n1, c1, b2, n2, c2, b3, n3, c3, b4, n4, c4⟩, y1, y2, y3⟩ := g
    have hz : IsN z i := hz
    have hq : RDB h' (.agg #[.slice b1 n1 c1, .slice b2 n2 c2, .slice b3 n3 c3, .slice b4 n4 c4]) (MN R L M H) := hq
    have hMst : Mst h' C i R L M (.slice y1 y2 y3) := hMst
    have f1 : A .icm .lss z (A .nat len) = decide (i < len) := hz.lt2 hnl
    have f2 : A .icm .lss z 40 = decide (i < 40) := hz.lt2 (w := 40) (j := 40) ⟨rfl⟩
    have f3 : A .icm .eql z zc = decide (i = C) := by
      have e1 := hz.eq
      have e2 := hzc.eq
      rw [icm_eql A, decide_eq_decide]; omega
    have f4 : A .icm .gtr z zc = decide (C < i) := by
      have e1 := hz.eq
      have e2 := hzc.eq
      rw [hA.icm]; simp only [icm]; rw [decide_eq_decide]; omega
    have hzc3 : IsN (A .ari .add .i64 zc 3) (C + 3) := hzc.add (w := 3) (j := 3) ⟨rfl⟩ (by omega)
    have f5 : A .icm .lss z (A .ari .add .i64 zc 3) = decide (i < C + 3) := hz.lt2 hzc3
    have hend : ∀ P : Prop, (i < len ∧ i < 40 → P) → (¬ (i < len ∧ i < 40) → P) → P := fun P a b => by
      by_cases h : i < len ∧ i < 40
      · exact a h
      · exact b h
    refine hend _ (fun ⟨hc1, hc2⟩ => ?_) (fun hno => ?_)
    · rw [decide_eq_true hc1] at f1
      rw [decide_eq_true hc2] at f2
      obtain ⟨x, hx⟩ := get_ex (xs := xs) (i := i) (by omega)
      have hxo := hxs _ (List.mem_of_getElem? hx)
      have hck : b.isSome = true ∧ 0 ≤ z ∧ z < (len : Int) := ⟨q.isSm (by omega), hz.ix hc1⟩
      have hze := hz.eq
      have hnx := hz.succ (A := A) (by omega)
      obtain ⟨r, hr⟩ : ∃ r, r = fitL cE x cE.length := ⟨_, rfl⟩
      have hro : RowOk r := by rw [hr]; exact hfo x
      have hro' := hro
      obtain ⟨ra, rv, hre, -⟩ := hro'
      have hrl : r.length = 2 := by rw [hre]; rfl
      have hg0 : r[0]? = some ⟨2, ra, noS⟩ := by rw [hre]; rfl
      cbv
      rw [f1]
      cbv
      rw [f2]
      cbv
      rw [f3]
      by_cases hcC : i = C
      · subst hcC
        obtain ⟨hM0, hMst1⟩ := id (⟨hMst.none (Nat.le_refl _), hMst⟩ : M = [] ∧ Mst h' i i R L M (.slice y1 y2 y3))
        subst hM0
        have hsv := mnsave1 (R := R) (L := L) (M := []) (H := H) (by simp)
        have hsv : saveD (MN R L [] H) 0 nHere = (MN R L [⟨nHere, (L.length : Int)⟩] H, 0) := hsv
        rw [decide_eq_true rfl] at f3 ⊢
        rw [decide_eq_false (Nat.lt_irrefl i)] at f4
        obtain ⟨MK, hMK⟩ : ∃ M, M = ([⟨nHere, (L.length : Int)⟩] : List Mrk) := ⟨_, rfl⟩
        rw [← hMK] at hsv
        obtain ⟨H2, hH2, hrw⟩ := mnrows (R := R) (L := L) (M := MK) hH
        cbv
        refine save27K hq 0 nHere hsv (fun h4 b1 n1 c1 b2 n2 c2 b3 n3 c3 b4 n4 c4 l4 q4' => ?_)
        have q4 : RDB h4 (.agg #[.slice b1 n1 c1, .slice b2 n2 c2, .slice b3 n3 c3, .slice b4 n4 c4]) (MN R L MK H) := q4'
        clear q4'
        cbv
        refine rows31K q4 (mnok hH hSO) (by decide) 0 (by decide) nTa hrw (fun h5 _ _ _ _ _ _ _ _ _ _ _ _ y1 y2 y3 l5 q5' qy' => ?_)
        have hqM := q4.mono l5
        have hMs : Mst h5 i (i + 1) R L MK (.slice y1 y2 y3) := by rw [hMK]; exact (hMst1.at_ hSO qy').2
        have hHM := hH
        have hleM := (hle.trans l4).trans l5
        clear q5' qy' hq q4 hMst hrw hH2
        cbv
        rw [f4]
        cbv
        refine ⟨hck, ?_⟩
        cbv
        refine (q.mono hleM).load hx hze (fun cs hcs => ?_)
        have hcs : cs = [.int .i64 x] := hcs
        subst hcs
        cbv
        try refine ⟨by decide, ?_⟩
        try cbv
        generalize A .icm .eql (A .ari .rem .i64 x 2) 0 = u
        cases u with
        | true =>
          obtain ⟨R', L', e', hRe, hSO', hst⟩ := putR_U (L := L) hSO hro
          have hp0 := mnput (R := R) (L := L) (M := MK) hHM r
          rw [hRe] at hp0
          have hp : putF (MN R L MK _) 0 nTa r = (MN R' L' MK [hX 0], e') := hp0
          clear hp0 hRe
          cbv
          refine ⟨hck, ?_⟩
          cbv
          refine (q.mono hleM).loadP hx hze (fun cs hcs ag => ?_)
          have hcs : cs = [.int .i64 x] := hcs
          subst hcs
          cbv
          refine shape16 (z := 0) (t := 0) ⟨rfl⟩ (by omega) h5 (fun h6 sb sn sc nm o l6 hnm ho qs => ?_)
          rw [← hcE] at qs
          cbv
          refine ag _ _ l6 ?_
          cbv
          refine ⟨⟨_, rfl, rfl⟩, ?_⟩
          cbv
          refine fit22 qs (by omega) x hxo (fun h7 fb fn fc l7 hf' => ?_)
          have hf : Sl 68 shVal h7 (.slice fb fn fc) r := by rw [hr]; exact hf'.sl
          cbv
          refine put23F (hqM.mono (l6.trans l7)) (mnok hHM hSO) (by decide) 0 (by decide) nTa hf hp (fun h8 b1 n1 c1 b2 n2 c2 b3 n3 c3 b4 n4 c4 l8 q8' => ?_)
          have q8 : RDB h8 (.agg #[.slice b1 n1 c1, .slice b2 n2 c2, .slice b3 n3 c3, .slice b4 n4 c4]) (MN R' L' MK [hX 0]) := q8'
          clear q8'
          have l68 := (l6.trans l7).trans l8
          have hI3 : I (40 - (i + 1)) (A .ari .add .i64 z 1, ⟨b1, n1, c1, b2, n2, c2, b3, n3, c3, b4, n4, c4⟩, y1, y2, y3) h8 := by
            rw [hI0]
            exact ⟨i + 1, R', L', MK, _, hnx, rfl, by omega, by omega, hleM.trans l68, q8, .inr (.inl rfl), hSO', (hMs.mono l68).step hst⟩
          cbv
          refine ⟨40 - (i + 1), (_, ⟨b1, n1, c1, b2, n2, c2, b3, n3, c3, b4, n4, c4⟩, y1, y2, y3), by omega, ⟨?_, ?_, ?_⟩, hI3⟩
          · cbv
          · cbv
          · cbv
        | false =>
          obtain ⟨R', L', e', hRe, hSO', hst⟩ := takeR_U (L := L) (a := ra) hSO
          have hp0 := mntake (R := R) (L := L) (M := MK) hHM ⟨2, ra, noS⟩
          rw [hRe] at hp0
          have hp : takeF (MN R L MK _) 0 nTa ⟨2, ra, noS⟩ = (MN R' L' MK [hX 0], e') := hp0
          clear hp0 hRe
          cbv
          refine ⟨hck, ?_⟩
          cbv
          refine (q.mono hleM).loadP hx hze (fun cs hcs ag => ?_)
          have hcs : cs = [.int .i64 x] := hcs
          subst hcs
          cbv
          refine shape16 (z := 0) (t := 0) ⟨rfl⟩ (by omega) h5 (fun h6 sb sn sc nm o l6 hnm ho qs => ?_)
          rw [← hcE] at qs
          cbv
          refine ag _ _ l6 ?_
          cbv
          refine ⟨⟨_, rfl, rfl⟩, ?_⟩
          cbv
          refine fit22 qs (by omega) x hxo (fun h7 fb fn fc l7 hf' => ?_)
          have hf : Sl 68 shVal h7 (.slice fb fn fc) r := by rw [hr]; exact hf'.sl
          have hfn : fn = 2 := by rw [hf.len, hrl]
          have hckf : fb.isSome = true ∧ (0 : Int) ≤ 0 ∧ (0 : Int) < (fn : Int) := ⟨hf.isSm (by omega), by omega, by omega⟩
          cbv
          refine ⟨hckf, ?_⟩
          cbv
          refine hf.load hg0 (n := 0) rfl (fun cs hcs => ?_)
          have hcs : cs = [.int .i64 2, .int .i64 ra, .string noS] := hcs
          subst hcs
          cbv
          refine take24F (hqM.mono (l6.trans l7)) (mnok hHM hSO) (by decide) 0 (by decide) nTa ⟨2, ra, noS⟩ hp (fun h8 b1 n1 c1 b2 n2 c2 b3 n3 c3 b4 n4 c4 l8 q8' => ?_)
          have q8 : RDB h8 (.agg #[.slice b1 n1 c1, .slice b2 n2 c2, .slice b3 n3 c3, .slice b4 n4 c4]) (MN R' L' MK [hX 0]) := q8'
          clear q8'
          have l68 := (l6.trans l7).trans l8
          have hI3 : I (40 - (i + 1)) (A .ari .add .i64 z 1, ⟨b1, n1, c1, b2, n2, c2, b3, n3, c3, b4, n4, c4⟩, y1, y2, y3) h8 := by
            rw [hI0]
            exact ⟨i + 1, R', L', MK, _, hnx, rfl, by omega, by omega, hleM.trans l68, q8, .inr (.inl rfl), hSO', (hMs.mono l68).step hst⟩
          cbv
          refine ⟨40 - (i + 1), (_, ⟨b1, n1, c1, b2, n2, c2, b3, n3, c3, b4, n4, c4⟩, y1, y2, y3), by omega, ⟨?_, ?_, ?_⟩, hI3⟩
          · cbv
          · cbv
          · cbv
      · rw [decide_eq_false hcC] at f3 ⊢
        cbv
        rw [f4]
        by_cases hcL : C < i
        · rw [decide_eq_true hcL] at f4 ⊢
          cbv
          rw [f5]
          by_cases hcU : i < C + 3
          · rw [decide_eq_true hcU] at f5 ⊢
            have hsv := mnsave2 (R := R) (L := L) (M := M) (H := H) hMst.few
            have hMs0 := hMst.late hcL hcU
            obtain ⟨MK, hMK⟩ : ∃ M', M' = (M ++ [⟨nLater, (L.length : Int)⟩] : List Mrk) := ⟨_, rfl⟩
            rw [← hMK] at hsv hMs0
            cbv
            refine save27K hq 0 nLater hsv (fun h5 b1 n1 c1 b2 n2 c2 b3 n3 c3 b4 n4 c4 l5 q5' => ?_)
            have hqM : RDB h5 (.agg #[.slice b1 n1 c1, .slice b2 n2 c2, .slice b3 n3 c3, .slice b4 n4 c4]) (MN R L MK H) := q5'
            have hMs := hMs0.mono l5
            have hHM := hH
            have hleM := hle.trans l5
            clear q5' hq hMst hMs0
            cbv
            refine ⟨hck, ?_⟩
            cbv
            refine (q.mono hleM).load hx hze (fun cs hcs => ?_)
            have hcs : cs = [.int .i64 x] := hcs
            subst hcs
            cbv
            try refine ⟨by decide, ?_⟩
            try cbv
            generalize A .icm .eql (A .ari .rem .i64 x 2) 0 = u
            cases u with
            | true =>
              obtain ⟨R', L', e', hRe, hSO', hst⟩ := putR_U (L := L) hSO hro
              have hp0 := mnput (R := R) (L := L) (M := MK) hHM r
              rw [hRe] at hp0
              have hp : putF (MN R L MK _) 0 nTa r = (MN R' L' MK [hX 0], e') := hp0
              clear hp0 hRe
              cbv
              refine ⟨hck, ?_⟩
              cbv
              refine (q.mono hleM).loadP hx hze (fun cs hcs ag => ?_)
              have hcs : cs = [.int .i64 x] := hcs
              subst hcs
              cbv
              refine shape16 (z := 0) (t := 0) ⟨rfl⟩ (by omega) h5 (fun h6 sb sn sc nm o l6 hnm ho qs => ?_)
              rw [← hcE] at qs
              cbv
              refine ag _ _ l6 ?_
              cbv
              refine ⟨⟨_, rfl, rfl⟩, ?_⟩
              cbv
              refine fit22 qs (by omega) x hxo (fun h7 fb fn fc l7 hf' => ?_)
              have hf : Sl 68 shVal h7 (.slice fb fn fc) r := by rw [hr]; exact hf'.sl
              cbv
              refine put23F (hqM.mono (l6.trans l7)) (mnok hHM hSO) (by decide) 0 (by decide) nTa hf hp (fun h8 b1 n1 c1 b2 n2 c2 b3 n3 c3 b4 n4 c4 l8 q8' => ?_)
              have q8 : RDB h8 (.agg #[.slice b1 n1 c1, .slice b2 n2 c2, .slice b3 n3 c3, .slice b4 n4 c4]) (MN R' L' MK [hX 0]) := q8'
              clear q8'
              have l68 := (l6.trans l7).trans l8
              have hI3 : I (40 - (i + 1)) (A .ari .add .i64 z 1, ⟨b1, n1, c1, b2, n2, c2, b3, n3, c3, b4, n4, c4⟩, y1, y2, y3) h8 := by
                rw [hI0]
                exact ⟨i + 1, R', L', MK, _, hnx, rfl, by omega, by omega, hleM.trans l68, q8, .inr (.inl rfl), hSO', (hMs.mono l68).step hst⟩
              cbv
              refine ⟨40 - (i + 1), (_, ⟨b1, n1, c1, b2, n2, c2, b3, n3, c3, b4, n4, c4⟩, y1, y2, y3), by omega, ⟨?_, ?_, ?_⟩, hI3⟩
              · cbv
              · cbv
              · cbv
            | false =>
              obtain ⟨R', L', e', hRe, hSO', hst⟩ := takeR_U (L := L) (a := ra) hSO
              have hp0 := mntake (R := R) (L := L) (M := MK) hHM ⟨2, ra, noS⟩
              rw [hRe] at hp0
              have hp : takeF (MN R L MK _) 0 nTa ⟨2, ra, noS⟩ = (MN R' L' MK [hX 0], e') := hp0
              clear hp0 hRe
              cbv
              refine ⟨hck, ?_⟩
              cbv
              refine (q.mono hleM).loadP hx hze (fun cs hcs ag => ?_)
              have hcs : cs = [.int .i64 x] := hcs
              subst hcs
              cbv
              refine shape16 (z := 0) (t := 0) ⟨rfl⟩ (by omega) h5 (fun h6 sb sn sc nm o l6 hnm ho qs => ?_)
              rw [← hcE] at qs
              cbv
              refine ag _ _ l6 ?_
              cbv
              refine ⟨⟨_, rfl, rfl⟩, ?_⟩
              cbv
              refine fit22 qs (by omega) x hxo (fun h7 fb fn fc l7 hf' => ?_)
              have hf : Sl 68 shVal h7 (.slice fb fn fc) r := by rw [hr]; exact hf'.sl
              have hfn : fn = 2 := by rw [hf.len, hrl]
              have hckf : fb.isSome = true ∧ (0 : Int) ≤ 0 ∧ (0 : Int) < (fn : Int) := ⟨hf.isSm (by omega), by omega, by omega⟩
              cbv
              refine ⟨hckf, ?_⟩
              cbv
              refine hf.load hg0 (n := 0) rfl (fun cs hcs => ?_)
              have hcs : cs = [.int .i64 2, .int .i64 ra, .string noS] := hcs
              subst hcs
              cbv
              refine take24F (hqM.mono (l6.trans l7)) (mnok hHM hSO) (by decide) 0 (by decide) nTa ⟨2, ra, noS⟩ hp (fun h8 b1 n1 c1 b2 n2 c2 b3 n3 c3 b4 n4 c4 l8 q8' => ?_)
              have q8 : RDB h8 (.agg #[.slice b1 n1 c1, .slice b2 n2 c2, .slice b3 n3 c3, .slice b4 n4 c4]) (MN R' L' MK [hX 0]) := q8'
              clear q8'
              have l68 := (l6.trans l7).trans l8
              have hI3 : I (40 - (i + 1)) (A .ari .add .i64 z 1, ⟨b1, n1, c1, b2, n2, c2, b3, n3, c3, b4, n4, c4⟩, y1, y2, y3) h8 := by
                rw [hI0]
                exact ⟨i + 1, R', L', MK, _, hnx, rfl, by omega, by omega, hleM.trans l68, q8, .inr (.inl rfl), hSO', (hMs.mono l68).step hst⟩
              cbv
              refine ⟨40 - (i + 1), (_, ⟨b1, n1, c1, b2, n2, c2, b3, n3, c3, b4, n4, c4⟩, y1, y2, y3), by omega, ⟨?_, ?_, ?_⟩, hI3⟩
              · cbv
              · cbv
              · cbv
          · rw [decide_eq_false hcU] at f5 ⊢
            have hMs := hMst.hi (by omega)
            have hqM := hq
            have hHM := hH
            have hleM := hle
            clear hq hMst
            cbv
            refine ⟨hck, ?_⟩
            cbv
            refine (q.mono hleM).load hx hze (fun cs hcs => ?_)
            have hcs : cs = [.int .i64 x] := hcs
            subst hcs
            cbv
            try refine ⟨by decide, ?_⟩
            try cbv
            generalize A .icm .eql (A .ari .rem .i64 x 2) 0 = u
            cases u with
            | true =>
              obtain ⟨R', L', e', hRe, hSO', hst⟩ := putR_U (L := L) hSO hro
              have hp0 := mnput (R := R) (L := L) (M := M) hHM r
              rw [hRe] at hp0
              have hp : putF (MN R L M _) 0 nTa r = (MN R' L' M [hX 0], e') := hp0
              clear hp0 hRe
              cbv
              refine ⟨hck, ?_⟩
              cbv
              refine (q.mono hleM).loadP hx hze (fun cs hcs ag => ?_)
              have hcs : cs = [.int .i64 x] := hcs
              subst hcs
              cbv
              refine shape16 (z := 0) (t := 0) ⟨rfl⟩ (by omega) h' (fun h6 sb sn sc nm o l6 hnm ho qs => ?_)
              rw [← hcE] at qs
              cbv
              refine ag _ _ l6 ?_
              cbv
              refine ⟨⟨_, rfl, rfl⟩, ?_⟩
              cbv
              refine fit22 qs (by omega) x hxo (fun h7 fb fn fc l7 hf' => ?_)
              have hf : Sl 68 shVal h7 (.slice fb fn fc) r := by rw [hr]; exact hf'.sl
              cbv
              refine put23F (hqM.mono (l6.trans l7)) (mnok hHM hSO) (by decide) 0 (by decide) nTa hf hp (fun h8 b1 n1 c1 b2 n2 c2 b3 n3 c3 b4 n4 c4 l8 q8' => ?_)
              have q8 : RDB h8 (.agg #[.slice b1 n1 c1, .slice b2 n2 c2, .slice b3 n3 c3, .slice b4 n4 c4]) (MN R' L' M [hX 0]) := q8'
              clear q8'
              have l68 := (l6.trans l7).trans l8
              have hI3 : I (40 - (i + 1)) (A .ari .add .i64 z 1, ⟨b1, n1, c1, b2, n2, c2, b3, n3, c3, b4, n4, c4⟩, y1, y2, y3) h8 := by
                rw [hI0]
                exact ⟨i + 1, R', L', M, _, hnx, rfl, by omega, by omega, hleM.trans l68, q8, .inr (.inl rfl), hSO', (hMs.mono l68).step hst⟩
              cbv
              refine ⟨40 - (i + 1), (_, ⟨b1, n1, c1, b2, n2, c2, b3, n3, c3, b4, n4, c4⟩, y1, y2, y3), by omega, ⟨?_, ?_, ?_⟩, hI3⟩
              · cbv
              · cbv
              · cbv
            | false =>
              obtain ⟨R', L', e', hRe, hSO', hst⟩ := takeR_U (L := L) (a := ra) hSO
              have hp0 := mntake (R := R) (L := L) (M := M) hHM ⟨2, ra, noS⟩
              rw [hRe] at hp0
              have hp : takeF (MN R L M _) 0 nTa ⟨2, ra, noS⟩ = (MN R' L' M [hX 0], e') := hp0
              clear hp0 hRe
              cbv
              refine ⟨hck, ?_⟩
              cbv
              refine (q.mono hleM).loadP hx hze (fun cs hcs ag => ?_)
              have hcs : cs = [.int .i64 x] := hcs
              subst hcs
              cbv
              refine shape16 (z := 0) (t := 0) ⟨rfl⟩ (by omega) h' (fun h6 sb sn sc nm o l6 hnm ho qs => ?_)
              rw [← hcE] at qs
              cbv
              refine ag _ _ l6 ?_
              cbv
              refine ⟨⟨_, rfl, rfl⟩, ?_⟩
              cbv
              refine fit22 qs (by omega) x hxo (fun h7 fb fn fc l7 hf' => ?_)
              have hf : Sl 68 shVal h7 (.slice fb fn fc) r := by rw [hr]; exact hf'.sl
              have hfn : fn = 2 := by rw [hf.len, hrl]
              have hckf : fb.isSome = true ∧ (0 : Int) ≤ 0 ∧ (0 : Int) < (fn : Int) := ⟨hf.isSm (by omega), by omega, by omega⟩
              cbv
              refine ⟨hckf, ?_⟩
              cbv
              refine hf.load hg0 (n := 0) rfl (fun cs hcs => ?_)
              have hcs : cs = [.int .i64 2, .int .i64 ra, .string noS] := hcs
              subst hcs
              cbv
              refine take24F (hqM.mono (l6.trans l7)) (mnok hHM hSO) (by decide) 0 (by decide) nTa ⟨2, ra, noS⟩ hp (fun h8 b1 n1 c1 b2 n2 c2 b3 n3 c3 b4 n4 c4 l8 q8' => ?_)
              have q8 : RDB h8 (.agg #[.slice b1 n1 c1, .slice b2 n2 c2, .slice b3 n3 c3, .slice b4 n4 c4]) (MN R' L' M [hX 0]) := q8'
              clear q8'
              have l68 := (l6.trans l7).trans l8
              have hI3 : I (40 - (i + 1)) (A .ari .add .i64 z 1, ⟨b1, n1, c1, b2, n2, c2, b3, n3, c3, b4, n4, c4⟩, y1, y2, y3) h8 := by
                rw [hI0]
                exact ⟨i + 1, R', L', M, _, hnx, rfl, by omega, by omega, hleM.trans l68, q8, .inr (.inl rfl), hSO', (hMs.mono l68).step hst⟩
              cbv
              refine ⟨40 - (i + 1), (_, ⟨b1, n1, c1, b2, n2, c2, b3, n3, c3, b4, n4, c4⟩, y1, y2, y3), by omega, ⟨?_, ?_, ?_⟩, hI3⟩
              · cbv
              · cbv
              · cbv
        · rw [decide_eq_false hcL] at f4 ⊢
          have hMs := hMst.lo (by omega)
          have hqM := hq
          have hHM := hH
          have hleM := hle
          clear hq hMst
          cbv
          refine ⟨hck, ?_⟩
          cbv
          refine (q.mono hleM).load hx hze (fun cs hcs => ?_)
          have hcs : cs = [.int .i64 x] := hcs
          subst hcs
          cbv
          try refine ⟨by decide, ?_⟩
          try cbv
          generalize A .icm .eql (A .ari .rem .i64 x 2) 0 = u
          cases u with
          | true =>
            obtain ⟨R', L', e', hRe, hSO', hst⟩ := putR_U (L := L) hSO hro
            have hp0 := mnput (R := R) (L := L) (M := M) hHM r
            rw [hRe] at hp0
            have hp : putF (MN R L M _) 0 nTa r = (MN R' L' M [hX 0], e') := hp0
            clear hp0 hRe
            cbv
            refine ⟨hck, ?_⟩
            cbv
            refine (q.mono hleM).loadP hx hze (fun cs hcs ag => ?_)
            have hcs : cs = [.int .i64 x] := hcs
            subst hcs
            cbv
            refine shape16 (z := 0) (t := 0) ⟨rfl⟩ (by omega) h' (fun h6 sb sn sc nm o l6 hnm ho qs => ?_)
            rw [← hcE] at qs
            cbv
            refine ag _ _ l6 ?_
            cbv
            refine ⟨⟨_, rfl, rfl⟩, ?_⟩
            cbv
            refine fit22 qs (by omega) x hxo (fun h7 fb fn fc l7 hf' => ?_)
            have hf : Sl 68 shVal h7 (.slice fb fn fc) r := by rw [hr]; exact hf'.sl
            cbv
            refine put23F (hqM.mono (l6.trans l7)) (mnok hHM hSO) (by decide) 0 (by decide) nTa hf hp (fun h8 b1 n1 c1 b2 n2 c2 b3 n3 c3 b4 n4 c4 l8 q8' => ?_)
            have q8 : RDB h8 (.agg #[.slice b1 n1 c1, .slice b2 n2 c2, .slice b3 n3 c3, .slice b4 n4 c4]) (MN R' L' M [hX 0]) := q8'
            clear q8'
            have l68 := (l6.trans l7).trans l8
            have hI3 : I (40 - (i + 1)) (A .ari .add .i64 z 1, ⟨b1, n1, c1, b2, n2, c2, b3, n3, c3, b4, n4, c4⟩, y1, y2, y3) h8 := by
              rw [hI0]
              exact ⟨i + 1, R', L', M, _, hnx, rfl, by omega, by omega, hleM.trans l68, q8, .inr (.inl rfl), hSO', (hMs.mono l68).step hst⟩
            cbv
            refine ⟨40 - (i + 1), (_, ⟨b1, n1, c1, b2, n2, c2, b3, n3, c3, b4, n4, c4⟩, y1, y2, y3), by omega, ⟨?_, ?_, ?_⟩, hI3⟩
            · cbv
            · cbv
            · cbv
          | false =>
            obtain ⟨R', L', e', hRe, hSO', hst⟩ := takeR_U (L := L) (a := ra) hSO
            have hp0 := mntake (R := R) (L := L) (M := M) hHM ⟨2, ra, noS⟩
            rw [hRe] at hp0
            have hp : takeF (MN R L M _) 0 nTa ⟨2, ra, noS⟩ = (MN R' L' M [hX 0], e') := hp0
            clear hp0 hRe
            cbv
            refine ⟨hck, ?_⟩
            cbv
            refine (q.mono hleM).loadP hx hze (fun cs hcs ag => ?_)
            have hcs : cs = [.int .i64 x] := hcs
            subst hcs
            cbv
            refine shape16 (z := 0) (t := 0) ⟨rfl⟩ (by omega) h' (fun h6 sb sn sc nm o l6 hnm ho qs => ?_)
            rw [← hcE] at qs
            cbv
            refine ag _ _ l6 ?_
            cbv
            refine ⟨⟨_, rfl, rfl⟩, ?_⟩
            cbv
            refine fit22 qs (by omega) x hxo (fun h7 fb fn fc l7 hf' => ?_)
            have hf : Sl 68 shVal h7 (.slice fb fn fc) r := by rw [hr]; exact hf'.sl
            have hfn : fn = 2 := by rw [hf.len, hrl]
            have hckf : fb.isSome = true ∧ (0 : Int) ≤ 0 ∧ (0 : Int) < (fn : Int) := ⟨hf.isSm (by omega), by omega, by omega⟩
            cbv
            refine ⟨hckf, ?_⟩
            cbv
            refine hf.load hg0 (n := 0) rfl (fun cs hcs => ?_)
            have hcs : cs = [.int .i64 2, .int .i64 ra, .string noS] := hcs
            subst hcs
            cbv
            refine take24F (hqM.mono (l6.trans l7)) (mnok hHM hSO) (by decide) 0 (by decide) nTa ⟨2, ra, noS⟩ hp (fun h8 b1 n1 c1 b2 n2 c2 b3 n3 c3 b4 n4 c4 l8 q8' => ?_)
            have q8 : RDB h8 (.agg #[.slice b1 n1 c1, .slice b2 n2 c2, .slice b3 n3 c3, .slice b4 n4 c4]) (MN R' L' M [hX 0]) := q8'
            clear q8'
            have l68 := (l6.trans l7).trans l8
            have hI3 : I (40 - (i + 1)) (A .ari .add .i64 z 1, ⟨b1, n1, c1, b2, n2, c2, b3, n3, c3, b4, n4, c4⟩, y1, y2, y3) h8 := by
              rw [hI0]
              exact ⟨i + 1, R', L', M, _, hnx, rfl, by omega, by omega, hleM.trans l68, q8, .inr (.inl rfl), hSO', (hMs.mono l68).step hst⟩
            cbv
            refine ⟨40 - (i + 1), (_, ⟨b1, n1, c1, b2, n2, c2, b3, n3, c3, b4, n4, c4⟩, y1, y2, y3), by omega, ⟨?_, ?_, ?_⟩, hI3⟩
            · cbv
            · cbv
            · cbv
    · have g1 : A .icm .geq zc (A .nat len) = decide (len ≤ C) := nat_ge hzc len
      have g2 : A .icm .geq zc 40 = decide (40 ≤ C) := by
        have e2 := hzc.eq
        rw [hA.icm]; simp only [icm]; rw [decide_eq_decide]; omega
      have hnn : i = len ∨ i = 40 := by omega
      by_cases hc1 : i < len
      · have hc2 : ¬ i < 40 := fun h => hno ⟨hc1, h⟩
        rw [decide_eq_true hc1] at f1
        rw [decide_eq_false hc2] at f2
        by_cases hCl : len ≤ C
        · rw [decide_eq_true hCl] at g1
          have hM0 := hMst.none (by omega : i ≤ C)
          subst hM0
          cbv
          rw [f1]
          cbv
          rw [f2]
          cbv
          rw [g1]
          cbv
          refine back32K hq (mnok hH hSO) 0 nHere (mnback0 (R := R) (L := L) (H := H)) (fun h9 b1 n1 c1 b2 n2 c2 b3 n3 c3 b4 n4 c4 l9 _ => ?_)
          have hfin : Le h h9 ∧ Value.bool true = .bool true := ⟨hle.trans l9, rfl⟩
          cbv
          rw [e22]
          exact hfin
        · rw [decide_eq_false hCl] at g1
          by_cases hC40 : 40 ≤ C
          · rw [decide_eq_true hC40] at g2
            have hM0 := hMst.none (by omega : i ≤ C)
            subst hM0
            cbv
            rw [f1]
            cbv
            rw [f2]
            cbv
            rw [g1]
            cbv
            rw [g2]
            cbv
            refine back32K hq (mnok hH hSO) 0 nHere (mnback0 (R := R) (L := L) (H := H)) (fun h9 b1 n1 c1 b2 n2 c2 b3 n3 c3 b4 n4 c4 l9 _ => ?_)
            have hfin : Le h h9 ∧ Value.bool true = .bool true := ⟨hle.trans l9, rfl⟩
            cbv
            rw [e22]
            exact hfin
          · rw [decide_eq_false hC40] at g2
            have hCi : C < i := by omega
            cbv
            rw [f1]
            cbv
            rw [f2]
            cbv
            rw [g1]
            cbv
            rw [g2]
            cbv
            obtain ⟨R0, n, l, hM, hl, hBk, hSO0, qat⟩ := hMst.some hCi
            obtain ⟨I2, hI20⟩ : ∃ I : Nat → (Int × W12) → Heap → Prop, ∀ m g h2, I m g h2 = ∃ (k : Nat) (R : List Row) (L : List Chg) (l : List Mrk) (H : List Hld), IsN g.1 k ∧ m = 3 - k ∧ k ≤ 3 ∧ Le h' h2 ∧ RDB h2 g.2.val (MN R L (⟨nHere, (n : Int)⟩ :: l) H) ∧ HH H ∧ SO R ∧ Bk R L R0 n ∧ (∀ x ∈ l, x.name = nLater) ∧ (0 < k → l = []) := ⟨_, fun _ _ _ => rfl⟩
            cbv
            refine LoopX.go (G := Int × W12) (fun g => [(16, .v (.int .i64 g.1))]) (fun g => [(7, [.slice g.2.b1 g.2.n1 g.2.c1, .slice g.2.b2 g.2.n2 g.2.c2, .slice g.2.b3 g.2.n3 g.2.c3, .slice g.2.b4 g.2.n4 g.2.c4]), (8, [.slice d1 m1 e1, .slice d2 m2 e2, .slice d3 m3 e3, .slice d4 m4 e4])])
              (fun m g h' => I2 m g h') 3 (0, ⟨b1, n1, c1, b2, n2, c2, b3, n3, c3, b4, n4, c4⟩) ⟨?_, ?_, ?_⟩ (by rw [hI20]; exact ⟨0, R, L, l, H, ⟨rfl⟩, rfl, by omega, Le.refl _, by rw [← hM]; exact hq, hH, hSO, hBk, hl, fun h => absurd h (Nat.lt_irrefl 0)⟩) ?_
            · cbv
            · cbv
            · cbv
            · intro m g h2 hI
              rw [hI20] at hI
              cbv
              clear hq hM hMst hSO hBk hH hl
              obtain ⟨k, R, L, l, H, hz2, hm2, hk, hle2, hq, hH, hSO, hBk, hl, hkl⟩ := hI
              obtain ⟨z2, ⟨b1, n1, c1, b2, n2, c2, b3, n3, c3, b4, n4, c4⟩⟩ := g
              have hz2 : IsN z2 k := hz2
              have hq : RDB h2 (.agg #[.slice b1 n1 c1, .slice b2 n2 c2, .slice b3 n3 c3, .slice b4 n4 c4]) (MN R L (⟨nHere, (n : Int)⟩ :: l) H) := hq
              refine within15 again 3 (by omega) (by omega) h2 (fun zk kk hzk hkk hk3 => ?_)
              have hN1 : IsN (A .ari .add .i64 1 zk) (1 + kk) := IsN.add (z := 1) (i := 1) ⟨rfl⟩ hzk (by omega)
              have g3 : A .icm .lss z2 (A .ari .add .i64 1 zk) = decide (k < 1 + kk) := hz2.lt2 hN1
              cbv
              rw [g3]
              by_cases hck2 : k < 1 + kk
              · rw [decide_eq_true hck2]
                have hb := mnback hBk (H := H) hl
                obtain ⟨MK, hMK⟩ : ∃ M, M = ([⟨nHere, (n : Int)⟩] : List Mrk) := ⟨_, rfl⟩
                obtain ⟨LT, hLT⟩ : ∃ L', L' = L.take n := ⟨_, rfl⟩
                have hBk2 := hBk.cut
                rw [← hMK, ← hLT] at hb
                rw [← hLT] at hBk2
                obtain ⟨H2, hH2, hrw⟩ := mnrows (R := R0) (L := LT) (M := MK) hH
                have hro : RowOk (rowN (A .ari .add .i64 1000 z2)) := rowN_ok _
                obtain ⟨r, hr⟩ : ∃ r, r = rowN (A .ari .add .i64 1000 z2) := ⟨_, rfl⟩
                rw [← hr] at hro
                obtain ⟨R', L', e', hRe, hSO', hst⟩ := putR_U (L := LT) hSO0 hro
                have hp0 := mnput (R := R0) (L := LT) (M := MK) hH r
                rw [hRe] at hp0
                have hp : putF (MN R0 LT MK H) 0 nTa r = (MN R' L' MK [hX 0], e') := hp0
                clear hp0 hRe
                have hwk := mnwork R0 LT MK H
                have hnx := hz2.succ (A := A) (by omega)
                have hMKl : MK.length = 1 := by rw [hMK]; rfl
                cbv
                refine back32K hq (mnok hH hSO) 0 nHere hb (fun h5 b1 n1 c1 b2 n2 c2 b3 n3 c3 b4 n4 c4 l5 q5' => ?_)
                have q5 : RDB h5 (.agg #[.slice b1 n1 c1, .slice b2 n2 c2, .slice b3 n3 c3, .slice b4 n4 c4]) (MN R0 LT MK H) := q5'
                clear q5'
                cbv
                refine rows31K q5 (mnok hH hSO0) (by decide) 0 (by decide) nTa hrw (fun h6 f1 p1 g1 f2 p2 g2 f3 p3 g3 f4 p4 g4 f5 p5 g5 l6 q6' qr' => ?_)
                have qr : Sl 63 shRow h6 (.slice f5 p5 g5) R0 := qr'
                clear q6' qr'
                have qat6 := qat.mono (((hle2.trans l5).trans l6).t _)
                have q6 := q5.mono l6
                obtain ⟨ws, hws, hwm⟩ := q6.worksP
                obtain ⟨⟨w', wf⟩, hw'⟩ := get_ex (xs := ws) (i := 0) (by have := congrArg List.length hwm; rw [List.length_map, hwk.2] at this; omega)
                have hww : w' = ⟨0, LT, MK⟩ := by
                  have : (ws.map (·.1))[0]? = some w' := by rw [List.getElem?_map, hw']; rfl
                  rw [hwm, hwk.1] at this
                  cases this; rfl
                subst hww
                have hn2 : n2 = 1 := by rw [hws.len, ← hwk.2, ← hwm, List.length_map]
                have hckw : b2.isSome = true ∧ (0 : Int) ≤ 0 ∧ (0 : Int) < (n2 : Int) := ⟨hws.isSm (by omega), by omega, by omega⟩
                cbv
                rw [n00]
                cbv
                rw [n00]
                cbv
                refine rows33 qr qat6 ?_
                cbv
                rw [hnot1]
                cbv
                refine ⟨hckw, ?_⟩
                cbv
                refine ld_marks hws hw' (n := 0) rfl (fun u1 u2 u3 qm _ => ?_)
                have hu2 : u2 = 1 := by rw [qm.len]; exact hMKl
                have hne : A .icm .neq (A .nat u2) 1 = false := by rw [hu2]; exact n11
                cbv
                rw [hne]
                cbv
                intro n7 h7 g7 e7
                have l7 : Le h6 h7 := by rw [e7]; exact Le.set g7
                have f7 := (congrFun e7 n7).trans hset_self
                have qrow : Sl 68 shVal h7 (.slice (some ⟨n7, 0, none⟩) 2 2) r := by
                  rw [hr]
                  refine Sl.fresh (α := Val) (s := shVal) (xs := [⟨2, A .ari .add .i64 1000 z2, noS⟩, ⟨0, 0, noS⟩]) f7 ⟨by simp [shVal], fun j y hj => ?_⟩ (by simp) (by simp)
                  match j, hj with
                  | 0, hj => simp at hj; subst hj; rfl
                  | 1, hj => simp at hj; subst hj; rfl
                  | j + 2, hj => simp at hj
                cbv
                refine put23F (q6.mono l7) (mnok hH hSO0) (by decide) 0 (by decide) nTa qrow hp (fun h8 b1 n1 c1 b2 n2 c2 b3 n3 c3 b4 n4 c4 l8 q8' => ?_)
                have q8 : RDB h8 (.agg #[.slice b1 n1 c1, .slice b2 n2 c2, .slice b3 n3 c3, .slice b4 n4 c4]) (MN R' L' MK [hX 0]) := q8'
                clear q8'
                have l28 := (((hle2.trans l5).trans l6).trans l7).trans l8
                have hI3 : I2 (3 - (k + 1)) (A .ari .add .i64 z2 1, ⟨b1, n1, c1, b2, n2, c2, b3, n3, c3, b4, n4, c4⟩) h8 := by
                  rw [hI20]
                  exact ⟨k + 1, R', L', [], _, hnx, rfl, by omega, l28, by rw [← hMK]; exact q8, .inr (.inl rfl), hSO', hBk2.step hst, by simp, fun _ => rfl⟩
                cbv
                refine ⟨3 - (k + 1), (_, ⟨b1, n1, c1, b2, n2, c2, b3, n3, c3, b4, n4, c4⟩), by omega, ⟨?_, ?_, ?_⟩, hI3⟩
                · cbv
                · cbv
                · cbv
              · have hk1 : 0 < k := by omega
                have hl0 := hkl hk1
                subst hl0
                rw [decide_eq_false hck2]
                cbv
                refine back32K hq (mnok hH hSO) 0 nLater (mnback2 (R := R) (L := L) (H := H)) (fun h9 b1 n1 c1 b2 n2 c2 b3 n3 c3 b4 n4 c4 l9 _ => ?_)
                have hfin : Le h h9 ∧ Value.bool true = .bool true := ⟨(hle.trans hle2).trans l9, rfl⟩
                cbv
                rw [e22]
                exact hfin
      · rw [decide_eq_false hc1] at f1
        by_cases hCl : len ≤ C
        · rw [decide_eq_true hCl] at g1
          have hM0 := hMst.none (by omega : i ≤ C)
          subst hM0
          cbv
          rw [f1]
          cbv
          rw [g1]
          cbv
          refine back32K hq (mnok hH hSO) 0 nHere (mnback0 (R := R) (L := L) (H := H)) (fun h9 b1 n1 c1 b2 n2 c2 b3 n3 c3 b4 n4 c4 l9 _ => ?_)
          have hfin : Le h h9 ∧ Value.bool true = .bool true := ⟨hle.trans l9, rfl⟩
          cbv
          rw [e22]
          exact hfin
        · rw [decide_eq_false hCl] at g1
          by_cases hC40 : 40 ≤ C
          · rw [decide_eq_true hC40] at g2
            have hM0 := hMst.none (by omega : i ≤ C)
            subst hM0
            cbv
            rw [f1]
            cbv
            rw [g1]
            cbv
            rw [g2]
            cbv
            refine back32K hq (mnok hH hSO) 0 nHere (mnback0 (R := R) (L := L) (H := H)) (fun h9 b1 n1 c1 b2 n2 c2 b3 n3 c3 b4 n4 c4 l9 _ => ?_)
            have hfin : Le h h9 ∧ Value.bool true = .bool true := ⟨hle.trans l9, rfl⟩
            cbv
            rw [e22]
            exact hfin
          · rw [decide_eq_false hC40] at g2
            have hCi : C < i := by omega
            cbv
            rw [f1]
            cbv
            rw [g1]
            cbv
            rw [g2]
            cbv
            obtain ⟨R0, n, l, hM, hl, hBk, hSO0, qat⟩ := hMst.some hCi
            obtain ⟨I2, hI20⟩ : ∃ I : Nat → (Int × W12) → Heap → Prop, ∀ m g h2, I m g h2 = ∃ (k : Nat) (R : List Row) (L : List Chg) (l : List Mrk) (H : List Hld), IsN g.1 k ∧ m = 3 - k ∧ k ≤ 3 ∧ Le h' h2 ∧ RDB h2 g.2.val (MN R L (⟨nHere, (n : Int)⟩ :: l) H) ∧ HH H ∧ SO R ∧ Bk R L R0 n ∧ (∀ x ∈ l, x.name = nLater) ∧ (0 < k → l = []) := ⟨_, fun _ _ _ => rfl⟩
            cbv
            refine LoopX.go (G := Int × W12) (fun g => [(16, .v (.int .i64 g.1))]) (fun g => [(7, [.slice g.2.b1 g.2.n1 g.2.c1, .slice g.2.b2 g.2.n2 g.2.c2, .slice g.2.b3 g.2.n3 g.2.c3, .slice g.2.b4 g.2.n4 g.2.c4]), (8, [.slice d1 m1 e1, .slice d2 m2 e2, .slice d3 m3 e3, .slice d4 m4 e4])])
              (fun m g h' => I2 m g h') 3 (0, ⟨b1, n1, c1, b2, n2, c2, b3, n3, c3, b4, n4, c4⟩) ⟨?_, ?_, ?_⟩ (by rw [hI20]; exact ⟨0, R, L, l, H, ⟨rfl⟩, rfl, by omega, Le.refl _, by rw [← hM]; exact hq, hH, hSO, hBk, hl, fun h => absurd h (Nat.lt_irrefl 0)⟩) ?_
            · cbv
            · cbv
            · cbv
            · intro m g h2 hI
              rw [hI20] at hI
              cbv
              clear hq hM hMst hSO hBk hH hl
              obtain ⟨k, R, L, l, H, hz2, hm2, hk, hle2, hq, hH, hSO, hBk, hl, hkl⟩ := hI
              obtain ⟨z2, ⟨b1, n1, c1, b2, n2, c2, b3, n3, c3, b4, n4, c4⟩⟩ := g
              have hz2 : IsN z2 k := hz2
              have hq : RDB h2 (.agg #[.slice b1 n1 c1, .slice b2 n2 c2, .slice b3 n3 c3, .slice b4 n4 c4]) (MN R L (⟨nHere, (n : Int)⟩ :: l) H) := hq
              refine within15 again 3 (by omega) (by omega) h2 (fun zk kk hzk hkk hk3 => ?_)
              have hN1 : IsN (A .ari .add .i64 1 zk) (1 + kk) := IsN.add (z := 1) (i := 1) ⟨rfl⟩ hzk (by omega)
              have g3 : A .icm .lss z2 (A .ari .add .i64 1 zk) = decide (k < 1 + kk) := hz2.lt2 hN1
              cbv
              rw [g3]
              by_cases hck2 : k < 1 + kk
              · rw [decide_eq_true hck2]
                have hb := mnback hBk (H := H) hl
                obtain ⟨MK, hMK⟩ : ∃ M, M = ([⟨nHere, (n : Int)⟩] : List Mrk) := ⟨_, rfl⟩
                obtain ⟨LT, hLT⟩ : ∃ L', L' = L.take n := ⟨_, rfl⟩
                have hBk2 := hBk.cut
                rw [← hMK, ← hLT] at hb
                rw [← hLT] at hBk2
                obtain ⟨H2, hH2, hrw⟩ := mnrows (R := R0) (L := LT) (M := MK) hH
                have hro : RowOk (rowN (A .ari .add .i64 1000 z2)) := rowN_ok _
                obtain ⟨r, hr⟩ : ∃ r, r = rowN (A .ari .add .i64 1000 z2) := ⟨_, rfl⟩
                rw [← hr] at hro
                obtain ⟨R', L', e', hRe, hSO', hst⟩ := putR_U (L := LT) hSO0 hro
                have hp0 := mnput (R := R0) (L := LT) (M := MK) hH r
                rw [hRe] at hp0
                have hp : putF (MN R0 LT MK H) 0 nTa r = (MN R' L' MK [hX 0], e') := hp0
                clear hp0 hRe
                have hwk := mnwork R0 LT MK H
                have hnx := hz2.succ (A := A) (by omega)
                have hMKl : MK.length = 1 := by rw [hMK]; rfl
                cbv
                refine back32K hq (mnok hH hSO) 0 nHere hb (fun h5 b1 n1 c1 b2 n2 c2 b3 n3 c3 b4 n4 c4 l5 q5' => ?_)
                have q5 : RDB h5 (.agg #[.slice b1 n1 c1, .slice b2 n2 c2, .slice b3 n3 c3, .slice b4 n4 c4]) (MN R0 LT MK H) := q5'
                clear q5'
                cbv
                refine rows31K q5 (mnok hH hSO0) (by decide) 0 (by decide) nTa hrw (fun h6 f1 p1 g1 f2 p2 g2 f3 p3 g3 f4 p4 g4 f5 p5 g5 l6 q6' qr' => ?_)
                have qr : Sl 63 shRow h6 (.slice f5 p5 g5) R0 := qr'
                clear q6' qr'
                have qat6 := qat.mono (((hle2.trans l5).trans l6).t _)
                have q6 := q5.mono l6
                obtain ⟨ws, hws, hwm⟩ := q6.worksP
                obtain ⟨⟨w', wf⟩, hw'⟩ := get_ex (xs := ws) (i := 0) (by have := congrArg List.length hwm; rw [List.length_map, hwk.2] at this; omega)
                have hww : w' = ⟨0, LT, MK⟩ := by
                  have : (ws.map (·.1))[0]? = some w' := by rw [List.getElem?_map, hw']; rfl
                  rw [hwm, hwk.1] at this
                  cases this; rfl
                subst hww
                have hn2 : n2 = 1 := by rw [hws.len, ← hwk.2, ← hwm, List.length_map]
                have hckw : b2.isSome = true ∧ (0 : Int) ≤ 0 ∧ (0 : Int) < (n2 : Int) := ⟨hws.isSm (by omega), by omega, by omega⟩
                cbv
                rw [n00]
                cbv
                rw [n00]
                cbv
                refine rows33 qr qat6 ?_
                cbv
                rw [hnot1]
                cbv
                refine ⟨hckw, ?_⟩
                cbv
                refine ld_marks hws hw' (n := 0) rfl (fun u1 u2 u3 qm _ => ?_)
                have hu2 : u2 = 1 := by rw [qm.len]; exact hMKl
                have hne : A .icm .neq (A .nat u2) 1 = false := by rw [hu2]; exact n11
                cbv
                rw [hne]
                cbv
                intro n7 h7 g7 e7
                have l7 : Le h6 h7 := by rw [e7]; exact Le.set g7
                have f7 := (congrFun e7 n7).trans hset_self
                have qrow : Sl 68 shVal h7 (.slice (some ⟨n7, 0, none⟩) 2 2) r := by
                  rw [hr]
                  refine Sl.fresh (α := Val) (s := shVal) (xs := [⟨2, A .ari .add .i64 1000 z2, noS⟩, ⟨0, 0, noS⟩]) f7 ⟨by simp [shVal], fun j y hj => ?_⟩ (by simp) (by simp)
                  match j, hj with
                  | 0, hj => simp at hj; subst hj; rfl
                  | 1, hj => simp at hj; subst hj; rfl
                  | j + 2, hj => simp at hj
                cbv
                refine put23F (q6.mono l7) (mnok hH hSO0) (by decide) 0 (by decide) nTa qrow hp (fun h8 b1 n1 c1 b2 n2 c2 b3 n3 c3 b4 n4 c4 l8 q8' => ?_)
                have q8 : RDB h8 (.agg #[.slice b1 n1 c1, .slice b2 n2 c2, .slice b3 n3 c3, .slice b4 n4 c4]) (MN R' L' MK [hX 0]) := q8'
                clear q8'
                have l28 := (((hle2.trans l5).trans l6).trans l7).trans l8
                have hI3 : I2 (3 - (k + 1)) (A .ari .add .i64 z2 1, ⟨b1, n1, c1, b2, n2, c2, b3, n3, c3, b4, n4, c4⟩) h8 := by
                  rw [hI20]
                  exact ⟨k + 1, R', L', [], _, hnx, rfl, by omega, l28, by rw [← hMK]; exact q8, .inr (.inl rfl), hSO', hBk2.step hst, by simp, fun _ => rfl⟩
                cbv
                refine ⟨3 - (k + 1), (_, ⟨b1, n1, c1, b2, n2, c2, b3, n3, c3, b4, n4, c4⟩), by omega, ⟨?_, ?_, ?_⟩, hI3⟩
                · cbv
                · cbv
                · cbv
              · have hk1 : 0 < k := by omega
                have hl0 := hkl hk1
                subst hl0
                rw [decide_eq_false hck2]
                cbv
                refine back32K hq (mnok hH hSO) 0 nLater (mnback2 (R := R) (L := L) (H := H)) (fun h9 b1 n1 c1 b2 n2 c2 b3 n3 c3 b4 n4 c4 l9 _ => ?_)
                have hfin : Le h h9 ∧ Value.bool true = .bool true := ⟨(hle.trans hle2).trans l9, rfl⟩
                cbv
                rw [e22]
                exact hfin
end Go.S

