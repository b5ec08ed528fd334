import Derived.Test.YtnfijhlegoagjaaGreatI2b
import Derived.Test.YtnfijhlegoagjaaGreatH3
import Derived.Test.YtnfijhlegoagjaaGreatEC
set_option linter.unusedVariables false
set_option linter.unusedSimpArgs false
set_option linter.unusedSectionVars false
set_option maxRecDepth 100000
set_option maxHeartbeats 16000000
set_option linter.unusedVariables false
set_option linter.unusedSimpArgs false
namespace Go.S
open Go.Sx Go.Proofs

theorem log7 {h : Heap} {b : Option Addr} {len cap : Nat} {xs : List Act1} (q : SlB shAct h (.slice b len cap) xs) (hxs : ∀ x ∈ xs, ActOk x) : Ct 7 [.slice b len cap] h (fun v h' => Le h h' ∧ v = .bool true) := by
  obtain ⟨A, hA⟩ := Ar.ex
  have hlen := q.len
  have hnot1 : A .not true = false := by rw [hA.not]; rfl
  have e00 : A .icm .eql 0 0 = true := by rw [icm_eql A]; rfl
  have ene : ∀ e : Int, e ≠ 0 → A .icm .eql e 0 = false := fun e he => by rw [icm_eql A]; exact decide_eq_false he
  have hbeg : beginD startE 2 = (mnD 2 [] [] [] [], 0) := begin_start 2 (by decide)
  have mnok := fun (R : List Row) (L : List Chg) (H : List Hld) => @mn_ok 2 (by decide) R L [] H
  have mnput := fun (R : List Row) (L : List Chg) (H : List Hld) => @putF_mn2 R L [] H
  have mntake := fun (R : List Row) (L : List Chg) (H : List Hld) => @takeF_mn2 R L [] H
  have mncommit := fun R L H => @mn_commit2 R L H
  have mnt0 : ∀ R L H, (mnD 2 R L [] H).tabs[0]? = some ⟨shapeS 0, R⟩ ∧ (mnD 2 R L [] H).tabs.length = 3 := fun _ _ _ => ⟨rfl, rfl⟩
  obtain ⟨cE, hcE⟩ : ∃ c, c = shColsE := ⟨_, rfl⟩
  have hcl : cE.length = 2 := by rw [hcE]; rfl
  have hfo : ∀ n, RowOk (fitL cE n cE.length) := fun n => by rw [hcl, hcE]; exact fit_ok n
  obtain ⟨MN, hMN⟩ : ∃ M, M = mnD 2 := ⟨_, rfl⟩
  rw [← hMN] at hbeg mnok mnput mntake mncommit mnt0
  clear hMN
  have veq : ∀ (s : ByteArray) (x y : Int), A .and (A .icm .eql 2 2) (A .and (A .icm .eql x y) (A .and (A .scm .eql s s) true)) = decide (x = y) := fun s x y => by
    rw [hA.and, icm_eql A, icm_eql A, scm_eql A]; simp
  obtain ⟨I, hI0⟩ : ∃ I : Nat → (Int × W12 × Option Addr × Nat × Nat) → Heap → Prop, ∀ m g h', I m g h' = ∃ (i : Nat) (R : List Row) (L : List Chg) (H : List Hld) (hD : Heap), IsN g.1 i ∧ m = 50 - i ∧ i ≤ 50 ∧ Le h h' ∧ Le hD h' ∧ RDB hD g.2.1.val (MN R L [] H) ∧ (H = [] ∨ H = [hX 2]) ∧ SR R ∧ R.length ≤ 200 ∧ L.length ≤ i ∧ BufS 77 shChg hD h h' (.slice g.2.2.1 g.2.2.2.1 g.2.2.2.2) L := ⟨_, fun _ _ _ => rfl⟩
  refine fn_of_sx A (tabOk T7.plan T7.pub) Tryz.func7 rfl (by kernel_rfl) ?_
  cbv
  refine (known14 h).mono (fun v h0 hR => ?_)
  obtain ⟨l0, rfl⟩ := hR
  cbv
  rw [hnot1]
  cbv
  refine begun21 2 hbeg (fun h1 b1 n1 c1 b2 n2 c2 b3 n3 c3 b4 n4 c4 l1' q1' => ?_)
  have q1 : RDB h1 (.agg #[.slice b1 n1 c1, .slice b2 n2 c2, .slice b3 n3 c3, .slice b4 n4 c4]) (MN [] [] [] []) := q1'
  clear q1'
  have l1 := l0.trans l1'
  cbv
  refine LoopX.go (G := Int × W12 × Option Addr × Nat × Nat) (fun g => [(5, .v (.int .i64 g.1)), (4, .v (.slice g.2.2.1 g.2.2.2.1 g.2.2.2.2))]) (fun g => [(3, [.slice g.2.1.b1 g.2.1.n1 g.2.1.c1, .slice g.2.1.b2 g.2.1.n2 g.2.1.c2, .slice g.2.1.b3 g.2.1.n3 g.2.1.c3, .slice g.2.1.b4 g.2.1.n4 g.2.1.c4])])
    (fun m g h' => I m g h') 50 (0, ⟨b1, n1, c1, b2, n2, c2, b3, n3, c3, b4, n4, c4⟩, none, 0, 0) ⟨?_, ?_, ?_⟩ (by rw [hI0]; exact ⟨0, [], [], [], h1, ⟨rfl⟩, rfl, by omega, l1, Le.refl _, q1, .inl rfl, SR.nil, by simp, by simp, ⟨.inl ⟨_, rfl, rfl⟩⟩⟩) ?_
  · cbv
  · cbv
  · cbv
  · intro m g h' hI
    rw [hI0] at hI
    cbv
    obtain ⟨i, R, L, H, hD, hz, hm, hi, hle, hlD, hq, hH, hSR, hRl, hLl, hb⟩ := hI
    obtain ⟨z, ⟨b1, n1, c1, b2, n2, c2, b3, n3, c3, b4, n4, c4⟩, y1, y2, y3⟩ := g
    have hz : IsN z i := hz
    have hq : RDB hD (.agg #[.slice b1 n1 c1, .slice b2 n2 c2, .slice b3 n3 c3, .slice b4 n4 c4]) (MN R L [] H) := hq
    have hb : BufS 77 shChg hD h h' (.slice y1 y2 y3) L := hb
    have hyl : y2 = L.length := hb.sl.len
    have ok := mnok R L H hH (by omega)
    have hput := fun r => mnput R L H hH r
    have htake := fun k => mntake R L H hH k
    have hcm := mncommit R L H hH
    have ht0 := mnt0 R L H
    have f1 : A .icm .lss z (A .nat len) = decide (i < len) := hz.lt2 (IsN.nat len)
    have f2 : A .icm .lss z 50 = decide (i < 50) := hz.lt2 (w := 50) (j := 50) ⟨rfl⟩
    have hend : ∀ P : Prop, (i < len ∧ i < 50 → P) → (¬ (i < len ∧ i < 50) → P) → P := fun P a b => by
      by_cases h : i < len ∧ i < 50
      · exact a h
      · exact b h
    refine hend _ (fun ⟨hc1, hc2⟩ => ?_) (fun hno => ?_)
    · rw [decide_eq_true hc1] at f1
      rw [decide_eq_true hc2] at f2
      obtain ⟨⟨xk, xs', xt, xn, xx⟩, hx⟩ := get_ex (xs := xs) (i := i) (by omega)
      have hxo := hxs _ (List.mem_of_getElem? hx)
      have hxn : -2 ^ 63 ≤ xn ∧ xn < 2 ^ 63 := hxo.n
      have hck : b.isSome = true ∧ 0 ≤ z ∧ z < (len : Int) := ⟨q.isSm (by omega), hz.ix hc1⟩
      have hze := hz.eq
      have hnx := hz.succ (A := A) (by omega)
      obtain ⟨r, hr⟩ : ∃ r, r = fitL cE xn cE.length := ⟨_, rfl⟩
      have hro : RowOk r := by rw [hr]; exact hfo xn
      have hro' := hro
      obtain ⟨ra, rv, hre, -⟩ := hro'
      have hrl : r.length = 2 := by rw [hre]; rfl
      have hg0 : r[0]? = some ⟨2, ra, noS⟩ := by rw [hre]; rfl
      cbv
      rw [f1]
      cbv
      rw [f2]
      cbv
      refine ⟨hck, ?_⟩
      cbv
      refine (q.mono hle).loadFP hx hze (o := 3) (m := 1) (by decide) (fun cs hcs ag => ?_)
      have hcs : cs = [.int .i64 xk, .int .i64 xs', .int .i64 xt, .int .i64 xn, .bool xx] := hcs
      subst hcs
      cbv
      refine shape16S hlD (z := 0) (t := 0) ⟨rfl⟩ (by omega) (fun hD2 h2 sb sn sc nm o l2D l2 fr2 hnm ho qs => ?_)
      have lh2 := fr2.le hlD l2D l2
      rw [← hcE] at qs
      cbv
      refine ag _ _ lh2 ?_
      cbv
      refine ⟨⟨_, rfl, rfl⟩, ?_⟩
      cbv
      refine fit22S l2 qs (by omega) xn hxn (fun hD3 h3 fb fn fc l3D l3 fr3 hf' => ?_)
      have hfD : Sl 68 shVal hD3 (.slice fb fn fc) r := by rw [hr]; exact hf'
      have hf := hfD.mono (l3.t [68])
      have lh3 := lh2.trans (fr3.le l2 l3D l3)
      have fr23 := fr2.trans fr3
      have lDD := l2D.trans l3D
      have hfn : fn = 2 := by rw [hf.len, hrl]
      have hckf : fb.isSome = true ∧ (0 : Int) ≤ 0 ∧ (0 : Int) < (fn : Int) := ⟨hf.isSm (by omega), by omega, by omega⟩
      have hq3 := hq.mono lDD
      have hb3 := hb.call lh3 fr23
      have hle3 := hle.trans lh3
      cbv
      refine ⟨hck, ?_⟩
      cbv
      refine (q.mono hle3).loadFP hx hze (o := 0) (m := 1) (by decide) (fun cs hcs _ => ?_)
      have hcs : cs = [.int .i64 xk, .int .i64 xs', .int .i64 xt, .int .i64 xn, .bool xx] := hcs
      subst hcs
      cbv
      refine within15 xk 3 (by omega) (by omega) h3 (fun zk kk hzk hkk hk3 => ?_)
      cbv
      generalize A .icm .eql zk 2 = uk
      cases uk with
      | true =>
        have qt := hq3.tabsP.mono (l3.t _)
        have hn1 : n1 = 3 := by rw [qt.len]; exact ht0.2
        have hck0 : b1.isSome = true ∧ (0 : Int) ≤ 0 ∧ (0 : Int) < (n1 : Int) := ⟨qt.isSm (by omega), by omega, by omega⟩
        have hp := htake ⟨2, ra, noS⟩
        obtain ⟨R', L', e', hRe, hSR', hRl', hcase⟩ := takeR_SR (L := L) (a := ra) hSR hRl
        rw [hRe] at hp
        have hp : takeF (MN R L [] H) 2 nTa ⟨2, ra, noS⟩ = (MN R' L' [] [hX 2], e') := hp
        cbv
        refine ⟨hck0, ?_⟩
        cbv
        refine qt.loadF ht0.1 (n := 0) rfl (o := 4) (m := 1) (by decide) (fun cs hcs => ?_)
        obtain ⟨_, _, _, x4, x5, x6, rfl, -, s2⟩ := hcs
        have s2 : Sl 63 shRow h3 (.slice x4 x5 x6) R := s2
        have hx5 : x5 = R.length := s2.len
        cbv
        refine ⟨hckf, ?_⟩
        cbv
        refine hf.load hg0 (n := 0) rfl (fun cs hcs => ?_)
        have hcs : cs = [.int .i64 2, .int .i64 ra, .string noS] := hcs
        subst hcs
        cbv
        refine db_frm l3 (D := (MN R' L' [] [hX 2], e')) (fun hD4 h4 d1 m1 e1 d2 m2 e2 d3 m3 e3 d4 m4 e4 l4D l4 fr4 q4' => ?_) (fun k' hk' => take24F hq3 ok (by decide) 2 (by decide) nTa ⟨2, ra, noS⟩ hp hk')
        have q4 : RDB hD4 (.agg #[.slice d1 m1 e1, .slice d2 m2 e2, .slice d3 m3 e3, .slice d4 m4 e4]) (MN R' L' [] [hX 2]) := q4'
        clear q4'
        have lh4 := fr4.le l3 l4D l4
        have hb4 := hb3.call lh4 fr4
        have s24 := s2.mono (lh4.t _)
        have hf4 := hf.mono (lh4.t _)
        have hle4 := hle3.trans lh4
        obtain ⟨F, hF⟩ : ∃ F : Nat → List Chg, ∀ t, F t = ((R.take t).filter fun row => decide (kN row = ra)).map (fun row => ⟨nTa, 2, row⟩) := ⟨_, fun _ => rfl⟩
        have hF0 : F 0 = [] := by rw [hF]; simp
        have hFs : ∀ t row, R[t]? = some row → F (t + 1) = F t ++ if kN row = ra then [⟨nTa, 2, row⟩] else [] := fun t row hrow => by
          rw [hF, hF, filter_take hrow, List.map_append]
          by_cases hk : kN row = ra <;> simp [hk]
        have hFl : ∀ t, (F t).length ≤ R.length := fun t => by
          rw [hF, List.length_map]
          exact Nat.le_trans (List.length_filter_le _ _) (by rw [List.length_take]; omega)
        obtain ⟨I2, hI20⟩ : ∃ I : Nat → (Int × Option Addr × Nat × Nat) → Heap → Prop, ∀ m g h2, I m g h2 = ∃ t, IsN g.1 t ∧ m = x5 - t ∧ t ≤ x5 ∧ Le h h2 ∧ Le hD4 h2 ∧ LeT [63, 68] h4 h2 ∧ BufS 77 shChg hD4 h h2 (.slice g.2.1 g.2.2.1 g.2.2.2) (L ++ F t) ∧ (e' ≠ 0 → t = 0) := ⟨_, fun _ _ _ => rfl⟩
        cbv
        refine LoopX.go (G := Int × Option Addr × Nat × Nat) (fun g => [(10, .v (.int .i64 g.1)), (4, .v (.slice g.2.1 g.2.2.1 g.2.2.2))]) (fun _ => [(3, [.slice b1 n1 c1, .slice b2 n2 c2, .slice b3 n3 c3, .slice b4 n4 c4]), (8, [.slice d1 m1 e1, .slice d2 m2 e2, .slice d3 m3 e3, .slice d4 m4 e4])])
          (fun m g h' => I2 m g h') x5 (0, y1, y2, y3) ⟨?_, ?_, ?_⟩ (by rw [hI20]; exact ⟨0, ⟨rfl⟩, rfl, by omega, hle4, l4, LeT.refl _ _, by rw [hF0, List.append_nil]; exact hb4, fun _ => rfl⟩) ?_
        · cbv
        · cbv
        · cbv
        · intro m g h5 hI
          rw [hI20] at hI
          cbv
          obtain ⟨t, hz2, hm2, ht, hle5, l5D, lt5, hb5, hte⟩ := hI
          obtain ⟨z2, w1, w2, w3⟩ := g
          have hz2 : IsN z2 t := hz2
          have hb5 : BufS 77 shChg hD4 h h5 (.slice w1 w2 w3) (L ++ F t) := hb5
          have hwl : w2 = L.length + (F t).length := by have := hb5.sl.len; rw [List.length_append] at this; exact this
          have hFt := hFl t
          -- the end
          have fin : L' = L ++ F t → I (50 - (i + 1)) (A .ari .add .i64 z 1, ⟨d1, m1, e1, d2, m2, e2, d3, m3, e3, d4, m4, e4⟩, w1, w2, w3) h5 := fun hL => by
            rw [hI0]
            refine ⟨i + 1, R', L', _, hD4, hnx, rfl, by omega, hle5, l5D, q4, .inr rfl, hSR', hRl', ?_, by rw [hL]; exact hb5⟩
            rcases hcase with ⟨-, h1, h2⟩ | ⟨-, h1⟩
            · rw [h1, List.length_append, List.length_map, h2]; omega
            · rw [h1]; omega
          have g1 : A .icm .lss z2 (A .nat x5) = decide (t < x5) := hz2.lt2 (IsN.nat x5)
          have hRx : t = x5 → F t = (R.filter fun row => decide (kN row = ra)).map (fun row => ⟨nTa, 2, row⟩) := fun e => by rw [hF, List.take_of_length_le (by omega)]
          cbv
          rw [g1]
          by_cases hlt : t < x5
          · rw [decide_eq_true hlt]
            cbv
            by_cases he0 : e' = 0
            · obtain ⟨row, hrow⟩ := get_ex (xs := R) (i := t) (by omega)
              obtain ⟨rb, rw', hrowe⟩ := hSR.form row (List.mem_of_getElem? hrow)
              have hkn : kN row = rb := by rw [hrowe]; rfl
              have hFt1 := hFs t row hrow
              have hck2 : x4.isSome = true ∧ 0 ≤ z2 ∧ z2 < (x5 : Int) := ⟨s2.isSm (by omega), hz2.ix hlt⟩
              have hze2 := hz2.eq
              have hnx2 := hz2.succ (A := A) (by omega)
              have s25 := s24.mono lt5
              have hf5 := hf4.mono (lt5.sub (by decide))
              have e00' : A .icm .eql e' 0 = true := by rw [he0]; exact e00
              rw [e00']
              cbv
              refine ⟨hck2, ?_⟩
              cbv
              refine s25.loadP hrow hze2 (fun cs hcs ag2 => ?_)
              obtain ⟨rv1, rfl, hrs⟩ := hcs
              obtain ⟨r1, r2, r3, rfl⟩ := hrs.form
              have hr2 : r2 = 2 := by rw [hrs.len, hrowe]; rfl
              have hckr : r1.isSome = true ∧ (0 : Int) ≤ 0 ∧ (0 : Int) < (r2 : Int) := ⟨hrs.isSm (by omega), by omega, by omega⟩
              have hr0 : row[0]? = some ⟨2, rb, noS⟩ := by rw [hrowe]; rfl
              cbv
              refine ⟨hckr, ?_⟩
              cbv
              refine hrs.load hr0 (n := 0) rfl (fun cs hcs => ?_)
              have hcs : cs = [.int .i64 2, .int .i64 rb, .string noS] := hcs
              subst hcs
              cbv
              refine ⟨hckf, ?_⟩
              cbv
              refine hf5.load hg0 (n := 0) rfl (fun cs hcs => ?_)
              have hcs : cs = [.int .i64 2, .int .i64 ra, .string noS] := hcs
              subst hcs
              cbv
              rw [veq _ rb ra]
              by_cases hab : rb = ra
              · rw [hkn, if_pos hab] at hFt1
                rw [decide_eq_true hab]
                cbv
                refine ⟨hck2, ?_⟩
                cbv
                refine ag2 _ _ (Le.refl _) ?_
                cbv
                intro n6 h6 g6 e6
                have l6 : Le h5 h6 := by rw [e6]; exact Le.set g6
                have f6 := (congrFun e6 n6).trans hset_self
                have sx : Sl 77 shChg h6 (.slice (some ⟨n6, 0, none⟩) 1 1) [⟨nTa, 2, row⟩] := one_sl (s := shChg) f6 ⟨_, _, _, rfl, hrs.mono (l6.t _)⟩
                cbv
                refine (hb5.le l6).append sx (by decide) rfl (by decide) (by omega) (hle5.trans l6) (l5D.trans l6) (fun mm b' c' h7 hmm l7 l7D t7 hb7 => ?_)
                have hI2 : I2 (x5 - (t + 1)) (A .ari .add .i64 z2 1, b', mm, c') h7 := by
                  rw [hI20]
                  refine ⟨t + 1, hnx2, rfl, by omega, l7, l7D, lt5.trans ((l6.t _).trans (t7 _ (by decide))), ?_, fun h => absurd he0 h⟩
                  rw [hFt1]; rw [← List.append_assoc]; exact hb7
                cbv
                refine ⟨x5 - (t + 1), (_, b', mm, c'), by omega, ⟨?_, ?_, ?_⟩, hI2⟩
                · cbv
                · cbv
                · cbv
              · rw [hkn, if_neg hab, List.append_nil] at hFt1
                rw [decide_eq_false hab]
                have hI2 : I2 (x5 - (t + 1)) (A .ari .add .i64 z2 1, w1, w2, w3) h5 := by
                  rw [hI20]
                  exact ⟨t + 1, hnx2, rfl, by omega, hle5, l5D, lt5, by rw [hFt1]; exact hb5, fun h => absurd he0 h⟩
                cbv
                refine ⟨x5 - (t + 1), (_, w1, w2, w3), by omega, ⟨?_, ?_, ?_⟩, hI2⟩
                · cbv
                · cbv
                · cbv
            · have e0f := ene e' he0
              rw [e0f]
              have hLF : L' = L ++ F t := by
                rcases hcase with ⟨h1, -⟩ | ⟨-, h1⟩
                · exact absurd h1 he0
                · rw [hte he0, hF0, List.append_nil]; exact h1
              have hI3 := fin hLF
              cbv
              refine ⟨50 - (i + 1), (_, ⟨d1, m1, e1, d2, m2, e2, d3, m3, e3, d4, m4, e4⟩, w1, w2, w3), by omega, ⟨?_, ?_, ?_⟩, hI3⟩
              · cbv
              · cbv
              · cbv
          · rw [decide_eq_false hlt]
            have hLF : L' = L ++ F t := by
              rcases hcase with ⟨-, h1, -⟩ | ⟨h0, h1⟩
              · rw [hRx (by omega)]; exact h1
              · rw [hte h0, hF0, List.append_nil]; exact h1
            have hI3 := fin hLF
            cbv
            refine ⟨50 - (i + 1), (_, ⟨d1, m1, e1, d2, m2, e2, d3, m3, e3, d4, m4, e4⟩, w1, w2, w3), by omega, ⟨?_, ?_, ?_⟩, hI3⟩
            · cbv
            · cbv
            · cbv
      | false =>
        have hp := hput r
        obtain ⟨R', L', e', hRe, hSR', hRl', hcase⟩ := putR_SR (L := L) (r := r) hSR hro hRl
        rw [hRe] at hp
        have hp : putF (MN R L [] H) 2 nTa r = (MN R' L' [] [hX 2], e') := hp
        cbv
        refine db_frm l3 (D := (MN R' L' [] [hX 2], e')) (fun hD4 h4 d1 m1 e1 d2 m2 e2 d3 m3 e3 d4 m4 e4 l4D l4 fr4 q4' => ?_) (fun k' hk' => put23F hq3 ok (by decide) 2 (by decide) nTa hfD hp hk')
        have q4 : RDB hD4 (.agg #[.slice d1 m1 e1, .slice d2 m2 e2, .slice d3 m3 e3, .slice d4 m4 e4]) (MN R' L' [] [hX 2]) := q4'
        clear q4'
        have lh4 := fr4.le l3 l4D l4
        have hb4 := hb3.call lh4 fr4
        have hf4 := hf.mono (lh4.t _)
        have hle4 := hle3.trans lh4
        cbv
        rcases hcase with ⟨he0, hL⟩ | ⟨he0, hL⟩
        · have e00' : A .icm .eql e' 0 = true := by rw [he0]; exact e00
          rw [e00']
          cbv
          intro n6 h6 g6 e6
          have l6 : Le h4 h6 := by rw [e6]; exact Le.set g6
          have f6 := (congrFun e6 n6).trans hset_self
          have sx : Sl 77 shChg h6 (.slice (some ⟨n6, 0, none⟩) 1 1) [⟨nTa, 1, r⟩] := one_sl (s := shChg) f6 ⟨_, _, _, rfl, hf4.mono (l6.t _)⟩
          cbv
          refine (hb4.le l6).append sx (by decide) rfl (by decide) (by omega) (hle4.trans l6) (l4.trans l6) (fun mm b' c' h7 hmm l7 l7D t7 hb7 => ?_)
          have hI3 : I (50 - (i + 1)) (A .ari .add .i64 z 1, ⟨d1, m1, e1, d2, m2, e2, d3, m3, e3, d4, m4, e4⟩, b', mm, c') h7 := by
            rw [hI0]
            exact ⟨i + 1, R', L', _, hD4, hnx, rfl, by omega, l7, l7D, q4, .inr rfl, hSR', hRl', by rw [hL, List.length_append]; simp; omega, by rw [hL]; exact hb7⟩
          cbv
          refine ⟨50 - (i + 1), (_, ⟨d1, m1, e1, d2, m2, e2, d3, m3, e3, d4, m4, e4⟩, b', mm, c'), by omega, ⟨?_, ?_, ?_⟩, hI3⟩
          · cbv
          · cbv
          · cbv
        · have e0f := ene e' he0
          have hI3 : I (50 - (i + 1)) (A .ari .add .i64 z 1, ⟨d1, m1, e1, d2, m2, e2, d3, m3, e3, d4, m4, e4⟩, y1, y2, y3) h4 := by
            rw [hI0]
            exact ⟨i + 1, R', L', _, hD4, hnx, rfl, by omega, hle4, l4, q4, .inr rfl, hSR', hRl', by rw [hL]; omega, by rw [hL]; exact hb4⟩
          rw [e0f]
          cbv
          refine ⟨50 - (i + 1), (_, ⟨d1, m1, e1, d2, m2, e2, d3, m3, e3, d4, m4, e4⟩, y1, y2, y3), by omega, ⟨?_, ?_, ?_⟩, hI3⟩
          · cbv
          · cbv
          · cbv
    · have tail : ¬ (decide (i < len) = true ∧ decide (i < 50) = true) := fun ⟨a1, a2⟩ => hno ⟨of_decide_eq_true a1, of_decide_eq_true a2⟩
      generalize decide (i < len) = u1 at *
      generalize decide (i < 50) = u2 at *
      cases u1 with
      | false =>
        cbv
        rw [f1]
        cbv
        refine commit28K (hq.mono hlD) ok (by decide) 2 hcm (fun h2 b1 n1 c1 b2 n2 c2 b3 n3 c3 b4 n4 c4 b5 n5 c5 l2 _ qc' => ?_)
        have qc : Sl 77 shChg h2 (.slice b5 n5 c5) L := qc'
        have hfin : Le h h2 ∧ Value.bool true = .bool true := ⟨hle.trans l2, rfl⟩
        cbv
        rw [e00]
        cbv
        refine changes29 qc (hb.sl.mono (l2.t _)) ?_
        cbv
        exact ⟨hfin.1, True.intro⟩
      | true =>
        cases u2 with
        | true => exact (tail ⟨rfl, rfl⟩).elim
        | false =>
          cbv
          rw [f1]
          cbv
          rw [f2]
          cbv
          refine commit28K (hq.mono hlD) ok (by decide) 2 hcm (fun h2 b1 n1 c1 b2 n2 c2 b3 n3 c3 b4 n4 c4 b5 n5 c5 l2 _ qc' => ?_)
          have qc : Sl 77 shChg h2 (.slice b5 n5 c5) L := qc'
          have hfin : Le h h2 ∧ Value.bool true = .bool true := ⟨hle.trans l2, rfl⟩
          cbv
          rw [e00]
          cbv
          refine changes29 qc (hb.sl.mono (l2.t _)) ?_
          cbv
          exact ⟨hfin.1, True.intro⟩
end Go.S

