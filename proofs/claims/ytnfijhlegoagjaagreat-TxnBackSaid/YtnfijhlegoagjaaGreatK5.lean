import Derived.Test.YtnfijhlegoagjaaGreatK4
import Derived.Test.YtnfijhlegoagjaaGreatF4a
set_option linter.unusedVariables false
set_option linter.unusedSimpArgs false
set_option linter.unusedSectionVars false
set_option maxRecDepth 100000
set_option maxHeartbeats 16000000
set_option linter.unusedVariables false
set_option linter.unusedSimpArgs false
namespace Go.S
open Go.Sx Go.Proofs

theorem back11 {h : Heap} {b : Option Addr} {len cap : Nat} {xs : List Act1} (q : SlB shAct h (.slice b len cap) xs) (hxs : ∀ x ∈ xs, ActOk x) {bB : Option Addr} {lenB capB : Nat} {ys : List Act1} (qB : SlB shAct h (.slice bB lenB capB) ys) (hys : ∀ x ∈ ys, ActOk x) : Ct 11 [.slice b len cap, .slice bB lenB capB] h (fun v h' => Le h h' ∧ v = .bool true) := by
  obtain ⟨A, hA⟩ := Ar.ex
  have hlen := q.len
  have hlb := q.bound
  have hlenB := qB.len
  have hlbB := qB.bound
  have hnot1 : A .not true = false := by rw [hA.not]; rfl
  have e00 : A .icm .eql 0 0 = true := by rw [icm_eql A]; rfl
  have n00 : A .icm .neq 0 0 = false := by rw [icm_neq A]; rfl
  have eN0 : A .icm .eql (A .nat 0) 0 = true := by rw [icm_eql A, hA.nat]; rfl
  obtain ⟨GG, hGG⟩ : ∃ M, M = GD := ⟨_, rfl⟩
  obtain ⟨gZ, hgZ⟩ : ∃ M, M = G0 := ⟨_, rfl⟩
  obtain ⟨tG, htG⟩ : ∃ M, M = TG := ⟨_, rfl⟩
  have gput : ∀ {s F L M H}, AllS s H → ∀ {t}, t < 3 → SOF F → ∀ {r}, RowOk r → ∃ F' L' H' e, putF (GG s F L M H) s (shapeS t).name r = (GG s F' L' M H', e) ∧ AllS s H' ∧ H'.length ≤ H.length + 1 ∧ SOF F' ∧ Stp F L F' L' := by rw [hGG]; exact fun a _ b c _ d => gd_put a b c d
  have gtake : ∀ {s F L M H}, AllS s H → ∀ {t}, t < 3 → SOF F → ∀ a, ∃ F' L' H' e, takeF (GG s F L M H) s (shapeS t).name ⟨2, a, noS⟩ = (GG s F' L' M H', e) ∧ AllS s H' ∧ H'.length ≤ H.length + 1 ∧ SOF F' ∧ Stp F L F' L' := by rw [hGG]; exact fun a _ b c d => gd_take a b c d
  have gsave : ∀ {s F L M H} nm, ∃ M' e, saveD (GG s F L M H) s nm = (GG s F L M' H, e) := by rw [hGG]; exact fun nm => gd_save nm
  have gcommit : ∀ {s F L M H}, AllS s H → commitD (GG s F L M H) s = (gZ F, L, 0) := by rw [hGG, hgZ]; exact fun a => gd_commit a
  have gbegin1 : ∀ F, beginD (gZ F) 1 = (GG 1 F [] [] [], 0) := by rw [hGG, hgZ]; exact g0_begin (by decide)
  have gbegin2 : ∀ F, beginD (gZ F) 2 = (GG 2 F [] [] [], 0) := by rw [hGG, hgZ]; exact g0_begin (by decide)
  have groll : ∀ {F F0 L M H}, AllS 2 H → undoL (tG F) L = tG F0 → rollbackD (GG 2 F L M H) 2 = (gZ F0, 0) := by rw [hGG, hgZ, htG]; exact fun a u => gd_roll a u
  have gok1 : ∀ {F L M H}, AllS 1 H → SOF F → H.length ≤ 30 → Okd 30 (GG 1 F L M H) := by rw [hGG]; exact fun a c d => gd_ok (by decide) a c d
  have gok2 : ∀ {F L M H}, AllS 2 H → SOF F → H.length ≤ 40 → Okd 40 (GG 2 F L M H) := by rw [hGG]; exact fun a c d => gd_ok (by decide) a c d
  have gsmall : ∀ {F}, SOF F → Small (gZ F) := by rw [hgZ]; exact fun a => g0_small _ a
  have gstep : ∀ {F F' F0 L L'}, Stp F L F' L' → undoL (tG F) L = tG F0 → undoL (tG F') L' = tG F0 := by rw [htG]; exact fun a u => a.undo u
  have gundo0 : ∀ F, undoL (tG F) [] = tG F := fun _ => rfl
  have gparts : ∀ F, (gZ F).tabs = tG F ∧ (gZ F).works = [] ∧ (gZ F).holds = [] ∧ (gZ F).waits = [] := by rw [hgZ, htG]; exact fun _ => ⟨rfl, rfl, rfl, rfl⟩
  obtain ⟨F9, hF9⟩ : ∃ F : Nat → List Row, F = fun _ => [] := ⟨_, rfl⟩
  have hSO0 : SOF F9 := by rw [hF9]; exact fun _ _ => SO.nil
  have hst : startE = gZ F9 := by rw [hgZ, hF9]; rfl
  clear hGG hgZ htG hF9
  obtain ⟨cE, hcE⟩ : ∃ c, c = shColsE := ⟨_, rfl⟩
  have hcl : cE.length = 2 := by rw [hcE]; rfl
  have hfo : ∀ n, RowOk (fitL cE n cE.length) := fun n => by rw [hcl, hcE]; exact fit_ok n
  obtain ⟨I, hI0⟩ : ∃ I : Nat → (Int × W12) → Heap → Prop, ∀ m g h', I m g h' = ∃ (i : Nat) (F : Nat → List Row) (L : List Chg) (H : List Hld), IsN g.1 i ∧ m = 30 - i ∧ i ≤ 30 ∧ i ≤ len ∧ Le h h' ∧ RDB h' g.2.val (GG 1 F L [] H) ∧ AllS 1 H ∧ H.length ≤ i ∧ SOF F := ⟨_, fun _ _ _ => rfl⟩
  refine fn_of_sx A (tabOk T11.plan T11.pub) Tryz.func11 rfl (by kernel_rfl) ?_
  cbv
  refine (known14 h).mono (fun v h0 hR => ?_)
  obtain ⟨l0, rfl⟩ := hR
  cbv
  rw [hnot1]
  cbv
  refine start19 (fun h2 b1 n1 c1 b2 n2 c2 b3 n3 c3 b4 n4 c4 d1 m1 e1 d2 m2 e2 d3 m3 e3 d4 m4 e4 l2 qD qR => ?_)
  rw [hst] at qD
  clear qR
  have l02 := l0.trans l2
  cbv
  refine begin18K qD 1 (gsmall hSO0) (gbegin1 F9) (fun h3 b1 n1 c1 b2 n2 c2 b3 n3 c3 b4 n4 c4 l3 q3' => ?_)
  have q3 : RDB h3 (.agg #[.slice b1 n1 c1, .slice b2 n2 c2, .slice b3 n3 c3, .slice b4 n4 c4]) (GG 1 F9 [] [] []) := q3'
  clear q3'
  have l03 := l02.trans l3
  cbv
  rw [n00]
  cbv
  refine LoopX.go (G := Int × W12) (fun g => [(8, .v (.int .i64 g.1))]) (fun g => [(5, [.slice g.2.b1 g.2.n1 g.2.c1, .slice g.2.b2 g.2.n2 g.2.c2, .slice g.2.b3 g.2.n3 g.2.c3, .slice g.2.b4 g.2.n4 g.2.c4]), (6, [.slice d1 m1 e1, .slice d2 m2 e2, .slice d3 m3 e3, .slice d4 m4 e4])])
    (fun m g h' => I m g h') 30 (0, ⟨b1, n1, c1, b2, n2, c2, b3, n3, c3, b4, n4, c4⟩) ⟨?_, ?_, ?_⟩ (by rw [hI0]; exact ⟨0, F9, [], [], ⟨rfl⟩, rfl, by omega, by omega, l03, q3, by simp [AllS], by simp, hSO0⟩) ?_
  · cbv
  · cbv
  · cbv
  · intro m g h' hI
    rw [hI0] at hI
    cbv
    obtain ⟨i, F, L, H, hz, hm, hi, hil, hle, hq, hAll, hHl, hSO⟩ := hI
    obtain ⟨z, ⟨b1, n1, c1, b2, n2, c2, b3, n3, c3, b4, n4, c4⟩⟩ := g
    have hz : IsN z i := hz
    have hq : RDB h' (.agg #[.slice b1 n1 c1, .slice b2 n2 c2, .slice b3 n3 c3, .slice b4 n4 c4]) (GG 1 F L [] H) := hq
    have f1 : A .icm .lss z (A .nat len) = decide (i < len) := hz.lt2 (IsN.nat len)
    have f2 : A .icm .lss z 30 = decide (i < 30) := hz.lt2 (w := 30) (j := 30) ⟨rfl⟩
    have hend : ∀ P : Prop, (i < len ∧ i < 30 → P) → (¬ (i < len ∧ i < 30) → P) → P := fun P a b => by
      by_cases h : i < len ∧ i < 30
      · exact a h
      · exact b h
    refine hend _ (fun ⟨hc1, hc2⟩ => ?_) (fun hno => ?_)
    · rw [decide_eq_true hc1] at f1
      rw [decide_eq_true hc2] at f2
      obtain ⟨⟨xk, xs', xt, xn, xx⟩, hx⟩ := get_ex (xs := xs) (i := i) (by omega)
      have hxo := hxs _ (List.mem_of_getElem? hx)
      have hxn : -2 ^ 63 ≤ xn ∧ xn < 2 ^ 63 := hxo.n
      have hck : b.isSome = true ∧ 0 ≤ z ∧ z < (len : Int) := ⟨q.isSm (by omega), hz.ix hc1⟩
      have hze := hz.eq
      have hnx := hz.succ (A := A) (by omega)
      obtain ⟨r, hr⟩ : ∃ r, r = fitL cE xn cE.length := ⟨_, rfl⟩
      have hro : RowOk r := by rw [hr]; exact hfo xn
      obtain ⟨T, hT, hT3⟩ : ∃ T, T = (xt % 3).toNat ∧ T < 3 := ⟨_, rfl, by omega⟩
      obtain ⟨F', L', H', e', hp, hAll', hHl', hSO', hst'⟩ := gput (F := F) (L := L) (M := []) hAll hT3 hSO hro
      obtain ⟨NM, hNM⟩ : ∃ n, n = (shapeS T).name := ⟨_, rfl⟩
      rw [← hNM] at hp
      cbv
      rw [f1]
      cbv
      rw [f2]
      cbv
      refine ⟨hck, ?_⟩
      cbv
      refine (q.mono hle).loadFP hx hze (o := 2) (m := 1) (by decide) (fun cs hcs ag => ?_)
      have hcs : cs = [.int .i64 xk, .int .i64 xs', .int .i64 xt, .int .i64 xn, .bool xx] := hcs
      subst hcs
      cbv
      refine ⟨hck, ?_⟩
      cbv
      refine (q.mono hle).loadFP hx hze (o := 2) (m := 1) (by decide) (fun cs hcs ag2 => ?_)
      have hcs : cs = [.int .i64 xk, .int .i64 xs', .int .i64 xt, .int .i64 xn, .bool xx] := hcs
      subst hcs
      cbv
      refine ⟨hck, ?_⟩
      cbv
      refine (q.mono hle).loadFP hx hze (o := 3) (m := 1) (by decide) (fun cs hcs ag3 => ?_)
      have hcs : cs = [.int .i64 xk, .int .i64 xs', .int .i64 xt, .int .i64 xn, .bool xx] := hcs
      subst hcs
      cbv
      refine within15 xt 3 (by omega) (by omega) h' (fun z1 t1 hz1 ht1 ht13 => ?_)
      obtain rfl : t1 = T := ht1.trans hT.symm
      cbv
      refine ag3 _ _ (Le.refl _) ?_
      cbv
      refine ⟨⟨_, rfl, rfl⟩, ?_⟩
      cbv
      refine ag2 _ _ (Le.refl _) ?_
      cbv
      refine ⟨⟨_, rfl, rfl⟩, ?_⟩
      cbv
      refine shape16 hz1 ht13 h' (fun h4 sb1 sn1 sc1 nm1 o1 l4 hnm1 ho1 qs1 => ?_)
      obtain rfl : nm1 = NM := hnm1.trans hNM.symm
      cbv
      refine ag3 _ _ l4 ?_
      cbv
      refine ⟨⟨_, rfl, rfl⟩, ?_⟩
      cbv
      refine ag2 _ _ l4 ?_
      cbv
      refine ⟨⟨_, rfl, rfl⟩, ?_⟩
      cbv
      refine within15 xt 3 (by omega) (by omega) h4 (fun z2 t2 hz2 ht2 ht23 => ?_)
      cbv
      refine ag3 _ _ l4 ?_
      cbv
      refine ⟨⟨_, rfl, rfl⟩, ?_⟩
      cbv
      refine shape16 hz2 ht23 h4 (fun h5 sb sn sc nm o l5 hnm ho qs => ?_)
      rw [← hcE] at qs
      have l45 := l4.trans l5
      cbv
      refine ag3 _ _ l45 ?_
      cbv
      refine ⟨⟨_, rfl, rfl⟩, ?_⟩
      cbv
      refine fit22 qs (by omega) xn hxn (fun h6 fb fn fc l6 hf' => ?_)
      have hf : Sl 68 shVal h6 (.slice fb fn fc) r := by rw [hr]; exact hf'.sl
      have l46 := l45.trans l6
      cbv
      refine put23F (hq.mono l46) (gok1 hAll hSO (by omega)) (by decide) 1 (by decide) nm1 hf hp (fun h8 b1 n1 c1 b2 n2 c2 b3 n3 c3 b4 n4 c4 l8 q8' => ?_)
      have q8 : RDB h8 (.agg #[.slice b1 n1 c1, .slice b2 n2 c2, .slice b3 n3 c3, .slice b4 n4 c4]) (GG 1 F' L' [] H') := q8'
      clear q8'
      have hI3 : I (30 - (i + 1)) (A .ari .add .i64 z 1, ⟨b1, n1, c1, b2, n2, c2, b3, n3, c3, b4, n4, c4⟩) h8 := by
        rw [hI0]
        exact ⟨i + 1, F', L', H', hnx, rfl, by omega, by omega, hle.trans (l46.trans l8), q8, hAll', by omega, hSO'⟩
      cbv
      refine ⟨30 - (i + 1), (_, ⟨b1, n1, c1, b2, n2, c2, b3, n3, c3, b4, n4, c4⟩), by omega, ⟨?_, ?_, ?_⟩, hI3⟩
      · cbv
      · cbv
      · cbv
    · have hnn : i = len ∨ i = 30 := by omega
      by_cases hc1 : i < len
      · have hc2 : ¬ i < 30 := fun h => hno ⟨hc1, h⟩
        rw [decide_eq_true hc1] at f1
        rw [decide_eq_false hc2] at f2
        cbv
        rw [f1]
        cbv
        rw [f2]
        cbv
        refine commit28K hq (gok1 hAll hSO (by omega)) (by decide) 1 (gcommit hAll) (fun h2 a1 p1 r1 a2 p2 r2 a3 p3 r3 a4 p4 r4 b5 n5 c5 l2 q2' _ => ?_)
        have q2 : RDB h2 (.agg #[.slice a1 p1 r1, .slice a2 p2 r2, .slice a3 p3 r3, .slice a4 p4 r4]) (gZ F) := q2'
        clear q2'
        have hle2 := hle.trans l2
        cbv
        rw [n00]
        cbv
        refine begin18K q2 2 (gsmall hSO) (gbegin2 F) (fun hs b1 n1 c1 b2 n2 c2 b3 n3 c3 b4 n4 c4 ls qs' => ?_)
        have qs : RDB hs (.agg #[.slice b1 n1 c1, .slice b2 n2 c2, .slice b3 n3 c3, .slice b4 n4 c4]) (GG 2 F [] [] []) := qs'
        clear qs'
        have hleS := hle2.trans ls
        have qWas := q2.mono ls
        clear hAll hHl hq q2
        obtain ⟨I2, hI20⟩ : ∃ I : Nat → (Int × W12) → Heap → Prop, ∀ m g h2, I m g h2 = ∃ (i : Nat) (F' : Nat → List Row) (L : List Chg) (M : List Mrk) (H : List Hld), IsN g.1 i ∧ m = 40 - i ∧ i ≤ 40 ∧ i ≤ lenB ∧ Le hs h2 ∧ RDB h2 g.2.val (GG 2 F' L M H) ∧ AllS 2 H ∧ H.length ≤ i ∧ SOF F' ∧ undoL (tG F') L = tG F := ⟨_, fun _ _ _ => rfl⟩
        cbv
        refine LoopX.go (G := Int × W12) (fun g => [(10, .v (.int .i64 g.1))]) (fun g => [(5, [.slice g.2.b1 g.2.n1 g.2.c1, .slice g.2.b2 g.2.n2 g.2.c2, .slice g.2.b3 g.2.n3 g.2.c3, .slice g.2.b4 g.2.n4 g.2.c4]), (6, [.slice d1 m1 e1, .slice d2 m2 e2, .slice d3 m3 e3, .slice d4 m4 e4]), (9, [.slice a1 p1 r1, .slice a2 p2 r2, .slice a3 p3 r3, .slice a4 p4 r4])])
          (fun m g h' => I2 m g h') 40 (0, ⟨b1, n1, c1, b2, n2, c2, b3, n3, c3, b4, n4, c4⟩) ⟨?_, ?_, ?_⟩ (by rw [hI20]; exact ⟨0, F, [], [], [], ⟨rfl⟩, rfl, by omega, by omega, Le.refl _, qs, by simp [AllS], by simp, hSO, gundo0 F⟩) ?_
        · cbv
        · cbv
        · cbv
        · intro m g h4 hI
          rw [hI20] at hI
          cbv
          obtain ⟨j, F1, L1, M1, H1, hz2, hm2, hj, hjl, hle4, hq, hAll, hHl, hSO1, hun⟩ := hI
          obtain ⟨z2, ⟨b1, n1, c1, b2, n2, c2, b3, n3, c3, b4, n4, c4⟩⟩ := g
          have hz2 : IsN z2 j := hz2
          have hq : RDB h4 (.agg #[.slice b1 n1 c1, .slice b2 n2 c2, .slice b3 n3 c3, .slice b4 n4 c4]) (GG 2 F1 L1 M1 H1) := hq
          have f1' : A .icm .lss z2 (A .nat lenB) = decide (j < lenB) := hz2.lt2 (IsN.nat lenB)
          have f2' : A .icm .lss z2 40 = decide (j < 40) := hz2.lt2 (w := 40) (j := 40) ⟨rfl⟩
          have hend2 : ∀ P : Prop, (j < lenB ∧ j < 40 → P) → (¬ (j < lenB ∧ j < 40) → P) → P := fun P a b => by
            by_cases h : j < lenB ∧ j < 40
            · exact a h
            · exact b h
          refine hend2 _ (fun ⟨hd1, hd2⟩ => ?_) (fun hno2 => ?_)
          · rw [decide_eq_true hd1] at f1'
            rw [decide_eq_true hd2] at f2'
            obtain ⟨⟨xk, xs', xt, xn, xx⟩, hx⟩ := get_ex (xs := ys) (i := j) (by omega)
            have hxo := hys _ (List.mem_of_getElem? hx)
            have hxn : -2 ^ 63 ≤ xn ∧ xn < 2 ^ 63 := hxo.n
            have hck : bB.isSome = true ∧ 0 ≤ z2 ∧ z2 < (lenB : Int) := ⟨qB.isSm (by omega), hz2.ix hd1⟩
            have hze := hz2.eq
            have hnx := hz2.succ (A := A) (by omega)
            obtain ⟨r, hr⟩ : ∃ r, r = fitL cE xn cE.length := ⟨_, rfl⟩
            have hro : RowOk r := by rw [hr]; exact hfo xn
            have hro' := hro
            obtain ⟨ra, rv, hre, -⟩ := hro'
            have hrl : r.length = 2 := by rw [hre]; rfl
            have hg0 : r[0]? = some ⟨2, ra, noS⟩ := by rw [hre]; rfl
            cbv
            rw [f1']
            cbv
            rw [f2']
            cbv
            refine ⟨hck, ?_⟩
            cbv
            refine (qB.mono (hleS.trans hle4)).load hx hze (fun cs hcs => ?_)
            have hcs : cs = [.int .i64 xk, .int .i64 xs', .int .i64 xt, .int .i64 xn, .bool xx] := hcs
            subst hcs
            cbv
            refine within15 xt 3 (by omega) (by omega) h4 (fun z1 T hz1 hT hT3 => ?_)
            clear hT
            cbv
            refine within15 xk 4 (by omega) (by omega) h4 (fun zk kk hzk hkk hk4 => ?_)
            obtain ⟨NM, hNM⟩ : ∃ n, n = (shapeS T).name := ⟨_, rfl⟩
            have hput := gput (F := F1) (L := L1) (M := M1) hAll hT3 hSO1 hro
            have htake := gtake (F := F1) (L := L1) (M := M1) hAll hT3 hSO1 ra
            have hsave := gsave (s := 2) (F := F1) (L := L1) (M := M1) (H := H1) nM
            rw [← hNM] at hput htake
            cbv
            obtain ⟨u0, hu0⟩ : ∃ u, A .icm .eql zk 0 = u := ⟨_, rfl⟩
            obtain ⟨u1, hu1⟩ : ∃ u, A .icm .eql zk 1 = u := ⟨_, rfl⟩
            obtain ⟨u2, hu2⟩ : ∃ u, A .icm .eql zk 2 = u := ⟨_, rfl⟩
            obtain ⟨u3, hu3⟩ : ∃ u, A .icm .eql zk 3 = u := ⟨_, rfl⟩
            rw [hu0]
            cases u0 with
            | true =>
              clear htake hsave
              cbv
              obtain ⟨F', L', H', e', hp, hAll', hHl', hSO', hst'⟩ := hput
              cbv
              refine shape16 hz1 hT3 h4 (fun h5 sb1 sn1 sc1 nm1 o1 l5 hnm1 ho1 qs1 => ?_)
              obtain rfl : nm1 = NM := hnm1.trans hNM.symm
              cbv
              refine shape16 hz1 hT3 h5 (fun h6 sb sn sc nm o l6 hnm ho qs => ?_)
              rw [← hcE] at qs
              cbv
              refine fit22 qs (by omega) xn hxn (fun h7 fb fn fc l7 hf' => ?_)
              have hf : Sl 68 shVal h7 (.slice fb fn fc) r := by rw [hr]; exact hf'.sl
              have l47 := (l5.trans l6).trans l7
              cbv
              refine put23F (hq.mono l47) (gok2 hAll hSO1 (by omega)) (by decide) 2 (by decide) nm1 hf hp (fun h8 b1 n1 c1 b2 n2 c2 b3 n3 c3 b4 n4 c4 l8 q8' => ?_)
              have q8 : RDB h8 (.agg #[.slice b1 n1 c1, .slice b2 n2 c2, .slice b3 n3 c3, .slice b4 n4 c4]) (GG 2 F' L' M1 H') := q8'
              clear q8'
              have hI3 : I2 (40 - (j + 1)) (A .ari .add .i64 z2 1, ⟨b1, n1, c1, b2, n2, c2, b3, n3, c3, b4, n4, c4⟩) h8 := by
                rw [hI20]
                exact ⟨j + 1, F', L', M1, H', hnx, rfl, by omega, by omega, hle4.trans (l47.trans l8), q8, hAll', by omega, hSO', gstep hst' hun⟩
              cbv
              refine ⟨40 - (j + 1), (_, ⟨b1, n1, c1, b2, n2, c2, b3, n3, c3, b4, n4, c4⟩), by omega, ⟨?_, ?_, ?_⟩, hI3⟩
              · cbv
              · cbv
              · cbv
            | false =>
              cbv
              rw [hu1]
              cases u1 with
              | true =>
                clear htake hsave
                cbv
                obtain ⟨F', L', H', e', hp, hAll', hHl', hSO', hst'⟩ := hput
                cbv
                refine shape16 hz1 hT3 h4 (fun h5 sb1 sn1 sc1 nm1 o1 l5 hnm1 ho1 qs1 => ?_)
                obtain rfl : nm1 = NM := hnm1.trans hNM.symm
                cbv
                refine shape16 hz1 hT3 h5 (fun h6 sb sn sc nm o l6 hnm ho qs => ?_)
                rw [← hcE] at qs
                cbv
                refine fit22 qs (by omega) xn hxn (fun h7 fb fn fc l7 hf' => ?_)
                have hf : Sl 68 shVal h7 (.slice fb fn fc) r := by rw [hr]; exact hf'.sl
                have l47 := (l5.trans l6).trans l7
                cbv
                refine put23F (hq.mono l47) (gok2 hAll hSO1 (by omega)) (by decide) 2 (by decide) nm1 hf hp (fun h8 b1 n1 c1 b2 n2 c2 b3 n3 c3 b4 n4 c4 l8 q8' => ?_)
                have q8 : RDB h8 (.agg #[.slice b1 n1 c1, .slice b2 n2 c2, .slice b3 n3 c3, .slice b4 n4 c4]) (GG 2 F' L' M1 H') := q8'
                clear q8'
                have hI3 : I2 (40 - (j + 1)) (A .ari .add .i64 z2 1, ⟨b1, n1, c1, b2, n2, c2, b3, n3, c3, b4, n4, c4⟩) h8 := by
                  rw [hI20]
                  exact ⟨j + 1, F', L', M1, H', hnx, rfl, by omega, by omega, hle4.trans (l47.trans l8), q8, hAll', by omega, hSO', gstep hst' hun⟩
                cbv
                refine ⟨40 - (j + 1), (_, ⟨b1, n1, c1, b2, n2, c2, b3, n3, c3, b4, n4, c4⟩), by omega, ⟨?_, ?_, ?_⟩, hI3⟩
                · cbv
                · cbv
                · cbv
              | false =>
                cbv
                rw [hu2]
                cases u2 with
                | true =>
                  clear hput hsave
                  cbv
                  obtain ⟨F', L', H', e', hp, hAll', hHl', hSO', hst'⟩ := htake
                  cbv
                  refine shape16 hz1 hT3 h4 (fun h5 sb1 sn1 sc1 nm1 o1 l5 hnm1 ho1 qs1 => ?_)
                  obtain rfl : nm1 = NM := hnm1.trans hNM.symm
                  cbv
                  refine shape16 hz1 hT3 h5 (fun h6 sb sn sc nm o l6 hnm ho qs => ?_)
                  rw [← hcE] at qs
                  cbv
                  refine fit22 qs (by omega) xn hxn (fun h7 fb fn fc l7 hf' => ?_)
                  have hf : Sl 68 shVal h7 (.slice fb fn fc) r := by rw [hr]; exact hf'.sl
                  have l47 := (l5.trans l6).trans l7
                  have hfn : fn = 2 := by rw [hf.len, hrl]
                  have hckf : fb.isSome = true ∧ (0 : Int) ≤ 0 ∧ (0 : Int) < (fn : Int) := ⟨hf.isSm (by omega), by omega, by omega⟩
                  cbv
                  refine ⟨hckf, ?_⟩
                  cbv
                  refine hf.load hg0 (n := 0) rfl (fun cs hcs => ?_)
                  have hcs : cs = [.int .i64 2, .int .i64 ra, .string noS] := hcs
                  subst hcs
                  cbv
                  refine take24F (hq.mono l47) (gok2 hAll hSO1 (by omega)) (by decide) 2 (by decide) nm1 ⟨2, ra, noS⟩ hp (fun h8 b1 n1 c1 b2 n2 c2 b3 n3 c3 b4 n4 c4 l8 q8' => ?_)
                  have q8 : RDB h8 (.agg #[.slice b1 n1 c1, .slice b2 n2 c2, .slice b3 n3 c3, .slice b4 n4 c4]) (GG 2 F' L' M1 H') := q8'
                  clear q8'
                  have hI3 : I2 (40 - (j + 1)) (A .ari .add .i64 z2 1, ⟨b1, n1, c1, b2, n2, c2, b3, n3, c3, b4, n4, c4⟩) h8 := by
                    rw [hI20]
                    exact ⟨j + 1, F', L', M1, H', hnx, rfl, by omega, by omega, hle4.trans (l47.trans l8), q8, hAll', by omega, hSO', gstep hst' hun⟩
                  cbv
                  refine ⟨40 - (j + 1), (_, ⟨b1, n1, c1, b2, n2, c2, b3, n3, c3, b4, n4, c4⟩), by omega, ⟨?_, ?_, ?_⟩, hI3⟩
                  · cbv
                  · cbv
                  · cbv
                | false =>
                  cbv
                  rw [hu3]
                  cases u3 with
                  | true =>
                    clear hput htake
                    cbv
                    obtain ⟨M', e', hp⟩ := hsave
                    cbv
                    refine save27K hq 2 nM hp (fun h8 b1 n1 c1 b2 n2 c2 b3 n3 c3 b4 n4 c4 l8 q8' => ?_)
                    have q8 : RDB h8 (.agg #[.slice b1 n1 c1, .slice b2 n2 c2, .slice b3 n3 c3, .slice b4 n4 c4]) (GG 2 F1 L1 M' H1) := q8'
                    clear q8'
                    have hI3 : I2 (40 - (j + 1)) (A .ari .add .i64 z2 1, ⟨b1, n1, c1, b2, n2, c2, b3, n3, c3, b4, n4, c4⟩) h8 := by
                      rw [hI20]
                      exact ⟨j + 1, F1, L1, M', H1, hnx, rfl, by omega, by omega, hle4.trans l8, q8, hAll, by omega, hSO1, hun⟩
                    cbv
                    refine ⟨40 - (j + 1), (_, ⟨b1, n1, c1, b2, n2, c2, b3, n3, c3, b4, n4, c4⟩), by omega, ⟨?_, ?_, ?_⟩, hI3⟩
                    · cbv
                    · cbv
                    · cbv
                  | false =>
                    have hI3 : I2 (40 - (j + 1)) (A .ari .add .i64 z2 1, ⟨b1, n1, c1, b2, n2, c2, b3, n3, c3, b4, n4, c4⟩) h4 := by
                      rw [hI20]
                      exact ⟨j + 1, F1, L1, M1, H1, hnx, rfl, by omega, by omega, hle4, hq, hAll, by omega, hSO1, hun⟩
                    cbv
                    refine ⟨40 - (j + 1), (_, ⟨b1, n1, c1, b2, n2, c2, b3, n3, c3, b4, n4, c4⟩), by omega, ⟨?_, ?_, ?_⟩, hI3⟩
                    · cbv
                    · cbv
                    · cbv
          · have hnn2 : j = lenB ∨ j = 40 := by omega
            by_cases hd1 : j < lenB
            · have hd2 : ¬ j < 40 := fun h => hno2 ⟨hd1, h⟩
              rw [decide_eq_true hd1] at f1'
              rw [decide_eq_false hd2] at f2'
              cbv
              rw [f1']
              cbv
              rw [f2']
              cbv
              refine rollback34K hq (gok2 hAll hSO1 (by omega)) (by decide) 2 (groll hAll hun) (fun h5 b1 n1 c1 b2 n2 c2 b3 n3 c3 b4 n4 c4 l5 q5' => ?_)
              have q5 : RDB h5 (.agg #[.slice b1 n1 c1, .slice b2 n2 c2, .slice b3 n3 c3, .slice b4 n4 c4]) (gZ F) := q5'
              clear q5'
              have qw5 := qWas.mono (hle4.trans l5)
              obtain ⟨w1, ⟨ws1, w2, w2m⟩, w3, w4⟩ := q5.partsP
              obtain ⟨v1, ⟨ws2, v2, v2m⟩, v3, v4⟩ := qw5.partsP
              obtain ⟨gp1, gp2, gp3, gp4⟩ := gparts F
              rw [gp2] at w2m v2m
              obtain rfl : ws1 = [] := List.map_eq_nil_iff.1 w2m
              obtain rfl : ws2 = [] := List.map_eq_nil_iff.1 v2m
              have hn3 : n3 = 0 := by rw [w3.len, gp3]; rfl
              have hN3 : A .icm .eql (A .nat n3) 0 = true := by rw [hn3]; exact eN0
              clear gp1 gp2 gp3 gp4 w2m v2m
              cbv
              rw [e00]
              cbv
              refine same35 w1 w2 w3 w4 v1 v2 v3 v4 (fun h6 l6 => ?_)
              have hfin : Le h h6 ∧ Value.bool true = .bool true := ⟨((hleS.trans hle4).trans l5).trans l6, rfl⟩
              cbv
              rw [hN3]
              exact hfin
            · rw [decide_eq_false hd1] at f1'
              cbv
              rw [f1']
              cbv
              refine rollback34K hq (gok2 hAll hSO1 (by omega)) (by decide) 2 (groll hAll hun) (fun h5 b1 n1 c1 b2 n2 c2 b3 n3 c3 b4 n4 c4 l5 q5' => ?_)
              have q5 : RDB h5 (.agg #[.slice b1 n1 c1, .slice b2 n2 c2, .slice b3 n3 c3, .slice b4 n4 c4]) (gZ F) := q5'
              clear q5'
              have qw5 := qWas.mono (hle4.trans l5)
              obtain ⟨w1, ⟨ws1, w2, w2m⟩, w3, w4⟩ := q5.partsP
              obtain ⟨v1, ⟨ws2, v2, v2m⟩, v3, v4⟩ := qw5.partsP
              obtain ⟨gp1, gp2, gp3, gp4⟩ := gparts F
              rw [gp2] at w2m v2m
              obtain rfl : ws1 = [] := List.map_eq_nil_iff.1 w2m
              obtain rfl : ws2 = [] := List.map_eq_nil_iff.1 v2m
              have hn3 : n3 = 0 := by rw [w3.len, gp3]; rfl
              have hN3 : A .icm .eql (A .nat n3) 0 = true := by rw [hn3]; exact eN0
              clear gp1 gp2 gp3 gp4 w2m v2m
              cbv
              rw [e00]
              cbv
              refine same35 w1 w2 w3 w4 v1 v2 v3 v4 (fun h6 l6 => ?_)
              have hfin : Le h h6 ∧ Value.bool true = .bool true := ⟨((hleS.trans hle4).trans l5).trans l6, rfl⟩
              cbv
              rw [hN3]
              exact hfin
      · rw [decide_eq_false hc1] at f1
        cbv
        rw [f1]
        cbv
        refine commit28K hq (gok1 hAll hSO (by omega)) (by decide) 1 (gcommit hAll) (fun h2 a1 p1 r1 a2 p2 r2 a3 p3 r3 a4 p4 r4 b5 n5 c5 l2 q2' _ => ?_)
        have q2 : RDB h2 (.agg #[.slice a1 p1 r1, .slice a2 p2 r2, .slice a3 p3 r3, .slice a4 p4 r4]) (gZ F) := q2'
        clear q2'
        have hle2 := hle.trans l2
        cbv
        rw [n00]
        cbv
        refine begin18K q2 2 (gsmall hSO) (gbegin2 F) (fun hs b1 n1 c1 b2 n2 c2 b3 n3 c3 b4 n4 c4 ls qs' => ?_)
        have qs : RDB hs (.agg #[.slice b1 n1 c1, .slice b2 n2 c2, .slice b3 n3 c3, .slice b4 n4 c4]) (GG 2 F [] [] []) := qs'
        clear qs'
        have hleS := hle2.trans ls
        have qWas := q2.mono ls
        clear hAll hHl hq q2
        obtain ⟨I2, hI20⟩ : ∃ I : Nat → (Int × W12) → Heap → Prop, ∀ m g h2, I m g h2 = ∃ (i : Nat) (F' : Nat → List Row) (L : List Chg) (M : List Mrk) (H : List Hld), IsN g.1 i ∧ m = 40 - i ∧ i ≤ 40 ∧ i ≤ lenB ∧ Le hs h2 ∧ RDB h2 g.2.val (GG 2 F' L M H) ∧ AllS 2 H ∧ H.length ≤ i ∧ SOF F' ∧ undoL (tG F') L = tG F := ⟨_, fun _ _ _ => rfl⟩
        cbv
        refine LoopX.go (G := Int × W12) (fun g => [(10, .v (.int .i64 g.1))]) (fun g => [(5, [.slice g.2.b1 g.2.n1 g.2.c1, .slice g.2.b2 g.2.n2 g.2.c2, .slice g.2.b3 g.2.n3 g.2.c3, .slice g.2.b4 g.2.n4 g.2.c4]), (6, [.slice d1 m1 e1, .slice d2 m2 e2, .slice d3 m3 e3, .slice d4 m4 e4]), (9, [.slice a1 p1 r1, .slice a2 p2 r2, .slice a3 p3 r3, .slice a4 p4 r4])])
          (fun m g h' => I2 m g h') 40 (0, ⟨b1, n1, c1, b2, n2, c2, b3, n3, c3, b4, n4, c4⟩) ⟨?_, ?_, ?_⟩ (by rw [hI20]; exact ⟨0, F, [], [], [], ⟨rfl⟩, rfl, by omega, by omega, Le.refl _, qs, by simp [AllS], by simp, hSO, gundo0 F⟩) ?_
        · cbv
        · cbv
        · cbv
        · intro m g h4 hI
          rw [hI20] at hI
          cbv
          obtain ⟨j, F1, L1, M1, H1, hz2, hm2, hj, hjl, hle4, hq, hAll, hHl, hSO1, hun⟩ := hI
          obtain ⟨z2, ⟨b1, n1, c1, b2, n2, c2, b3, n3, c3, b4, n4, c4⟩⟩ := g
          have hz2 : IsN z2 j := hz2
          have hq : RDB h4 (.agg #[.slice b1 n1 c1, .slice b2 n2 c2, .slice b3 n3 c3, .slice b4 n4 c4]) (GG 2 F1 L1 M1 H1) := hq
          have f1' : A .icm .lss z2 (A .nat lenB) = decide (j < lenB) := hz2.lt2 (IsN.nat lenB)
          have f2' : A .icm .lss z2 40 = decide (j < 40) := hz2.lt2 (w := 40) (j := 40) ⟨rfl⟩
          have hend2 : ∀ P : Prop, (j < lenB ∧ j < 40 → P) → (¬ (j < lenB ∧ j < 40) → P) → P := fun P a b => by
            by_cases h : j < lenB ∧ j < 40
            · exact a h
            · exact b h
          refine hend2 _ (fun ⟨hd1, hd2⟩ => ?_) (fun hno2 => ?_)
          · rw [decide_eq_true hd1] at f1'
            rw [decide_eq_true hd2] at f2'
            obtain ⟨⟨xk, xs', xt, xn, xx⟩, hx⟩ := get_ex (xs := ys) (i := j) (by omega)
            have hxo := hys _ (List.mem_of_getElem? hx)
            have hxn : -2 ^ 63 ≤ xn ∧ xn < 2 ^ 63 := hxo.n
            have hck : bB.isSome = true ∧ 0 ≤ z2 ∧ z2 < (lenB : Int) := ⟨qB.isSm (by omega), hz2.ix hd1⟩
            have hze := hz2.eq
            have hnx := hz2.succ (A := A) (by omega)
            obtain ⟨r, hr⟩ : ∃ r, r = fitL cE xn cE.length := ⟨_, rfl⟩
            have hro : RowOk r := by rw [hr]; exact hfo xn
            have hro' := hro
            obtain ⟨ra, rv, hre, -⟩ := hro'
            have hrl : r.length = 2 := by rw [hre]; rfl
            have hg0 : r[0]? = some ⟨2, ra, noS⟩ := by rw [hre]; rfl
            cbv
            rw [f1']
            cbv
            rw [f2']
            cbv
            refine ⟨hck, ?_⟩
            cbv
            refine (qB.mono (hleS.trans hle4)).load hx hze (fun cs hcs => ?_)
            have hcs : cs = [.int .i64 xk, .int .i64 xs', .int .i64 xt, .int .i64 xn, .bool xx] := hcs
            subst hcs
            cbv
            refine within15 xt 3 (by omega) (by omega) h4 (fun z1 T hz1 hT hT3 => ?_)
            clear hT
            cbv
            refine within15 xk 4 (by omega) (by omega) h4 (fun zk kk hzk hkk hk4 => ?_)
            obtain ⟨NM, hNM⟩ : ∃ n, n = (shapeS T).name := ⟨_, rfl⟩
            have hput := gput (F := F1) (L := L1) (M := M1) hAll hT3 hSO1 hro
            have htake := gtake (F := F1) (L := L1) (M := M1) hAll hT3 hSO1 ra
            have hsave := gsave (s := 2) (F := F1) (L := L1) (M := M1) (H := H1) nM
            rw [← hNM] at hput htake
            cbv
            obtain ⟨u0, hu0⟩ : ∃ u, A .icm .eql zk 0 = u := ⟨_, rfl⟩
            obtain ⟨u1, hu1⟩ : ∃ u, A .icm .eql zk 1 = u := ⟨_, rfl⟩
            obtain ⟨u2, hu2⟩ : ∃ u, A .icm .eql zk 2 = u := ⟨_, rfl⟩
            obtain ⟨u3, hu3⟩ : ∃ u, A .icm .eql zk 3 = u := ⟨_, rfl⟩
            rw [hu0]
            cases u0 with
            | true =>
              clear htake hsave
              cbv
              obtain ⟨F', L', H', e', hp, hAll', hHl', hSO', hst'⟩ := hput
              cbv
              refine shape16 hz1 hT3 h4 (fun h5 sb1 sn1 sc1 nm1 o1 l5 hnm1 ho1 qs1 => ?_)
              obtain rfl : nm1 = NM := hnm1.trans hNM.symm
              cbv
              refine shape16 hz1 hT3 h5 (fun h6 sb sn sc nm o l6 hnm ho qs => ?_)
              rw [← hcE] at qs
              cbv
              refine fit22 qs (by omega) xn hxn (fun h7 fb fn fc l7 hf' => ?_)
              have hf : Sl 68 shVal h7 (.slice fb fn fc) r := by rw [hr]; exact hf'.sl
              have l47 := (l5.trans l6).trans l7
              cbv
              refine put23F (hq.mono l47) (gok2 hAll hSO1 (by omega)) (by decide) 2 (by decide) nm1 hf hp (fun h8 b1 n1 c1 b2 n2 c2 b3 n3 c3 b4 n4 c4 l8 q8' => ?_)
              have q8 : RDB h8 (.agg #[.slice b1 n1 c1, .slice b2 n2 c2, .slice b3 n3 c3, .slice b4 n4 c4]) (GG 2 F' L' M1 H') := q8'
              clear q8'
              have hI3 : I2 (40 - (j + 1)) (A .ari .add .i64 z2 1, ⟨b1, n1, c1, b2, n2, c2, b3, n3, c3, b4, n4, c4⟩) h8 := by
                rw [hI20]
                exact ⟨j + 1, F', L', M1, H', hnx, rfl, by omega, by omega, hle4.trans (l47.trans l8), q8, hAll', by omega, hSO', gstep hst' hun⟩
              cbv
              refine ⟨40 - (j + 1), (_, ⟨b1, n1, c1, b2, n2, c2, b3, n3, c3, b4, n4, c4⟩), by omega, ⟨?_, ?_, ?_⟩, hI3⟩
              · cbv
              · cbv
              · cbv
            | false =>
              cbv
              rw [hu1]
              cases u1 with
              | true =>
                clear htake hsave
                cbv
                obtain ⟨F', L', H', e', hp, hAll', hHl', hSO', hst'⟩ := hput
                cbv
                refine shape16 hz1 hT3 h4 (fun h5 sb1 sn1 sc1 nm1 o1 l5 hnm1 ho1 qs1 => ?_)
                obtain rfl : nm1 = NM := hnm1.trans hNM.symm
                cbv
                refine shape16 hz1 hT3 h5 (fun h6 sb sn sc nm o l6 hnm ho qs => ?_)
                rw [← hcE] at qs
                cbv
                refine fit22 qs (by omega) xn hxn (fun h7 fb fn fc l7 hf' => ?_)
                have hf : Sl 68 shVal h7 (.slice fb fn fc) r := by rw [hr]; exact hf'.sl
                have l47 := (l5.trans l6).trans l7
                cbv
                refine put23F (hq.mono l47) (gok2 hAll hSO1 (by omega)) (by decide) 2 (by decide) nm1 hf hp (fun h8 b1 n1 c1 b2 n2 c2 b3 n3 c3 b4 n4 c4 l8 q8' => ?_)
                have q8 : RDB h8 (.agg #[.slice b1 n1 c1, .slice b2 n2 c2, .slice b3 n3 c3, .slice b4 n4 c4]) (GG 2 F' L' M1 H') := q8'
                clear q8'
                have hI3 : I2 (40 - (j + 1)) (A .ari .add .i64 z2 1, ⟨b1, n1, c1, b2, n2, c2, b3, n3, c3, b4, n4, c4⟩) h8 := by
                  rw [hI20]
                  exact ⟨j + 1, F', L', M1, H', hnx, rfl, by omega, by omega, hle4.trans (l47.trans l8), q8, hAll', by omega, hSO', gstep hst' hun⟩
                cbv
                refine ⟨40 - (j + 1), (_, ⟨b1, n1, c1, b2, n2, c2, b3, n3, c3, b4, n4, c4⟩), by omega, ⟨?_, ?_, ?_⟩, hI3⟩
                · cbv
                · cbv
                · cbv
              | false =>
                cbv
                rw [hu2]
                cases u2 with
                | true =>
                  clear hput hsave
                  cbv
                  obtain ⟨F', L', H', e', hp, hAll', hHl', hSO', hst'⟩ := htake
                  cbv
                  refine shape16 hz1 hT3 h4 (fun h5 sb1 sn1 sc1 nm1 o1 l5 hnm1 ho1 qs1 => ?_)
                  obtain rfl : nm1 = NM := hnm1.trans hNM.symm
                  cbv
                  refine shape16 hz1 hT3 h5 (fun h6 sb sn sc nm o l6 hnm ho qs => ?_)
                  rw [← hcE] at qs
                  cbv
                  refine fit22 qs (by omega) xn hxn (fun h7 fb fn fc l7 hf' => ?_)
                  have hf : Sl 68 shVal h7 (.slice fb fn fc) r := by rw [hr]; exact hf'.sl
                  have l47 := (l5.trans l6).trans l7
                  have hfn : fn = 2 := by rw [hf.len, hrl]
                  have hckf : fb.isSome = true ∧ (0 : Int) ≤ 0 ∧ (0 : Int) < (fn : Int) := ⟨hf.isSm (by omega), by omega, by omega⟩
                  cbv
                  refine ⟨hckf, ?_⟩
                  cbv
                  refine hf.load hg0 (n := 0) rfl (fun cs hcs => ?_)
                  have hcs : cs = [.int .i64 2, .int .i64 ra, .string noS] := hcs
                  subst hcs
                  cbv
                  refine take24F (hq.mono l47) (gok2 hAll hSO1 (by omega)) (by decide) 2 (by decide) nm1 ⟨2, ra, noS⟩ hp (fun h8 b1 n1 c1 b2 n2 c2 b3 n3 c3 b4 n4 c4 l8 q8' => ?_)
                  have q8 : RDB h8 (.agg #[.slice b1 n1 c1, .slice b2 n2 c2, .slice b3 n3 c3, .slice b4 n4 c4]) (GG 2 F' L' M1 H') := q8'
                  clear q8'
                  have hI3 : I2 (40 - (j + 1)) (A .ari .add .i64 z2 1, ⟨b1, n1, c1, b2, n2, c2, b3, n3, c3, b4, n4, c4⟩) h8 := by
                    rw [hI20]
                    exact ⟨j + 1, F', L', M1, H', hnx, rfl, by omega, by omega, hle4.trans (l47.trans l8), q8, hAll', by omega, hSO', gstep hst' hun⟩
                  cbv
                  refine ⟨40 - (j + 1), (_, ⟨b1, n1, c1, b2, n2, c2, b3, n3, c3, b4, n4, c4⟩), by omega, ⟨?_, ?_, ?_⟩, hI3⟩
                  · cbv
                  · cbv
                  · cbv
                | false =>
                  cbv
                  rw [hu3]
                  cases u3 with
                  | true =>
                    clear hput htake
                    cbv
                    obtain ⟨M', e', hp⟩ := hsave
                    cbv
                    refine save27K hq 2 nM hp (fun h8 b1 n1 c1 b2 n2 c2 b3 n3 c3 b4 n4 c4 l8 q8' => ?_)
                    have q8 : RDB h8 (.agg #[.slice b1 n1 c1, .slice b2 n2 c2, .slice b3 n3 c3, .slice b4 n4 c4]) (GG 2 F1 L1 M' H1) := q8'
                    clear q8'
                    have hI3 : I2 (40 - (j + 1)) (A .ari .add .i64 z2 1, ⟨b1, n1, c1, b2, n2, c2, b3, n3, c3, b4, n4, c4⟩) h8 := by
                      rw [hI20]
                      exact ⟨j + 1, F1, L1, M', H1, hnx, rfl, by omega, by omega, hle4.trans l8, q8, hAll, by omega, hSO1, hun⟩
                    cbv
                    refine ⟨40 - (j + 1), (_, ⟨b1, n1, c1, b2, n2, c2, b3, n3, c3, b4, n4, c4⟩), by omega, ⟨?_, ?_, ?_⟩, hI3⟩
                    · cbv
                    · cbv
                    · cbv
                  | false =>
                    have hI3 : I2 (40 - (j + 1)) (A .ari .add .i64 z2 1, ⟨b1, n1, c1, b2, n2, c2, b3, n3, c3, b4, n4, c4⟩) h4 := by
                      rw [hI20]
                      exact ⟨j + 1, F1, L1, M1, H1, hnx, rfl, by omega, by omega, hle4, hq, hAll, by omega, hSO1, hun⟩
                    cbv
                    refine ⟨40 - (j + 1), (_, ⟨b1, n1, c1, b2, n2, c2, b3, n3, c3, b4, n4, c4⟩), by omega, ⟨?_, ?_, ?_⟩, hI3⟩
                    · cbv
                    · cbv
                    · cbv
          · have hnn2 : j = lenB ∨ j = 40 := by omega
            by_cases hd1 : j < lenB
            · have hd2 : ¬ j < 40 := fun h => hno2 ⟨hd1, h⟩
              rw [decide_eq_true hd1] at f1'
              rw [decide_eq_false hd2] at f2'
              cbv
              rw [f1']
              cbv
              rw [f2']
              cbv
              refine rollback34K hq (gok2 hAll hSO1 (by omega)) (by decide) 2 (groll hAll hun) (fun h5 b1 n1 c1 b2 n2 c2 b3 n3 c3 b4 n4 c4 l5 q5' => ?_)
              have q5 : RDB h5 (.agg #[.slice b1 n1 c1, .slice b2 n2 c2, .slice b3 n3 c3, .slice b4 n4 c4]) (gZ F) := q5'
              clear q5'
              have qw5 := qWas.mono (hle4.trans l5)
              obtain ⟨w1, ⟨ws1, w2, w2m⟩, w3, w4⟩ := q5.partsP
              obtain ⟨v1, ⟨ws2, v2, v2m⟩, v3, v4⟩ := qw5.partsP
              obtain ⟨gp1, gp2, gp3, gp4⟩ := gparts F
              rw [gp2] at w2m v2m
              obtain rfl : ws1 = [] := List.map_eq_nil_iff.1 w2m
              obtain rfl : ws2 = [] := List.map_eq_nil_iff.1 v2m
              have hn3 : n3 = 0 := by rw [w3.len, gp3]; rfl
              have hN3 : A .icm .eql (A .nat n3) 0 = true := by rw [hn3]; exact eN0
              clear gp1 gp2 gp3 gp4 w2m v2m
              cbv
              rw [e00]
              cbv
              refine same35 w1 w2 w3 w4 v1 v2 v3 v4 (fun h6 l6 => ?_)
              have hfin : Le h h6 ∧ Value.bool true = .bool true := ⟨((hleS.trans hle4).trans l5).trans l6, rfl⟩
              cbv
              rw [hN3]
              exact hfin
            · rw [decide_eq_false hd1] at f1'
              cbv
              rw [f1']
              cbv
              refine rollback34K hq (gok2 hAll hSO1 (by omega)) (by decide) 2 (groll hAll hun) (fun h5 b1 n1 c1 b2 n2 c2 b3 n3 c3 b4 n4 c4 l5 q5' => ?_)
              have q5 : RDB h5 (.agg #[.slice b1 n1 c1, .slice b2 n2 c2, .slice b3 n3 c3, .slice b4 n4 c4]) (gZ F) := q5'
              clear q5'
              have qw5 := qWas.mono (hle4.trans l5)
              obtain ⟨w1, ⟨ws1, w2, w2m⟩, w3, w4⟩ := q5.partsP
              obtain ⟨v1, ⟨ws2, v2, v2m⟩, v3, v4⟩ := qw5.partsP
              obtain ⟨gp1, gp2, gp3, gp4⟩ := gparts F
              rw [gp2] at w2m v2m
              obtain rfl : ws1 = [] := List.map_eq_nil_iff.1 w2m
              obtain rfl : ws2 = [] := List.map_eq_nil_iff.1 v2m
              have hn3 : n3 = 0 := by rw [w3.len, gp3]; rfl
              have hN3 : A .icm .eql (A .nat n3) 0 = true := by rw [hn3]; exact eN0
              clear gp1 gp2 gp3 gp4 w2m v2m
              cbv
              rw [e00]
              cbv
              refine same35 w1 w2 w3 w4 v1 v2 v3 v4 (fun h6 l6 => ?_)
              have hfin : Le h h6 ∧ Value.bool true = .bool true := ⟨((hleS.trans hle4).trans l5).trans l6, rfl⟩
              cbv
              rw [hN3]
              exact hfin
end Go.S

