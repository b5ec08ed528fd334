import Derived.Test.YtnfijhlegoagjaaGreatH3
import Derived.Test.YtnfijhlegoagjaaGreatEC
set_option linter.unusedVariables false
set_option linter.unusedSimpArgs false
set_option linter.unusedSectionVars false
set_option maxRecDepth 100000
set_option maxHeartbeats 16000000
set_option linter.unusedVariables false
set_option linter.unusedSimpArgs false
namespace Go.S
open Go.Sx Go.Proofs

def rowN (j : Int) : Row := [⟨2, j, noS⟩, ⟨0, 0, noS⟩]
def rowsN (m : Nat) : List Row := (List.range m).map fun j : Nat => rowN (j : Int)
def logN (m : Nat) : List Chg := (List.range m).map fun j : Nat => ⟨nTa, 1, rowN (j : Int)⟩
theorem rowN_ok (j : Int) : RowOk (rowN j) := ⟨j, ⟨0, 0, noS⟩, rfl, .inl rfl⟩
theorem rowsN_succ (m : Nat) : rowsN (m + 1) = rowsN m ++ [rowN (m : Int)] := by unfold rowsN; rw [List.range_succ, List.map_append]; rfl
theorem logN_succ (m : Nat) : logN (m + 1) = logN m ++ [⟨nTa, 1, rowN (m : Int)⟩] := by unfold logN; rw [List.range_succ, List.map_append]; rfl
theorem rowsN_len (m : Nat) : (rowsN m).length = m := by simp [rowsN]
theorem logN_len (m : Nat) : (logN m).length = m := by simp [logN]
theorem rowN_key (j : Int) : keyOf (shapeS 0).key (rowN j) = ⟨2, j, noS⟩ := by
  have : (shapeS 0).key = 0 := by kernel_rfl
  rw [this]; rfl
theorem valCmp_lt {i j : Int} (h : i < j) : valCmp ⟨2, i, noS⟩ ⟨2, j, noS⟩ = -1 := by
  have e1 : cmpI i j = -1 := by unfold cmpI; simp [h]
  unfold valCmp
  simp only [cmpI_self, e1]
  rfl
theorem rowCmps_N (m : Nat) (i : Nat) (h : m ≤ i) : rowCmps ⟨shapeS 0, rowsN m⟩ ⟨2, (i : Int), noS⟩ = List.replicate m (-1) := by
  apply List.ext_getElem?
  intro j
  unfold rowCmps rowsN
  simp only [List.map_map]
  rw [List.getElem?_map, List.getElem?_replicate]
  by_cases hj : j < m
  · rw [List.getElem?_range hj, if_pos hj]
    simp only [Option.map_some, Function.comp_apply]
    rw [rowN_key, valCmp_lt (by omega)]
  · rw [if_neg hj, List.getElem?_eq_none (by simpa using hj)]; rfl
theorem bs_neg (m : Nat) : bsI (List.replicate m (-1)) = m ∧ bsB (List.replicate m (-1)) = false := by
  have h : bsI (List.replicate m (-1)) = m := by
    unfold bsI
    refine bsAt_eq _ m (fun k hk => ?_) 0 _ (fun k h1 h2 => ?_) (Nat.zero_le _) (by simp)
    · rw [List.getD_eq_getElem?_getD, List.getElem?_replicate, if_pos hk]; decide
    · simp at h2; omega
  refine ⟨h, ?_⟩
  unfold bsB
  rw [h]
  simp
theorem tblPut_N (m i : Nat) (h : m ≤ i) (h2 : m < 200) : tblPut ⟨shapeS 0, rowsN m⟩ (rowN (i : Int)) = (⟨shapeS 0, rowsN m ++ [rowN (i : Int)]⟩, 0) := by
  have hf : fitsErr (shapeS 0).cols (rowN (i : Int)) = 0 := (rowN_ok _).fits
  have hc := rowCmps_N m i h
  obtain ⟨b1, b2⟩ := bs_neg m
  unfold tblPut
  simp only
  rw [hf, rowN_key, hc, b2, b1]
  have h3 : decide ((((rowsN m).length : Nat) : Int) ≥ 200) = false := decide_eq_false (by rw [rowsN_len]; omega)
  rw [h3]
  simp [tblIns, rowsN_len, List.take_of_length_le, List.drop_eq_nil_of_le]
theorem putR_N (i : Nat) : putR (rowsN (min i 60)) (logN (min i 60)) (rowN (i : Int)) = (rowsN (min (i + 1) 60), logN (min (i + 1) 60), if i < 60 then 0 else 4) := by
  unfold putR pick3
  rw [tblPut_N (min i 60) i (by omega) (by omega), logN_len]
  by_cases h : i < 60
  · have e1 : min i 60 = i := by omega
    have e2 : min (i + 1) 60 = i + 1 := by omega
    have e3 : decide (((i : Nat) : Int) ≥ 60) = false := decide_eq_false (by omega)
    rw [e1, e2, e3, rowsN_succ, logN_succ, if_pos h]
    rfl
  · have e1 : min i 60 = 60 := by omega
    have e2 : min (i + 1) 60 = 60 := by omega
    rw [e1, e2, if_neg h]
    rfl
def mkH (i : Nat) : List Hld := if i = 0 then [] else [hX 0]
def mkD (i : Nat) : DB := mnD 0 (rowsN (min i 60)) (logN (min i 60)) [] (mkH i)
theorem mkD0 : mkD 0 = dbW 0 := by kernel_rfl
theorem mkH_or (i : Nat) : mkH i = [] ∨ mkH i = [hX 0] := by unfold mkH; split <;> simp
theorem mk_put (i : Nat) : putF (mkD i) 0 nTa (rowN (i : Int)) = (mkD (i + 1), if i < 60 then 0 else 4) := by
  unfold mkD
  rw [putF_mn0 (mkH_or i), putR_N]
  rfl
theorem mk_ok (i : Nat) : Okd 2 (mkD i) := mn_ok (by decide) (mkH_or i) (by rw [rowsN_len]; omega)
def svD (p j : Nat) : DB := mnD 0 (rowsN p) (logN p) (List.replicate (min j 10) ⟨nM, (p : Int)⟩) [hX 0]
theorem markM : markBad nM = false := by kernel_rfl
theorem markT : markBad ⟨#[116, 97, 98, 108, 101]⟩ = true := by kernel_rfl
theorem sv_save (p j : Nat) : saveD (svD p j) 0 nM = (svD p (j + 1), if j < 10 then 0 else 4) := by
  have hb := mn_bs0 (rowsN p) (logN p) (List.replicate (min j 10) ⟨nM, (p : Int)⟩) [hX 0]
  have hw : (svD p j).works[0]? = some ⟨0, logN p, List.replicate (min j 10) ⟨nM, (p : Int)⟩⟩ := rfl
  unfold saveD
  rw [show bsB (wrkC (svD p j).works 0) = true from hb.2.2.1, show bsI (wrkC (svD p j).works 0) = 0 from hb.2.1, hw, markM]
  simp only [if_true, Bool.false_eq_true, if_false]
  rw [logN_len, List.length_replicate]
  by_cases h : j < 10
  · have e1 : min j 10 = j := by omega
    have e2 : min (j + 1) 10 = j + 1 := by omega
    have e3 : decide (((j : Nat) : Int) ≥ 10) = false := decide_eq_false (by omega)
    rw [e1, e3, if_pos h]
    unfold svD
    rw [e1, e2, List.replicate_succ']
    rfl
  · have e1 : min j 10 = 10 := by omega
    have e2 : min (j + 1) 10 = 10 := by omega
    rw [e1, if_neg h]
    unfold svD
    rw [e1, e2]
    rfl
theorem sv_bad (p j : Nat) : saveD (svD p j) 0 ⟨#[116, 97, 98, 108, 101]⟩ = (svD p j, 12) := by
  have hb := mn_bs0 (rowsN p) (logN p) (List.replicate (min j 10) ⟨nM, (p : Int)⟩) [hX 0]
  unfold saveD
  rw [show bsB (wrkC (svD p j).works 0) = true from hb.2.2.1, markT]
  rfl
theorem mk_sv {i : Nat} (h : 0 < i) : mkD i = svD (min i 60) 0 := by
  unfold mkD svD mkH
  rw [if_neg (by omega)]
  rfl
theorem sv_work (p j : Nat) : ∃ w, (svD p j).works[0]? = some w ∧ w.log.length = p ∧ (svD p j).works.length = 1 := ⟨_, rfl, logN_len p, rfl⟩

theorem RDB.worksP {h : Heap} {d : DB} {b1 b2 b3 b4 : Option Addr} {n1 c1 n2 c2 n3 c3 n4 c4 : Nat} (q : RDB h (.agg #[.slice b1 n1 c1, .slice b2 n2 c2, .slice b3 n3 c3, .slice b4 n4 c4]) d) : ∃ ws, Sl 60 shWrkG h (.slice b2 n2 c2) ws ∧ ws.map (·.1) = d.works := by
  obtain ⟨_, _, _, _, _, _, _, _, _, _, _, _, ws, he, _, q2, _, _, hm⟩ := q.out
  cases he
  exact ⟨ws, q2, hm⟩

theorem many6 (n : Int) (hn : -2 ^ 63 ≤ n ∧ n < 2 ^ 63) (h : Heap) : Ct 6 [.int .i64 n] h (fun v h' => Le h h' ∧ v = .bool true) := by
  obtain ⟨A, hA⟩ := Ar.ex
  have hnot1 : A .not true = false := by rw [hA.not]; rfl
  have e00 : A .icm .eql 0 0 = true := by rw [icm_eql A]; rfl
  have e40 : A .icm .eql 4 0 = false := by rw [icm_eql A]; rfl
  have n00 : A .icm .neq 0 0 = false := by rw [icm_neq A]; rfl
  have n40 : A .icm .neq 4 0 = true := by rw [icm_neq A]; rfl
  have n44 : A .icm .neq 4 4 = false := by rw [icm_neq A]; rfl
  have e12 : A .icm .eql 12 12 = true := by rw [icm_eql A]; rfl
  have btt : A .not (A .bcm .eql true true) = false := by rw [hA.bcm, hA.not]; rfl
  have bff : A .not (A .bcm .eql false false) = false := by rw [hA.bcm, hA.not]; rfl
  have hbeg : beginD startE 0 = (mkD 0, 0) := by rw [mkD0]; exact begin_start 0 (by decide)
  obtain ⟨mk, hmk⟩ : ∃ m, m = mkD := ⟨_, rfl⟩
  obtain ⟨sv, hsv⟩ : ∃ m, m = svD := ⟨_, rfl⟩
  have mput : ∀ (i : Nat) (z : Int), IsN z i → putF (mk i) 0 nTa (rowN z) = (mk (i + 1), if i < 60 then 0 else 4) := fun i z hz => by rw [hz.eq, hmk]; exact mk_put i
  have mok : ∀ i, Okd 2 (mk i) := by rw [hmk]; exact mk_ok
  have msv : ∀ i, 0 < i → mk i = sv (min i 60) 0 := by rw [hmk, hsv]; exact fun i h => mk_sv h
  have ssave : ∀ p j, saveD (sv p j) 0 nM = (sv p (j + 1), if j < 10 then 0 else 4) := by rw [hsv]; exact sv_save
  have sbad : ∀ p j, saveD (sv p j) 0 ⟨#[116, 97, 98, 108, 101]⟩ = (sv p j, 12) := by rw [hsv]; exact sv_bad
  have swork : ∀ p j, ∃ w, (sv p j).works[0]? = some w ∧ w.log.length = p ∧ (sv p j).works.length = 1 := by rw [hsv]; exact sv_work
  rw [← hmk] at hbeg
  clear hmk hsv
  refine fn_of_sx A (tabOk T6.plan T6.pub) Tryz.func6 rfl (by kernel_rfl) ?_
  cbv
  refine (known14 h).mono (fun v h0 hR => ?_)
  obtain ⟨l0, rfl⟩ := hR
  cbv
  rw [hnot1]
  cbv
  refine within15 n 8 (by omega) (by omega) h0 (fun zk kk hzk hkk hk8 => ?_)
  obtain ⟨N, hN⟩ : ∃ N, N = 57 + kk := ⟨_, rfl⟩
  have hNz : IsN (A .ari .add .i64 57 zk) N := by rw [hN]; exact IsN.add (z := 57) (i := 57) ⟨rfl⟩ hzk (by omega)
  have hN57 : 57 ≤ N ∧ N ≤ 64 := by omega
  obtain ⟨zN, hzN⟩ : ∃ z, A .ari .add .i64 57 zk = z := ⟨_, rfl⟩
  rw [hzN] at hNz
  cbv
  refine begun21 0 hbeg (fun h1 b1 n1 c1 b2 n2 c2 b3 n3 c3 b4 n4 c4 l1' q1' => ?_)
  have q1 : RDB h1 (.agg #[.slice b1 n1 c1, .slice b2 n2 c2, .slice b3 n3 c3, .slice b4 n4 c4]) (mk 0) := q1'
  clear q1'
  have l1 := l0.trans l1'
  obtain ⟨I, hI0⟩ : ∃ I : Nat → (Int × W12) → Heap → Prop, ∀ m g h', I m g h' = ∃ i : Nat, IsN g.1 i ∧ m = N - i ∧ i ≤ N ∧ Le h h' ∧ RDB h' g.2.val (mk i) := ⟨_, fun _ _ _ => rfl⟩
  cbv
  rw [hzN]
  clear hzN
  refine LoopX.go (G := Int × W12) (fun g => [(4, .v (.int .i64 g.1))]) (fun g => [(3, [.slice g.2.b1 g.2.n1 g.2.c1, .slice g.2.b2 g.2.n2 g.2.c2, .slice g.2.b3 g.2.n3 g.2.c3, .slice g.2.b4 g.2.n4 g.2.c4])])
    (fun m g h' => I m g h') N (0, ⟨b1, n1, c1, b2, n2, c2, b3, n3, c3, b4, n4, c4⟩) ⟨?_, ?_, ?_⟩ (by rw [hI0]; exact ⟨0, ⟨rfl⟩, rfl, by omega, l1, q1⟩) ?_
  · cbv
  · cbv
  · cbv
  · intro m g h' hI
    rw [hI0] at hI
    cbv
    obtain ⟨i, hz, hm, hi, hle, hq⟩ := hI
    obtain ⟨z, ⟨b1, n1, c1, b2, n2, c2, b3, n3, c3, b4, n4, c4⟩⟩ := g
    have hz : IsN z i := hz
    have hq : RDB h' (.agg #[.slice b1 n1 c1, .slice b2 n2 c2, .slice b3 n3 c3, .slice b4 n4 c4]) (mk i) := hq
    have f1 : A .icm .lss z zN = decide (i < N) := hz.lt2 hNz
    have f2 : A .icm .lss z 60 = decide (i < 60) := hz.lt2 (w := 60) (j := 60) ⟨rfl⟩
    cbv
    rw [f1]
    by_cases hc : i < N
    · have hp := mput i z hz
      have hok := mok i
      have hnx := hz.succ (A := A) (by omega)
      have hze := hz.eq
      have hrow : rowN z = [⟨2, z, noS⟩, ⟨0, 0, noS⟩] := rfl
      rw [decide_eq_true hc]
      cbv
      intro n6 h6 g6 e6
      have l6 : Le h' h6 := by rw [e6]; exact Le.set g6
      have f6 := (congrFun e6 n6).trans hset_self
      have qr : Sl 68 shVal h6 (.slice (some ⟨n6, 0, none⟩) 2 2) (rowN z) := by
        refine Sl.fresh (α := Val) (s := shVal) (xs := [⟨2, z, noS⟩, ⟨0, 0, noS⟩]) f6 ⟨by simp [shVal], fun j y hj => ?_⟩ (by simp) (by simp)
        match j, hj with
        | 0, hj => simp at hj; subst hj; rfl
        | 1, hj => simp at hj; subst hj; rfl
        | j + 2, hj => simp at hj
      have hdisj : (∃ e, (if i < 60 then (0 : Int) else 4) = e ∧ ((e = 0 ∧ decide (i < 60) = true) ∨ (e = 4 ∧ decide (i < 60) = false))) := by
        by_cases h60 : i < 60
        · exact ⟨0, by simp [h60], .inl ⟨rfl, decide_eq_true h60⟩⟩
        · exact ⟨4, by simp [h60], .inr ⟨rfl, decide_eq_false h60⟩⟩
      obtain ⟨e, he, hcase⟩ := hdisj
      rw [he] at hp
      cbv
      refine put23F (hq.mono l6) hok (by decide) 0 (by decide) nTa qr hp (fun h7 b1 n1 c1 b2 n2 c2 b3 n3 c3 b4 n4 c4 l7 q7 => ?_)
      have hI2 : I (N - (i + 1)) (A .ari .add .i64 z 1, ⟨b1, n1, c1, b2, n2, c2, b3, n3, c3, b4, n4, c4⟩) h7 := by
        rw [hI0]
        exact ⟨i + 1, hnx, rfl, by omega, (hle.trans l6).trans l7, q7⟩
      rcases hcase with ⟨rfl, h60⟩ | ⟨rfl, h60⟩
      · rw [h60] at f2
        cbv
        rw [e00, f2]
        cbv
        rw [btt]
        cbv
        rw [n00]
        cbv
        refine ⟨N - (i + 1), (_, ⟨b1, n1, c1, b2, n2, c2, b3, n3, c3, b4, n4, c4⟩), by omega, ⟨?_, ?_, ?_⟩, hI2⟩
        · cbv
        · cbv
        · cbv
      · rw [h60] at f2
        cbv
        rw [e40, f2]
        cbv
        rw [bff]
        cbv
        rw [n40]
        cbv
        rw [n44]
        cbv
        refine ⟨N - (i + 1), (_, ⟨b1, n1, c1, b2, n2, c2, b3, n3, c3, b4, n4, c4⟩), by omega, ⟨?_, ?_, ?_⟩, hI2⟩
        · cbv
        · cbv
        · cbv
    · have hiN : i = N := by omega
      subst hiN
      rw [msv i (by omega)] at hq
      obtain ⟨p, hp⟩ : ∃ p, p = min i 60 := ⟨_, rfl⟩
      rw [← hp] at hq
      have hmin : A .imin zN 60 = (p : Int) := by rw [hA.imin, hp]; have := hNz.eq; show min zN 60 = _; omega
      obtain ⟨I2, hI20⟩ : ∃ I : Nat → (Int × W12) → Heap → Prop, ∀ m g h', I m g h' = ∃ j : Nat, IsN g.1 j ∧ m = 12 - j ∧ j ≤ 12 ∧ Le h h' ∧ RDB h' g.2.val (sv p j) := ⟨_, fun _ _ _ => rfl⟩
      rw [decide_eq_false hc]
      cbv
      refine LoopX.go (G := Int × W12) (fun g => [(7, .v (.int .i64 g.1))]) (fun g => [(3, [.slice g.2.b1 g.2.n1 g.2.c1, .slice g.2.b2 g.2.n2 g.2.c2, .slice g.2.b3 g.2.n3 g.2.c3, .slice g.2.b4 g.2.n4 g.2.c4])])
        (fun m g h' => I2 m g h') 12 (0, ⟨b1, n1, c1, b2, n2, c2, b3, n3, c3, b4, n4, c4⟩) ⟨?_, ?_, ?_⟩ (by rw [hI20]; exact ⟨0, ⟨rfl⟩, rfl, by omega, hle, hq⟩) ?_
      · cbv
      · cbv
      · cbv
      · intro m g h2 hI
        rw [hI20] at hI
        cbv
        obtain ⟨j, hz2, hm2, hj, hle2, hq2⟩ := hI
        obtain ⟨z2, ⟨b1, n1, c1, b2, n2, c2, b3, n3, c3, b4, n4, c4⟩⟩ := g
        have hz2 : IsN z2 j := hz2
        have hq2 : RDB h2 (.agg #[.slice b1 n1 c1, .slice b2 n2 c2, .slice b3 n3 c3, .slice b4 n4 c4]) (sv p j) := hq2
        have f1 : A .icm .lss z2 12 = decide (j < 12) := hz2.lt2 (w := 12) (j := 12) ⟨rfl⟩
        have f2 : A .icm .lss z2 10 = decide (j < 10) := hz2.lt2 (w := 10) (j := 10) ⟨rfl⟩
        cbv
        rw [f1]
        by_cases hc2 : j < 12
        · have hp2 := ssave p j
          have hnx := hz2.succ (A := A) (by omega)
          rw [decide_eq_true hc2]
          have hdisj : (∃ e, (if j < 10 then (0 : Int) else 4) = e ∧ ((e = 0 ∧ decide (j < 10) = true) ∨ (e = 4 ∧ decide (j < 10) = false))) := by
            by_cases h60 : j < 10
            · exact ⟨0, by simp [h60], .inl ⟨rfl, decide_eq_true h60⟩⟩
            · exact ⟨4, by simp [h60], .inr ⟨rfl, decide_eq_false h60⟩⟩
          obtain ⟨e, he, hcase⟩ := hdisj
          rw [he] at hp2
          cbv
          refine save27K hq2 0 nM hp2 (fun h7 b1 n1 c1 b2 n2 c2 b3 n3 c3 b4 n4 c4 l7 q7 => ?_)
          have hI2' : I2 (12 - (j + 1)) (A .ari .add .i64 z2 1, ⟨b1, n1, c1, b2, n2, c2, b3, n3, c3, b4, n4, c4⟩) h7 := by
            rw [hI20]
            exact ⟨j + 1, hnx, rfl, by omega, hle2.trans l7, q7⟩
          rcases hcase with ⟨rfl, h60⟩ | ⟨rfl, h60⟩
          · rw [h60] at f2
            cbv
            rw [e00, f2]
            cbv
            rw [btt]
            cbv
            rw [n00]
            cbv
            refine ⟨12 - (j + 1), (_, ⟨b1, n1, c1, b2, n2, c2, b3, n3, c3, b4, n4, c4⟩), by omega, ⟨?_, ?_, ?_⟩, hI2'⟩
            · cbv
            · cbv
            · cbv
          · rw [h60] at f2
            cbv
            rw [e40, f2]
            cbv
            rw [bff]
            cbv
            rw [n40]
            cbv
            rw [n44]
            cbv
            refine ⟨12 - (j + 1), (_, ⟨b1, n1, c1, b2, n2, c2, b3, n3, c3, b4, n4, c4⟩), by omega, ⟨?_, ?_, ?_⟩, hI2'⟩
            · cbv
            · cbv
            · cbv
        · obtain ⟨w, hw, hwl, hw1⟩ := swork p j
          obtain ⟨ws, hws, hwm⟩ := hq2.worksP
          obtain ⟨⟨w', wf⟩, hw'⟩ := get_ex (xs := ws) (i := 0) (by have := congrArg List.length hwm; rw [List.length_map, hw1] at this; omega)
          have hww : w' = w := by
            have : (ws.map (·.1))[0]? = some w' := by rw [List.getElem?_map, hw']; rfl
            rw [hwm, hw] at this
            cases this; rfl
          subst hww
          have hn2 : n2 = 1 := by rw [hws.len, ← hw1, ← hwm, List.length_map]
          have hck : b2.isSome = true ∧ (0 : Int) ≤ 0 ∧ (0 : Int) < (n2 : Int) := ⟨hws.isSm (by omega), by omega, by omega⟩
          rw [decide_eq_false hc2]
          cbv
          refine save27K hq2 0 ⟨#[116, 97, 98, 108, 101]⟩ (sbad p j) (fun h7 d1 m1 e1 d2 m2 e2 d3 m3 e3 d4 m4 e4 l7 q7 => ?_)
          cbv
          rw [e12]
          cbv
          refine ⟨hck, ?_⟩
          cbv
          refine ld_log (hws.mono (l7.t _)) hw' (n := 0) rfl (fun lb ln lc ql _ _ => ?_)
          have hln : ln = p := by rw [ql.len]; exact hwl
          have hlast : A .icm .eql (A .nat ln) (A .imin zN 60) = true := by rw [icm_eql A, hmin, hln, hA.nat]; exact decide_eq_true rfl
          have hfin : Le h h7 ∧ Value.bool true = .bool true := ⟨hle2.trans l7, rfl⟩
          cbv
          rw [hlast]
          exact hfin
end Go.S

