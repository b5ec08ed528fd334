import Derived.Test.YtnfijhlegoagjaaGreatH3a
import Derived.Test.YtnfijhlegoagjaaGreatEC
import Derived.Test.YtnfijhlegoagjaaGreatH2
set_option linter.unusedVariables false
set_option linter.unusedSimpArgs false
set_option linter.unusedSectionVars false
set_option maxRecDepth 100000
set_option maxHeartbeats 16000000
set_option linter.unusedVariables false
set_option linter.unusedSimpArgs false
namespace Go.S
open Go.Sx Go.Proofs

abbrev W12.cells (v : W12) : List Value := [.slice v.b1 v.n1 v.c1, .slice v.b2 v.n2 v.c2, .slice v.b3 v.n3 v.c3, .slice v.b4 v.n4 v.c4]
abbrev W12.val (v : W12) : Value := .agg #[.slice v.b1 v.n1 v.c1, .slice v.b2 v.n2 v.c2, .slice v.b3 v.n3 v.c3, .slice v.b4 v.n4 v.c4]
def w0 : W12 := ⟨none, 0, 0, none, 0, 0, none, 0, 0, none, 0, 0⟩
def cmD (R : List Row) : DB := ⟨[⟨shapeS 0, R⟩, tblS 1, tblS 2], [], [], []⟩
def drD : DB := ⟨[tblS 1, tblS 2], [], [], []⟩
theorem mn_drop (R : List Row) (L : List Chg) (H : List Hld) : dropD (mnD 0 R L [] H) nTa = (mnD 0 R L [] H, 18) ∧ dropD (mnD 0 R L [] H) ⟨#[110, 111, 110, 101]⟩ = (mnD 0 R L [] H, 2) := ⟨by kernel_rfl, by kernel_rfl⟩
theorem mn_commit (R : List Row) (L : List Chg) {H : List Hld} (hH : H = [] ∨ H = [hX 0]) : commitD (mnD 0 R L [] H) 0 = (cmD R, L, 0) := by
  rcases hH with rfl | rfl
  · kernel_rfl
  · kernel_rfl
theorem cm_drop (R : List Row) : dropD (cmD R) nTa = (drD, 0) := by kernel_rfl
theorem dr_create : createD drD (shapeS 0) = (startE, 0) := by kernel_rfl
theorem dr_small : Small drD := smallB_ok (by kernel_rfl)

theorem drops8 {h : Heap} {b : Option Addr} {len cap : Nat} {xs : List Int} (q : SlB shInt h (.slice b len cap) xs) (hxs : ∀ x ∈ xs, -2 ^ 63 ≤ x ∧ x < 2 ^ 63) (busy : Bool) : Ct 8 [.slice b len cap, .bool busy] h (fun v h' => Le h h' ∧ v = .bool true) := by
  obtain ⟨A, hA⟩ := Ar.ex
  have hlen := q.len
  have hnot1 : A .not true = false := by rw [hA.not]; rfl
  have e00 : A .icm .eql 0 0 = true := by rw [icm_eql A]; rfl
  have e22 : A .icm .eql 2 2 = true := by rw [icm_eql A]; rfl
  have e18 : A .icm .eql 18 18 = true := by rw [icm_eql A]; rfl
  have eN2 : A .icm .eql (A .nat 2) 2 = true := by rw [icm_eql A, hA.nat]; rfl
  have eN3 : A .icm .eql (A .nat 3) 3 = true := by rw [icm_eql A, hA.nat]; rfl
  have eN0 : A .icm .eql (A .nat 0) 0 = true := by rw [icm_eql A, hA.nat]; rfl
  have hbeg : beginD startE 0 = (mnD 0 [] [] [] [], 0) := begin_start 0 (by decide)
  have mnok := fun (R : List Row) (L : List Chg) (H : List Hld) => @mn_ok 0 (by decide) R L [] H
  have mnput := fun (R : List Row) (L : List Chg) (H : List Hld) => @putF_mn0 R L [] H
  have mndrop := mn_drop
  have mncommit := fun R L H => @mn_commit R L H
  have cmdrop := cm_drop
  have tl3 : startE.tabs.length = 3 := rfl
  have t0 : startE.tabs[0]? = some ⟨shapeS 0, []⟩ := rfl
  have dl2 : drD.tabs.length = 2 := rfl
  have drc := dr_create
  have drs := dr_small
  obtain ⟨cE, hcE⟩ : ∃ c, c = shColsE := ⟨_, rfl⟩
  have hcl : cE.length ≤ 2 ^ 20 := by rw [hcE]; decide
  obtain ⟨SE, hSE⟩ : ∃ S, S = startE := ⟨_, rfl⟩
  rw [← hSE] at tl3 t0 drc
  have hcd : ∀ nm o, nm = (shapeS 0).name → o = (shapeS 0).only → createD drD ⟨nm, cE, 0, o⟩ = (SE, 0) := fun nm o h1 h2 => by rw [h1, h2, hcE]; exact drc
  clear hSE drc
  generalize drD = DD at *
  generalize hcm : cmD = CM at *
  generalize hmn : mnD 0 = MN at *
  obtain ⟨I, hI0⟩ : ∃ I : Nat → (Int × W12) → Heap → Prop, ∀ m g h', I m g h' = ∃ (i : Nat) (R : List Row) (L : List Chg) (H : List Hld), IsN g.1 i ∧ m = 20 - i ∧ i ≤ 20 ∧ Le h h' ∧ RDB h' g.2.val (MN R L [] H) ∧ (H = [] ∨ H = [hX 0]) ∧ R.length ≤ 2 ^ 36 := ⟨_, fun _ _ _ => rfl⟩
  refine fn_of_sx A (tabOk T8.plan T8.pub) Tryz.func8 rfl (by kernel_rfl) ?_
  cbv
  refine (known14 h).mono (fun v h0 hR => ?_)
  obtain ⟨l0, rfl⟩ := hR
  cbv
  rw [hnot1]
  cbv
  refine begun21 0 hbeg (fun h1 b1 n1 c1 b2 n2 c2 b3 n3 c3 b4 n4 c4 l1' q1' => ?_)
  have q1 : RDB h1 (.agg #[.slice b1 n1 c1, .slice b2 n2 c2, .slice b3 n3 c3, .slice b4 n4 c4]) (MN [] [] [] []) := q1'
  clear q1'
  have l1 := l0.trans l1'
  cbv
  refine LoopX.go (G := Int × W12) (fun g => [(6, .v (.int .i64 g.1))]) (fun g => [(5, [.slice g.2.b1 g.2.n1 g.2.c1, .slice g.2.b2 g.2.n2 g.2.c2, .slice g.2.b3 g.2.n3 g.2.c3, .slice g.2.b4 g.2.n4 g.2.c4])])
    (fun m g h' => I m g h') 20 (0, ⟨b1, n1, c1, b2, n2, c2, b3, n3, c3, b4, n4, c4⟩) ⟨?_, ?_, ?_⟩ (by rw [hI0]; exact ⟨0, [], [], [], ⟨rfl⟩, rfl, by omega, l1, q1, .inl rfl, by simp⟩) ?_
  · cbv
  · cbv
  · cbv
  · intro m g h' hI
    rw [hI0] at hI
    cbv
    obtain ⟨i, R, L, H, hz, hm, hi, hle, hq, hH, hR⟩ := hI
    obtain ⟨z, ⟨b1, n1, c1, b2, n2, c2, b3, n3, c3, b4, n4, c4⟩⟩ := g
    have hz : IsN z i := hz
    have hq : RDB h' (.agg #[.slice b1 n1 c1, .slice b2 n2 c2, .slice b3 n3 c3, .slice b4 n4 c4]) (MN R L [] H) := hq
    have ok := mnok R L H hH hR
    have hput := fun r => mnput R L H hH r
    have f1 : A .icm .lss z (A .nat len) = decide (i < len) := hz.lt2 (IsN.nat len)
    have f2 : A .icm .lss z 20 = decide (i < 20) := hz.lt2 (w := 20) (j := 20) ⟨rfl⟩
    have hend : ∀ P : Prop, (i < len ∧ i < 20 → P) → (¬ (i < len ∧ i < 20) → P) → P := fun P a b => by
      by_cases h : i < len ∧ i < 20
      · exact a h
      · exact b h
    refine hend _ (fun ⟨hc1, hc2⟩ => ?_) (fun hno => ?_)
    · rw [decide_eq_true hc1] at f1
      rw [decide_eq_true hc2] at f2
      obtain ⟨x, hx⟩ := get_ex (xs := xs) (i := i) (by omega)
      have hxr := hxs x (List.mem_of_getElem? hx)
      have hck : b.isSome = true ∧ 0 ≤ z ∧ z < (len : Int) := ⟨q.isSm (by omega), hz.ix hc1⟩
      have hze := hz.eq
      have hnx := hz.succ (A := A) (by omega)
      cbv
      rw [f1]
      cbv
      rw [f2]
      cbv
      refine ⟨hck, ?_⟩
      cbv
      refine (q.mono hle).loadP hx hze (fun cs hcs ag => ?_)
      have hcs : cs = [.int .i64 x] := hcs
      subst hcs
      cbv
      refine shape16 (z := 0) (t := 0) ⟨rfl⟩ (by omega) h' (fun h2 sb sn sc nm o l2 hnm ho qs => ?_)
      rw [← hcE] at qs
      cbv
      refine ag _ _ l2 ?_
      cbv
      refine ⟨⟨_, rfl, rfl⟩, ?_⟩
      cbv
      refine fit22 qs hcl x hxr (fun h3 fb fn fc l3 hf => ?_)
      have l23 := l2.trans l3
      have hp := hput (fitL cE x cE.length)
      have hpl := putR_len (L := L) (fitL cE x cE.length) hR
      generalize putR R L (fitL cE x cE.length) = P at hp hpl
      obtain ⟨R', L', e'⟩ := P
      have hp : putF (MN R L [] H) 0 nTa (fitL cE x cE.length) = (MN R' L' [] [hX 0], e') := hp
      have hpl : R'.length ≤ 2 ^ 36 := hpl
      cbv
      refine put23F (hq.mono l23) ok (by decide) 0 (by decide) nTa hf.sl hp (fun h4 b1 n1 c1 b2 n2 c2 b3 n3 c3 b4 n4 c4 l4 q4' => ?_)
      have hI2 : I (20 - (i + 1)) (A .ari .add .i64 z 1, ⟨b1, n1, c1, b2, n2, c2, b3, n3, c3, b4, n4, c4⟩) h4 := by
        rw [hI0]
        exact ⟨i + 1, _, _, _, hnx, rfl, by omega, (hle.trans l23).trans l4, q4', .inr rfl, hpl⟩
      cbv
      refine ⟨20 - (i + 1), (_, ⟨b1, n1, c1, b2, n2, c2, b3, n3, c3, b4, n4, c4⟩), by omega, ⟨?_, ?_, ?_⟩, hI2⟩
      · cbv
      · cbv
      · cbv
    · have hd1 := (mndrop R L H).1
      have hd2 := (mndrop R L H).2
      have hcm1 := mncommit R L H hH
      have tail : ¬ (decide (i < len) = true ∧ decide (i < 20) = true) := fun ⟨a1, a2⟩ => hno ⟨of_decide_eq_true a1, of_decide_eq_true a2⟩
      generalize decide (i < len) = u1 at *
      generalize decide (i < 20) = u2 at *
      cases u1 with
      | false =>
        cbv
        rw [f1]
        cases busy with
        | true =>
          cbv
          refine drop30K hq nTa hd1 (fun h2 b1 n1 c1 b2 n2 c2 b3 n3 c3 b4 n4 c4 l2 q2 => ?_)
          cbv
          refine drop30K (hq.mono l2) ⟨#[110, 111, 110, 101]⟩ hd2 (fun h3 b1 n1 c1 b2 n2 c2 b3 n3 c3 b4 n4 c4 l3 q3 => ?_)
          have hfin : Le h h3 ∧ Value.bool true = .bool true := ⟨(hle.trans l2).trans l3, rfl⟩
          cbv
          rw [e18]
          cbv
          rw [e22]
          exact hfin
        | false =>
          cbv
          refine commit28K hq ok (by decide) 0 hcm1 (fun h2 b1 n1 c1 b2 n2 c2 b3 n3 c3 b4 n4 c4 b5 n5 c5 l2 q2' _ => ?_)
          have q2 : RDB h2 (.agg #[.slice b1 n1 c1, .slice b2 n2 c2, .slice b3 n3 c3, .slice b4 n4 c4]) (CM R) := q2'
          clear q2'
          cbv
          refine drop30K q2 nTa (cmdrop R) (fun h3 b1 n1 c1 b2 n2 c2 b3 n3 c3 b4 n4 c4 l3 q3' => ?_)
          have q3 : RDB h3 (.agg #[.slice b1 n1 c1, .slice b2 n2 c2, .slice b3 n3 c3, .slice b4 n4 c4]) DD := q3'
          clear q3'
          have hn1 : n1 = 2 := by rw [q3.tabsP.len]; exact dl2
          subst hn1
          cbv
          refine shape16 (z := 0) (t := 0) ⟨rfl⟩ (by omega) h3 (fun h4 sb sn sc nm o l4 hnm ho qs => ?_)
          rw [← hcE] at qs
          cbv
          refine create17K (q3.mono l4) (nm := nm) (key := 0) (only := o) qs drs (hcd nm o hnm ho) (fun h5 b1 n1 c1 b2 n2 c2 b3 n3 c3 b4 n4 c4 l5 q5' => ?_)
          have q5 : RDB h5 (.agg #[.slice b1 n1 c1, .slice b2 n2 c2, .slice b3 n3 c3, .slice b4 n4 c4]) SE := q5'
          clear q5'
          have qt5 := q5.tabsP
          have hn1 : n1 = 3 := by rw [qt5.len]; exact tl3
          subst hn1
          have hck0 : b1.isSome = true ∧ (0 : Int) ≤ 0 ∧ (0 : Int) < ((3 : Nat) : Int) := ⟨qt5.isSm (by omega), by omega, by omega⟩
          have hfin : Le h h5 ∧ Value.bool true = .bool true := ⟨(((hle.trans l2).trans l3).trans l4).trans l5, rfl⟩
          cbv
          rw [e00]
          cbv
          rw [e00]
          cbv
          rw [eN2]
          cbv
          rw [eN3]
          cbv
          refine ⟨hck0, ?_⟩
          cbv
          refine qt5.loadF t0 (n := 0) rfl (o := 4) (m := 1) (by decide) (fun cs hcs => ?_)
          obtain ⟨_, _, _, x4, x5, x6, rfl, -, s2⟩ := hcs
          have hx5 : x5 = 0 := s2.len
          subst hx5
          cbv
          rw [eN0]
          exact hfin
      | true =>
        cases u2 with
        | true => exact (tail ⟨rfl, rfl⟩).elim
        | false =>
          cbv
          rw [f1]
          cbv
          rw [f2]
          cases busy with
          | true =>
            cbv
            refine drop30K hq nTa hd1 (fun h2 b1 n1 c1 b2 n2 c2 b3 n3 c3 b4 n4 c4 l2 q2 => ?_)
            cbv
            refine drop30K (hq.mono l2) ⟨#[110, 111, 110, 101]⟩ hd2 (fun h3 b1 n1 c1 b2 n2 c2 b3 n3 c3 b4 n4 c4 l3 q3 => ?_)
            have hfin : Le h h3 ∧ Value.bool true = .bool true := ⟨(hle.trans l2).trans l3, rfl⟩
            cbv
            rw [e18]
            cbv
            rw [e22]
            exact hfin
          | false =>
            cbv
            refine commit28K hq ok (by decide) 0 hcm1 (fun h2 b1 n1 c1 b2 n2 c2 b3 n3 c3 b4 n4 c4 b5 n5 c5 l2 q2' _ => ?_)
            have q2 : RDB h2 (.agg #[.slice b1 n1 c1, .slice b2 n2 c2, .slice b3 n3 c3, .slice b4 n4 c4]) (CM R) := q2'
            clear q2'
            cbv
            refine drop30K q2 nTa (cmdrop R) (fun h3 b1 n1 c1 b2 n2 c2 b3 n3 c3 b4 n4 c4 l3 q3' => ?_)
            have q3 : RDB h3 (.agg #[.slice b1 n1 c1, .slice b2 n2 c2, .slice b3 n3 c3, .slice b4 n4 c4]) DD := q3'
            clear q3'
            have hn1 : n1 = 2 := by rw [q3.tabsP.len]; exact dl2
            subst hn1
            cbv
            refine shape16 (z := 0) (t := 0) ⟨rfl⟩ (by omega) h3 (fun h4 sb sn sc nm o l4 hnm ho qs => ?_)
            rw [← hcE] at qs
            cbv
            refine create17K (q3.mono l4) (nm := nm) (key := 0) (only := o) qs drs (hcd nm o hnm ho) (fun h5 b1 n1 c1 b2 n2 c2 b3 n3 c3 b4 n4 c4 l5 q5' => ?_)
            have q5 : RDB h5 (.agg #[.slice b1 n1 c1, .slice b2 n2 c2, .slice b3 n3 c3, .slice b4 n4 c4]) SE := q5'
            clear q5'
            have qt5 := q5.tabsP
            have hn1 : n1 = 3 := by rw [qt5.len]; exact tl3
            subst hn1
            have hck0 : b1.isSome = true ∧ (0 : Int) ≤ 0 ∧ (0 : Int) < ((3 : Nat) : Int) := ⟨qt5.isSm (by omega), by omega, by omega⟩
            have hfin : Le h h5 ∧ Value.bool true = .bool true := ⟨(((hle.trans l2).trans l3).trans l4).trans l5, rfl⟩
            cbv
            rw [e00]
            cbv
            rw [e00]
            cbv
            rw [eN2]
            cbv
            rw [eN3]
            cbv
            refine ⟨hck0, ?_⟩
            cbv
            refine qt5.loadF t0 (n := 0) rfl (o := 4) (m := 1) (by decide) (fun cs hcs => ?_)
            obtain ⟨_, _, _, x4, x5, x6, rfl, -, s2⟩ := hcs
            have hx5 : x5 = 0 := s2.len
            subst hx5
            cbv
            rw [eN0]
            exact hfin
end Go.S

