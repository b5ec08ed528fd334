import Derived.Test.YtnfijhlegoagjaaGreatH2a
import Derived.Test.YtnfijhlegoagjaaGreatEC
set_option linter.unusedVariables false
set_option linter.unusedSimpArgs false
set_option linter.unusedSectionVars false
set_option maxRecDepth 100000
set_option maxHeartbeats 16000000
set_option linter.unusedVariables false
set_option linter.unusedSimpArgs false
namespace Go.S
open Go.Sx Go.Proofs

theorem idx_is {α : Type} {xs : List α} {p : α → Bool} {z : Int} (q : IdxR xs p z) {i : Nat} {x : α} (hx : xs[i]? = some x) (hp : p x = true) (hlt : ∀ j, j < i → ∀ y, xs[j]? = some y → p y = false) : IsN z i := by
  rcases q.out with ⟨-, h⟩ | ⟨j, y, hz, hj, hpy, hlow⟩
  · have := h x (List.mem_of_getElem? hx); rw [hp] at this; cases this
  · rcases Nat.lt_trichotomy i j with h | h | h
    · have := hlow i h x hx; rw [hp] at this; cases this
    · rw [h]; exact hz
    · have := hlt j h y hj; rw [hpy] at this; cases this
theorem okd_i {n : Nat} {d : DB} (h1 : d.tabs.length ≤ 2 ^ 30) (h2 : d.works.Pairwise (fun a b => a.s < b.s)) (h3 : ∀ w ∈ d.works, 0 ≤ w.s ∧ w.s < 8) (h4 : RowsB d.tabs) (h5 : d.holds.length ≤ n) (h6 : d.waits.length ≤ n) (h7 : ∀ x ∈ d.holds, 0 ≤ x.s ∧ x.s < 8) : Okd n d := ⟨h1, h2, h3, h4, h5, h6, h7⟩
theorem only1_ok (r : Row) : Okd 2 (only1 r) := okd_i (by simp [only1]) (by simp [only1]) (by simp [only1]) (by intro t ht; simp [only1, tblS] at ht; rcases ht with rfl | rfl | rfl <;> simp) (by simp [only1]) (by simp [only1]) (by simp [only1])
theorem only2_ok (r : Row) : Okd 2 (only2 r) := okd_i (by simp [only2]) (by simp [only2]) (by simp [only2]) (by intro t ht; simp [only2, tblS] at ht; rcases ht with rfl | rfl | rfl <;> simp) (by simp [only2]) (by simp [only2]) (by simp [only2])

theorem RDB.tabsP {h : Heap} {d : DB} {b1 b2 b3 b4 : Option Addr} {n1 c1 n2 c2 n3 c3 n4 c4 : Nat} (q : RDB h (.agg #[.slice b1 n1 c1, .slice b2 n2 c2, .slice b3 n3 c3, .slice b4 n4 c4]) d) : Sl 43 shTbl h (.slice b1 n1 c1) d.tabs := by
  obtain ⟨_, _, _, _, _, _, _, _, _, _, _, _, ws, he, qt, _⟩ := q.out
  cases he
  exact qt

theorem only5 (n : Int) (hn : -2 ^ 63 ≤ n ∧ n < 2 ^ 63) (h : Heap) : Ct 5 [.int .i64 n] h (fun v h' => Le h h' ∧ v = .bool true) := by
  obtain ⟨A, hA⟩ := Ar.ex
  have hnot1 : A .not true = false := by rw [hA.not]; rfl
  have e00 : A .icm .eql 0 0 = true := by rw [icm_eql A]; rfl
  have e19 : A .icm .eql 19 19 = true := by rw [icm_eql A]; rfl
  have eN1 : A .icm .eql (A .nat 1) 1 = true := by rw [icm_eql A, hA.nat]; rfl
  have eN0 : A .icm .eql (A .nat 0) 0 = true := by rw [icm_eql A, hA.nat]; rfl
  have eq2 : ∀ z, IsN z 2 → A .icm .eql z 2 = true := fun z hz => by rw [icm_eql A]; exact decide_eq_true hz.eq
  have ok0 := (dbW_ok 0 (by decide)).le (show 0 ≤ 2 by omega)
  obtain ⟨B, hB⟩ : ∃ B, B = dbW 0 := ⟨_, rfl⟩
  have hbeg : beginD startE 0 = (B, 0) := by rw [hB]; exact begin_start 0 (by decide)
  obtain ⟨r, hr⟩ : ∃ r, r = fitL shColsE n 2 := ⟨_, rfl⟩
  have hro : RowOk r := by rw [hr]; exact fit_ok n
  have p1 := only_put1 hro
  have p2 := only_put2 hro
  have hro' := hro
  obtain ⟨a, v1, hre, -⟩ := hro'
  have p3 := only_take3 r ⟨2, a, noS⟩
  have p4 := only_take4 (r := r) (k := ⟨2, a, noS⟩) (by rw [hre]; simp [keyOf])
  have ok1 := only1_ok r
  have ok2 := only2_ok r
  have hg0 : r[0]? = some ⟨2, a, noS⟩ := by rw [hre]; rfl
  have hrl : r.length = 2 := by rw [hre]; rfl
  have t2 : (only4 r).tabs[2]? = some ⟨shapeS 2, [r]⟩ := rfl
  have t0 : (only4 r).tabs[0]? = some ⟨shapeS 0, []⟩ := rfl
  have hfi : ∀ z, IdxR (only4 r).tabs (fun t => decide (t.S.name = nTc)) z → IsN z 2 := fun z q => idx_is q t2 (by rfl) (fun j hj y hy => by
    match j, hj with
    | 0, _ => rw [t0] at hy; cases hy; rfl
    | 1, _ => have : (only4 r).tabs[1]? = some (tblS 1) := rfl
              rw [this] at hy; cases hy; rfl)
  have hb4 : (only4 r).tabs.length ≤ 2 ^ 37 ∧ (only4 r).works.length ≤ 2 ^ 37 ∧ (∀ w ∈ (only4 r).works, w.marks.length ≤ 2 ^ 37) ∧ (only4 r).holds.length ≤ 2 ^ 37 ∧ (only4 r).waits.length ≤ 2 ^ 37 := by simp [only4]
  have hl4 : (only4 r).tabs.length = 3 := rfl
  rw [← hB] at ok0 p1
  generalize only1 r = D1 at *
  generalize only2 r = D2 at *
  generalize only4 r = D4 at *
  obtain ⟨cE, hcE⟩ : ∃ c, c = shColsE := ⟨_, rfl⟩
  have hcl : cE.length = 2 := by rw [hcE]; rfl
  refine fn_of_sx A (tabOk T5.plan T5.pub) Tryz.func5 rfl (by kernel_rfl) ?_
  cbv
  refine (known14 h).mono (fun v h0 hR => ?_)
  obtain ⟨l0, rfl⟩ := hR
  cbv
  rw [hnot1]
  cbv
  refine begun21 0 hbeg (fun h1 b1 n1 c1 b2 n2 c2 b3 n3 c3 b4 n4 c4 l1' q1' => ?_)
  have q1 : RDB h1 _ B := q1'
  clear q1'
  have l1 := l0.trans l1'
  cbv
  refine shape16 (z := 2) (t := 2) ⟨rfl⟩ (by omega) h1 (fun h2 sb sn sc nm o l2 hnm ho qs => ?_)
  rw [← hcE] at qs
  cbv
  refine fit22 qs (by omega) n hn (fun h3 fb fn fc l3 hf => ?_)
  have hf : Sl 68 shVal h3 (.slice fb fn fc) r := by rw [hcl, hcE, ← hr] at hf; exact hf.sl
  have q3 := q1.mono (l2.trans l3)
  have hfn : fn = 2 := by rw [hf.len, hrl]
  have hckf : fb.isSome = true ∧ (0 : Int) ≤ 0 ∧ (0 : Int) < (fn : Int) := ⟨hf.isSm (by omega), by omega, by omega⟩
  cbv
  refine put23F q3 ok0 (by decide) 0 (by decide) nTc hf p1 (fun h4 b1 n1 c1 b2 n2 c2 b3 n3 c3 b4 n4 c4 l4 q4 => ?_)
  cbv
  refine put23F q4 ok1 (by decide) 0 (by decide) nTa (hf.mono (l4.t _)) p2 (fun h5 b1 n1 c1 b2 n2 c2 b3 n3 c3 b4 n4 c4 l5 q5 => ?_)
  have hf5 := hf.mono ((l4.trans l5).t _)
  cbv
  refine ⟨hckf, ?_⟩
  cbv
  refine hf5.load hg0 (n := 0) rfl (fun cs hcs => ?_)
  have hcs : cs = [.int .i64 2, .int .i64 a, .string noS] := hcs
  subst hcs
  cbv
  refine take24F q5 ok2 (by decide) 0 (by decide) nTc ⟨2, a, noS⟩ p3 (fun h6 b1 n1 c1 b2 n2 c2 b3 n3 c3 b4 n4 c4 l6 q6 => ?_)
  have hf6 := hf5.mono (l6.t _)
  cbv
  refine ⟨hckf, ?_⟩
  cbv
  refine hf6.load hg0 (n := 0) rfl (fun cs hcs => ?_)
  have hcs : cs = [.int .i64 2, .int .i64 a, .string noS] := hcs
  subst hcs
  cbv
  refine take24F q6 ok2 (by decide) 0 (by decide) nTa ⟨2, a, noS⟩ p4 (fun h7 b1 n1 c1 b2 n2 c2 b3 n3 c3 b4' n4 c4 l7 q7 => ?_)
  have qt7 := q7.tabsP
  have hn1 : n1 = 3 := by rw [qt7.len]; exact hl4
  have hck2 : b1.isSome = true ∧ (0 : Int) ≤ 2 ∧ (2 : Int) < (n1 : Int) := ⟨qt7.isSm (by omega), by omega, by omega⟩
  have hck0 : b1.isSome = true ∧ (0 : Int) ≤ 0 ∧ (0 : Int) < (n1 : Int) := ⟨qt7.isSm (by omega), by omega, by omega⟩
  have lall : Le h h7 := (((((l1.trans l2).trans l3).trans l4).trans l5).trans l6).trans l7
  cbv
  rw [e00]
  cbv
  rw [e00]
  cbv
  rw [e19]
  cbv
  rw [e00]
  cbv
  refine ⟨hck2, ?_⟩
  cbv
  refine qt7.loadF t2 (n := 2) rfl (o := 4) (m := 1) (by decide) (fun cs hcs => ?_)
  obtain ⟨_, _, _, x4, x5, x6, rfl, -, s2⟩ := hcs
  have hx5 : x5 = 1 := s2.len
  subst hx5
  cbv
  rw [eN1]
  cbv
  refine ⟨hck0, ?_⟩
  cbv
  refine qt7.loadF t0 (n := 0) rfl (o := 4) (m := 1) (by decide) (fun cs hcs => ?_)
  obtain ⟨_, _, _, x4, x5, x6, rfl, -, s2⟩ := hcs
  have hx5 : x5 = 0 := s2.len
  subst hx5
  cbv
  rw [eN0]
  cbv
  refine toRef26K q7 hb4.1 hb4.2.1 hb4.2.2.1 hb4.2.2.2.1 hb4.2.2.2.2 (fun h8 d1 m1 e1 d2 m2 e2 d3 m3 e3 d4 m4 e4 l8 q8 => ?_)
  cbv
  refine (find25 q8 (nm := nTc)).mono (fun v h9 hR => ?_)
  obtain ⟨l9, z, rfl, hz⟩ := hR
  have hz2 := eq2 z (hfi z hz)
  have hfin : Le h h9 ∧ Value.bool true = .bool true := ⟨(lall.trans l8).trans l9, rfl⟩
  cbv
  rw [hz2]
  exact hfin
end Go.S

