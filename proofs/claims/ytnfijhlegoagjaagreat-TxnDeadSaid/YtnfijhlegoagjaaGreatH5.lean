import Derived.Test.YtnfijhlegoagjaaGreatH2
import Derived.Test.YtnfijhlegoagjaaGreatEC
set_option linter.unusedVariables false
set_option linter.unusedSimpArgs false
set_option linter.unusedSectionVars false
set_option maxRecDepth 100000
set_option maxHeartbeats 16000000
set_option linter.unusedVariables false
set_option linter.unusedSimpArgs false
namespace Go.S
open Go.Sx Go.Proofs

def sortB : List Wrk → Bool
  | [] => true
  | x :: r => (r.all fun y => decide (x.s < y.s)) && sortB r
theorem sortB_ok : ∀ {l : List Wrk}, sortB l = true → l.Pairwise (fun a b => a.s < b.s)
  | [], _ => List.Pairwise.nil
  | x :: r, h => by
    unfold sortB at h
    rw [Bool.and_eq_true, List.all_eq_true] at h
    exact List.Pairwise.cons (fun y hy => of_decide_eq_true (h.1 y hy)) (sortB_ok h.2)
def okB (n : Nat) (d : DB) : Bool :=
  decide (d.tabs.length ≤ 1000) && (sortB d.works && ((d.works.all fun w => decide (0 ≤ w.s) && decide (w.s < 8)) && ((d.tabs.all fun t => decide (t.rows.length ≤ 1000)) && (decide (d.holds.length ≤ n) && (decide (d.waits.length ≤ n) && (d.holds.all fun x => decide (0 ≤ x.s) && decide (x.s < 8)))))))
theorem okB_ok {n : Nat} {d : DB} (h : okB n d = true) : Okd n d := by
  unfold okB at h
  simp only [Bool.and_eq_true, decide_eq_true_eq, List.all_eq_true] at h
  obtain ⟨h1, h2, h3, h4, h5, h6, h7⟩ := h
  exact ⟨by omega, sortB_ok h2, h3, fun t ht => by have := h4 t ht; omega, h5, h6, h7⟩

def nTb : ByteArray := ⟨#[116, 98]⟩
def dX (a b : Int) (l : Bool) : Int := match l with | true => b | false => a
def dN0 (l : Bool) : ByteArray := match l with | true => nTa | false => nTb
def dd2 (a b : Int) : DB × Int := beginD (beginD startE a).1 b
def dd3 (a b : Int) : DB × Int := holdF (dd2 a b).1 ⟨a, nTa, true⟩
def dd4 (a b : Int) : DB × Int := holdF (dd3 a b).1 ⟨b, nTb, true⟩
def dd5 (a b : Int) (l : Bool) : DB × Int := holdF (dd4 a b).1 ⟨dX a b l, dN0 l, false⟩
def dd6 (a b : Int) (l : Bool) : DB × Int := holdF (dd5 a b l).1 ⟨dX b a l, dN0 (!l), true⟩
def dG (a b : Int) (l : Bool) : Bool := decide (dX b a l > dX a b l)
def deadB (a b : Int) (l : Bool) : Bool :=
  okB 9 (beginD startE a).1 && (okB 9 (dd2 a b).1 && (okB 9 (dd3 a b).1 && (okB 9 (dd4 a b).1 && (okB 9 (dd5 a b l).1 && (decide ((dd3 a b).2 = 0) && (decide ((dd4 a b).2 = 0) && (decide ((dd5 a b l).2 = 16) &&
  (decide ((dd6 a b l).2 = if dG a b l = true then 17 else 0) && decide ((dd6 a b l).1.works.map (·.s) = [if dG a b l = true then dX a b l else dX b a l])))))))))
theorem dead_all : ((List.range 8).all fun a => (List.range 8).all fun b => a == b || (deadB (a : Int) (b : Int) true && deadB (a : Int) (b : Int) false)) = true := by kernel_rfl
theorem dead_at {a b : Nat} (ha : a < 8) (hb : b < 8) (hne : a ≠ b) (l : Bool) : deadB (a : Int) (b : Int) l = true := by
  have h := List.all_eq_true.1 (List.all_eq_true.1 dead_all a (by simpa using ha)) b (by simpa using hb)
  simp [hne] at h
  cases l
  · exact h.2
  · exact h.1
theorem RDB.worksQ {h : Heap} {d : DB} {b1 b2 b3 b4 : Option Addr} {n1 c1 n2 c2 n3 c3 n4 c4 : Nat} (q : RDB h (.agg #[.slice b1 n1 c1, .slice b2 n2 c2, .slice b3 n3 c3, .slice b4 n4 c4]) d) : ∃ ws, Sl 60 shWrkG h (.slice b2 n2 c2) ws ∧ ws.map (·.1) = d.works := by
  obtain ⟨_, _, _, _, _, _, _, _, _, _, _, _, ws, he, _, q2, _, _, hm⟩ := q.out
  cases he
  exact ⟨ws, q2, hm⟩
theorem wrk_fst {ws : List (Wrk × Bool)} {W : List Wrk} {s : Int} (hm : ws.map (·.1) = W) (hs : W.map (·.s) = [s]) : ∃ x, ws[0]? = some x ∧ x.1.s = s ∧ ws.length = 1 := by
  rw [← hm] at hs
  match ws, hs with
  | [x], hs => simp at hs; exact ⟨x, rfl, hs, rfl⟩

theorem dead4 (a0 b0 : Int) (last : Bool) (ga : -2 ^ 63 ≤ a0 ∧ a0 < 2 ^ 63) (gb : -2 ^ 63 ≤ b0 ∧ b0 < 2 ^ 63) (h : Heap) : Ct 4 [.int .i64 a0, .int .i64 b0, .bool last] h (fun v h' => Le h h' ∧ v = .bool true) := by
  obtain ⟨A, hA⟩ := Ar.ex
  have hnot1 : A .not true = false := by rw [hA.not]; rfl
  have n00 : A .icm .neq 0 0 = false := by rw [icm_neq A]; rfl
  have n16 : A .icm .neq 16 16 = false := by rw [icm_neq A]; rfl
  have e17 : A .icm .eql 17 17 = true := by rw [icm_eql A]; rfl
  have e00 : A .icm .eql 0 0 = true := by rw [icm_eql A]; rfl
  have eN1 : A .icm .eql (A .nat 1) 1 = true := by rw [icm_eql A, hA.nat]; rfl
  have eself : ∀ z : Int, A .icm .eql z z = true := fun z => by rw [icm_eql A]; exact decide_eq_true rfl
  refine fn_of_sx A (tabOk T4.plan T4.pub) Tryz.func4 rfl (by kernel_rfl) ?_
  cbv
  refine (known14 h).mono (fun v h0 hR => ?_)
  obtain ⟨l0, rfl⟩ := hR
  cbv
  rw [hnot1]
  cbv
  refine within15 a0 8 (by omega) (by omega) h0 (fun za a hza haa ha8 => ?_)
  cbv
  refine within15 b0 8 (by omega) (by omega) h0 (fun zb b hzb hbb hb8 => ?_)
  have fab : A .icm .eql za zb = decide (a = b) := by
    have := hza.eq
    have := hzb.eq
    rw [icm_eql A, decide_eq_decide]; omega
  cbv
  rw [fab]
  by_cases hab : a = b
  · rw [decide_eq_true hab]
    cbv
    exact ⟨l0, True.intro⟩
  · have hd := dead_at ha8 hb8 hab last
    rw [← hza.eq, ← hzb.eq] at hd
    unfold deadB at hd
    simp only [Bool.and_eq_true, decide_eq_true_eq] at hd
    obtain ⟨k1, k2, k3, k4, k5, k6, k7, k8, k9, k10⟩ := hd
    have ok1 := okB_ok k1
    have ok2 := okB_ok k2
    have ok3 := okB_ok k3
    have ok4 := okB_ok k4
    have ok5 := okB_ok k5
    clear k1 k2 k3 k4 k5
    obtain ⟨⟨D1, e1⟩, hD1⟩ : ∃ D, beginD startE za = D := ⟨_, rfl⟩
    unfold dd6 at k9 k10
    unfold dd5 at ok5 k8 k9 k10
    unfold dd4 at ok4 ok5 k7 k8 k9 k10
    unfold dd3 at ok3 ok4 ok5 k6 k7 k8 k9 k10
    unfold dd2 at ok2 ok3 ok4 ok5 k6 k7 k8 k9 k10
    rw [hD1] at ok1 ok2 ok3 ok4 ok5 k6 k7 k8 k9 k10
    obtain ⟨⟨D2, e2⟩, hD2⟩ : ∃ D, beginD D1 zb = D := ⟨_, rfl⟩
    simp only at ok1 ok2 ok3 ok4 ok5 k6 k7 k8 k9 k10
    rw [hD2] at ok2 ok3 ok4 ok5 k6 k7 k8 k9 k10
    simp only at ok2 ok3 ok4 ok5 k6 k7 k8 k9 k10
    obtain ⟨⟨D3, e3⟩, hD3⟩ : ∃ D, holdF D2 ⟨za, nTa, true⟩ = D := ⟨_, rfl⟩
    rw [hD3] at ok3 ok4 ok5 k6 k7 k8 k9 k10
    simp only at ok3 ok4 ok5 k6 k7 k8 k9 k10
    obtain ⟨⟨D4, e4⟩, hD4⟩ : ∃ D, holdF D3 ⟨zb, nTb, true⟩ = D := ⟨_, rfl⟩
    rw [hD4] at ok4 ok5 k7 k8 k9 k10
    simp only at ok4 ok5 k7 k8 k9 k10
    obtain ⟨⟨D5, e5⟩, hD5⟩ : ∃ D, holdF D4 ⟨dX za zb last, dN0 last, false⟩ = D := ⟨_, rfl⟩
    rw [hD5] at ok5 k8 k9 k10
    simp only at ok5 k8 k9 k10
    obtain ⟨⟨D6, e6⟩, hD6⟩ : ∃ D, holdF D5 ⟨dX zb za last, dN0 (!last), true⟩ = D := ⟨_, rfl⟩
    rw [hD6] at k9 k10
    simp only at k9 k10
    subst k6 k7 k8
    obtain ⟨gg, hgg⟩ : ∃ g, g = dG za zb last := ⟨_, rfl⟩
    rw [← hgg] at k9 k10
    have hsm := startE_small
    rw [decide_eq_false hab]
    cbv
    refine start19 (fun h2 b1 n1 c1 b2 n2 c2 b3 n3 c3 b4 n4 c4 d1 m1 e1 d2 m2 e2 d3 m3 e3 d4 m4 e4 l2 qD qR => ?_)
    clear qR
    obtain ⟨E, hE⟩ : ∃ E, E = startE := ⟨_, rfl⟩
    rw [← hE] at qD hD1 hsm
    clear hE
    cbv
    refine begin18K qD za hsm hD1 (fun h3 b1 n1 c1 b2 n2 c2 b3 n3 c3 b4 n4 c4 l3 q3' => ?_)
    have q3 : RDB h3 (.agg #[.slice b1 n1 c1, .slice b2 n2 c2, .slice b3 n3 c3, .slice b4 n4 c4]) D1 := q3'
    clear q3'
    cbv
    refine begin18K q3 zb (ok1.small (by decide)) hD2 (fun h4 b1 n1 c1 b2 n2 c2 b3 n3 c3 b4 n4 c4 l4 q4' => ?_)
    have q4 : RDB h4 (.agg #[.slice b1 n1 c1, .slice b2 n2 c2, .slice b3 n3 c3, .slice b4 n4 c4]) D2 := q4'
    clear q4'
    cbv
    refine hold20K q4 ok2 (by decide) za nTa true hD3 (fun h5 b1 n1 c1 b2 n2 c2 b3 n3 c3 b4 n4 c4 l5 q5' => ?_)
    have q5 : RDB h5 (.agg #[.slice b1 n1 c1, .slice b2 n2 c2, .slice b3 n3 c3, .slice b4 n4 c4]) D3 := q5'
    clear q5'
    cbv
    refine hold20K q5 ok3 (by decide) zb nTb true hD4 (fun h6 b1 n1 c1 b2 n2 c2 b3 n3 c3 b4 n4 c4 l6 q6' => ?_)
    have q6 : RDB h6 (.agg #[.slice b1 n1 c1, .slice b2 n2 c2, .slice b3 n3 c3, .slice b4 n4 c4]) D4 := q6'
    clear q6'
    have l06 : Le h h6 := ((((l0.trans l2).trans l3).trans l4).trans l5).trans l6
    cases last with
    | true =>
      have hD5 : holdF D4 ⟨zb, nTa, false⟩ = (D5, 16) := hD5
      have hD6 : holdF D5 ⟨za, nTb, true⟩ = (D6, e6) := hD6
      have hgt : A .icm .gtr za zb = gg := by rw [hgg, icm_gtr A]; rfl
      have k10 : D6.works.map (·.s) = [if gg = true then zb else za] := k10
      cbv
      intro nb7 h7 hnb7 e7
      have l7 : Le h6 h7 := by rw [e7]; exact Le.set hnb7
      cbv
      intro nb8 h8 hnb8 e8
      have l8 : Le h7 h8 := by rw [e8]; exact Le.set hnb8
      have g8 := (congrFun e8 nb8).trans hset_self
      have ckA : (some (⟨nb8, 0, none⟩ : Addr)).isSome = true ∧ (0 : Int) ≤ 0 ∧ (0 : Int) < ((2 : Nat) : Int) := ⟨rfl, by omega, by omega⟩
      have ckB : (some (⟨nb8, 0, none⟩ : Addr)).isSome = true ∧ (0 : Int) ≤ 1 ∧ (1 : Int) < ((2 : Nat) : Int) := ⟨rfl, by omega, by omega⟩
      have qn : Sl 9 shStr h8 (.slice (some ⟨nb8, 0, none⟩) 2 2) [nTa, nTb] := two_sl (s := shStr) rfl g8 rfl rfl
      have q8 := q6.mono (l7.trans l8)
      cbv
      refine ⟨ckA, ?_⟩
      cbv
      refine qn.load (i := 0) (x := nTa) rfl (n := 0) rfl (fun cs hcs => ?_)
      have hcs : cs = [.string nTa] := hcs
      subst hcs
      cbv
      refine hold20K q8 ok4 (by decide) zb nTa false hD5 (fun h9 b1 n1 c1 b2 n2 c2 b3 n3 c3 b4 n4 c4 l9 q9' => ?_)
      have q9 : RDB h9 (.agg #[.slice b1 n1 c1, .slice b2 n2 c2, .slice b3 n3 c3, .slice b4 n4 c4]) D5 := q9'
      clear q9'
      have qn9 := qn.mono (l9.t _)
      cbv
      refine ⟨ckB, ?_⟩
      cbv
      refine qn9.load (i := 1) (x := nTb) rfl (n := 1) rfl (fun cs hcs => ?_)
      have hcs : cs = [.string nTb] := hcs
      subst hcs
      cbv
      refine hold20K q9 ok5 (by decide) za nTb true hD6 (fun h10 b1 n1 c1 b2 n2 c2 b3 n3 c3 b4 n4 c4 l10 q10' => ?_)
      have q10 : RDB h10 (.agg #[.slice b1 n1 c1, .slice b2 n2 c2, .slice b3 n3 c3, .slice b4 n4 c4]) D6 := q10'
      clear q10'
      obtain ⟨ws, hws, hwm⟩ := q10.worksQ
      obtain ⟨⟨wx, wg⟩, hwx, hwxs, hwl⟩ := wrk_fst hwm k10
      have hn2 : n2 = 1 := by rw [hws.len]; exact hwl
      subst hn2
      have hck0 : b2.isSome = true ∧ (0 : Int) ≤ 0 ∧ (0 : Int) < ((1 : Nat) : Int) := ⟨hws.isSm (by omega), by omega, by omega⟩
      have hfin : Le h h10 ∧ Value.bool true = .bool true := ⟨(((l06.trans l7).trans l8).trans l9).trans l10, rfl⟩
      cbv
      rw [n00]
      cbv
      rw [n00]
      cbv
      rw [n16]
      cbv
      rw [hgt]
      cases gg with
      | true =>
        have k9 : e6 = 17 := k9
        subst k9
        have hwxs : wx.s = zb := hwxs
        have hlast : A .icm .eql wx.s zb = true := by rw [hwxs]; exact eself _
        cbv
        rw [e17]
        cbv
        rw [eN1]
        cbv
        refine ⟨hck0, ?_⟩
        cbv
        refine hws.loadF hwx (n := 0) rfl (o := 0) (m := 1) (by simp [shWrkG]) (fun cs hcs => ?_)
        obtain ⟨_, _, _, _, _, _, rfl, -⟩ := hcs
        have hlast : A .icm .eql (wx, wg).1.s zb = true := hlast
        cbv
        exact ⟨hfin.1, by first | (rw [hlast]) | (simp only at hlast ⊢; rw [hlast])⟩
      | false =>
        have k9 : e6 = 0 := k9
        subst k9
        have hwxs : wx.s = za := hwxs
        have hlast : A .icm .eql wx.s za = true := by rw [hwxs]; exact eself _
        cbv
        rw [e00]
        cbv
        rw [eN1]
        cbv
        refine ⟨hck0, ?_⟩
        cbv
        refine hws.loadF hwx (n := 0) rfl (o := 0) (m := 1) (by simp [shWrkG]) (fun cs hcs => ?_)
        obtain ⟨_, _, _, _, _, _, rfl, -⟩ := hcs
        have hlast : A .icm .eql (wx, wg).1.s za = true := hlast
        cbv
        exact ⟨hfin.1, by first | (rw [hlast]) | (simp only at hlast ⊢; rw [hlast])⟩
    | false =>
      have hD5 : holdF D4 ⟨za, nTb, false⟩ = (D5, 16) := hD5
      have hD6 : holdF D5 ⟨zb, nTa, true⟩ = (D6, e6) := hD6
      have hgt : A .icm .gtr zb za = gg := by rw [hgg, icm_gtr A]; rfl
      have k10 : D6.works.map (·.s) = [if gg = true then za else zb] := k10
      cbv
      intro nb7 h7 hnb7 e7
      have l7 : Le h6 h7 := by rw [e7]; exact Le.set hnb7
      obtain ⟨h8, l8, nb8, g8⟩ : ∃ h8, Le h7 h8 ∧ ∃ nb8, h8 nb8 = some (.cells #[.string nTb, .string nTa] 9 (0, 0)) ∧ h8 = h7 ∧ nb8 = nb7 := ⟨h7, Le.refl _, nb7, (congrFun e7 nb7).trans hset_self, rfl, rfl⟩
      obtain ⟨g8, rfl, rfl⟩ := g8
      have ckA : (some (⟨nb8, 0, none⟩ : Addr)).isSome = true ∧ (0 : Int) ≤ 0 ∧ (0 : Int) < ((2 : Nat) : Int) := ⟨rfl, by omega, by omega⟩
      have ckB : (some (⟨nb8, 0, none⟩ : Addr)).isSome = true ∧ (0 : Int) ≤ 1 ∧ (1 : Int) < ((2 : Nat) : Int) := ⟨rfl, by omega, by omega⟩
      have qn : Sl 9 shStr h8 (.slice (some ⟨nb8, 0, none⟩) 2 2) [nTb, nTa] := two_sl (s := shStr) rfl g8 rfl rfl
      have q8 := q6.mono (l7.trans l8)
      cbv
      refine ⟨ckA, ?_⟩
      cbv
      refine qn.load (i := 0) (x := nTb) rfl (n := 0) rfl (fun cs hcs => ?_)
      have hcs : cs = [.string nTb] := hcs
      subst hcs
      cbv
      refine hold20K q8 ok4 (by decide) za nTb false hD5 (fun h9 b1 n1 c1 b2 n2 c2 b3 n3 c3 b4 n4 c4 l9 q9' => ?_)
      have q9 : RDB h9 (.agg #[.slice b1 n1 c1, .slice b2 n2 c2, .slice b3 n3 c3, .slice b4 n4 c4]) D5 := q9'
      clear q9'
      have qn9 := qn.mono (l9.t _)
      cbv
      refine ⟨ckB, ?_⟩
      cbv
      refine qn9.load (i := 1) (x := nTa) rfl (n := 1) rfl (fun cs hcs => ?_)
      have hcs : cs = [.string nTa] := hcs
      subst hcs
      cbv
      refine hold20K q9 ok5 (by decide) zb nTa true hD6 (fun h10 b1 n1 c1 b2 n2 c2 b3 n3 c3 b4 n4 c4 l10 q10' => ?_)
      have q10 : RDB h10 (.agg #[.slice b1 n1 c1, .slice b2 n2 c2, .slice b3 n3 c3, .slice b4 n4 c4]) D6 := q10'
      clear q10'
      obtain ⟨ws, hws, hwm⟩ := q10.worksQ
      obtain ⟨⟨wx, wg⟩, hwx, hwxs, hwl⟩ := wrk_fst hwm k10
      have hn2 : n2 = 1 := by rw [hws.len]; exact hwl
      subst hn2
      have hck0 : b2.isSome = true ∧ (0 : Int) ≤ 0 ∧ (0 : Int) < ((1 : Nat) : Int) := ⟨hws.isSm (by omega), by omega, by omega⟩
      have hfin : Le h h10 ∧ Value.bool true = .bool true := ⟨(((l06.trans l7).trans l8).trans l9).trans l10, rfl⟩
      cbv
      rw [n00]
      cbv
      rw [n00]
      cbv
      rw [n16]
      cbv
      rw [hgt]
      cases gg with
      | true =>
        have k9 : e6 = 17 := k9
        subst k9
        have hwxs : wx.s = za := hwxs
        have hlast : A .icm .eql wx.s za = true := by rw [hwxs]; exact eself _
        cbv
        rw [e17]
        cbv
        rw [eN1]
        cbv
        refine ⟨hck0, ?_⟩
        cbv
        refine hws.loadF hwx (n := 0) rfl (o := 0) (m := 1) (by simp [shWrkG]) (fun cs hcs => ?_)
        obtain ⟨_, _, _, _, _, _, rfl, -⟩ := hcs
        have hlast : A .icm .eql (wx, wg).1.s za = true := hlast
        cbv
        exact ⟨hfin.1, by first | (rw [hlast]) | (simp only at hlast ⊢; rw [hlast])⟩
      | false =>
        have k9 : e6 = 0 := k9
        subst k9
        have hwxs : wx.s = zb := hwxs
        have hlast : A .icm .eql wx.s zb = true := by rw [hwxs]; exact eself _
        cbv
        rw [e00]
        cbv
        rw [eN1]
        cbv
        refine ⟨hck0, ?_⟩
        cbv
        refine hws.loadF hwx (n := 0) rfl (o := 0) (m := 1) (by simp [shWrkG]) (fun cs hcs => ?_)
        obtain ⟨_, _, _, _, _, _, rfl, -⟩ := hcs
        have hlast : A .icm .eql (wx, wg).1.s zb = true := hlast
        cbv
        exact ⟨hfin.1, by first | (rw [hlast]) | (simp only at hlast ⊢; rw [hlast])⟩
end Go.S

