import Derived.Test.YtficmdggjjepmaaGreatBB
import Derived.Test.YtficmdggjjepmaaGreatDB
import Derived.Test.YtficmdggjjepmaaGreatEC
import Derived.Test.YtficmdggjjepmaaGreatGB
set_option linter.all false
set_option maxRecDepth 100000
set_option maxHeartbeats 8000000
namespace Go.S
open Go.Sx Go.Proofs
/-- A log on a disk, plain: its disk, how many bytes, how many records. -/
structure Lg where
  D : Dk
  s : Nat
  n : Nat
def hdB (s n : Nat) : Bs := le8 (s : Int) ++ le8 (n : Int)
def apD3 (g : Lg) (l : Bs) : Int × Dk := syncD (writeD (pagesD g.D g.s (le8 (l.length : Int) ++ l)).2 0 (hdB (g.s + 8 + l.length) (g.n + 1))).2
def appendD (g : Lg) (l : Bs) : Int × Lg :=
  if l.length > 65536 then (5, g)
  else if (l.length : Int) + 8 > ((g.D.now.length : Int) - 1) * 64 - g.s then (14, g)
  else if (pagesD g.D g.s (le8 (l.length : Int) ++ l)).1 ≠ 0 then ((pagesD g.D g.s (le8 (l.length : Int) ++ l)).1, { g with D := (pagesD g.D g.s (le8 (l.length : Int) ++ l)).2 })
  else if (writeD (pagesD g.D g.s (le8 (l.length : Int) ++ l)).2 0 (hdB (g.s + 8 + l.length) (g.n + 1))).1 ≠ 0 then ((writeD (pagesD g.D g.s (le8 (l.length : Int) ++ l)).2 0 (hdB (g.s + 8 + l.length) (g.n + 1))).1, { g with D := (writeD (pagesD g.D g.s (le8 (l.length : Int) ++ l)).2 0 (hdB (g.s + 8 + l.length) (g.n + 1))).2 })
  else if (apD3 g l).1 ≠ 0 then ((apD3 g l).1, { g with D := (apD3 g l).2 })
  else (0, ⟨(apD3 g l).2, g.s + 8 + l.length, g.n + 1⟩)
theorem CountC {h : Heap} {p lg : Nat} {s n : Int} (ql : LgO h lg p s n) {k : Value → Heap → Prop} (hk : k (.int .i64 n) h) : Ct 247 [.pointer (some ⟨lg, 0, none⟩)] h k := by
  obtain ⟨A, hA⟩ := Ar.ex
  refine fn_of_sx A (tabOk T247.plan T247.pub) Tryz.func247 rfl (by kernel_rfl) ?_
  cbv
  rw [offm A]
  refine load64 (cel_exp ql.out rfl) ?_
  cbv
  exact hk
theorem writesD_ws : ∀ (n : Nat) (D : Dk) (pg : Nat) (b : Bs), b.length ≤ n → (writesD D pg b).2.ws.length ≤ D.ws.length + b.length := fun n => by
  induction n with
  | zero =>
    intro D pg b hb
    have : b = [] := List.eq_nil_of_length_eq_zero (by omega)
    rw [writesD, dif_pos this]
    unfold syncD
    split
    · exact Nat.le_add_right _ _
    · split
      · rw [stepD_ws]; exact Nat.le_add_right _ _
      · exact Nat.zero_le _
  | succ n ih =>
    intro D pg b hb
    rw [writesD]
    split
    · unfold syncD
      split
      · exact Nat.le_add_right _ _
      · split
        · rw [stepD_ws]; exact Nat.le_add_right _ _
        · exact Nat.zero_le _
    · rename_i hne
      have hpos := List.length_pos_iff.2 hne
      have h1 := writeD_ws D pg (b.take 64)
      split
      · omega
      · have h2 := ih (writeD D pg (b.take 64)).2 (pg + 1) (b.drop 64) (by rw [List.length_drop]; omega)
        rw [List.length_drop] at h2
        omega
theorem pagesD_ws (D : Dk) (s : Nat) (b : Bs) : (pagesD D s b).2.ws.length ≤ D.ws.length + (b.length + 64) := by
  unfold pagesD
  split
  · have := writesD_ws _ D (1 + s / 64) b (Nat.le_refl _); omega
  · split
    · exact Nat.le_add_right _ _
    · have := writesD_ws _ D (1 + s / 64) ((pgAt D ((1 + s / 64 : Nat) : Int)).take (s % 64) ++ b) (Nat.le_refl _)
      have h2 : s % 64 < 64 := Nat.mod_lt _ (by decide)
      rw [List.length_append, List.length_take] at this
      omega
abbrev lgT : List Nat := [295, 120, 135, 455]
theorem _root_.Go.Sx.LeX.sup {ex ex' : List Nat} {h h' : Heap} (x : LeX ex h h') (hs : ∀ t ∈ ex, t ∈ ex') : LeX ex' h h' := fun b o hb hne => x b o hb (fun c e fr he hm => hne c e fr he (hs e hm))
theorem AppendC {h : Heap} {p lg : Nat} {g : Lg} (q : DkO h p g.D) (ql : LgO h lg p (g.s : Int) (g.n : Int)) {b : Option Addr} {m c : Nat} {l : Bs} (qb : Sl 5 shB h (.slice b m c) l) (hs : g.s ≤ 2 ^ 29) (hn : g.n ≤ 2 ^ 29) (hm : m ≤ 2 ^ 28) (hw : g.D.ws.length ≤ 2 ^ 28) {k : Value → Heap → Prop}
    (hk : ∀ h', LeX lgT h h' → DkO h' p (appendD g l).2.D → LgO h' lg p ((appendD g l).2.s : Int) ((appendD g l).2.n : Int) → k (.int .i64 (appendD g l).1) h') :
    Ct 145 [.pointer (some ⟨lg, 0, none⟩), .slice b m c] h k := by
  obtain ⟨A, hA⟩ := Ar.ex
  obtain ⟨D, s, n⟩ := g
  have q : DkO h p D := q
  have ql : LgO h lg p (s : Int) (n : Int) := ql
  have hs : s ≤ 2 ^ 29 := hs
  have hn : n ≤ 2 ^ 29 := hn
  have hw : D.ws.length ≤ 2 ^ 28 := hw
  have hlen := qb.len
  have hmax := q.max
  have f00 : A .icm .neq 0 0 = false := by rw [icm_neq A]; rfl
  have hmI : A .nat m = (l.length : Int) := by rw [hA.nat, hlen]; rfl
  have f1 : A .icm .gtr (A .nat m) 65536 = decide (l.length > 65536) := by rw [hmI, icm_gtr A]; exact decide_eq_decide.2 (by omega)
  have w : ∀ z : Int, -9223372036854775808 ≤ z ∧ z ≤ 9223372036854775807 → IntKind.i64.wrap z = z := IntWalk.i64_in
  have f2 : ∀ zP, IsN zP D.now.length → A .icm .gtr (A .ari .add .i64 (A .nat m) 8) (A .ari .sub .i64 (A .ari .mul .i64 (A .ari .sub .i64 zP 1) 64) (s : Int)) = decide ((l.length : Int) + 8 > ((D.now.length : Int) - 1) * 64 - s) := fun zP hzP => by
    have e1 : A .ari .add .i64 (A .nat m) 8 = (l.length : Int) + 8 := by
      rw [hmI, hA.ari]; exact w _ (by omega)
    have e2 : A .ari .sub .i64 zP 1 = (D.now.length : Int) - 1 := by
      rw [hzP.eq, hA.ari]; exact w _ (by omega)
    have e3 : A .ari .mul .i64 ((D.now.length : Int) - 1) 64 = ((D.now.length : Int) - 1) * 64 := by
      rw [hA.ari]; exact w _ (by omega)
    have e4 : A .ari .sub .i64 (((D.now.length : Int) - 1) * 64) (s : Int) = ((D.now.length : Int) - 1) * 64 - s := by
      rw [hA.ari]; exact w _ (by omega)
    rw [e1, e2, e3, e4, icm_gtr A]
  have hN1 : A .ari .add .i64 (A .ari .add .i64 (s : Int) 8) (A .nat m) = ((s + 8 + l.length : Nat) : Int) := by
    have e1 : A .ari .add .i64 (s : Int) 8 = (s : Int) + 8 := by rw [hA.ari]; exact w _ (by omega)
    rw [e1, hmI, hA.ari]
    show IntKind.i64.wrap ((s : Int) + 8 + (l.length : Int)) = _
    rw [w _ (by omega)]; omega
  have hN2 : A .ari .add .i64 (n : Int) 1 = ((n + 1 : Nat) : Int) := by
    rw [hA.ari]
    show IntKind.i64.wrap ((n : Int) + 1) = _
    rw [w _ (by omega)]; omega
  have hN3 : IntKind.i64.wrap ((n : Int) + 1) = ((n + 1 : Nat) : Int) := by rw [w _ (by omega)]; omega
  have hP : appendD ⟨D, s, n⟩ l = if l.length > 65536 then (5, ⟨D, s, n⟩)
    else if (l.length : Int) + 8 > ((D.now.length : Int) - 1) * 64 - s then (14, ⟨D, s, n⟩)
    else if (pagesD D s (le8 (l.length : Int) ++ l)).1 ≠ 0 then ((pagesD D s (le8 (l.length : Int) ++ l)).1, ⟨(pagesD D s (le8 (l.length : Int) ++ l)).2, s, n⟩)
    else if (writeD (pagesD D s (le8 (l.length : Int) ++ l)).2 0 (hdB (s + 8 + l.length) (n + 1))).1 ≠ 0 then ((writeD (pagesD D s (le8 (l.length : Int) ++ l)).2 0 (hdB (s + 8 + l.length) (n + 1))).1, ⟨(writeD (pagesD D s (le8 (l.length : Int) ++ l)).2 0 (hdB (s + 8 + l.length) (n + 1))).2, s, n⟩)
    else if (syncD (writeD (pagesD D s (le8 (l.length : Int) ++ l)).2 0 (hdB (s + 8 + l.length) (n + 1))).2).1 ≠ 0 then ((syncD (writeD (pagesD D s (le8 (l.length : Int) ++ l)).2 0 (hdB (s + 8 + l.length) (n + 1))).2).1, ⟨(syncD (writeD (pagesD D s (le8 (l.length : Int) ++ l)).2 0 (hdB (s + 8 + l.length) (n + 1))).2).2, s, n⟩)
    else (0, ⟨(syncD (writeD (pagesD D s (le8 (l.length : Int) ++ l)).2 0 (hdB (s + 8 + l.length) (n + 1))).2).2, s + 8 + l.length, n + 1⟩) := rfl
  have hpw := pagesD_ws D s (le8 (l.length : Int) ++ l)
  rw [List.length_append, le8_len] at hpw
  obtain ⟨sz, hsz⟩ : ∃ sz : Int, sz = (s : Int) := ⟨_, rfl⟩
  obtain ⟨nz, hnz⟩ : ∃ nz : Int, nz = (n : Int) := ⟨_, rfl⟩
  have ql0 := ql
  rw [← hsz] at f2 hN1 ql hP
  rw [← hnz] at hN2 hN3 ql
  obtain ⟨lz, hlz⟩ : ∃ lz : Int, lz = (l.length : Int) := ⟨_, rfl⟩
  rw [← hlz] at hmI hP hpw f2
  obtain ⟨s2, hs2⟩ : ∃ s2 : Int, s2 = ((s + 8 + l.length : Nat) : Int) := ⟨_, rfl⟩
  rw [← hs2] at hN1
  obtain ⟨n2, hn2⟩ : ∃ n2 : Int, n2 = ((n + 1 : Nat) : Int) := ⟨_, rfl⟩
  rw [← hn2] at hN2 hN3
  have hN3' : IntKind.i64.wrap (nz + 1) = n2 := hN3
  have hhd : hdB (s + 8 + l.length) (n + 1) = le8 s2 ++ le8 n2 := by unfold hdB; rw [hs2, hn2]
  rw [hhd] at hP
  clear hhd
  refine fn_of_sx A (tabOk T145.plan T145.pub) Tryz.func145 rfl (by kernel_rfl) ?_
  cbv
  rw [offm A]
  refine ldb ql.out rfl rfl ?_
  cbv
  refine PagesC q (fun zP hzP => ?_)
  have f2 := f2 zP hzP
  cbv
  rw [offm A]
  refine load64 (cel_exp ql.out rfl) ?_
  cbv
  rw [f1]
  by_cases c1 : l.length > 65536
  · rw [if_pos c1] at hP
    rw [hP] at hk
    have := hk h (LeX.refl _ _) q ql0
    rw [decide_eq_true c1]
    clear hk hP
    cbv
    exact this
  · rw [if_neg c1] at hP
    rw [decide_eq_false c1]
    cbv
    rw [f2]
    by_cases c2 : lz + 8 > ((D.now.length : Int) - 1) * 64 - sz
    · rw [if_pos c2] at hP
      rw [hP] at hk
      have := hk h (LeX.refl _ _) q ql0
      rw [decide_eq_true c2]
      clear hk hP
      cbv
      exact this
    · rw [if_neg c2] at hP
      rw [decide_eq_false c2]
      clear f2 c1 c2
      cbv
      rw [hmI]
      refine IntW (e1 := 5) (l := []) Sl.nil (by omega) lz (fun h1 b1 m1 c1 l1 q1 => ?_)
      rw [List.nil_append] at q1
      cbv
      intro n2' h2 hn2' e2
      have l2 : Le h1 h2 := by rw [e2]; exact Le.set hn2'
      have g2 := (congrFun e2 n2').trans hset_self
      clear e2
      have ha : ([le8 lz, l] : List Bs).flatten = le8 lz ++ l := by simp
      have hab : (le8 lz ++ l).length ≤ 2 ^ 38 := by rw [List.length_append, le8_len]; omega
      cbv
      refine concatY (L := [le8 lz, l]) (two_sl (s := shBs) rfl g2 (shBs_of (q1.sl.mono (l2.t _))) (shBs_of (qb.mono ((l1.trans l2).t _)))) (by rw [ha]; exact hab) (fun h3 b3 m3 c3 l3 q3 => ?_)
      rw [ha] at q3
      have hm3 := q3.sl.len
      rw [List.length_append, le8_len] at hm3
      have l13 := (l1.trans l2).trans l3
      have ql3 := ql.lt (l13.t _)
      cbv
      refine pagesC (q.le l13) ⟨hsz⟩ ql3 q3.sl (by omega) (by omega) (by omega) (fun h4 x4 d4 => ?_)
      have x04 : LeX dT h h4 := (l13.x _).trans x4
      have ql4 := ql3.lt (x4.t (by decide))
      have qb4 := qb.mono (x04.t (by decide))
      clear q1 q3 ql3
      generalize pagesD D s (le8 lz ++ l) = R1 at *
      obtain ⟨e1, D1⟩ := R1
      have hpw : D1.ws.length ≤ D.ws.length + (8 + l.length + 64) := hpw
      have d4 : DkO h4 p D1 := d4
      have f4 : A .icm .neq e1 0 = decide (e1 ≠ 0) := icm_neq A ..
      by_cases c3 : e1 ≠ 0
      · have hP : appendD ⟨D, s, n⟩ l = (e1, ⟨D1, s, n⟩) := by rw [hP]; exact if_pos c3
        rw [hP] at hk
        have := hk h4 (x04.sup (by decide)) d4 (ql0.lt (x04.t (by decide)))
        rw [decide_eq_true c3] at f4
        clear hk hP
        cbv
        rw [f4]
        cbv
        exact this
      · have hP : appendD ⟨D, s, n⟩ l = if (writeD D1 0 (le8 s2 ++ le8 n2)).1 ≠ 0 then ((writeD D1 0 (le8 s2 ++ le8 n2)).1, ⟨(writeD D1 0 (le8 s2 ++ le8 n2)).2, s, n⟩)
            else if (syncD (writeD D1 0 (le8 s2 ++ le8 n2)).2).1 ≠ 0 then ((syncD (writeD D1 0 (le8 s2 ++ le8 n2)).2).1, ⟨(syncD (writeD D1 0 (le8 s2 ++ le8 n2)).2).2, s, n⟩)
            else (0, ⟨(syncD (writeD D1 0 (le8 s2 ++ le8 n2)).2).2, s + 8 + l.length, n + 1⟩) := by rw [hP]; exact if_neg c3
        rw [decide_eq_false c3] at f4
        clear c3
        cbv
        rw [f4]
        cbv
        rw [offm A]
        refine ldb ql4.out rfl rfl ?_
        cbv
        rw [hN1]
        refine IntW (e1 := 5) (l := []) Sl.nil (by omega) s2 (fun h5 b5 m5 c5 l5 q5 => ?_)
        rw [List.nil_append] at q5
        have hm5 := q5.sl.len
        rw [le8_len] at hm5
        have ql5 := ql4.lt (l5.t _)
        cbv
        refine CountC ql5 ?_
        cbv
        rw [hN2]
        refine IntW q5.sl (by omega) n2 (fun h6 b6 m6 c6 l6 q6 => ?_)
        have d6 := d4.le (l5.trans l6)
        have ql6 := ql5.lt (l6.t _)
        have x06 := x04.trans ((l5.trans l6).x _)
        cbv
        refine WriteC d6 0 q6.sl (by omega) (fun h7 x7 d7 => ?_)
        have ql7 := ql6.lt (x7.t (by decide))
        have x07 := x06.trans x7
        clear q5 q6
        generalize writeD D1 0 (le8 s2 ++ le8 n2) = R2 at *
        obtain ⟨e2, D2⟩ := R2
        have d7 : DkO h7 p D2 := d7
        have f5 : A .icm .neq e2 0 = decide (e2 ≠ 0) := icm_neq A ..
        by_cases c4 : e2 ≠ 0
        · have hP : appendD ⟨D, s, n⟩ l = (e2, ⟨D2, s, n⟩) := by rw [hP]; exact if_pos c4
          rw [hP] at hk
          have := hk h7 (x07.sup (by decide)) d7 (ql0.lt (x07.t (by decide)))
          rw [decide_eq_true c4] at f5
          clear hk hP
          cbv
          rw [f5]
          cbv
          exact this
        · have hP : appendD ⟨D, s, n⟩ l = if (syncD D2).1 ≠ 0 then ((syncD D2).1, ⟨(syncD D2).2, s, n⟩)
              else (0, ⟨(syncD D2).2, s + 8 + l.length, n + 1⟩) := by rw [hP]; exact if_neg c4
          rw [decide_eq_false c4] at f5
          clear c4
          cbv
          rw [f5]
          cbv
          rw [offm A]
          refine ldb ql7.out rfl rfl ?_
          cbv
          refine SyncC d7 (fun h8 x8 d8 => ?_)
          have ql8 := ql7.lt (x8.t (by decide))
          have x08 := x07.trans x8
          generalize syncD D2 = R3 at *
          obtain ⟨e3, D3⟩ := R3
          have d8 : DkO h8 p D3 := d8
          have f6 : A .icm .neq e3 0 = decide (e3 ≠ 0) := icm_neq A ..
          by_cases c5 : e3 ≠ 0
          · have hP : appendD ⟨D, s, n⟩ l = (e3, ⟨D3, s, n⟩) := by rw [hP]; exact if_pos c5
            rw [hP] at hk
            have := hk h8 (x08.sup (by decide)) d8 (ql0.lt (x08.t (by decide)))
            rw [decide_eq_true c5] at f6
            clear hk hP
            cbv
            rw [f6]
            cbv
            exact this
          · have hP : appendD ⟨D, s, n⟩ l = (0, ⟨D3, s + 8 + l.length, n + 1⟩) := by rw [hP]; exact if_neg c5
            rw [hP] at hk
            rw [decide_eq_false c5] at f6
            clear hP c5
            have hk1 : ∀ h', LeX lgT h h' → DkO h' p D3 → LgO h' lg p s2 n2 → k (.int .i64 0) h' := fun h' x d l => hk h' x d (by rw [hs2, hn2] at l; exact l)
            cbv
            rw [f6]
            cbv
            rw [offm A]
            cbv
            rw [hN1]
            have hset1 : ∀ h9, h9 = hset h8 lg (.cells (List.toArray [.pointer (some ⟨p, 0, none⟩), .int .i64 s2, .int .i64 nz]) 295 (0, 0)) → LeX [295] h8 h9 ∧ LgO h9 lg p s2 nz := fun h9 e9 => by
              subst e9; exact ⟨set_x ql8.out (by decide), ⟨hset_self⟩⟩
            refine store64 ql8.out rfl s2 (fun h9 e9 => ?_)
            obtain ⟨x9, ql9⟩ := hset1 h9 e9
            clear hset1 e9
            have hset2 : ∀ h', h' = hset h9 lg (.cells (List.toArray [.pointer (some ⟨p, 0, none⟩), .int .i64 s2, .int .i64 n2]) 295 (0, 0)) → LeX [295] h9 h' ∧ LgO h' lg p s2 n2 := fun h' e9 => by
              subst e9; exact ⟨set_x ql9.out (by decide), ⟨hset_self⟩⟩
            cbv
            rw [offm A]
            cbv
            refine add64 ql9.out rfl 1 (fun h10 e10 => ?_)
            rw [hN3'] at e10 ⊢
            obtain ⟨x10, ql10⟩ := hset2 h10 e10
            clear hset2 e10
            have := hk1 h10 ((x08.sup (by decide)).trans ((x9.trans x10).sup (by decide))) (d8.lt ((x9.trans x10).t (by decide))) ql10
            cbv
            exact this
end Go.S

set_option maxRecDepth 100000
set_option maxHeartbeats 8000000
namespace Go.S
open Go.Sx Go.Proofs
def flagI (b : Bool) : Int := if b then 1 else 0
theorem flagC (b : Bool) {h : Heap} {k : Value → Heap → Prop} (hk : k (.int .i64 (flagI b)) h) : Ct 250 [.bool b] h k := by
  obtain ⟨A, hA⟩ := Ar.ex
  refine fn_of_sx A (tabOk T250.plan T250.pub) Tryz.func250 rfl (by kernel_rfl) ?_
  cbv
  cases b with
  | false => exact hk
  | true => exact hk
def txtB (s : ByteArray) : Bs := sizeW s ++ textW s
theorem txtB_len (s : ByteArray) : (txtB s).length ≤ 65537 := by
  unfold txtB sizeW textW
  simp only [List.length_append, List.length_cons, List.length_nil, List.length_take]; omega
def colB (c : Col) : Bs := txtB c.name ++ ([u8 c.kind] ++ [u8 (flagI c.null)])
theorem colB_len (c : Col) : (colB c).length ≤ 65539 := by
  have := txtB_len c.name
  unfold colB
  simp only [List.length_append, List.length_cons, List.length_nil]; omega
def schB (s : Sch) : Bs := txtB s.name ++ ([u8 (s.cols.length : Int)] ++ ((s.cols.map colB).flatten ++ (le8 s.key ++ [u8 (flagI s.only)])))
theorem SchB {nm : ByteArray} {cols : List Col} {key : Int} {only : Bool} {h : Heap} {b : Option Addr} {n c : Nat} (q : Sl 58 shCol h (.slice b n c) cols) (hn : n ≤ 2 ^ 16) (h1 : nm.size ≤ 2 ^ 40) (h2 : ∀ x ∈ cols, x.name.size ≤ 2 ^ 40) {k : Value → Heap → Prop}
    (hk : ∀ h' b' n' c', Le h h' → Buf 5 shB h h' (.slice b' n' c') (schB ⟨nm, cols, key, only⟩) → k (.slice b' n' c') h') :
    Ct 148 [.agg #[.string nm, .slice b n c, .int .i64 key, .bool only]] h k := by
  obtain ⟨A, hA⟩ := Ar.ex
  have hlen := q.len
  obtain ⟨hb1, hb2⟩ := q.bound
  have hnI : A .nat n = (cols.length : Int) := by rw [hA.nat, hlen]; rfl
  have hnN : IsN (A .nat n) n := ⟨by rw [hA.nat]; rfl⟩
  obtain ⟨l0, hl0⟩ : ∃ l0, l0 = txtB nm ++ [u8 (cols.length : Int)] := ⟨_, rfl⟩
  have hl0L : l0.length ≤ 65538 := by have := txtB_len nm; rw [hl0, List.length_append, List.length_singleton]; omega
  have hS : schB ⟨nm, cols, key, only⟩ = (l0 ++ (cols.map colB).flatten ++ le8 key) ++ [u8 (flagI only)] := by
    rw [hl0]; unfold schB; simp
  rw [hS] at hk
  clear hS
  have hl0' : ([] ++ (sizeW nm ++ textW nm)) ++ [u8 (A .nat n)] = l0 := by rw [hnI, hl0]; rfl
  obtain ⟨J, hJ0⟩ : ∃ J : Nat → ((Option Addr × Nat × Nat) × Int) → Heap → Prop, ∀ w g h', J w g h' = (∃ i : Nat, IsN g.2 i ∧ w = n - i ∧ i ≤ n ∧ Le h h' ∧ Buf 5 shB h h' (.slice g.1.1 g.1.2.1 g.1.2.2) (l0 ++ ((cols.take i).map colB).flatten) ∧ (l0 ++ ((cols.take i).map colB).flatten).length ≤ 2 ^ 17 * (i + 1)) := ⟨_, fun _ _ _ => rfl⟩
  refine fn_of_sx A (tabOk T148.plan T148.pub) Tryz.func148 rfl (by kernel_rfl) ?_
  cbv
  refine TextW (e1 := 5) (l := []) Sl.nil (by omega) nm h1 (fun h1 b1 m1 c1 k1 q1 => ?_)
  have hm1 : m1 ≤ 65537 := by have := q1.sl.len; rw [List.nil_append] at this; have h9 := txtB_len nm; unfold txtB at h9; omega
  cbv
  refine ByteW q1.sl (by omega) _ (fun h2' b2 m2 c2 k2 q2 => ?_)
  rw [hl0'] at q2
  have k12 := k1.trans k2
  have hJ1 : J n ((b2, m2, c2), 0) h2' := by
    rw [hJ0]
    refine ⟨0, ⟨rfl⟩, rfl, by omega, k12, ?_, ?_⟩
    · have := q2.base k1
      simpa using this
    · simp; omega
  clear hl0' q1 q2
  cbv
  refine LoopX.go (G := (Option Addr × Nat × Nat) × Int) (fun g => [(3, .v (.slice g.1.1 g.1.2.1 g.1.2.2)), (16, .v (.int .i64 g.2))]) (fun _ => [(1, [.string nm, .slice b n c, .int .i64 key, .bool only])]) (fun w g h' => J w g h') n ((b2, m2, c2), 0) ⟨?_, ?_, ?_⟩ hJ1 ?_
  · cbv
  · cbv
  · cbv
  · intro w g h3 hI
    rw [hJ0] at hI
    cbv
    obtain ⟨⟨gb, gm, gc⟩, z⟩ := g
    obtain ⟨i, hz, hw, hi, k3, q3, hL⟩ := hI
    have hz : IsN z i := hz
    have q3 : Buf 5 shB h h3 (.slice gb gm gc) (l0 ++ ((cols.take i).map colB).flatten) := q3
    have hgm := q3.sl.len
    refine bsel_mk (fun hc => ?_) (fun hc => ?_)
    · have hlt := hz.lt hc
      obtain ⟨x, hx⟩ := get_ex (xs := cols) (i := i) (by omega)
      have hxs := h2 x (List.mem_of_getElem? hx)
      have hJ2 : ∀ b' m' c' h', Le h3 h' → Buf 5 shB h3 h' (.slice b' m' c') ((l0 ++ ((cols.take i).map colB).flatten) ++ colB x) → J (n - (i + 1)) ((b', m', c'), A .ari .add .i64 z 1) h' := fun b' m' c' h' l' q' => by
        rw [hJ0]
        have ha : (l0 ++ ((cols.take i).map colB).flatten) ++ colB x = l0 ++ ((cols.take (i + 1)).map colB).flatten := by
          rw [List.take_add_one, hx]; simp
        refine ⟨i + 1, hz.succ (A := A) (by omega), rfl, by omega, k3.trans l', ?_, ?_⟩
        · rw [← ha]; exact q'.base k3
        · rw [← ha, List.length_append]; have := colB_len x; omega
      have hwl : n - (i + 1) < w := by omega
      have hb3 : (l0 ++ ((cols.take i).map colB).flatten).length ≤ 2 ^ 34 := by omega
      have e1 : ∀ l : Bs, ((l ++ (sizeW x.name ++ textW x.name)) ++ [u8 x.kind]) ++ [u8 (flagI x.null)] = l ++ colB x := fun l => by unfold colB txtB; simp
      have hxl := txtB_len x.name
      unfold txtB at hxl
      have ix := hz.ix hlt
      clear hc hL hJ0
      generalize l0 ++ ((cols.take i).map colB).flatten = L at *
      cbv
      refine ⟨⟨q.isSm (by omega), ix⟩, ?_⟩
      cbv
      refine (q.mono (k3.t _)).load hx hz.eq (fun cs hcs => ?_)
      have hcs : cs = [.string x.name, .int .i64 x.kind, .bool x.null] := hcs
      subst hcs
      generalize hxn : x.name = xn at *
      generalize hxk : x.kind = xk at *
      generalize hxu : x.null = xu at *
      cbv
      refine TextW (e1 := 0) q3.sl (by omega) xn hxs (fun h4 b4 m4 c4 k4 q4 => ?_)
      have hm4 := q4.sl.len
      rw [List.length_append] at hm4
      cbv
      refine ByteW q4.sl (by omega) xk (fun h5 b5 m5 c5 k5 q5 => ?_)
      have hm5 := q5.sl.len
      rw [List.length_append, List.length_append, List.length_singleton] at hm5
      cbv
      refine flagC xu ?_
      cbv
      refine ByteW q5.sl (by omega) _ (fun h6 b6 m6 c6 k6 q6 => ?_)
      have hJ3 := hJ2 b6 m6 c6 h6 ((k4.trans k5).trans k6) (by rw [← e1]; exact q6.base (k4.trans k5))
      clear hJ2
      cbv
      refine ⟨n - (i + 1), ((_, _, _), A .ari .add .i64 z 1), hwl, ⟨?_, ?_, ?_⟩, hJ3⟩
      · cbv
      · cbv
      · cbv
    · have hge := hz.ge hc
      have hin : i = n := by omega
      subst hin
      rw [show cols.take i = cols by rw [hlen]; exact List.take_length] at q3 hL
      have hb3 : (l0 ++ (cols.map colB).flatten).length ≤ 2 ^ 34 := by omega
      clear hc hJ0 hL
      generalize l0 ++ (cols.map colB).flatten = L at *
      have hgm := q3.sl.len
      cbv
      refine IntW q3.sl (by omega) key (fun h4 b4 m4 c4 k4 q4 => ?_)
      have hm4 := q4.sl.len
      rw [List.length_append, le8_len] at hm4
      cbv
      refine flagC only ?_
      cbv
      refine ByteW q4.sl (by omega) _ (fun h5 b5 m5 c5 k5 q5 => ?_)
      have := hk h5 b5 m5 c5 ((k3.trans k4).trans k5) (q5.base (k3.trans k4))
      cbv
      exact this
end Go.S

set_option maxRecDepth 100000
set_option maxHeartbeats 8000000
namespace Go.S
open Go.Sx Go.Proofs
def truthT (s : St) : Bool × St := (decide ((numT 1 s).1 = 1), if (numT 1 s).1 > 1 then none else (numT 1 s).2)
theorem ByteZ {h : Heap} {p : Nat} {s : St} (q : RdS h p s) {k : Value → Heap → Prop} (hk : ∀ h' x, x = ((numT 1 s).1 : Int) → Kp [p] h h' → RdS h' p (numT 1 s).2 → k (.int .i64 x) h') :
    Ct 109 [.pointer (some ⟨p, 0, none⟩)] h k := ByteS q fun h' k1 q2 => hk h' _ rfl k1 q2
theorem IntZ {h : Heap} {p : Nat} {s : St} (q : RdS h p s) {k : Value → Heap → Prop} (hk : ∀ h' x, x = IntKind.i64.wrap ((numT 8 s).1 : Int) → Kp [p] h h' → RdS h' p (numT 8 s).2 → k (.int .i64 x) h') :
    Ct 107 [.pointer (some ⟨p, 0, none⟩)] h k := IntS q fun h' k1 q2 => hk h' _ rfl k1 q2
theorem TextZ {h : Heap} {p : Nat} {s : St} (q : RdS h p s) {k : Value → Heap → Prop} (hk : ∀ h' x, x = strOf (textT s).1 → Kp [p] h h' → RdS h' p (textT s).2 → k (.string x) h') :
    Ct 111 [.pointer (some ⟨p, 0, none⟩)] h k := TextS q fun h' k1 q2 => hk h' _ rfl k1 q2
theorem TruthC {h : Heap} {p : Nat} {s : St} (q : RdS h p s) {k : Value → Heap → Prop} (hk : ∀ h', Kp [p] h h' → RdS h' p (truthT s).2 → k (.bool (truthT s).1) h') :
    Ct 200 [.pointer (some ⟨p, 0, none⟩)] h k := by
  obtain ⟨A, hA⟩ := Ar.ex
  have hT : truthT s = (decide ((numT 1 s).1 = 1), if (numT 1 s).1 > 1 then none else (numT 1 s).2) := rfl
  refine fn_of_sx A (tabOk T200.plan T200.pub) Tryz.func200 rfl (by kernel_rfl) ?_
  cbv
  refine ByteZ q (fun h1 x hx k1 q1 => ?_)
  have f1 : A .icm .gtr x 1 = decide ((numT 1 s).1 > 1) := by rw [icm_gtr A]; exact decide_eq_decide.2 (by omega)
  have f2 : A .icm .eql x 1 = decide ((numT 1 s).1 = 1) := by rw [icm_eql A]; exact decide_eq_decide.2 (by omega)
  clear hx
  by_cases hc : (numT 1 s).1 > 1
  · rw [if_pos hc] at hT
    rw [hT] at hk
    rw [decide_eq_true hc] at f1
    cbv
    rw [f1]
    cbv
    refine FailS q1 10 (fun h2 k2 q2 => ?_)
    have := hk h2 (k1.trans k2) q2
    cbv
    rw [f2]
    exact this
  · rw [if_neg hc] at hT
    rw [hT] at hk
    rw [decide_eq_false hc] at f1
    have := hk h1 k1 q1
    cbv
    rw [f1]
    cbv
    rw [f2]
    exact this
def colT (s : St) : Col × St := (⟨strOf (textT s).1, ((numT 1 (textT s).2).1 : Int), (truthT (numT 1 (textT s).2).2).1⟩, (truthT (numT 1 (textT s).2).2).2)
def colsT : Nat → St → List Col × St
  | 0, s => ([], s)
  | n + 1, s => ((colT s).1 :: (colsT n (colT s).2).1, (colsT n (colT s).2).2)
def restT (nm : ByteArray) (c : List Col × St) : Option Sch :=
  if (truthT (numT 8 c.2).2).2 = some [] ∧ schErr ⟨nm, c.1, IntKind.i64.wrap ((numT 8 c.2).1 : Int), (truthT (numT 8 c.2).2).1⟩ = 0 then
    some ⟨nm, c.1, IntKind.i64.wrap ((numT 8 c.2).1 : Int), (truthT (numT 8 c.2).2).1⟩ else none
def parseT (b : Bs) : Option Sch :=
  if (numT 1 (textT (some b)).2).1 > 6 then restT (strOf (textT (some b)).1) (colsT 0 none)
  else restT (strOf (textT (some b)).1) (colsT (numT 1 (textT (some b)).2).1 (numT 1 (textT (some b)).2).2)
theorem RdS.mt {h h' : Heap} {p : Nat} {s : St} (q : RdS h p s) (l : LeT [361, 5] h h') : RdS h' p s := by
  obtain ⟨r, q1, q2⟩ := q.out
  obtain ⟨bb, n, c, d, g, sl, hd⟩ := q1.out
  exact ⟨r, ⟨bb, n, c, d, l _ _ _ _ (by decide) g, sl.mono (l.sub (by decide)), hd⟩, q2⟩
theorem ParseC {e1 : Nat} {h : Heap} {b : Option Addr} {m c : Nat} {l : Bs} (q : Sl e1 shB h (.slice b m c) l) {k : Value → Heap → Prop}
    (hk0 : parseT l = none → ∀ h' (e : Int), Le h h' → e ≠ 0 → k (.tuple #[.agg #[.string ⟨#[]⟩, .slice none 0 0, .int .i64 0, .bool false], .int .i64 e]) h')
    (hk1 : ∀ s h' b n c, parseT l = some s → Le h h' → Sl 58 shCol h' (.slice b n c) s.cols → k (.tuple #[.agg #[.string s.name, .slice b n c, .int .i64 s.key, .bool s.only], .int .i64 0]) h') :
    Ct 110 [.slice b m c] h k := by
  obtain ⟨A, hA⟩ := Ar.ex
  have f40 : failT 4 (numT 1 (textT (some l)).2).2 = none := rfl
  have hP : parseT l = if (numT 1 (textT (some l)).2).1 > 6 then restT (strOf (textT (some l)).1) (colsT 0 none)
      else restT (strOf (textT (some l)).1) (colsT (numT 1 (textT (some l)).2).1 (numT 1 (textT (some l)).2).2) := rfl
  refine fn_of_sxc A [false, false, false, false, true] (tabOk T110.plan T110.pub) Tryz.func110 rfl (by kernel_rfl) ?_
  cbv
  refine NewS q (fun h1 p hp l1 q1 => ?_)
  cbv
  refine TextZ q1 (fun h2 nam hnm k2 q2 => ?_)
  have l2 : Le h h2 := l1.kpNew (bs := [p]) (by simpa using hp) k2
  rw [← hnm] at hP
  generalize textT (some l) = R1 at *
  obtain ⟨nm, s1⟩ := R1
  have q2 : RdS h2 p s1 := q2
  cbv
  refine ByteZ q2 (fun h3 nz hnz k3 q3 => ?_)
  have l3 : Le h h3 := l2.kpNew (bs := [p]) (by simpa using hp) k3
  have hP : parseT l = if (numT 1 s1).1 > 6 then restT nam (colsT 0 none) else restT nam (colsT (numT 1 s1).1 (numT 1 s1).2) := hP
  have f40 : failT 4 (numT 1 s1).2 = none := f40
  generalize numT 1 s1 = R2 at *
  obtain ⟨nn, s2⟩ := R2
  have q3 : RdS h3 p s2 := q3
  have hnz : nz = (nn : Int) := hnz
  have f1 : A .icm .gtr nz 6 = decide (nn > 6) := by rw [icm_gtr A]; exact decide_eq_decide.2 (by omega)
  have hP : parseT l = if nn > 6 then restT nam (colsT 0 none) else restT nam (colsT nn s2) := hP
  obtain ⟨C, hC0⟩ : ∃ C : Int → Heap → Prop, ∀ z h1, C z h1 = (∃ m0 s0, IsN z m0 ∧ m0 ≤ 6 ∧ Le h h1 ∧ RdS h1 p s0 ∧ parseT l = restT nam (colsT m0 s0)) := ⟨_, fun _ _ => rfl⟩
  clear hnm
  cbv
  refine CutX.go (G := Int) (fun z => [(6, .v (.int .i64 z))]) (fun _ => [(2, [.string ⟨#[]⟩, .slice none 0 0, .int .i64 0, .bool false]), (5, [.string nam, .slice none 0 0, .int .i64 0, .bool false])]) C ?_ ?_
  · cbv
    rw [f1]
    by_cases hc : nn > 6
    · rw [if_pos hc] at hP
      have hC : ∀ h', Kp [p] h3 h' → RdS h' p none → C 0 h' := fun h' k' q' => by
        rw [hC0]; exact ⟨0, none, ⟨rfl⟩, by omega, l3.kpNew (bs := [p]) (by simpa using hp) k', q', hP⟩
      rw [decide_eq_true hc]
      clear hC0 hP f1 hk0 hk1
      cbv
      refine FailS q3 4 (fun h4 k4 q4 => ?_)
      have hC := hC h4 k4 q4
      cbv
      refine ⟨0, ⟨?_, ?_, ?_⟩, hC⟩
      · cbv
      · cbv
      · cbv
    · rw [if_neg hc] at hP
      have hC : C nz h3 := by
        rw [hC0]; exact ⟨nn, s2, ⟨hnz⟩, by omega, l3, q3, hP⟩
      rw [decide_eq_false hc]
      clear hC0 hP f1 hk0 hk1
      cbv
      refine ⟨nz, ⟨?_, ?_, ?_⟩, hC⟩
      · cbv
      · cbv
      · cbv
  · intro z h4 hc
    rw [hC0] at hc
    obtain ⟨m0, s0, hzm, hm6, l4, q4, hP⟩ := hc
    clear hC0 f1 f40 q1 q2 q3 k2 k3 l1 l2 l3
    obtain ⟨J, hJ0⟩ : ∃ J : Nat → ((Option Addr × Nat × Nat) × Int) → Heap → Prop, ∀ w g h', J w g h' = (∃ i si dn, IsN g.2 i ∧ w = m0 - i ∧ i ≤ m0 ∧ Le h h' ∧ RdS h' p si ∧ Buf 58 shCol h h' (.slice g.1.1 g.1.2.1 g.1.2.2) dn ∧ dn.length = i ∧ dn ++ (colsT (m0 - i) si).1 = (colsT m0 s0).1 ∧ (colsT (m0 - i) si).2 = (colsT m0 s0).2) := ⟨_, fun _ _ _ => rfl⟩
    have hJ1 : J m0 ((none, 0, 0), 0) h4 := by
      rw [hJ0]; exact ⟨0, s0, [], ⟨rfl⟩, rfl, by omega, l4, q4, Buf.nil, rfl, rfl, rfl⟩
    cbv
    refine LoopX.go (G := (Option Addr × Nat × Nat) × Int) (fun g => [(20, .v (.int .i64 g.2))]) (fun g => [(2, [.string ⟨#[]⟩, .slice none 0 0, .int .i64 0, .bool false]), (5, [.string nam, .slice g.1.1 g.1.2.1 g.1.2.2, .int .i64 0, .bool false])]) (fun w g h' => J w g h') m0 ((none, 0, 0), 0) ⟨?_, ?_, ?_⟩ hJ1 ?_
    · cbv
    · cbv
    · cbv
    · intro w g h5 hI
      rw [hJ0] at hI
      cbv
      obtain ⟨⟨gb, gm, gc⟩, zi⟩ := g
      obtain ⟨i, si, dn, hzi, hw, hi, l5, q5, b5, hdn, he1, he2⟩ := hI
      have hzi : IsN zi i := hzi
      have b5 : Buf 58 shCol h h5 (.slice gb gm gc) dn := b5
      have hgm := b5.sl.len
      have f2 : A .icm .lss zi z = decide (i < m0) := by rw [icm_lss A, hzi.eq, hzm.eq]; exact decide_eq_decide.2 (by omega)
      rw [f2]
      by_cases hc : i < m0
      · have hcs : colsT (m0 - i) si = ((colT si).1 :: (colsT (m0 - (i + 1)) (colT si).2).1, (colsT (m0 - (i + 1)) (colT si).2).2) := by
          have : m0 - i = (m0 - (i + 1)) + 1 := by omega
          rw [this]; rfl
        rw [hcs] at he1 he2
        have hJ2 : ∀ h' b' m' c', m' = gm + 1 → Le h h' → RdS h' p (colT si).2 → Buf 58 shCol h h' (.slice b' m' c') (dn ++ [(colT si).1]) → J (m0 - (i + 1)) ((b', m', c'), A .ari .add .i64 zi 1) h' := fun h' b' m' c' e l' q' b' => by
          rw [hJ0]
          refine ⟨i + 1, _, _, hzi.succ (A := A) (by omega), rfl, by omega, l', q', b', ?_, ?_, he2⟩
          · rw [List.length_append, hdn]; rfl
          · rw [← he1]; simp
        have hlt : m0 - (i + 1) < w := by omega
        rw [decide_eq_true hc]
        have hcT : colT si = (⟨strOf (textT si).1, ((numT 1 (textT si).2).1 : Int), (truthT (numT 1 (textT si).2).2).1⟩, (truthT (numT 1 (textT si).2).2).2) := rfl
        rw [hcT] at hJ2
        clear hJ0 hJ1 hcs hcT he1 he2 f2 hk0 hk1 hP hc
        cbv
        refine TextZ q5 (fun h6 nx hnx k6 q6 => ?_)
        have t6 : LeT [58] h5 h6 := q5.lt k6 (by decide)
        have l6 : Le h h6 := l5.kpNew (bs := [p]) (by simpa using hp) k6
        rw [← hnx] at hJ2
        generalize textT si = R1 at *
        obtain ⟨nm1, s3⟩ := R1
        have q6 : RdS h6 p s3 := q6
        cbv
        refine ByteZ q6 (fun h7 kx hkx k7 q7 => ?_)
        have t7 : LeT [58] h6 h7 := q6.lt k7 (by decide)
        have l7 : Le h h7 := l6.kpNew (bs := [p]) (by simpa using hp) k7
        have hJ2 : ∀ h' b' m' c', m' = gm + 1 → Le h h' → RdS h' p (truthT (numT 1 s3).2).2 → Buf 58 shCol h h' (.slice b' m' c') (dn ++ [⟨nx, ((numT 1 s3).1 : Int), (truthT (numT 1 s3).2).1⟩]) → J (m0 - (i + 1)) ((b', m', c'), A .ari .add .i64 zi 1) h' := hJ2
        have hkx : kx = ((numT 1 s3).1 : Int) := hkx
        rw [← hkx] at hJ2
        generalize numT 1 s3 = R2 at *
        obtain ⟨nk, s4⟩ := R2
        have q7 : RdS h7 p s4 := q7
        cbv
        refine TruthC q7 (fun h8 k8 q8 => ?_)
        have t8 : LeT [58] h7 h8 := q7.lt k8 (by decide)
        have l8 : Le h h8 := l7.kpNew (bs := [p]) (by simpa using hp) k8
        have hJ2 : ∀ h' b' m' c', m' = gm + 1 → Le h h' → RdS h' p (truthT s4).2 → Buf 58 shCol h h' (.slice b' m' c') (dn ++ [⟨nx, kx, (truthT s4).1⟩]) → J (m0 - (i + 1)) ((b', m', c'), A .ari .add .i64 zi 1) h' := hJ2
        generalize truthT s4 = R3 at *
        obtain ⟨tx, s5⟩ := R3
        have q8 : RdS h8 p s5 := q8
        have b8 := b5.mono ((t6.trans t7).trans t8)
        cbv
        intro n9 h9 hn9 e9
        have l89 : Le h8 h9 := by rw [e9]; exact Le.set hn9
        have g9 := (congrFun e9 n9).trans hset_self
        have q9 : Sl 58 shCol h9 (.slice (some ⟨n9, 0, none⟩) 1 1) [⟨nx, kx, tx⟩] := one_sl (s := shCol) g9 rfl
        clear e9
        cbv
        refine (b8.mono (l89.t _)).append q9 (by decide) rfl (by decide) (by omega) (l8.trans l89) (fun m' b' c' h10 hm' l10 t10 x10 b10 => ?_)
        have hJ3 := hJ2 h10 b' m' c' hm' l10 ((q8.le l89).mt (t10 _ (by decide))) b10
        clear hJ2
        cbv
        refine ⟨m0 - (i + 1), ((b', m', c'), A .ari .add .i64 zi 1), hlt, ⟨?_, ?_, ?_⟩, hJ3⟩
        · cbv
        · cbv
        · cbv
      · have him : m0 - i = 0 := by omega
        rw [him] at he1 he2
        have he1 : dn = (colsT m0 s0).1 := by rw [← he1]; simp [colsT]
        have he2 : si = (colsT m0 s0).2 := he2
        have hcs : colsT m0 s0 = (dn, si) := by rw [he1, he2]
        rw [hcs] at hP
        rw [decide_eq_false hc]
        clear hJ0 hJ1 hcs he1 he2 f2 hc
        cbv
        refine (cloneB107 b5.sl).mono (fun v h6 hR => ?_)
        obtain ⟨l6, b6, c6, rfl, s6⟩ := hR
        have q6 := q5.le l6
        have hP : parseT l = if (truthT (numT 8 si).2).2 = some [] ∧ schErr ⟨nam, dn, IntKind.i64.wrap ((numT 8 si).1 : Int), (truthT (numT 8 si).2).1⟩ = 0 then
    some ⟨nam, dn, IntKind.i64.wrap ((numT 8 si).1 : Int), (truthT (numT 8 si).2).1⟩ else none := hP
        cbv
        refine IntZ q6 (fun h7 ky hky k7 q7 => ?_)
        have t7 : LeT [58] h6 h7 := q6.lt k7 (by decide)
        have l7 : Le h h7 := (l5.trans l6).kpNew (bs := [p]) (by simpa using hp) k7
        rw [← hky] at hP
        generalize numT 8 si = R1 at *
        obtain ⟨kn, s7⟩ := R1
        have q7 : RdS h7 p s7 := q7
        cbv
        refine TruthC q7 (fun h8 k8 q8 => ?_)
        have t8 : LeT [58] h7 h8 := q7.lt k8 (by decide)
        have l8 : Le h h8 := l7.kpNew (bs := [p]) (by simpa using hp) k8
        have s8 : Sl 58 shCol h8 (.slice b6 gm c6) dn := s6.sl.mono (t7.trans t8)
        have hP : parseT l = if (truthT s7).2 = some [] ∧ schErr ⟨nam, dn, ky, (truthT s7).1⟩ = 0 then some ⟨nam, dn, ky, (truthT s7).1⟩ else none := hP
        generalize truthT s7 = R3 at *
        obtain ⟨tx, s9⟩ := R3
        have q8 : RdS h8 p s9 := q8
        have hP : parseT l = if s9 = some [] ∧ schErr ⟨nam, dn, ky, tx⟩ = 0 then some ⟨nam, dn, ky, tx⟩ else none := hP
        cbv
        refine EndS q8 (fun ex hex => ?_)
        have g1 : A .icm .eql ex 0 = decide (ex = 0) := icm_eql A ..
        have g2 : A .icm .neq ex 0 = decide (ex ≠ 0) := icm_neq A ..
        by_cases h0 : ex = 0
        · have h9 := hex.1 h0
          rw [decide_eq_true h0] at g1
          clear g2 hex
          cbv
          rw [g1]
          cbv
          refine (check45 s8).mono (fun v h10 hR => ?_)
          obtain ⟨l10, ez, rfl, hez⟩ := hR
          rw [← hez] at hP
          have g3 : A .icm .neq ez 0 = decide (ez ≠ 0) := icm_neq A ..
          by_cases h1 : ez = 0
          · rw [if_pos ⟨h9, h1⟩] at hP
            have := hk1 _ h10 b6 gm c6 hP (l8.trans l10) (s8.mono (l10.t _))
            have g4 : decide (ez ≠ 0) = false := decide_eq_false (fun g => g h1)
            rw [g4] at g3
            cbv
            rw [g3]
            cbv
            exact this
          · rw [if_neg (fun g => h1 g.2)] at hP
            have := hk0 hP h10 ez (l8.trans l10) h1
            rw [decide_eq_true h1] at g3
            cbv
            rw [g3]
            cbv
            exact this
        · have h9 : ¬ s9 = some [] := fun g => h0 (hex.2 g)
          rw [if_neg (fun g => h9 g.1)] at hP
          have := hk0 hP h8 ex l8 h0
          rw [decide_eq_false h0] at g1
          rw [decide_eq_true h0] at g2
          cbv
          rw [g1]
          cbv
          rw [g2]
          cbv
          exact this
end Go.S

set_option maxRecDepth 100000
set_option maxHeartbeats 8000000
namespace Go.S
open Go.Sx Go.Proofs
section
variable {P : Program}
theorem run_loadP {f : FuncId} {fn : Func} (ok : ExtOk P f fn) (he : Extern.find fn = some (Extern.Atomic.loadT .ptr)) {a : Addr} {x : Option Addr} {w : World} (hc : w.cell? a = some (.pointer x)) :
    (callFunc f #[.pointer (some a)]).run P w = .ok (.value (.pointer x)) w := by
  rw [run_callFunc_extern ok.hf ok.hname ok.hb ok.hn he]
  change (Sem.run P (do Extern.Atomic.read .ptr (← asAddr (.pointer (some a)))) w).andThen _ = _
  simp [Extern.Atomic.read, asAddr, hc, Result.andThen]
theorem run_storeP {f : FuncId} {fn : Func} (ok : ExtOk P f fn) (he : Extern.find fn = some Extern.Atomic.storeT) {a : Addr} {y : Option Addr} {u : Value} {w : World} (hc : w.cell? a = some u) (hz : w.frozen? a = false) :
    (callFunc f #[.pointer (some a), .pointer y]).run P w = .ok (.value (.tuple #[])) (w.setCell a (.pointer y)) := by
  rw [run_callFunc_extern ok.hf ok.hname ok.hb ok.hn he]
  change (Sem.run P (do
    store (← asAddr (.pointer (some a))) (.pointer y) .atomic
    pure Extern.Atomic.none_) w).andThen _ = _
  simp [asAddr, hc, hz, run_store P w a (.pointer y) .atomic rfl, Result.andThen, Extern.Atomic.none_]
theorem ext_loadP {f : FuncId} {fn : Func} (ok : ExtOk P f fn) (he : Extern.find fn = some (Extern.Atomic.loadT .ptr)) {a : Addr} {h : Heap} {x : Option Addr} (hc : Cel h a (.pointer x)) {k : Value → Heap → Prop} (hk : k (.pointer x) h) :
    SemX (fun _ => P) (fun _ => extS f [.pointer (some a)]) h k :=
  SemX.ext fun w hw => ⟨_, w, h, run_loadP ok he (hc.cell hw).1, hk, After.refl hw⟩
theorem ext_storeP {f : FuncId} {fn : Func} (ok : ExtOk P f fn) (he : Extern.find fn = some Extern.Atomic.storeT) {a : Addr} {h : Heap} {v : Value} {y : Option Addr} (hc : Cel h a v) {k : Value → Heap → Prop}
    (hk : ∀ c e h', h a.block = some (.cells c e (0, 0)) → h' = hset h a.block (.cells (c.setIfInBounds a.off (.pointer y)) e (0, 0)) → k (.tuple #[]) h') :
    SemX (fun _ => P) (fun _ => extS f [.pointer (some a), .pointer y]) h k :=
  SemX.ext fun w hw => by
    obtain ⟨h', h1, h2⟩ := hc.set (.pointer y) (k := k (.tuple #[])) hk hw
    exact ⟨_, _, h', run_storeP ok he (hc.cell hw).1 (hc.cell hw).2, h1, h2⟩
theorem sem_toU {src dst t : TypeId} (hs : P.underlying src = some (.pointer t)) (hd : P.underlying dst = some .unsafePointer) (hsz : (P.info? t).map (fun i => decide (i.size = 0)) = some false) {h : Heap} {a : Addr} {v : Value} (c : Cel h a v) {k : Value → Heap → Prop} (hk : k (.pointer (some a)) h) :
    SemX (fun _ => P) (fun _ => Go.convert src dst (.pointer (some a))) h k :=
  ⟨fun w hw => ⟨_, w, h, run_convert_to_unsafe hs hd hsz (c.cell hw).1, hk, After.refl hw⟩⟩
theorem lies_selfU {u count : Nat} (hc : P.cellsOf u ≠ 0) (hn : 1 ≤ count) : liesAt P P.depth u count 0 u 1 = true := by
  have hd : P.depth = (2 * (P.types.size + Made.depth) + 1) + 1 := rfl
  rw [hd]
  simp only [liesAt, Bool.or_eq_true]
  left
  rw [hd]
  simp [rowAt, hc, hn, sameLayout]
theorem sem_ofU {src dst u sz : Nat} (hs : P.underlying src = some .unsafePointer) (hd : P.underlying dst = some (.pointer u)) (hsz : P.cellsOf u = sz) (hpos : 0 < sz) {h : Heap} {b : Nat} {c : Array Value} {fr : Nat × Nat} (g : h b = some (.cells c u fr)) (hc : c.size = sz) {k : Value → Heap → Prop} (hk : k (.pointer (some ⟨b, 0, none⟩)) h) :
    SemX (fun _ => P) (fun _ => Go.convert src dst (.pointer (some ⟨b, 0, none⟩))) h k := by
  refine ⟨fun w hw => ⟨.pointer (some ⟨b, 0, none⟩), w, h, ?_, hk, After.refl hw⟩⟩
  have hb := hw _ _ g
  have hsh : w.shape? b = some (u, c.size) := by unfold World.shape?; rw [hb]
  have hlies : liesAt P P.depth u (c.size / P.cellsOf u) 0 u 1 = true := lies_selfU (by omega) (by rw [hsz, hc, Nat.div_self hpos]; exact Nat.le_refl 1)
  obtain ⟨ti, hti, htz⟩ : ∃ ti, P.info? u = some ti ∧ ti.size = sz := by
    unfold Program.cellsOf at hsz
    cases hi : P.info? u with
    | none => rw [hi] at hsz; simp at hsz; omega
    | some ti => rw [hi] at hsz; exact ⟨ti, rfl, by simpa using hsz⟩
  simp [convert, Conv.unsafePointer, Conv.seenAt, viewAt, variablesAt, sizeOf, typeInfo, run_underlying hs, run_underlying hd, hti, htz, hsh, hlies, Result.andThen]
end
theorem up_under : Tryz.prog.underlying 185 = some .unsafePointer := by kernel_rfl
theorem sp_under : Tryz.prog.underlying 180 = some (.pointer 182) := by kernel_rfl
theorem sp_cells : Tryz.prog.cellsOf 182 = 8 := by kernel_rfl
theorem extLP : ExtOk Tryz.prog 138 Tryz.f138 := ⟨Tryz.func138, by kernel_rfl, by kernel_rfl, by kernel_rfl⟩
theorem extSP : ExtOk Tryz.prog 137 Tryz.f137 := ⟨Tryz.func137, by kernel_rfl, by kernel_rfl, by kernel_rfl⟩
theorem PLoad {h : Heap} {b o x : Nat} (q : Cel h ⟨b, o, none⟩ (.pointer (some ⟨x, 0, none⟩))) {c : List Value} (g : h x = some (.cells (List.toArray c) 182 (0, 0))) (hc : c.length = 8) {k : Value → Heap → Prop} (hk : k (.pointer (some ⟨x, 0, none⟩)) h) : Ct 58 [.pointer (some ⟨b, o, none⟩)] h k := by
  obtain ⟨A, hA⟩ := Ar.ex
  refine fn_of_sx A (tabOk T58.plan T58.pub) Tryz.func58 rfl (by kernel_rfl) ?_
  cbv
  rw [offm A]
  refine ext_loadP extLP (by kernel_rfl) q ?_
  cbv
  refine sem_ofU up_under sp_under sp_cells (by decide) g hc ?_
  cbv
  exact hk
theorem PStore {h : Heap} {b o ty : Nat} {x : Value} {c : List Value} (g : h b = some (.cells (List.toArray c) ty (0, 0))) (hx : c[o]? = some x) {y : Nat} {v : Value} (qy : Cel h ⟨y, 0, none⟩ v) {k : Value → Heap → Prop} (hk : ∀ h', h' = hset h b (.cells (List.toArray (c.set o (.pointer (some ⟨y, 0, none⟩)))) ty (0, 0)) → k (.tuple #[]) h') : Ct 57 [.pointer (some ⟨b, o, none⟩), .pointer (some ⟨y, 0, none⟩)] h k := by
  obtain ⟨A, hA⟩ := Ar.ex
  refine fn_of_sx A (tabOk T57.plan T57.pub) Tryz.func57 rfl (by kernel_rfl) ?_
  cbv
  rw [offm A]
  refine sem_toU sp_under up_under (by kernel_rfl) qy ?_
  cbv
  refine ext_storeP extSP (by kernel_rfl) (cel_exp g hx) (fun c' e' h1 e1 e2 => ?_)
  have hu : Up h b o (.pointer (some ⟨y, 0, none⟩)) h1 := ⟨c', e', e1, e2⟩
  have := hk h1 (hu.exp g)
  cbv
  exact this
theorem sizeB (l : Bs) : (strOf l).size = l.length := by
  unfold strOf
  show (Array.size _) = _
  simp
def tabRec (s : Sch) : Bs := [u8 1] ++ txtB (strOf (schB s))
def dropRec (nm : ByteArray) : Bs := [u8 2] ++ txtB nm
theorem DropRec (nm : ByteArray) (hn : nm.size ≤ 2 ^ 40) {h : Heap} {k : Value → Heap → Prop} (hk : ∀ h' b' n' c', Le h h' → Buf 5 shB h h' (.slice b' n' c') (dropRec nm) → k (.slice b' n' c') h') :
    Ct 66 [.string nm] h k := by
  obtain ⟨A, hA⟩ := Ar.ex
  have hD : dropRec nm = ([] ++ [u8 2]) ++ (sizeW nm ++ textW nm) := rfl
  rw [hD] at hk
  clear hD
  refine fn_of_sx A (tabOk T66.plan T66.pub) Tryz.func66 rfl (by kernel_rfl) ?_
  cbv
  refine ByteW (l := []) Sl.nil (by omega) 2 (fun h1 b1 m1 c1 l1 q1 => ?_)
  have hm1 := q1.sl.len
  rw [List.nil_append, List.length_singleton] at hm1
  cbv
  refine TextW (e1 := 0) q1.sl (by omega) nm hn (fun h2 b2 m2 c2 l2 q2 => ?_)
  have := hk h2 b2 m2 c2 (l1.trans l2) (q2.base l1)
  cbv
  exact this
theorem TabRec {nm : ByteArray} {cols : List Col} {key : Int} {only : Bool} {h : Heap} {b : Option Addr} {n c : Nat} (q : Sl 58 shCol h (.slice b n c) cols) (hn : n ≤ 2 ^ 16) (h1 : nm.size ≤ 2 ^ 40) (h2 : ∀ x ∈ cols, x.name.size ≤ 2 ^ 40) {k : Value → Heap → Prop}
    (hk : ∀ h' b' n' c', Le h h' → Buf 5 shB h h' (.slice b' n' c') (tabRec ⟨nm, cols, key, only⟩) → k (.slice b' n' c') h') :
    Ct 61 [.agg #[.string nm, .slice b n c, .int .i64 key, .bool only]] h k := by
  obtain ⟨A, hA⟩ := Ar.ex
  have hD : tabRec ⟨nm, cols, key, only⟩ = ([] ++ [u8 1]) ++ (sizeW (strOf (schB ⟨nm, cols, key, only⟩)) ++ textW (strOf (schB ⟨nm, cols, key, only⟩))) := rfl
  rw [hD] at hk
  clear hD
  refine fn_of_sx A (tabOk T61.plan T61.pub) Tryz.func61 rfl (by kernel_rfl) ?_
  cbv
  refine ByteW (l := []) Sl.nil (by omega) 1 (fun h3 b1 m1 c1 l1 q1 => ?_)
  have hm1 := q1.sl.len
  rw [List.nil_append, List.length_singleton] at hm1
  cbv
  refine SchB (q.mono (l1.t _)) hn h1 h2 (fun h4 b2 m2 c2 l2 q2 => ?_)
  have hsz := sizeB (schB ⟨nm, cols, key, only⟩)
  generalize schB ⟨nm, cols, key, only⟩ = S at *
  have hm2 := q2.sl.len
  have hbd := q2.sl.bound
  cbv
  refine sem_b2s q2.sl ?_
  cbv
  refine TextW (e1 := 0) (q1.sl.mono (l2.t _)) (by omega) (strOf S) (by omega) (fun h5 b3 m3 c3 l3 q3 => ?_)
  have := hk h5 b3 m3 c3 ((l1.trans l2).trans l3) (q3.base (l1.trans l2))
  cbv
  exact this
end Go.S

set_option maxRecDepth 100000
set_option maxHeartbeats 8000000
namespace Go.S
open Go.Sx Go.Proofs
/-- The reader of a record: its reader, and whether something was wrong. -/
structure RrO (h : Heap) (r p : Nat) (bad : Bool) : Prop where
  out : ∃ d, h r = some (.cells (List.toArray [.pointer (some ⟨p, 0, none⟩), .int .u32 d, .int .i32 0, .int .u32 0, .bool bad]) 299 (0, 0)) ∧ ((bad = false ∧ d = 0) ∨ (bad = true ∧ d = 1))
theorem RrO.lt {h h' : Heap} {r p : Nat} {bad : Bool} (q : RrO h r p bad) (l : LeT [299] h h') : RrO h' r p bad := by
  obtain ⟨d, g, hd⟩ := q.out
  exact ⟨d, l _ _ _ _ (by decide) g, hd⟩
theorem RrO.le {h h' : Heap} {r p : Nat} {bad : Bool} (q : RrO h r p bad) (l : Le h h') : RrO h' r p bad := q.lt (l.t _)
theorem mustD {h : Heap} {b2 c : Nat} {t2 : Nat} {s1 s2 s3 s4 y : Value} (g2 : h b2 = some (.cells #[.pointer (some ⟨c, 0, none⟩)] t2 (0, 0)))
    (gc : h c = some (.cells (List.toArray [s1, s2, s3, s4, y]) 299 (0, 0))) {k : Value → Heap → Prop} (hk : k (.tuple #[]) (hset h c (.cells (List.toArray [s1, s2, s3, s4, .bool true]) 299 (0, 0)))) :
    Ct 300 [.pointer (some ⟨b2, 0, none⟩)] h k := by
  obtain ⟨A, hA⟩ := Ar.ex
  refine fn_of_sx A (tabOk T300.plan T300.pub) Tryz.func300 rfl (by kernel_rfl) ?_
  cbv
  refine ldb g2 rfl rfl ?_
  cbv
  rw [offm A]
  refine stb gc (by simp) (fun h' hh => ?_)
  subst hh
  cbv
  exact hk
theorem mustC {h : Heap} {r p : Nat} {bad : Bool} (q : RrO h r p bad) (is : Bool) {k : Value → Heap → Prop} (hk : ∀ h', Kp [r] h h' → RrO h' r p (bad || !is) → k (.tuple #[]) h') :
    Ct 227 [.pointer (some ⟨r, 0, none⟩), .bool is] h k := by
  obtain ⟨A, hA⟩ := Ar.ex
  obtain ⟨d, g, hd⟩ := q.out
  refine fn_of_sx A (tabOk T227.plan T227.pub) Tryz.func227 rfl (by kernel_rfl) ?_
  cbv
  intro p2 h1 hp2 e1
  have l1 : Le h h1 := by rw [e1]; exact Le.set hp2
  have g2 : h1 p2 = some (.cells #[.pointer (some ⟨r, 0, none⟩)] 297 (0, 0)) := by rw [e1]; exact hset_self
  have gp := l1 _ _ g
  have n2 : p2 ≠ r := fun e => by rw [e, g] at hp2; cases hp2
  clear e1
  cbv
  rw [hA.not]
  cases is with
  | true =>
    have := hk h1 (l1.kp _) (by rw [show (bad || !true) = bad from by simp]; exact q.le l1)
    cbv
    exact this
  | false =>
    rw [show (bad || !false) = true from by simp] at hk
    cbv
    refine ldb g2 rfl rfl ?_
    cbv
    rw [offm A]
    rcases hd with ⟨he, rfl⟩ | ⟨he, rfl⟩
    · refine doB (f := 300) (fl := []) (cl := [.pointer (some ⟨p2, 0, none⟩)]) gp rfl rfl (fun h3 hu => ?_)
      have g2' : h3 p2 = some (.cells #[.pointer (some ⟨r, 0, none⟩)] 297 (0, 0)) := by rw [hu, hset_ne n2]; exact g2
      have gp3 := (congrFun hu r).trans hset_self
      refine mustD g2' gp3 ⟨rfl, _, hset_self, rfl, rfl, ?_⟩
      rw [hu, hset_twice, hset_twice]
      have kp : Kp [r] h1 (hset h1 r (.cells (List.toArray [.pointer (some ⟨p, 0, none⟩), .int .u32 1, .int .i32 0, .int .u32 0, .bool true]) 299 (0, 0))) := Kp.set (by simp)
      have := hk _ ((l1.kp _).trans kp) ⟨1, hset_self, .inr ⟨rfl, rfl⟩⟩
      cbv
      exact this
    · refine (didG (cel_exp gp rfl)).mono (fun v h4 hR => ?_)
      obtain ⟨rfl, rfl⟩ := hR
      cbv
      exact hk _ (l1.kp _) (by rw [← he]; exact q.le l1)
theorem RrO.lk {h h' : Heap} {r p : Nat} {bad : Bool} (q : RrO h r p bad) (k : Kp [r] h h') {tys : List Nat} (he : 299 ∉ tys) : LeT tys h h' := by
  obtain ⟨d, g, -⟩ := q.out
  exact kp_lt k g he
end Go.S

set_option maxRecDepth 100000
set_option maxHeartbeats 8000000
namespace Go.S
open Go.Sx Go.Proofs
abbrev dbTys : List Nat := [100, 58, 88, 87, 211, 228, 213, 316]
theorem RDB.ls {h h' : Heap} {v : Value} {d : DB} (q : RDB h v d) (l : LeT dbTys h h') : RDB h' v d := by
  obtain ⟨_, _, _, _, _, _, _, _, _, _, _, _, ws, rfl, q1, q2, q3, q4, q5⟩ := q.out
  exact ⟨_, _, _, _, _, _, _, _, _, _, _, _, ws, rfl, q1.mono (l.sub (by decide)), q2.mono (l.sub (by decide)), q3.mono (l.sub (by decide)), q4.mono (l.sub (by decide)), q5⟩
/-- What a log says: tables, sessions, locks; and the ledger's four cells. -/
structure StO (h : Heap) (x : Nat) (d : DB) (L : Value × Value × Value × Value) : Prop where
  out : ∃ b1 n1 c1 b2 n2 c2 b3 n3 c3 b4 n4 c4, h x = some (.cells (List.toArray [.slice b1 n1 c1, .slice b2 n2 c2, .slice b3 n3 c3, .slice b4 n4 c4, L.1, L.2.1, L.2.2.1, L.2.2.2]) 182 (0, 0)) ∧
    RDB h (.agg #[.slice b1 n1 c1, .slice b2 n2 c2, .slice b3 n3 c3, .slice b4 n4 c4]) d
theorem StO.lt {h h' : Heap} {x : Nat} {d : DB} {L : Value × Value × Value × Value} (q : StO h x d L) (l : LeT (182 :: dbTys) h h') : StO h' x d L := by
  obtain ⟨b1, n1, c1, b2, n2, c2, b3, n3, c3, b4, n4, c4, g, qd⟩ := q.out
  exact ⟨b1, n1, c1, b2, n2, c2, b3, n3, c3, b4, n4, c4, l _ _ _ _ (by decide) g, qd.ls (l.sub (by decide))⟩
theorem StO.le {h h' : Heap} {x : Nat} {d : DB} {L : Value × Value × Value × Value} (q : StO h x d L) (l : Le h h') : StO h' x d L := q.lt (l.t _)
theorem _root_.Go.Sx.Kp.up {bs bs' : List Nat} {h h' : Heap} (k : Kp bs h h') (hs : ∀ b ∈ bs, b ∈ bs') : Kp bs' h h' := fun b o hb hn => k b o hb (fun hm => hn (hs b hm))
abbrev stT : List Nat := [182, 299, 361]
def zSch : Sch := ⟨⟨#[]⟩, [], 0, false⟩
def tabD (d : DB) (s : St) : DB × Bool × St := match parseT (textT s).1 with
  | none => ((createD d zSch).1, true, (textT s).2)
  | some x => ((createD d x).1, decide ((createD d x).2 ≠ 0), (textT s).2)
theorem textT_len (s : St) : (textT s).1.length < 65536 := by
  have h1 := takeT_len (numT 2 s).1 (numT 2 s).2
  have h2 := numT_lt 2 s
  unfold textT
  omega
theorem strOf_bs (l : Bs) : bsOf (strOf l) = l := by unfold bsOf strOf; simp
theorem ParseZ {e1 : Nat} {h : Heap} {b : Option Addr} {m c : Nat} {l : Bs} (q : Sl e1 shB h (.slice b m c) l) {k : Value → Heap → Prop}
    (hk : ∀ h' s b n c (e : Int), Le h h' → Sl 58 shCol h' (.slice b n c) s.cols → (parseT l = none ∧ s = zSch ∧ e ≠ 0 ∨ parseT l = some s ∧ e = 0) → k (.tuple #[.agg #[.string s.name, .slice b n c, .int .i64 s.key, .bool s.only], .int .i64 e]) h') :
    Ct 110 [.slice b m c] h k :=
  ParseC q (fun hp h' e l he => hk h' zSch none 0 0 e l Sl.nil (.inl ⟨hp, rfl, he⟩)) (fun s h' b n c hp l q => hk h' s b n c 0 l q (.inr ⟨hp, rfl⟩))
theorem TableR {h : Heap} {x r p : Nat} {d : DB} {L : Value × Value × Value × Value} {st : St} {bad : Bool} (qx : StO h x d L) (qr : RrO h r p bad) (qp : RdS h p st) (sm : Small d) {k : Value → Heap → Prop}
    (hk : ∀ h', Kp [x, r, p] h h' → StO h' x (tabD d st).1 L → RrO h' r p (bad || (tabD d st).2.1) → RdS h' p (tabD d st).2.2 → k (.tuple #[]) h') :
    Ct 133 [.pointer (some ⟨x, 0, none⟩), .pointer (some ⟨r, 0, none⟩)] h k := by
  obtain ⟨A, hA⟩ := Ar.ex
  obtain ⟨dr, gr, hdr⟩ := qr.out
  have hT : tabD d st = match parseT (textT st).1 with
    | none => ((createD d zSch).1, true, (textT st).2)
    | some x => ((createD d x).1, decide ((createD d x).2 ≠ 0), (textT st).2) := rfl
  have hsz : (strOf (textT st).1).size ≤ 2 ^ 40 := by rw [sizeB]; have := textT_len st; omega
  have f00 : A .icm .eql 0 0 = true := by rw [icm_eql A]; rfl
  refine fn_of_sx A (tabOk T133.plan T133.pub) Tryz.func133 rfl (by kernel_rfl) ?_
  cbv
  rw [offm A]
  refine ldb gr rfl rfl ?_
  cbv
  refine TextZ qp (fun h1 nx hnx k1 q1 => ?_)
  have x1 : Kp [x, r, p] h h1 := k1.up (by simp)
  have qx1 := qx.lt (qp.lt k1 (by decide))
  have qr1 := qr.lt (qp.lt k1 (by decide))
  rw [← hnx] at hsz
  have hbs : bsOf nx = (textT st).1 := by rw [hnx, strOf_bs]
  rw [← hbs] at hT
  generalize textT st = R1 at *
  obtain ⟨tx, s1⟩ := R1
  have q1 : RdS h1 p s1 := q1
  clear hnx hbs
  cbv
  refine sem_s2b hsz (fun n2 c2 m2 h2 hm2 hn2 l2 q2 => ?_)
  cbv
  refine ParseZ q2 (fun h3 s sb sn sc e l3 q3 hps => ?_)
  have hT : tabD d st = ((createD d s).1, (!decide (e = 0)) || decide ((createD d s).2 ≠ 0), s1) := by
    rcases hps with ⟨hp, rfl, he⟩ | ⟨hp, he⟩
    · rw [hp] at hT
      rw [decide_eq_false he]
      exact hT
    · rw [hp] at hT
      rw [decide_eq_true he]
      exact hT
  clear hps
  have qx3 := qx1.le (l2.trans l3)
  have qr3 := qr1.le (l2.trans l3)
  have q13 := q1.le (l2.trans l3)
  have x3 := x1.trans ((l2.trans l3).kp _)
  have ge : A .icm .eql e 0 = decide (e = 0) := icm_eql A ..
  generalize decide (e = 0) = t1 at *
  obtain ⟨nm, cols, key, only⟩ := s
  cbv
  rw [ge]
  refine mustC qr3 t1 (fun h4 k4 qr4 => ?_)
  have x4 := x3.trans (k4.up (by simp))
  have qx4 := qx3.lt (qr3.lk k4 (by decide))
  have q14 := q13.mt (qr3.lk k4 (by decide))
  have q4 := q3.mono (qr3.lk k4 (by decide))
  obtain ⟨b1, n1, c1, b2, n2', c2', b3, n3, c3, b4, n4, c4, gx4, qd4⟩ := qx4.out
  cbv
  rw [offm A]
  refine ldb gx4 rfl rfl ?_
  cbv
  refine create17K qd4 q4 sm (D := createD d ⟨nm, cols, key, only⟩) rfl (fun h5 b1' n1' c1' b2' n2'' c2'' b3' n3' c3' b4' n4' c4' l5 qd5 => ?_)
  generalize createD d ⟨nm, cols, key, only⟩ = C at *
  obtain ⟨D1, ce⟩ := C
  have hT : tabD d st = (D1, !t1 || decide (ce ≠ 0), s1) := hT
  have fe : A .icm .eql ce 0 = decide (ce = 0) := icm_eql A ..
  have hbb : ((bad || !t1) || !decide (ce = 0)) = (bad || (!t1 || decide (ce ≠ 0))) := by simp [Bool.or_assoc]
  rw [hT] at hk
  clear hT
  have qr5 := qr4.le l5
  have x5 := x4.trans (l5.kp _)
  have gx5 := l5 _ _ gx4
  have qd5 : RDB h5 (.agg #[.slice b1' n1' c1', .slice b2' n2'' c2'', .slice b3' n3' c3', .slice b4' n4' c4']) D1 := qd5
  cbv
  rw [fe]
  refine mustC qr5 (decide (ce = 0)) (fun h6 k6 qr6 => ?_)
  rw [hbb] at qr6
  have x6 := x5.trans (k6.up (by simp))
  have t6 := qr5.lk k6 (tys := 182 :: 361 :: 5 :: dbTys) (by decide)
  have gx6 := t6 _ _ _ _ (by decide) gx5
  have q16 := (q14.le l5).mt (t6.sub (by decide))
  have qd6 := qd5.ls (t6.sub (by decide))
  have fin : ∀ h', h' = hset h6 x (.cells (List.toArray [.slice b1' n1' c1', .slice b2' n2'' c2'', .slice b3' n3' c3', .slice b4' n4' c4', L.1, L.2.1, L.2.2.1, L.2.2.2]) 182 (0, 0)) → k (.tuple #[]) h' := fun h' hh => by
    have x7 : LeX [182] h6 h' := by rw [hh]; exact set_x gx6 (by decide)
    exact hk h' (x6.trans (by rw [hh]; exact Kp.set (by simp))) ⟨_, _, _, _, _, _, _, _, _, _, _, _, by rw [hh]; exact hset_self, qd6.ls (x7.t (by decide))⟩ (qr6.lt (x7.t (by decide))) (q16.mt (x7.t (by decide)))
  clear hk hbb
  cbv
  rw [offm A]
  refine stb gx6 (by simp) (fun h' hh => ?_)
  have := fin h' hh
  cbv
  exact this
def dropT (d : DB) (s : St) : DB × Bool × St := ((dropD d (strOf (textT s).1)).1, decide ((dropD d (strOf (textT s).1)).2 ≠ 0), (textT s).2)
theorem DropR {h : Heap} {x r p : Nat} {d : DB} {L : Value × Value × Value × Value} {st : St} {bad : Bool} (qx : StO h x d L) (qr : RrO h r p bad) (qp : RdS h p st) {k : Value → Heap → Prop}
    (hk : ∀ h', Kp [x, r, p] h h' → StO h' x (dropT d st).1 L → RrO h' r p (bad || (dropT d st).2.1) → RdS h' p (dropT d st).2.2 → k (.tuple #[]) h') :
    Ct 134 [.pointer (some ⟨x, 0, none⟩), .pointer (some ⟨r, 0, none⟩)] h k := by
  obtain ⟨A, hA⟩ := Ar.ex
  obtain ⟨dr, gr, hdr⟩ := qr.out
  obtain ⟨b1, n1, c1, b2, n2', c2', b3, n3, c3, b4, n4, c4, gx0, qd0⟩ := qx.out
  have hT : dropT d st = ((dropD d (strOf (textT st).1)).1, decide ((dropD d (strOf (textT st).1)).2 ≠ 0), (textT st).2) := rfl
  refine fn_of_sx A (tabOk T134.plan T134.pub) Tryz.func134 rfl (by kernel_rfl) ?_
  cbv
  rw [offm A]
  refine ldb gx0 rfl rfl ?_
  cbv
  rw [offm A]
  refine ldb gr rfl rfl ?_
  cbv
  refine TextZ qp (fun h4 nx hnx k4 q4 => ?_)
  have x4 : Kp [x, r, p] h h4 := k4.up (by simp)
  have t4 := qp.lt k4 (tys := 182 :: 299 :: dbTys) (by decide)
  have gx4 := t4 _ _ _ _ (by decide) gx0
  have qd4 := qd0.ls (t4.sub (by decide))
  have qr4 := qr.lt (t4.sub (by decide))
  rw [← hnx] at hT
  generalize textT st = R1 at *
  obtain ⟨tx, s1⟩ := R1
  have q4 : RdS h4 p s1 := q4
  clear hnx
  cbv
  refine ldb gx4 rfl rfl ?_
  cbv
  refine ⟨⟨_, rfl, rfl⟩, ?_⟩
  cbv
  refine drop30K qd4 nx (D := dropD d nx) rfl (fun h5 b1' n1' c1' b2' n2'' c2'' b3' n3' c3' b4' n4' c4' l5 qd5 => ?_)
  generalize dropD d nx = C at *
  obtain ⟨D1, ce⟩ := C
  have hT : dropT d st = (D1, decide (ce ≠ 0), s1) := hT
  have fe : A .icm .eql ce 0 = decide (ce = 0) := icm_eql A ..
  have hbb : (bad || !decide (ce = 0)) = (bad || decide (ce ≠ 0)) := by simp
  rw [hT] at hk
  clear hT
  have qr5 := qr4.le l5
  have x5 := x4.trans (l5.kp _)
  have gx5 := l5 _ _ gx4
  have qd5 : RDB h5 (.agg #[.slice b1' n1' c1', .slice b2' n2'' c2'', .slice b3' n3' c3', .slice b4' n4' c4']) D1 := qd5
  cbv
  rw [fe]
  refine mustC qr5 (decide (ce = 0)) (fun h6 k6 qr6 => ?_)
  rw [hbb] at qr6
  have x6 := x5.trans (k6.up (by simp))
  have t6 := qr5.lk k6 (tys := 182 :: 361 :: 5 :: dbTys) (by decide)
  have gx6 := t6 _ _ _ _ (by decide) gx5
  have q16 := (q4.le l5).mt (t6.sub (by decide))
  have qd6 := qd5.ls (t6.sub (by decide))
  have fin : ∀ h', h' = hset h6 x (.cells (List.toArray [.slice b1' n1' c1', .slice b2' n2'' c2'', .slice b3' n3' c3', .slice b4' n4' c4', L.1, L.2.1, L.2.2.1, L.2.2.2]) 182 (0, 0)) → k (.tuple #[]) h' := fun h' hh => by
    have x7 : LeX [182] h6 h' := by rw [hh]; exact set_x gx6 (by decide)
    exact hk h' (x6.trans (by rw [hh]; exact Kp.set (by simp))) ⟨_, _, _, _, _, _, _, _, _, _, _, _, by rw [hh]; exact hset_self, qd6.ls (x7.t (by decide))⟩ (qr6.lt (x7.t (by decide))) (q16.mt (x7.t (by decide)))
  clear hk hbb
  cbv
  rw [offm A]
  refine stb gx6 (by simp) (fun h' hh => ?_)
  have := fin h' hh
  cbv
  exact this
end Go.S

set_option maxRecDepth 100000
set_option maxHeartbeats 8000000
namespace Go.S
open Go.Sx Go.Proofs
/-- A record of a table, done. -/
def recD (d : DB) (l : Bs) : DB × Bool :=
  if (numT 1 (some l)).1 = 1 then ((tabD d (numT 1 (some l)).2).1, !(tabD d (numT 1 (some l)).2).2.1 && decide ((tabD d (numT 1 (some l)).2).2.2 = some []))
  else ((dropT d (numT 1 (some l)).2).1, !(dropT d (numT 1 (some l)).2).2.1 && decide ((dropT d (numT 1 (some l)).2).2.2 = some []))
theorem DoR {e1 : Nat} {h : Heap} {x : Nat} {d : DB} {L : Value × Value × Value × Value} (qx : StO h x d L) {b : Option Addr} {m c : Nat} {l : Bs} (q : Sl e1 shB h (.slice b m c) l) (sm : Small d) (h12 : (numT 1 (some l)).1 = 1 ∨ (numT 1 (some l)).1 = 2) {k : Value → Heap → Prop}
    (hk : ∀ h', Kp [x] h h' → StO h' x (recD d l).1 L → k (.bool (recD d l).2) h') :
    Ct 56 [.pointer (some ⟨x, 0, none⟩), .slice b m c] h k := by
  obtain ⟨A, hA⟩ := Ar.ex
  have hR : recD d l = if (numT 1 (some l)).1 = 1 then ((tabD d (numT 1 (some l)).2).1, !(tabD d (numT 1 (some l)).2).2.1 && decide ((tabD d (numT 1 (some l)).2).2.2 = some []))
    else ((dropT d (numT 1 (some l)).2).1, !(dropT d (numT 1 (some l)).2).2.1 && decide ((dropT d (numT 1 (some l)).2).2.2 = some [])) := rfl
  obtain ⟨_, _, _, _, _, _, _, _, _, _, _, _, gx, -⟩ := qx.out
  have f11 : A .icm .eql 1 1 = true := by rw [icm_eql A]; rfl
  have f21 : A .icm .eql 2 1 = false := by rw [icm_eql A]; rfl
  have f22 : A .icm .eql 2 2 = true := by rw [icm_eql A]; rfl
  refine fn_of_sx A (tabOk T56.plan T56.pub) Tryz.func56 rfl (by kernel_rfl) ?_
  cbv
  refine NewS q (fun h1 p hp l1 q1 => ?_)
  cbv
  intro r h2 hr e2
  have l2 : Le h1 h2 := by rw [e2]; exact Le.set hr
  have gr : h2 r = some (.cells (List.toArray [.pointer (some ⟨p, 0, none⟩), .int .u32 0, .int .i32 0, .int .u32 0, .bool false]) 299 (0, 0)) := (congrFun e2 r).trans hset_self
  have qr2 : RrO h2 r p false := ⟨0, gr, .inl ⟨rfl, rfl⟩⟩
  have q2 := q1.le l2
  have l12 := l1.trans l2
  have hr0 := l1.none hr
  clear e2
  cbv
  rw [offm A]
  refine ldb gr rfl rfl ?_
  cbv
  refine ByteZ q2 (fun h3 kx hkx k3 q3 => ?_)
  have l3 : Le h h3 := l12.kpNew (bs := [p]) (by simpa using hp) k3
  have qr3 := qr2.lt (q2.lt k3 (by decide))
  have qx3 := qx.le l3
  generalize numT 1 (some l) = R1 at *
  obtain ⟨nk, s1⟩ := R1
  have q3 : RdS h3 p s1 := q3
  have hfin : ∀ h', Kp [x, r, p] h3 h' → Kp [x] h h' := fun h' k' => by
    intro b0 o hb hn
    refine k' b0 o (l3 _ _ hb) (fun hm => ?_)
    simp only [List.mem_cons, List.not_mem_nil, or_false] at hm hn
    rcases hm with rfl | rfl | rfl
    · exact hn rfl
    · rw [hr0] at hb; cases hb
    · rw [hp] at hb; cases hb
  rcases h12 with h12 | h12
  · have h12 : nk = 1 := h12
    subst h12
    have hkx : kx = 1 := hkx
    subst hkx
    have hR : recD d l = ((tabD d s1).1, !(tabD d s1).2.1 && decide ((tabD d s1).2.2 = some [])) := hR
    rw [hR] at hk
    clear hR
    cbv
    rw [f11]
    cbv
    refine TableR qx3 qr3 q3 sm (fun h4 k4 qx4 qr4 q4 => ?_)
    have kk := hfin h4 k4
    generalize tabD d s1 = C at *
    obtain ⟨D1, bd, s4⟩ := C
    have q4 : RdS h4 p s4 := q4
    have qr4 : RrO h4 r p bd := by simpa using qr4
    have qx4 : StO h4 x D1 L := qx4
    obtain ⟨d4, gr4, -⟩ := qr4.out
    cbv
    rw [offm A]
    refine ldb gr4 rfl rfl ?_
    cbv
    rw [hA.not]
    cases bd with
    | true =>
      have := hk h4 kk qx4
      cbv
      exact this
    | false =>
      cbv
      rw [offm A]
      refine ldb gr4 rfl rfl ?_
      cbv
      refine EndS q4 (fun e he => ?_)
      have ge : A .icm .eql e 0 = decide (s4 = some []) := by rw [icm_eql A]; exact decide_eq_decide.2 he
      have hk : k (.bool (decide (s4 = some []))) h4 := hk h4 kk qx4
      cbv
      rw [ge]
      generalize decide (s4 = some []) = t at *
      cbv
      exact hk
  · have h12 : nk = 2 := h12
    subst h12
    have hkx : kx = 2 := hkx
    subst hkx
    have hR : recD d l = ((dropT d s1).1, !(dropT d s1).2.1 && decide ((dropT d s1).2.2 = some [])) := hR
    rw [hR] at hk
    clear hR
    cbv
    rw [f21]
    cbv
    rw [f22]
    cbv
    refine DropR qx3 qr3 q3 (fun h4 k4 qx4 qr4 q4 => ?_)
    have kk := hfin h4 k4
    generalize dropT d s1 = C at *
    obtain ⟨D1, bd, s4⟩ := C
    have q4 : RdS h4 p s4 := q4
    have qr4 : RrO h4 r p bd := by simpa using qr4
    have qx4 : StO h4 x D1 L := qx4
    obtain ⟨d4, gr4, -⟩ := qr4.out
    cbv
    rw [offm A]
    refine ldb gr4 rfl rfl ?_
    cbv
    rw [hA.not]
    cases bd with
    | true =>
      have := hk h4 kk qx4
      cbv
      exact this
    | false =>
      cbv
      rw [offm A]
      refine ldb gr4 rfl rfl ?_
      cbv
      refine EndS q4 (fun e he => ?_)
      have ge : A .icm .eql e 0 = decide (s4 = some []) := by rw [icm_eql A]; exact decide_eq_decide.2 he
      have hk : k (.bool (decide (s4 = some []))) h4 := hk h4 kk qx4
      cbv
      rw [ge]
      generalize decide (s4 = some []) = t at *
      cbv
      exact hk
end Go.S

set_option maxRecDepth 100000
set_option maxHeartbeats 8000000
namespace Go.S
open Go.Sx Go.Proofs
def dz : DB := ⟨[], [], [], []⟩
abbrev L0 : Value × Value × Value × Value := (.int .i64 0, .slice none 0 0, .slice none 0 0, .slice none 0 0)
def playD : DB → List Bs → Option DB
  | d, [] => some d
  | d, l :: r => if (recD d l).2 then playD (recD d l).1 r else none
theorem playD_app (l : Bs) : ∀ (r : List Bs) (d : DB), playD d (r ++ [l]) = (playD d r).bind fun d' => if (recD d' l).2 then some (recD d' l).1 else none := fun r => by
  induction r with
  | nil => intro d; simp only [List.nil_append, playD, Option.bind_some]
  | cons y r ih =>
    intro d
    simp only [List.cons_append, playD]
    split
    · exact ih _
    · rfl
theorem playD_none : ∀ (i : Nat) (r : List Bs) (d : DB), playD d (r.take i) = none → playD d r = none := fun i => by
  induction i with
  | zero => intro r d h; rw [List.take_zero] at h; cases h
  | succ i ih =>
    intro r d h
    cases r with
    | nil => cases h
    | cons y r =>
      simp only [List.take_succ_cons, playD] at h ⊢
      split
      · rename_i hc
        rw [if_pos hc] at h
        exact ih _ _ h
      · rfl
structure SrO (h : Heap) (s g x : Nat) : Prop where
  out : h s = some (.cells (List.toArray [.pointer (some ⟨g, 0, none⟩), .pointer (some ⟨x, 0, none⟩)]) 189 (0, 0))
theorem OpenS {h : Heap} {p : Nat} {D : Dk} (q : DkO h p D) (hP : 1 ≤ D.now.length) (hrec : ∀ l ∈ (lookP D).1.recs, (numT 1 (some l)).1 = 1 ∨ (numT 1 (some l)).1 = 2)
    (hS : ∀ i di, playD dz ((lookP D).1.recs.take i) = some di → Small di) {k : Value → Heap → Prop}
    (hk0 : ((lookP D).2 ≠ 0 ∨ (lookP D).1.bad = true ∨ playD dz (lookP D).1.recs = none) → ∀ h' (e : Int), LeX lzT h h' → e ≠ 0 → k (.tuple #[.pointer none, .int .i64 e]) h')
    (hk1 : ∀ h' s g x d, (lookP D).2 = 0 → (lookP D).1.bad = false → playD dz (lookP D).1.recs = some d → LeX lzT h h' → SrO h' s g x → LgO h' g p (lookP D).1.size (lookP D).1.count → StO h' x d L0 → k (.tuple #[.pointer (some ⟨s, 0, none⟩), .int .i64 0]) h') :
    Ct 19 [.pointer (some ⟨p, 0, none⟩)] h k := by
  obtain ⟨A, hA⟩ := Ar.ex
  have f00 : A .icm .neq 0 0 = false := by rw [icm_neq A]; rfl
  refine fn_of_sx A (tabOk T19.plan T19.pub) Tryz.func19 rfl (by kernel_rfl) ?_
  cbv
  refine OpenL q hP (fun h1 e x1 he hb => ?_) (fun h1 g b m c h0 hbad x1 ql q1 => ?_)
  · have hne : e ≠ 0 := by
      rw [he]
      split
      · assumption
      · decide
    have := hk0 (by rcases hb with hb | hb; exact .inl hb; exact .inr (.inl hb)) h1 e x1 hne
    have fe : A .icm .neq e 0 = true := by rw [icm_neq A]; exact decide_eq_true hne
    clear hk0 hk1 he hb
    cbv
    rw [fe]
    cbv
    exact this
  · generalize (lookP D).1.recs = recs at *
    generalize (lookP D).1.size = sz at *
    generalize (lookP D).1.count = cn at *
    have hlen := q1.len
    obtain ⟨hbd1, hbd2⟩ := q1.bound
    cbv
    rw [f00]
    cbv
    intro x h2 hx e2
    have l2 : Le h1 h2 := by rw [e2]; exact Le.set hx
    have g2 : h2 x = some (.cells (List.toArray [.slice none 0 0, .slice none 0 0, .slice none 0 0, .slice none 0 0, .int .i64 0, .slice none 0 0, .slice none 0 0, .slice none 0 0]) 182 (0, 0)) := (congrFun e2 x).trans hset_self
    have qx : StO h2 x dz L0 := ⟨_, _, _, _, _, _, _, _, _, _, _, _, g2, ⟨_, _, _, _, _, _, _, _, _, _, _, _, [], rfl, Sl.nil, Sl.nil, Sl.nil, Sl.nil, rfl⟩⟩
    clear e2
    obtain ⟨J, hJ0⟩ : ∃ J : Nat → Int → Heap → Prop, ∀ w z h', J w z h' = (∃ i di, IsN z i ∧ w = m - i ∧ i ≤ m ∧ Kp [x] h2 h' ∧ StO h' x di L0 ∧ playD dz (recs.take i) = some di) := ⟨_, fun _ _ _ => rfl⟩
    have hJ1 : J m 0 h2 := by rw [hJ0]; exact ⟨0, dz, ⟨rfl⟩, rfl, by omega, Kp.refl _ _, qx, rfl⟩
    cbv
    refine LoopX.go (G := Int) (fun z => [(27, .v (.int .i64 z))]) (fun _ => []) (fun w z h' => J w z h') m 0 ⟨?_, ?_, ?_⟩ hJ1 ?_
    · cbv
    · cbv
    · cbv
    · intro w z h3 hI
      rw [hJ0] at hI
      cbv
      obtain ⟨i, di, hz, hw, hi, k3, q3, hp⟩ := hI
      have x3 : LeX lzT h h3 := x1.trans ((l2.kpNew (bs := [x]) (by simpa using hx) k3).x _)
      have fl : A .icm .lss z (A .nat m) = decide (i < m) := by rw [icm_lss A, hz.eq, hA.nat]; exact decide_eq_decide.2 (by show (i : Int) < (m : Int) ↔ _; omega)
      rw [fl]
      by_cases hc : i < m
      · obtain ⟨l, hl⟩ := get_ex (xs := recs) (i := i) (by omega)
        have hl12 := hrec l (List.mem_of_getElem? hl)
        have sm := hS i di hp
        have ix := hz.ix hc
        have q13 := q1.mono ((l2.t _).trans (kp_lt k3 g2 (by decide)))
        have hpp : playD dz (recs.take (i + 1)) = if (recD di l).2 then some (recD di l).1 else none := by
          rw [List.take_add_one, hl]
          show playD dz (recs.take i ++ [l]) = _
          rw [playD_app, hp]; rfl
        have hlt : m - (i + 1) < w := by omega
        have hzn := hz.succ (A := A) (by omega)
        rw [decide_eq_true hc]
        clear fl hJ1
        cbv
        refine ⟨⟨q1.isSm (by omega), ix⟩, ?_⟩
        cbv
        refine q13.load hl hz.eq (fun cs hcs => ?_)
        obtain ⟨v, rfl, qv⟩ := hcs
        obtain ⟨vb, vm, vc, rfl⟩ : ∃ vb vm vc, v = .slice vb vm vc := by
          obtain ⟨b', cap, e1, -⟩ := qv.out
          exact ⟨_, _, _, e1⟩
        cbv
        refine DoR q3 qv sm hl12 (fun h4 k4 q4 => ?_)
        have k34 := k3.trans k4
        have hJ2 : (recD di l).2 = true → J (m - (i + 1)) (A .ari .add .i64 z 1) h4 := fun ht => by
          rw [hJ0]; exact ⟨i + 1, _, hzn, rfl, by omega, k34, q4, by rw [hpp, if_pos ht]⟩
        have hNo : (recD di l).2 = false → k (.tuple #[.pointer none, .int .i64 10]) h4 := fun ht =>
          hk0 (.inr (.inr (playD_none (i + 1) _ _ (by rw [hpp, ht]; rfl)))) h4 10 (x1.trans ((l2.kpNew (bs := [x]) (by simpa using hx) k34).x _)) (by decide)
        clear hJ0 hk0 hk1 hpp hS hrec q4
        generalize (recD di l).2 = t at *
        cbv
        rw [hA.not]
        cases t with
        | true =>
          have := hJ2 rfl
          clear hJ2 hNo
          cbv
          refine ⟨m - (i + 1), A .ari .add .i64 z 1, hlt, ⟨?_, ?_, ?_⟩, this⟩
          · cbv
          · cbv
          · cbv
        | false =>
          have := hNo rfl
          clear hJ2 hNo
          cbv
          exact this
      · have him : i = m := by omega
        have hrl : recs.take i = recs := List.take_of_length_le (by omega)
        rw [hrl] at hp
        rw [decide_eq_false hc]
        have hgx : ∃ cx, cx.length = 8 ∧ h3 x = some (.cells (List.toArray cx) 182 (0, 0)) := by
          obtain ⟨_, _, _, _, _, _, _, _, _, _, _, _, gx, -⟩ := q3.out
          exact ⟨_, rfl, gx⟩
        obtain ⟨cx, hcx, gx⟩ := hgx
        clear fl hJ0 hJ1 hk0
        cbv
        intro s h4 hs e4
        have l4 : Le h3 h4 := by rw [e4]; exact Le.set hs
        have g4 : h4 s = some (.cells (List.toArray [.pointer (some ⟨g, 0, none⟩), .pointer none]) 189 (0, 0)) := (congrFun e4 s).trans hset_self
        have hq : ∀ h', h' = hset h4 s (.cells (List.toArray [.pointer (some ⟨g, 0, none⟩), .pointer (some ⟨x, 0, none⟩)]) 189 (0, 0)) → k (.tuple #[.pointer (some ⟨s, 0, none⟩), .int .i64 0]) h' := fun h' hh => by
          have l3' : Le h3 h' := by rw [hh, e4, hset_twice]; exact Le.set hs
          exact hk1 h' s g x di h0 hbad hp (x3.trans (l3'.x _)) ⟨by rw [hh]; exact hset_self⟩ ((ql.lt ((l2.t _).trans (kp_lt k3 g2 (by decide)))).lt (l3'.t _)) (q3.le l3')
        have gx4 := l4 _ _ gx
        clear e4 hk1
        cbv
        rw [offm A]
        refine PStore g4 rfl (cel_exp (x := cx[0]) gx4 (List.getElem?_eq_getElem _)) (fun h' hh => ?_)
        have := hq h' hh
        cbv
        exact this
end Go.S

set_option maxRecDepth 100000
set_option maxHeartbeats 8000000
namespace Go.S
open Go.Sx Go.Proofs
theorem appD1 {h : Heap} {ec sc tb s g x : Nat} {e : Int} {ct : List Value} (ge : h ec = some (.cells #[.int .i64 e] 26 (0, 0))) (gs : h sc = some (.cells #[.pointer (some ⟨s, 0, none⟩)] 47 (0, 0))) (qs : SrO h s g x)
    (gt : h tb = some (.cells (List.toArray ct) 182 (0, 0))) (hct : ct.length = 8) {k : Value → Heap → Prop} (hk0 : e ≠ 0 → k (.tuple #[]) h)
    (hk1 : e = 0 → ∀ h', h' = hset h s (.cells (List.toArray [.pointer (some ⟨g, 0, none⟩), .pointer (some ⟨tb, 0, none⟩)]) 189 (0, 0)) → k (.tuple #[]) h') :
    CtD 144 [.pointer (some ⟨ec, 0, none⟩), .pointer (some ⟨sc, 0, none⟩), .pointer (some ⟨tb, 0, none⟩)] h k := by
  obtain ⟨A, hA⟩ := Ar.ex
  have fe : A .icm .eql e 0 = decide (e = 0) := icm_eql A ..
  refine fnd_of_sx A (tabOk T144.plan T144.pub) Tryz.func144 rfl (by kernel_rfl) ?_
  cbv
  refine ldb ge rfl rfl ?_
  cbv
  rw [fe]
  by_cases hc : e = 0
  · have := hk1 hc
    rw [decide_eq_true hc]
    clear hk0 hk1 fe
    cbv
    refine ldb gs rfl rfl ?_
    cbv
    rw [offm A]
    refine PStore qs.out rfl (cel_exp (x := ct[0]) gt (List.getElem?_eq_getElem _)) (fun h' hh => ?_)
    have := this h' hh
    cbv
    exact this
  · have := hk0 hc
    rw [decide_eq_false hc]
    clear hk0 hk1 fe
    cbv
    exact this
/-- A store whole: its log, its disk, what the log says. -/
structure WhO (h : Heap) (s p : Nat) (G : Lg) (d : DB) (L : Value × Value × Value × Value) : Prop where
  out : ∃ g x, SrO h s g x ∧ LgO h g p (G.s : Int) (G.n : Int) ∧ DkO h p G.D ∧ StO h x d L
abbrev whT : List Nat := 189 :: lgT
theorem appS {h : Heap} {s p : Nat} {G : Lg} {d d' : DB} {L : Value × Value × Value × Value} (q : WhO h s p G d L) {b : Option Addr} {m c : Nat} {l : Bs} (qb : Sl 5 shB h (.slice b m c) l) (hs : G.s ≤ 2 ^ 29) (hn : G.n ≤ 2 ^ 29) (hm : m ≤ 2 ^ 28) (hw : G.D.ws.length ≤ 2 ^ 28)
    {b1 b2 b3 b4 : Option Addr} {n1 c1 n2 c2 n3 c3 n4 c4 : Nat} (qd : RDB h (.agg #[.slice b1 n1 c1, .slice b2 n2 c2, .slice b3 n3 c3, .slice b4 n4 c4]) d') {k : Value → Heap → Prop}
    (hk : ∀ h', LeX whT h h' → WhO h' s p (appendD G l).2 (if (appendD G l).1 = 0 then d' else d) L → k (.int .i64 (appendD G l).1) h') :
    Ct 60 [.pointer (some ⟨s, 0, none⟩), .slice b m c, .agg #[.slice b1 n1 c1, .slice b2 n2 c2, .slice b3 n3 c3, .slice b4 n4 c4, L.1, L.2.1, L.2.2.1, L.2.2.2]] h k := by
  obtain ⟨A, hA⟩ := Ar.ex
  obtain ⟨g, x, qs, ql, qk, qx⟩ := q.out
  obtain ⟨v5, v6, v7, v8⟩ := L
  refine fn_of_sxD A (tabOk T60.plan T60.pub) Tryz.func60 rfl (by kernel_rfl) ?_
  cbv
  intro sc h1 hsc e1
  have l1 : Le h h1 := by rw [e1]; exact Le.set hsc
  have g1 : h1 sc = some (.cells (List.toArray [.pointer (some ⟨s, 0, none⟩)]) 47 (0, 0)) := (congrFun e1 sc).trans hset_self
  cbv
  intro tb h2 htb e2
  have l2 : Le h1 h2 := by rw [e2]; exact Le.set htb
  have g2 : h2 tb = some (.cells (List.toArray [.slice b1 n1 c1, .slice b2 n2 c2, .slice b3 n3 c3, .slice b4 n4 c4, v5, v6, v7, v8]) 182 (0, 0)) := (congrFun e2 tb).trans hset_self
  cbv
  intro ec h3 hec e3
  have l3 : Le h2 h3 := by rw [e3]; exact Le.set hec
  have g3 : h3 ec = some (.cells (List.toArray [.int .i64 0]) 26 (0, 0)) := (congrFun e3 ec).trans hset_self
  have l13 := (l1.trans l2).trans l3
  clear e1 e2 e3
  have g13 := l3 _ _ (l2 _ _ g1)
  have g23 := l3 _ _ g2
  have gs3 := l13 _ _ qs.out
  have qk3 := qk.le l13
  have ql3 := ql.lt (l13.t _)
  have qx3 := qx.le l13
  cbv
  refine ldb g13 rfl rfl ?_
  cbv
  rw [offm A]
  refine ldb gs3 rfl rfl ?_
  cbv
  refine AppendC qk3 ql3 (qb.mono (l13.t _)) hs hn hm hw (fun h4 x4 qk4 ql4 => ?_)
  generalize appendD G l = R at *
  obtain ⟨e, G2⟩ := R
  have qk4 : DkO h4 p G2.D := qk4
  have ql4 : LgO h4 g p (G2.s : Int) (G2.n : Int) := ql4
  have hk : ∀ h', LeX whT h h' → WhO h' s p G2 (if e = 0 then d' else d) (v5, v6, v7, v8) → k (.int .i64 e) h' := hk
  have ne : ∀ {bl : Nat} {cs : Array Value} {t : Nat} {fr : Nat × Nat}, h3 bl = some (.cells cs t fr) → t ∉ lgT → h4 bl = some (.cells cs t fr) := fun hb ht => x4 _ _ hb (fun _ _ _ he => by cases he; exact ht)
  have g4 := ne g3 (by decide)
  have g14 := ne g13 (by decide)
  have g24 := ne g23 (by decide)
  have gs4 := ne gs3 (by decide)
  have qx4 := qx3.lt (x4.t (by decide))
  have x04 : LeX whT h h4 := (l13.x _).trans (x4.sup (by decide))
  have ne1 : sc ≠ ec := fun e => by rw [e, g4] at g14; cases g14
  have ne2 : tb ≠ ec := fun e => by rw [e, g4] at g24; cases g24
  have ne3 : s ≠ ec := fun e => by rw [e, g4] at gs4; cases gs4
  have hec4 : h ec = none := (l1.trans l2).none hec
  have t4 := (qd.mono (l13)).ls (x4.t (by decide))
  have fin : ∀ h5, h5 = hset h4 ec (.cells (List.toArray [.int .i64 e]) 26 (0, 0)) → LeX whT h h5 ∧ DkO h5 p G2.D ∧ LgO h5 g p (G2.s : Int) (G2.n : Int) ∧ StO h5 x d (v5, v6, v7, v8) ∧ RDB h5 (.agg #[.slice b1 n1 c1, .slice b2 n2 c2, .slice b3 n3 c3, .slice b4 n4 c4]) d' ∧
      h5 ec = some (.cells #[.int .i64 e] 26 (0, 0)) ∧ h5 sc = some (.cells #[.pointer (some ⟨s, 0, none⟩)] 47 (0, 0)) ∧ h5 tb = some (.cells (List.toArray [.slice b1 n1 c1, .slice b2 n2 c2, .slice b3 n3 c3, .slice b4 n4 c4, v5, v6, v7, v8]) 182 (0, 0)) ∧ SrO h5 s g x := fun h5 hh => by
    have x5 : LeX [26] h4 h5 := by rw [hh]; exact set_x g4 (by decide)
    refine ⟨?_, qk4.lt (x5.t (by decide)), ql4.lt (x5.t (by decide)), qx4.lt (x5.t (by decide)), t4.ls (x5.t (by decide)), by rw [hh]; exact hset_self, by rw [hh, hset_ne ne1]; exact g14, by rw [hh, hset_ne ne2]; exact g24, ⟨by rw [hh, hset_ne ne3]; exact gs4⟩⟩
    intro b0 o hb hne
    rw [hh, hset_ne (fun e => by rw [e, hec4] at hb; cases hb)]
    exact x04 b0 o hb hne
  clear qk3 ql3 qx3 qk4 ql4 qx4 g3 g13 g23 gs3 t4 x4
  cbv
  refine stb g4 (by simp) (fun h5 hh => ?_)
  obtain ⟨x5, qk5, ql5, qx5, qd5, ge5, gsc5, gt5, qs5⟩ := fin h5 hh
  clear fin hh
  cbv
  refine appD1 ge5 gsc5 qs5 gt5 rfl (fun hne => ?_) (fun h0 h6 hh => ?_)
  · have := hk h5 x5 ⟨g, x, qs5, ql5, qk5, by rw [if_neg hne]; exact qx5⟩
    cbv
    refine ldb ge5 rfl rfl ?_
    cbv
    exact this
  · have x6 : LeX [189] h5 h6 := by rw [hh]; exact set_x qs5.out (by decide)
    have ge6 : h6 ec = some (.cells #[.int .i64 e] 26 (0, 0)) := by rw [hh, hset_ne (Ne.symm ne3)]; exact ge5
    have ht6 : tb ≠ s := fun e => by rw [e, qs5.out] at gt5; cases gt5
    have gt6 : h6 tb = some (.cells (List.toArray [.slice b1 n1 c1, .slice b2 n2 c2, .slice b3 n3 c3, .slice b4 n4 c4, v5, v6, v7, v8]) 182 (0, 0)) := by rw [hh, hset_ne ht6]; exact gt5
    have := hk h6 (x5.trans (x6.sup (by decide))) ⟨g, tb, ⟨by rw [hh]; exact hset_self⟩, ql5.lt (x6.t (by decide)), qk5.lt (x6.t (by decide)), by rw [if_pos h0]; exact ⟨_, _, _, _, _, _, _, _, _, _, _, _, gt6, qd5.ls (x6.t (by decide))⟩⟩
    cbv
    refine ldb ge6 rfl rfl ?_
    cbv
    exact this
end Go.S

