import Derived.Test.YtnfijhlegoagjaaGreatDB
import Derived.Test.YtnfijhlegoagjaaGreatRd
set_option linter.unusedVariables false
set_option linter.unusedSimpArgs false
set_option linter.unusedSectionVars false
set_option maxRecDepth 100000
set_option linter.unusedVariables false
set_option linter.unusedSimpArgs false
namespace Go.S
open Go.Sx Go.Proofs

theorem cloneB104 {xs : List Hld} {h : Heap} {b : Option Addr} {len cap : Nat} (q : Sl 188 shHld h (.slice b len cap) xs) :
    Ct 104 [.slice b len cap] h (fun v h' => Le h h' ∧ ∃ b' cap', v = .slice b' len cap' ∧ Buf 188 shHld h h' (.slice b' len cap') xs) := by
  obtain ⟨A, hA⟩ := Ar.ex
  refine fn_of_sx A (tabOk T104.plan T104.pub) Tryz.func104 rfl (by kernel_rfl) ?_
  cbv
  refine bsel_mk (fun hc => ?_) (fun hc => ?_)
  · rw [hA.isn] at hc
    cbv
    have hb : b = none := by cases b <;> simp at hc ⊢
    subst hb
    have hl : len = 0 := by
      rcases Nat.eq_zero_or_pos len with e | e
      · exact e
      · have := q.isSm e; cases this
    have := q.len
    have hx : xs = [] := List.eq_nil_of_length_eq_zero (by omega)
    subst hx hl
    exact ⟨Le.refl _, none, 0, rfl, Buf.nil⟩
  · cbv
    intro n0 h1 hn0 hh1
    have hle : Le h h1 := by rw [hh1]; exact Le.set hn0
    cbv
    refine append_new (q.mono (hle.t _)) (by simp [shHld]) rfl (by decide) (fun hn => ?_) (fun nb c h2 e1 e2 e3 e4 => ?_)
    · cbv
      have := q.len
      have hx : xs = [] := List.eq_nil_of_length_eq_zero (by omega)
      subst hx hn
      exact ⟨hle, _, _, rfl, Buf.nil⟩
    · cbv
      exact ⟨hle.trans e3, _, _, rfl, e4.buf (hle.none e1) q.len⟩

end Go.S

set_option maxRecDepth 100000
set_option linter.unusedVariables false
set_option linter.unusedSimpArgs false
namespace Go.S
open Go.Sx Go.Proofs

abbrev Hld.v (h : Hld) : Value := .agg #[.int .i64 h.s, .string h.table, .bool h.x]
def agst (a b : Hld) : Bool := decide (a.s ≠ b.s) && (decide (a.table = b.table) && (a.x || b.x))
def wout (l : List Hld) (s : Int) : List Hld := l.filter fun h => decide (h.s ≠ s)
def mineP (h o : Hld) : Bool := decide (o.s = h.s) && decide (o.table = h.table)

theorem mine183 {s1 : Int} {t1 : ByteArray} {x1 : Bool} {hd : Hld} {h : Heap} {nb : Nat} (g : h nb = some (.cells #[.int .i64 hd.s, .string hd.table, .bool hd.x] 188 (0, 0))) :
    Ct 183 [.agg #[.int .i64 s1, .string t1, .bool x1], .pointer (some ⟨nb, 0, none⟩)] h (fun v h' => Le h h' ∧ ∃ t, v = .bool t ∧ t = mineP hd ⟨s1, t1, x1⟩) := by
  obtain ⟨A, hA⟩ := Ar.ex
  have q1 : A .icm .eql s1 hd.s = decide (s1 = hd.s) := by rw [icm_eql A]
  have q2 : A .scm .eql t1 hd.table = decide (t1 = hd.table) := by rw [scm_eql A]
  refine fn_of_sx A (tabOk T183.plan T183.pub) Tryz.func183 rfl (by kernel_rfl) ?_
  cbv
  rw [offm A]
  refine ldb g rfl rfl ?_
  cbv
  rw [q1]
  cases e1 : decide (s1 = hd.s) with
  | true =>
    cbv
    rw [offm A]
    refine ldb g rfl rfl ?_
    cbv
    rw [q2]
    exact ⟨Le.refl _, _, rfl, by simp [mineP, e1]⟩
  | false =>
    cbv
    exact ⟨Le.refl _, _, rfl, by simp [mineP, e1]⟩

theorem against152 {a b : Hld} {h : Heap} :
    Ct 152 [.agg #[.int .i64 a.s, .string a.table, .bool a.x], .agg #[.int .i64 b.s, .string b.table, .bool b.x]] h (fun v h' => Le h h' ∧ ∃ t, v = .bool t ∧ t = agst a b) := by
  obtain ⟨A, hA⟩ := Ar.ex
  obtain ⟨s1, t1, x1⟩ := a
  obtain ⟨s2, t2, x2⟩ := b
  have q1 : A .icm .neq s1 s2 = decide (s1 ≠ s2) := by rw [icm_neq A]
  have q2 : A .scm .eql t1 t2 = decide (t1 = t2) := by rw [scm_eql A]
  refine fn_of_sx A (tabOk T152.plan T152.pub) Tryz.func152 rfl (by kernel_rfl) ?_
  cbv
  rw [q1]
  cases e1 : decide (s1 ≠ s2) with
  | true =>
    cbv
    rw [q2]
    cases e2 : decide (t1 = t2) with
    | true => 
      cases x1 with
      | true =>
        cbv
        exact ⟨Le.refl _, _, rfl, by simp [agst, e1, e2]⟩
      | false =>
        cbv
        exact ⟨Le.refl _, _, rfl, by simp [agst, e1, e2]⟩
    | false =>
      cbv
      exact ⟨Le.refl _, _, rfl, by simp [agst, e1, e2]⟩
  | false =>
    cbv
    exact ⟨Le.refl _, _, rfl, by simp [agst, e1]⟩

theorem idx182m {xs : List Hld} {h : Heap} {b : Option Addr} {len cap : Nat} (q : Sl 188 shHld h (.slice b len cap) xs) {nb : Nat} {hd : Hld} (g : h nb = some (.cells #[.int .i64 hd.s, .string hd.table, .bool hd.x] 188 (0, 0))) :
    Ct 182 [.slice b len cap, .func (.func 183) #[] #[.pointer (some ⟨nb, 0, none⟩)]] h (fun v h' => Le h h' ∧ ∃ z : Int, v = .int .i64 z ∧ IdxR xs (mineP hd) z) := by
  obtain ⟨A, hA⟩ := Ar.ex
  have hlen := q.len
  obtain ⟨hb1, hb2⟩ := q.bound
  generalize hp : (mineP hd) = p
  refine fn_of_sx A (tabOk T182.plan T182.pub) Tryz.func182 rfl (by kernel_rfl) ?_
  cbv
  refine LoopX.go (G := Int) (fun z => [(8, .v (.int .i64 z))]) (fun _ => []) (fun n z h' => ∃ i : Nat, IsN z i ∧ n = len - i ∧ i ≤ len ∧ Le h h' ∧ ∀ j, j < i → ∀ y, xs[j]? = some y → p y = false) len 0 ⟨?_, ?_, ?_⟩ ⟨0, ⟨rfl⟩, by omega, by omega, Le.refl _, fun j hj => (by omega)⟩ ?_
  · cbv
  · cbv
  · cbv
  · intro n z h' hI
    cbv
    obtain ⟨i, hz, hn, hi, hle, hall⟩ := hI
    refine bsel_mk (fun hc => ?_) (fun hc => ?_)
    · have hlt := hz.lt hc
      clear hc
      cbv
      obtain ⟨x, hx⟩ := get_ex (xs := xs) (i := i) (by omega)
      refine ⟨⟨q.isSm (by omega), hz.ix hlt⟩, ?_⟩
      cbv
      refine (q.mono (hle.t _)).load hx hz.eq (fun cs hcs => ?_)
      have hcs : cs = [.int .i64 x.s, .string x.table, .bool x.x] := hcs
      subst hcs
      cbv
      refine (mine183 (hle _ _ g)).mono (fun v h2 hR => ?_)
      obtain ⟨hle2, t, rfl, ht⟩ := hR
      have ht : t = p x := by rw [← hp]; exact ht
      cbv
      cases t with
      | true =>
        cbv
        exact ⟨hle.trans hle2, z, rfl, ⟨.inr ⟨i, x, hz, hx, ht.symm, hall⟩⟩⟩
      | false =>
        cbv
        refine ⟨len - (i + 1), _, by omega, ⟨?_, ?_, ?_⟩, i + 1, hz.succ (A := A) (by omega), rfl, by omega, hle.trans hle2, ?_⟩
        · cbv
        · cbv
        · cbv
        · intro j hj y hy
          rcases Nat.lt_or_ge j i with h | h
          · exact hall j h y hy
          · have : j = i := by omega
            subst this
            rw [hx] at hy; cases hy
            exact ht.symm
    · have hge := hz.ge hc
      cbv
      refine ⟨hle, -1, rfl, ⟨.inl ⟨rfl, fun x hx => ?_⟩⟩⟩
      obtain ⟨j, hj⟩ := List.getElem?_of_mem hx
      have := (List.getElem?_eq_some_iff.1 hj).1
      exact hall j (by omega) x hj

theorem idx182a {xs : List Hld} {h : Heap} {b : Option Addr} {len cap : Nat} (q : Sl 188 shHld h (.slice b len cap) xs) (hd : Hld)  :
    Ct 182 [.slice b len cap, .func (.func 152) #[.agg #[.int .i64 hd.s, .string hd.table, .bool hd.x]] #[]] h (fun v h' => Le h h' ∧ ∃ z : Int, v = .int .i64 z ∧ IdxR xs (agst hd) z) := by
  obtain ⟨A, hA⟩ := Ar.ex
  have hlen := q.len
  obtain ⟨hb1, hb2⟩ := q.bound
  generalize hp : (agst hd) = p
  refine fn_of_sx A (tabOk T182.plan T182.pub) Tryz.func182 rfl (by kernel_rfl) ?_
  cbv
  refine LoopX.go (G := Int) (fun z => [(8, .v (.int .i64 z))]) (fun _ => []) (fun n z h' => ∃ i : Nat, IsN z i ∧ n = len - i ∧ i ≤ len ∧ Le h h' ∧ ∀ j, j < i → ∀ y, xs[j]? = some y → p y = false) len 0 ⟨?_, ?_, ?_⟩ ⟨0, ⟨rfl⟩, by omega, by omega, Le.refl _, fun j hj => (by omega)⟩ ?_
  · cbv
  · cbv
  · cbv
  · intro n z h' hI
    cbv
    obtain ⟨i, hz, hn, hi, hle, hall⟩ := hI
    refine bsel_mk (fun hc => ?_) (fun hc => ?_)
    · have hlt := hz.lt hc
      clear hc
      cbv
      obtain ⟨x, hx⟩ := get_ex (xs := xs) (i := i) (by omega)
      refine ⟨⟨q.isSm (by omega), hz.ix hlt⟩, ?_⟩
      cbv
      refine (q.mono (hle.t _)).load hx hz.eq (fun cs hcs => ?_)
      have hcs : cs = [.int .i64 x.s, .string x.table, .bool x.x] := hcs
      subst hcs
      cbv
      refine (against152 (a := hd) (b := x)).mono (fun v h2 hR => ?_)
      obtain ⟨hle2, t, rfl, ht⟩ := hR
      have ht : t = p x := by rw [← hp]; exact ht
      cbv
      cases t with
      | true =>
        cbv
        exact ⟨hle.trans hle2, z, rfl, ⟨.inr ⟨i, x, hz, hx, ht.symm, hall⟩⟩⟩
      | false =>
        cbv
        refine ⟨len - (i + 1), _, by omega, ⟨?_, ?_, ?_⟩, i + 1, hz.succ (A := A) (by omega), rfl, by omega, hle.trans hle2, ?_⟩
        · cbv
        · cbv
        · cbv
        · intro j hj y hy
          rcases Nat.lt_or_ge j i with h | h
          · exact hall j h y hy
          · have : j = i := by omega
            subst this
            rw [hx] at hy; cases hy
            exact ht.symm
    · have hge := hz.ge hc
      cbv
      refine ⟨hle, -1, rfl, ⟨.inl ⟨rfl, fun x hx => ?_⟩⟩⟩
      obtain ⟨j, hj⟩ := List.getElem?_of_mem hx
      have := (List.getElem?_eq_some_iff.1 hj).1
      exact hall j (by omega) x hj

theorem mine150 {H : List Hld} {h : Heap} {b b2 : Option Addr} {n c n2 c2 : Nat} (q : Sl 188 shHld h (.slice b n c) H) (hd : Hld) :
    Ct 150 [.agg #[.slice b n c, .slice b2 n2 c2], .agg #[.int .i64 hd.s, .string hd.table, .bool hd.x]] h (fun v h' => Le h h' ∧ ∃ z : Int, v = .int .i64 z ∧ IdxR H (mineP hd) z) := by
  obtain ⟨A, hA⟩ := Ar.ex
  refine fn_of_sx A (tabOk T150.plan T150.pub) Tryz.func150 rfl (by kernel_rfl) ?_
  cbv
  intro nb h1 hnb e1
  have l1 : Le h h1 := by rw [e1]; exact Le.set hnb
  have g1 := (congrFun e1 nb).trans hset_self
  cbv
  refine (idx182m (q.mono (l1.t _)) g1).mono (fun v h2 hR => ?_)
  obtain ⟨l2, z, rfl, hz⟩ := hR
  cbv
  exact ⟨l1.trans l2, z, rfl, hz⟩

theorem contains151 {H : List Hld} {h : Heap} {b : Option Addr} {n c : Nat} (q : Sl 188 shHld h (.slice b n c) H) (hd : Hld) :
    Ct 151 [.slice b n c, .func (.func 152) #[.agg #[.int .i64 hd.s, .string hd.table, .bool hd.x]] #[]] h (fun v h' => Le h h' ∧ ∃ t : Bool, v = .bool t ∧ t = H.any (agst hd)) := by
  obtain ⟨A, hA⟩ := Ar.ex
  refine fn_of_sx A (tabOk T151.plan T151.pub) Tryz.func151 rfl (by kernel_rfl) ?_
  cbv
  refine (idx182a q hd).mono (fun v h2 hR => ?_)
  obtain ⟨l2, z, rfl, hz⟩ := hR
  cbv
  refine ⟨l2, _, rfl, ?_⟩
  rw [icm_geq A]
  rcases hz.out with ⟨rfl, h1⟩ | ⟨i, x, h1, h2, h3, -⟩
  · rw [eq_comm]; simpa using h1
  · have := h1.eq
    rw [decide_eq_true (by omega), eq_comm, List.any_eq_true]
    exact ⟨x, List.mem_of_getElem? h2, h3⟩

theorem without153 {H : List Hld} {h : Heap} {b : Option Addr} {n c : Nat} (q : Sl 188 shHld h (.slice b n c) H) (hn : n ≤ 2 ^ 38) (s : Int) :
    Ct 153 [.slice b n c, .int .i64 s] h (fun v h' => Le h h' ∧ ∃ b' n' c', v = .slice b' n' c' ∧ Buf 188 shHld h h' (.slice b' n' c') (wout H s)) := by
  obtain ⟨A, hA⟩ := Ar.ex
  have hlen := q.len
  refine fn_of_sx A (tabOk T153.plan T153.pub) Tryz.func153 rfl (by kernel_rfl) ?_
  cbv
  refine LoopX.go (G := Int × Option Addr × Nat × Nat) (fun g => [(10, .v (.int .i64 g.1)), (5, .v (.slice g.2.1 g.2.2.1 g.2.2.2))]) (fun _ => [])
    (fun k g h' => ∃ i : Nat, IsN g.1 i ∧ k = n - i ∧ i ≤ n ∧ Le h h' ∧ Buf 188 shHld h h' (.slice g.2.1 g.2.2.1 g.2.2.2) (wout (H.take i) s)) n (0, none, 0, 0) ⟨?_, ?_, ?_⟩ ⟨0, ⟨rfl⟩, by omega, by omega, Le.refl _, Buf.nil⟩ ?_
  · cbv
  · cbv
  · cbv
  · intro k g h' hI
    cbv
    obtain ⟨i, hz, hk, hi, hle, hb⟩ := hI
    obtain ⟨z, gb, gl, gc⟩ := g
    have hz : IsN z i := hz
    have hb : Buf 188 shHld h h' (.slice gb gl gc) (wout (H.take i) s) := hb
    refine bsel_mk (fun hc => ?_) (fun hc => ?_)
    · have hlt := hz.lt hc
      clear hc
      cbv
      obtain ⟨x, hx⟩ := get_ex (xs := H) (i := i) (by omega)
      refine ⟨⟨q.isSm (by omega), hz.ix hlt⟩, ?_⟩
      cbv
      refine (q.mono (hle.t _)).load hx hz.eq (fun cs hcs => ?_)
      have hcs : cs = [.int .i64 x.s, .string x.table, .bool x.x] := hcs
      subst hcs
      have q1 : A .icm .neq x.s s = decide (x.s ≠ s) := by rw [icm_neq A]
      have hgl : gl ≤ i := by
        have := hb.sl.len
        rw [this]
        refine Nat.le_trans (List.length_filter_le _ _) ?_
        rw [List.length_take]; omega
      cbv
      rw [q1]
      cases e1 : decide (x.s ≠ s) with
      | true =>
        cbv
        intro nb h2 hnb e2
        have l2 : Le h' h2 := by rw [e2]; exact Le.set hnb
        have g2 := (congrFun e2 nb).trans hset_self
        cbv
        refine (hb.mono (l2.t _)).append (one_sl (s := shHld) g2 (x := x) rfl) (by decide) rfl (by decide) (by omega) (hle.trans l2) (fun m b' c' h3 hm l3 t3 k3 hb3 => ?_)
        cbv
        refine ⟨n - (i + 1), (_, b', m, c'), by omega, ⟨?_, ?_, ?_⟩, i + 1, hz.succ (A := A) (by omega), rfl, by omega, l3, ?_⟩
        · cbv
        · cbv
        · cbv
        · have : wout (H.take (i + 1)) s = wout (H.take i) s ++ [x] := by
            rw [List.take_add_one, hx]
            unfold wout
            rw [List.filter_append]
            simp [e1]
            simpa using e1
          rw [this]; exact hb3
      | false =>
        cbv
        refine ⟨n - (i + 1), (_, gb, gl, gc), by omega, ⟨?_, ?_, ?_⟩, i + 1, hz.succ (A := A) (by omega), rfl, by omega, hle, ?_⟩
        · cbv
        · cbv
        · cbv
        · have : wout (H.take (i + 1)) s = wout (H.take i) s := by
            rw [List.take_add_one, hx]
            unfold wout
            rw [List.filter_append]
            simp [e1]
            simpa using e1
          rw [this]; exact hb
    · have hge := hz.ge hc
      cbv
      refine (cloneB104 hb.sl).mono (fun v h2 hR => ?_)
      obtain ⟨l2, b', c', rfl, q'⟩ := hR
      cbv
      refine ⟨hle.trans l2, _, _, _, rfl, ?_⟩
      rw [List.take_of_length_le (by omega)] at q'
      exact q'.base hle
end Go.S

set_option maxRecDepth 100000
set_option linter.unusedVariables false
set_option linter.unusedSimpArgs false
namespace Go.S
open Go.Sx Go.Proofs

theorem grow184 {h : Heap} {z : Int} {m : Nat} (hz : IsN z m) (hm : m ≤ 2 ^ 38) :
    Ct 184 [.slice none 0 0, .int .i64 z] h (fun v h' => Le h h' ∧ ∃ b' c', v = .slice b' 0 c' ∧ Buf 188 shHld h h' (.slice b' 0 c') ([] : List Hld)) := by
  obtain ⟨A, hA⟩ := Ar.ex
  have h0 : IsN (A .nat 0) 0 := IsN.nat 0
  have hw := hz.sub (A := A) (h0.sub (A := A) h0 (by omega) (by omega)) (by omega) (by omega)
  simp only [Nat.sub_zero, Nat.sub_self] at hw
  refine fn_of_sx A (tabOk T184.plan T184.pub) Tryz.func184 rfl (by kernel_rfl) ?_
  cbv
  rw [hz.nlt0 (A := A)]
  cbv
  generalize eg : A .icm .gtr (A .ari .sub .i64 z (A .ari .sub .i64 (A .nat 0) (A .nat 0))) 0 = u
  generalize ew : A .ari .sub .i64 z (A .ari .sub .i64 (A .nat 0) (A .nat 0)) = w at hw eg
  rw [icm_gtr A] at eg
  cases u with
  | true =>
    have hp := of_decide_eq_true eg
    have hm0 : 0 < m := by have := hw.eq; omega
    cbv
    have hz0 : (0 : Int) ≤ A .nat 0 ∧ A .nat 0 ≤ ((0 : Nat) : Int) := by have := h0.eq; omega
    refine ⟨hz0, ?_⟩
    cbv
    refine ⟨chk_make hw (by omega) (by decide), ?_⟩
    cbv
    rw [dif_z0 (A := A) hw, dif_z0 (A := A) h0]
    refine appendZ_own (s := shHld) (xs := ([] : List Hld)) Sl.nil (by omega) rfl (by decide) (by omega) rfl rfl (fun nb c h1 hnb l1 hc ho => ?_)
    rw [Nat.zero_add]
    have hck : (0 : Int) ≤ A .nat 0 ∧ A .nat 0 ≤ ((c : Nat) : Int) := by have := h0.eq; omega
    cbv
    refine ⟨hck, ?_⟩
    cbv
    rw [dif_z0 (A := A) h0, cut0_own (A := A)]
    exact ⟨l1, _, _, rfl, ho.buf hnb rfl⟩
  | false =>
    cbv
    exact ⟨Le.refl _, _, _, rfl, Buf.nil⟩

theorem concat154 {L : List (List Hld)} {h : Heap} {b : Option Addr} {n c : Nat} (q : Sl 26 (shSl 188 shHld) h (.slice b n c) L) (hn : L.flatten.length ≤ 2 ^ 38) :
    Ct 154 [.slice b n c] h (fun v h' => Le h h' ∧ ∃ b' n' c', v = .slice b' n' c' ∧ Buf 188 shHld h h' (.slice b' n' c') L.flatten) := by
  obtain ⟨A, hA⟩ := Ar.ex
  have hlen := q.len
  obtain ⟨hb1, hb2⟩ := q.bound
  refine fn_of_sx A (tabOk T154.plan T154.pub) Tryz.func154 rfl (by kernel_rfl) ?_
  cbv
  refine LoopX.go (G := Int × Int) (fun g => [(11, .v (.int .i64 g.1)), (3, .v (.int .i64 g.2))]) (fun _ => [])
    (fun k g h' => ∃ i : Nat, IsN g.1 i ∧ k = n - i ∧ i ≤ n ∧ h' = h ∧ IsN g.2 (L.take i).flatten.length) n (0, 0) ⟨?_, ?_, ?_⟩ ⟨0, ⟨rfl⟩, by omega, by omega, rfl, ⟨rfl⟩⟩ ?_
  · cbv
  · cbv
  · cbv
  · intro k g h' hI
    cbv
    obtain ⟨i, hz, hk, hi, rfl, hw⟩ := hI
    refine bsel_mk (fun hc => ?_) (fun hc => ?_)
    · have hlt := hz.lt hc
      clear hc
      cbv
      obtain ⟨x, hx⟩ := get_ex (xs := L) (i := i) (by omega)
      refine ⟨⟨q.isSm (by omega), hz.ix hlt⟩, ?_⟩
      cbv
      refine q.load hx hz.eq (fun cs hcs => ?_)
      obtain ⟨v, rfl, hv⟩ := hcs
      obtain ⟨b1, l1, c1, rfl⟩ := hv.form
      have hl1 := hv.len
      have hle := flat_le L (i + 1)
      rw [flat_take hx, List.length_append, ← hl1] at hle
      have hw2 := hw.add (A := A) (IsN.nat (A := A) l1) (by omega)
      have hft := flat_take hx
      cbv
      rw [hw2.nlt0 (A := A)]
      cbv
      refine ⟨n - (i + 1), (_, A .ari .add .i64 g.2 (A .nat l1)), by omega, ⟨?_, ?_, ?_⟩, i + 1, hz.succ (A := A) (by omega), rfl, by omega, rfl, ?_⟩
      · cbv
      · cbv
      · cbv
      · rw [hft, List.length_append, ← hl1]; exact hw2
    · have hge := hz.ge hc
      have hin : i = n := by omega
      rw [List.take_of_length_le (by omega)] at hw
      obtain ⟨z, w⟩ := g
      have hw : IsN w L.flatten.length := hw
      cbv
      refine (grow184 hw hn).mono (fun v h1 hR => ?_)
      obtain ⟨l1, b1, c1, rfl, hb⟩ := hR
      cbv
      refine LoopX.go (G := Int × Option Addr × Nat × Nat) (fun g => [(27, .v (.int .i64 g.1)), (6, .v (.slice g.2.1 g.2.2.1 g.2.2.2))]) (fun _ => [])
        (fun k g h2 => ∃ i : Nat, IsN g.1 i ∧ k = n - i ∧ i ≤ n ∧ Le h' h2 ∧ Buf 188 shHld h' h2 (.slice g.2.1 g.2.2.1 g.2.2.2) (L.take i).flatten) n (0, b1, 0, c1) ⟨?_, ?_, ?_⟩ ⟨0, ⟨rfl⟩, by omega, by omega, l1, hb⟩ ?_
      · cbv
      · cbv
      · cbv
      · intro k g h2 hI
        cbv
        obtain ⟨i, hz, hk, hi, hle, hb⟩ := hI
        obtain ⟨z, gb, gl, gc⟩ := g
        have hz : IsN z i := hz
        have hb : Buf 188 shHld h' h2 (.slice gb gl gc) (L.take i).flatten := hb
        refine bsel_mk (fun hc => ?_) (fun hc => ?_)
        · have hlt := hz.lt hc
          clear hc
          cbv
          obtain ⟨x, hx⟩ := get_ex (xs := L) (i := i) (by omega)
          refine ⟨⟨q.isSm (by omega), hz.ix hlt⟩, ?_⟩
          cbv
          refine (q.mono (hle.t _)).load hx hz.eq (fun cs hcs => ?_)
          obtain ⟨v, rfl, hv⟩ := hcs
          obtain ⟨b2, l2, c2, rfl⟩ := hv.form
          have hl2 := hv.len
          have hgl : gl = (L.take i).flatten.length := hb.sl.len
          have hle2 := flat_le L (i + 1)
          have hft := flat_take hx
          rw [hft, List.length_append, ← hl2, ← hgl] at hle2
          cbv
          refine hb.append hv (by decide) rfl (by decide) (by omega) hle (fun m b' c' h3 hm l3 t3 k3 hb3 => ?_)
          cbv
          refine ⟨n - (i + 1), (_, b', m, c'), by omega, ⟨?_, ?_, ?_⟩, i + 1, hz.succ (A := A) (by omega), rfl, by omega, l3, ?_⟩
          · cbv
          · cbv
          · cbv
          · rw [hft]; exact hb3
        · have hge := hz.ge hc
          cbv
          rw [List.take_of_length_le (by omega)] at hb
          exact ⟨hle, _, _, _, rfl, hb⟩

theorem grow187 {h : Heap} {z : Int} {m : Nat} (hz : IsN z m) (hm : m ≤ 2 ^ 38) :
    Ct 187 [.slice none 0 0, .int .i64 z] h (fun v h' => Le h h' ∧ ∃ b' c', v = .slice b' 0 c' ∧ Buf 63 shRow h h' (.slice b' 0 c') ([] : List Row)) := by
  obtain ⟨A, hA⟩ := Ar.ex
  have h0 : IsN (A .nat 0) 0 := IsN.nat 0
  have hw := hz.sub (A := A) (h0.sub (A := A) h0 (by omega) (by omega)) (by omega) (by omega)
  simp only [Nat.sub_zero, Nat.sub_self] at hw
  refine fn_of_sx A (tabOk T187.plan T187.pub) Tryz.func187 rfl (by kernel_rfl) ?_
  cbv
  rw [hz.nlt0 (A := A)]
  cbv
  generalize eg : A .icm .gtr (A .ari .sub .i64 z (A .ari .sub .i64 (A .nat 0) (A .nat 0))) 0 = u
  generalize ew : A .ari .sub .i64 z (A .ari .sub .i64 (A .nat 0) (A .nat 0)) = w at hw eg
  rw [icm_gtr A] at eg
  cases u with
  | true =>
    have hp := of_decide_eq_true eg
    have hm0 : 0 < m := by have := hw.eq; omega
    cbv
    have hz0 : (0 : Int) ≤ A .nat 0 ∧ A .nat 0 ≤ ((0 : Nat) : Int) := by have := h0.eq; omega
    refine ⟨hz0, ?_⟩
    cbv
    refine ⟨chk_make hw (by omega) (by decide), ?_⟩
    cbv
    rw [dif_z0 (A := A) hw, dif_z0 (A := A) h0]
    refine appendZ_own (s := shRow) (xs := ([] : List Row)) Sl.nil (by omega) rfl (by decide) (by omega) rfl rfl (fun nb c h1 hnb l1 hc ho => ?_)
    rw [Nat.zero_add]
    have hck : (0 : Int) ≤ A .nat 0 ∧ A .nat 0 ≤ ((c : Nat) : Int) := by have := h0.eq; omega
    cbv
    refine ⟨hck, ?_⟩
    cbv
    rw [dif_z0 (A := A) h0, cut0_own (A := A)]
    exact ⟨l1, _, _, rfl, ho.buf hnb rfl⟩
  | false =>
    cbv
    exact ⟨Le.refl _, _, _, rfl, Buf.nil⟩

theorem concat159 {L : List (List Row)} {h : Heap} {b : Option Addr} {n c : Nat} (q : Sl 41 (shSl 63 shRow) h (.slice b n c) L) (hn : L.flatten.length ≤ 2 ^ 38) :
    Ct 159 [.slice b n c] h (fun v h' => Le h h' ∧ ∃ b' n' c', v = .slice b' n' c' ∧ Buf 63 shRow h h' (.slice b' n' c') L.flatten) := by
  obtain ⟨A, hA⟩ := Ar.ex
  have hlen := q.len
  obtain ⟨hb1, hb2⟩ := q.bound
  refine fn_of_sx A (tabOk T159.plan T159.pub) Tryz.func159 rfl (by kernel_rfl) ?_
  cbv
  refine LoopX.go (G := Int × Int) (fun g => [(11, .v (.int .i64 g.1)), (3, .v (.int .i64 g.2))]) (fun _ => [])
    (fun k g h' => ∃ i : Nat, IsN g.1 i ∧ k = n - i ∧ i ≤ n ∧ h' = h ∧ IsN g.2 (L.take i).flatten.length) n (0, 0) ⟨?_, ?_, ?_⟩ ⟨0, ⟨rfl⟩, by omega, by omega, rfl, ⟨rfl⟩⟩ ?_
  · cbv
  · cbv
  · cbv
  · intro k g h' hI
    cbv
    obtain ⟨i, hz, hk, hi, rfl, hw⟩ := hI
    refine bsel_mk (fun hc => ?_) (fun hc => ?_)
    · have hlt := hz.lt hc
      clear hc
      cbv
      obtain ⟨x, hx⟩ := get_ex (xs := L) (i := i) (by omega)
      refine ⟨⟨q.isSm (by omega), hz.ix hlt⟩, ?_⟩
      cbv
      refine q.load hx hz.eq (fun cs hcs => ?_)
      obtain ⟨v, rfl, hv⟩ := hcs
      obtain ⟨b1, l1, c1, rfl⟩ := hv.form
      have hl1 := hv.len
      have hle := flat_le L (i + 1)
      rw [flat_take hx, List.length_append, ← hl1] at hle
      have hw2 := hw.add (A := A) (IsN.nat (A := A) l1) (by omega)
      have hft := flat_take hx
      cbv
      rw [hw2.nlt0 (A := A)]
      cbv
      refine ⟨n - (i + 1), (_, A .ari .add .i64 g.2 (A .nat l1)), by omega, ⟨?_, ?_, ?_⟩, i + 1, hz.succ (A := A) (by omega), rfl, by omega, rfl, ?_⟩
      · cbv
      · cbv
      · cbv
      · rw [hft, List.length_append, ← hl1]; exact hw2
    · have hge := hz.ge hc
      have hin : i = n := by omega
      rw [List.take_of_length_le (by omega)] at hw
      obtain ⟨z, w⟩ := g
      have hw : IsN w L.flatten.length := hw
      cbv
      refine (grow187 hw hn).mono (fun v h1 hR => ?_)
      obtain ⟨l1, b1, c1, rfl, hb⟩ := hR
      cbv
      refine LoopX.go (G := Int × Option Addr × Nat × Nat) (fun g => [(27, .v (.int .i64 g.1)), (6, .v (.slice g.2.1 g.2.2.1 g.2.2.2))]) (fun _ => [])
        (fun k g h2 => ∃ i : Nat, IsN g.1 i ∧ k = n - i ∧ i ≤ n ∧ Le h' h2 ∧ Buf 63 shRow h' h2 (.slice g.2.1 g.2.2.1 g.2.2.2) (L.take i).flatten) n (0, b1, 0, c1) ⟨?_, ?_, ?_⟩ ⟨0, ⟨rfl⟩, by omega, by omega, l1, hb⟩ ?_
      · cbv
      · cbv
      · cbv
      · intro k g h2 hI
        cbv
        obtain ⟨i, hz, hk, hi, hle, hb⟩ := hI
        obtain ⟨z, gb, gl, gc⟩ := g
        have hz : IsN z i := hz
        have hb : Buf 63 shRow h' h2 (.slice gb gl gc) (L.take i).flatten := hb
        refine bsel_mk (fun hc => ?_) (fun hc => ?_)
        · have hlt := hz.lt hc
          clear hc
          cbv
          obtain ⟨x, hx⟩ := get_ex (xs := L) (i := i) (by omega)
          refine ⟨⟨q.isSm (by omega), hz.ix hlt⟩, ?_⟩
          cbv
          refine (q.mono (hle.t _)).load hx hz.eq (fun cs hcs => ?_)
          obtain ⟨v, rfl, hv⟩ := hcs
          obtain ⟨b2, l2, c2, rfl⟩ := hv.form
          have hl2 := hv.len
          have hgl : gl = (L.take i).flatten.length := hb.sl.len
          have hle2 := flat_le L (i + 1)
          have hft := flat_take hx
          rw [hft, List.length_append, ← hl2, ← hgl] at hle2
          cbv
          refine hb.append hv (by decide) rfl (by decide) (by omega) hle (fun m b' c' h3 hm l3 t3 k3 hb3 => ?_)
          cbv
          refine ⟨n - (i + 1), (_, b', m, c'), by omega, ⟨?_, ?_, ?_⟩, i + 1, hz.succ (A := A) (by omega), rfl, by omega, l3, ?_⟩
          · cbv
          · cbv
          · cbv
          · rw [hft]; exact hb3
        · have hge := hz.ge hc
          cbv
          rw [List.take_of_length_le (by omega)] at hb
          exact ⟨hle, _, _, _, rfl, hb⟩
end Go.S

set_option maxRecDepth 100000
set_option linter.unusedVariables false
set_option linter.unusedSimpArgs false
namespace Go.S
open Go.Sx Go.Proofs

def shInt : Sh Int where
  n := 1
  R _ cs v := cs = [.int .i64 v]
  len := by rintro h cs x rfl; rfl
  one := by rintro h cs x rfl; rfl
  tys := []
  mono := fun _ q => q

def cmpI (a b : Int) : Int := if decide (a < b) = true then -1 else if decide (a > b) = true then 1 else 0
def firstNZ : List Int → Int
  | [] => 0
  | x :: r => if decide (x ≠ 0) = true then x else firstNZ r
def valCmp (a b : Val) : Int := firstNZ [cmpI a.k b.k, cmpI a.n b.n, cmpB a.s b.s]
def keyOf (key : Int) (r : Row) : Val := if (decide (key < 0) || decide (key ≥ (r.length : Int))) = true then ⟨0, 0, ⟨#[]⟩⟩ else (r[key.toNat]?).getD ⟨0, 0, ⟨#[]⟩⟩
abbrev Val.v (x : Val) : Value := .agg #[.int .i64 x.k, .int .i64 x.n, .string x.s]

theorem isNaN196 (a : Int) (h : Heap) : Ct 196 [.int .i64 a] h (fun v h' => Le h h' ∧ v = .bool false) := by
  obtain ⟨A, hA⟩ := Ar.ex
  have q1 : A .icm .neq a a = false := by rw [icm_neq A]; simp
  refine fn_of_sx A (tabOk T196.plan T196.pub) Tryz.func196 rfl (by kernel_rfl) ?_
  cbv
  rw [q1]
  exact ⟨Le.refl _, rfl⟩

theorem cmp189 (a b : Int) (h : Heap) : Ct 189 [.int .i64 a, .int .i64 b] h (fun v h' => Le h h' ∧ ∃ z, v = .int .i64 z ∧ z = cmpI a b) := by
  obtain ⟨A, hA⟩ := Ar.ex
  refine fn_of_sx A (tabOk T189.plan T189.pub) Tryz.func189 rfl (by kernel_rfl) ?_
  cbv
  refine (isNaN196 a h).mono (fun v h1 hR => ?_)
  obtain ⟨l1, rfl⟩ := hR
  cbv
  refine (isNaN196 b h1).mono (fun v h2 hR => ?_)
  obtain ⟨l2, rfl⟩ := hR
  cbv
  generalize e1 : A .icm .lss a b = u1
  generalize e2 : A .icm .gtr a b = u2
  have f2 := e2
  rw [icm_lss A] at e1
  rw [icm_gtr A] at e2
  cases u1 with
  | true =>
    cbv
    exact ⟨l1.trans l2, _, rfl, by simp only [cmpI, e1]; rfl⟩
  | false =>
    cbv
    rw [f2]
    cases u2 with
    | true =>
      cbv
      exact ⟨l1.trans l2, _, rfl, by simp only [cmpI, e1, e2]; rfl⟩
    | false =>
      cbv
      exact ⟨l1.trans l2, _, rfl, by simp only [cmpI, e1, e2]; rfl⟩

theorem firstNZ_take {xs : List Int} {i : Nat} (h : ∀ j, j < i → ∀ y, xs[j]? = some y → y = 0) : firstNZ xs = firstNZ (xs.drop i) := by
  induction i generalizing xs with
  | zero => rfl
  | succ i ih =>
    cases xs with
    | nil => rfl
    | cons x r =>
      have hx : x = 0 := h 0 (by omega) x rfl
      simp only [List.drop_succ_cons, firstNZ, hx]
      rw [if_neg (by decide)]
      exact ih (fun j hj y hy => h (j + 1) (by omega) y (by simpa using hy))

theorem or188 {xs : List Int} {h : Heap} {b : Option Addr} {n c : Nat} (q : Sl 3 shInt h (.slice b n c) xs) :
    Ct 188 [.slice b n c] h (fun v h' => Le h h' ∧ ∃ z, v = .int .i64 z ∧ z = firstNZ xs) := by
  obtain ⟨A, hA⟩ := Ar.ex
  have hlen := q.len
  obtain ⟨hb1, hb2⟩ := q.bound
  refine fn_of_sx A (tabOk T188.plan T188.pub) Tryz.func188 rfl (by kernel_rfl) ?_
  cbv
  refine LoopX.go (G := Int) (fun z => [(8, .v (.int .i64 z))]) (fun _ => []) (fun k z h' => ∃ i : Nat, IsN z i ∧ k = n - i ∧ i ≤ n ∧ h' = h ∧ ∀ j, j < i → ∀ y, xs[j]? = some y → y = 0) n 0 ⟨?_, ?_, ?_⟩ ⟨0, ⟨rfl⟩, by omega, by omega, rfl, fun j hj => (by omega)⟩ ?_
  · cbv
  · cbv
  · cbv
  · intro k z h' hI
    cbv
    obtain ⟨i, hz, hk, hi, rfl, hall⟩ := hI
    refine bsel_mk (fun hc => ?_) (fun hc => ?_)
    · have hlt := hz.lt hc
      clear hc
      cbv
      obtain ⟨x, hx⟩ := get_ex (xs := xs) (i := i) (by omega)
      refine ⟨⟨q.isSm (by omega), hz.ix hlt⟩, ?_⟩
      cbv
      refine q.load hx hz.eq (fun cs hcs => ?_)
      have hcs : cs = [.int .i64 x] := hcs
      subst hcs
      generalize ex : A .icm .neq x 0 = u
      rw [icm_neq A] at ex
      have hdr : xs.drop i = x :: xs.drop (i + 1) := by
        rw [List.drop_eq_getElem_cons (by omega)]
        have := (List.getElem?_eq_some_iff.1 hx).2
        rw [this]
      have hf := firstNZ_take hall
      rw [hdr] at hf
      cbv
      rw [icm_neq A, ex]
      cases u with
      | true =>
        cbv
        refine ⟨Le.refl _, _, rfl, ?_⟩
        rw [hf]; simp only [firstNZ, ex]; rfl
      | false =>
        cbv
        refine ⟨n - (i + 1), _, by omega, ⟨?_, ?_, ?_⟩, i + 1, hz.succ (A := A) (by omega), rfl, by omega, rfl, ?_⟩
        · cbv
        · cbv
        · cbv
        · intro j hj y hy
          rcases Nat.lt_or_ge j i with hji | hji
          · exact hall j hji y hy
          · have : j = i := by omega
            subst this
            rw [hx] at hy; cases hy
            have := of_decide_eq_false ex
            exact Decidable.not_not.1 this
    · have hge := hz.ge hc
      have hf := firstNZ_take hall
      rw [List.drop_eq_nil_of_le (by omega)] at hf
      cbv
      exact ⟨Le.refl _, _, rfl, hf.symm⟩

theorem compare162 (a b : Val) (h : Heap) : Ct 162 [.agg #[.int .i64 a.k, .int .i64 a.n, .string a.s], .agg #[.int .i64 b.k, .int .i64 b.n, .string b.s]] h (fun v h' => Le h h' ∧ ∃ z, v = .int .i64 z ∧ z = valCmp a b) := by
  obtain ⟨A, hA⟩ := Ar.ex
  obtain ⟨k1, n1, s1⟩ := a
  obtain ⟨k2, n2, s2⟩ := b
  refine fn_of_sx A (tabOk T162.plan T162.pub) Tryz.func162 rfl (by kernel_rfl) ?_
  cbv
  refine (cmp189 k1 k2 h).mono (fun v h1 hR => ?_)
  obtain ⟨l1, z1, rfl, e1⟩ := hR
  cbv
  refine (cmp189 n1 n2 h1).mono (fun v h2 hR => ?_)
  obtain ⟨l2, z2, rfl, e2⟩ := hR
  cbv
  refine (cmp100 s1 s2 h2).mono (fun v h3 hR => ?_)
  obtain ⟨l3, z3, rfl, e3⟩ := hR
  cbv
  intro nb h4 hnb e4
  have l4 : Le h3 h4 := by rw [e4]; exact Le.set hnb
  have g4 := (congrFun e4 nb).trans hset_self
  cbv
  refine (or188 (three_sl (s := shInt) rfl g4 (x := z1) (y := z2) (w := z3) rfl rfl rfl)).mono (fun v h5 hR => ?_)
  obtain ⟨l5, z, rfl, ez⟩ := hR
  cbv
  exact ⟨(((l1.trans l2).trans l3).trans l4).trans l5, z, rfl, by rw [ez, e1, e2, e3]; rfl⟩

theorem key121 {r : Row} {h : Heap} {c0 c1 c3 c4 : Value} {key : Int} {b : Option Addr} {n c : Nat} (q : Sl 68 shVal h (.slice b n c) r) :
    Ct 121 [.agg #[c0, c1, .int .i64 key, c3, c4], .slice b n c] h (fun v h' => Le h h' ∧ ∃ kr : Val, v = .agg #[.int .i64 kr.k, .int .i64 kr.n, .string kr.s] ∧ kr = keyOf key r) := by
  obtain ⟨A, hA⟩ := Ar.ex
  have hlen := q.len
  generalize e1 : A .icm .lss key 0 = u1
  generalize e2 : A .icm .geq key (A .nat n) = u2
  have f1 := e1
  have f2 := e2
  rw [icm_lss A] at e1
  rw [icm_geq A, hA.nat] at e2
  simp only [Int.ofNat_eq_natCast] at e2
  refine fn_of_sx A (tabOk T121.plan T121.pub) Tryz.func121 rfl (by kernel_rfl) ?_
  cbv
  rw [f1]
  cases u1 with
  | true =>
    cbv
    exact ⟨Le.refl _, ⟨0, 0, ⟨#[]⟩⟩, rfl, by simp only [keyOf, e1]; rfl⟩
  | false =>
    cbv
    rw [f2]
    cases u2 with
    | true =>
      cbv
      refine ⟨Le.refl _, ⟨0, 0, ⟨#[]⟩⟩, rfl, ?_⟩
      rw [hlen] at e2
      simp only [keyOf, e1, e2]; rfl
    | false =>
      obtain ⟨hk1, hk2⟩ := key_in A f1 f2
      obtain ⟨x, hx⟩ := get_ex (xs := r) (i := key.toNat) (by omega)
      cbv
      refine ⟨⟨q.isSm (by omega), hk1.ix hk2⟩, ?_⟩
      cbv
      refine q.load hx hk1.eq (fun cs hcs => ?_)
      have hcs : cs = [.int .i64 x.k, .int .i64 x.n, .string x.s] := hcs
      subst hcs
      cbv
      refine ⟨Le.refl _, x, rfl, ?_⟩
      rw [hlen] at e2
      simp only [keyOf, e1, e2, hx]; rfl

theorem find161 {h : Heap} {kb : Nat} {key : Int} {k0 k1 k3 k4 : Value} (gk : h kb = some (.cells #[k0, k1, .int .i64 key, k3, k4] 203 (0, 0))) {r : Row} {b : Option Addr} {n c : Nat} (q : Sl 68 shVal h (.slice b n c) r) (kv : Val) :
    Ct 161 [.slice b n c, .agg #[.int .i64 kv.k, .int .i64 kv.n, .string kv.s], .pointer (some ⟨kb, 0, none⟩)] h (fun v h' => Le h h' ∧ ∃ z, v = .int .i64 z ∧ z = valCmp (keyOf key r) kv) := by
  obtain ⟨A, hA⟩ := Ar.ex
  refine fn_of_sx A (tabOk T161.plan T161.pub) Tryz.func161 rfl (by kernel_rfl) ?_
  cbv
  refine ldb gk rfl rfl ?_
  cbv
  refine (key121 q).mono (fun v h1 hR => ?_)
  obtain ⟨l1, kr, rfl, ekr⟩ := hR
  cbv
  refine (compare162 kr kv h1).mono (fun v h2 hR => ?_)
  obtain ⟨l2, z, rfl, ez⟩ := hR
  cbv
  exact ⟨l1.trans l2, z, rfl, by rw [ez, ekr]⟩

theorem bs160 {xs : List Row} {h : Heap} {b : Option Addr} {len cap : Nat} (q : Sl 63 shRow h (.slice b len cap) xs) {kb : Nat} {key : Int} {k0 k1 k3 k4 : Value} (gk : h kb = some (.cells #[k0, k1, .int .i64 key, k3, k4] 203 (0, 0))) (kv : Val) :
    Ct 160 [.slice b len cap, .agg #[.int .i64 kv.k, .int .i64 kv.n, .string kv.s], .func (.func 161) #[] #[.pointer (some ⟨kb, 0, none⟩)]] h (fun v h' => Le h h' ∧ ∃ (z : Int) (t : Bool), v = .tuple #[.int .i64 z, .bool t] ∧ BsR (xs.map (fun x : Row => valCmp (keyOf key x) kv)) z t) := by
  obtain ⟨A, hA⟩ := Ar.ex
  have hlen := q.len
  obtain ⟨hb1, hb2⟩ := q.bound
  have hml : (xs.map (fun x : Row => valCmp (keyOf key x) kv)).length = len := by simp [hlen]
  generalize hl : xs.map (fun x : Row => valCmp (keyOf key x) kv) = l at hml
  have hget : ∀ (i : Nat) x, xs[i]? = some x → l[i]? = some ((fun x : Row => valCmp (keyOf key x) kv) x) := fun i x hx => by rw [← hl]; simp [hx]
  refine fn_of_sx A (tabOk T160.plan T160.pub) Tryz.func160 rfl (by kernel_rfl) ?_
  cbv
  refine LoopX.go (G := Int × Int) (fun g => [(9, .v (.int .i64 g.1)), (10, .v (.int .i64 g.2))]) (fun _ => [(4, [.int .i64 kv.k, .int .i64 kv.n, .string kv.s])])
    (fun n g h' => ∃ i j : Nat, IsN g.1 i ∧ IsN g.2 j ∧ n = j - i ∧ i ≤ j ∧ j ≤ len ∧ Le h h' ∧ bsAt l 0 len = bsAt l i j) len (0, A .nat len) ⟨?_, ?_, ?_⟩ ⟨0, len, ⟨rfl⟩, ⟨by rw [hA.nat]; rfl⟩, by omega, by omega, by omega, Le.refl _, rfl⟩ ?_
  · cbv
  · cbv
  · cbv
  · intro n g h' hI
    cbv
    obtain ⟨i, j, hi, hj, hn, hij, hjl, hle, hbs⟩ := hI
    refine bsel_mk (fun hc => ?_) (fun hc => ?_)
    · rw [hi.lt2 (A := A) hj, decide_eq_true_eq] at hc
      cbv
      refine ⟨by decide, ?_⟩
      cbv
      have hm := hi.mid (A := A) hj (by omega) (by omega)
      obtain ⟨x, hx⟩ := get_ex (xs := xs) (i := (i + j) / 2) (by omega)
      refine ⟨⟨q.isSm (by omega), hm.ix (by omega)⟩, ?_⟩
      cbv
      refine (q.mono (hle.t _)).load hx hm.eq (fun cs hcs => ?_)
      obtain ⟨v, rfl, hv⟩ := hcs
      obtain ⟨b1, l1, c1, rfl⟩ := hv.form
      cbv
      refine (find161 (hle _ _ gk) hv kv).mono (fun v h2 hR => ?_)
      obtain ⟨hle2, z, rfl, hz⟩ := hR
      cbv
      have hg : l.getD ((i + j) / 2) 0 = z := by rw [List.getD_eq_getElem?_getD, hget _ _ hx, hz]; rfl
      have hbs2 := hbs
      rw [bsAt.eq_1 l i j, if_pos hc, hg] at hbs2
      refine bsel_mk (fun hc2 => ?_) (fun hc2 => ?_)
      · rw [hA.icm] at hc2
        have hc3 : z < 0 := of_decide_eq_true hc2
        rw [if_pos hc3] at hbs2
        clear hc2 hc3
        cbv
        refine ⟨j - ((i + j) / 2 + 1), (_, g.2), by omega, ⟨?_, ?_, ?_⟩, (i + j) / 2 + 1, j, hm.succ (A := A) (by omega), hj, rfl, by omega, hjl, hle.trans hle2, hbs2⟩
        · cbv
        · cbv
        · cbv
      · rw [hA.icm] at hc2
        have hc3 : ¬ z < 0 := of_decide_eq_false hc2
        rw [if_neg hc3] at hbs2
        clear hc2 hc3
        cbv
        refine ⟨(i + j) / 2 - i, (g.1, A .conv .i64 (A .ari .shr .u64 (A .conv .u64 (A .ari .add .i64 g.1 g.2)) 1)), by omega, ⟨?_, ?_, ?_⟩, i, (i + j) / 2, hi, hm, rfl, by omega, by omega, hle.trans hle2, hbs2⟩
        · cbv
        · cbv
        · cbv
    · rw [hi.lt2 (A := A) hj, decide_eq_false_iff_not] at hc
      cbv
      have hbs2 := hbs
      rw [bsAt.eq_1 l i j, if_neg hc] at hbs2
      have hlt2 := hi.lt2 (A := A) (w := A .nat len) (j := len) ⟨by rw [hA.nat]; rfl⟩
      refine bsel_mk (fun hc2 => ?_) (fun hc2 => ?_)
      · rw [hc2]
        rw [hlt2, decide_eq_true_eq] at hc2
        cbv
        obtain ⟨x, hx⟩ := get_ex (xs := xs) (i := i) (by omega)
        refine ⟨⟨q.isSm (by omega), hi.ix (by omega)⟩, ?_⟩
        cbv
        refine (q.mono (hle.t _)).load hx hi.eq (fun cs hcs => ?_)
        obtain ⟨v, rfl, hv⟩ := hcs
        obtain ⟨b1, l1, c1, rfl⟩ := hv.form
        cbv
        refine (find161 (hle _ _ gk) hv kv).mono (fun v h2 hR => ?_)
        obtain ⟨hle2, z, rfl, hz⟩ := hR
        cbv
        refine ⟨hle.trans hle2, _, _, rfl, ⟨i, hi, ?_, ?_⟩⟩
        · rw [hml]; exact hbs2.symm
        · rw [hA.icm]
          have hg : l.getD i 0 = z := by rw [List.getD_eq_getElem?_getD, hget _ _ hx, hz]; rfl
          rw [hg, hml]
          simp [icm, hc2]
          rfl
      · rw [hc2]
        rw [hlt2, decide_eq_false_iff_not] at hc2
        cbv
        refine ⟨hle, _, _, rfl, ⟨i, hi, ?_, ?_⟩⟩
        · rw [hml]; exact hbs2.symm
        · rw [hml]; simp [hc2]

theorem find120 {rows : List Row} {h : Heap} {c0 c1 c3 : Value} {key : Int} {b : Option Addr} {n c : Nat} (q : Sl 63 shRow h (.slice b n c) rows) (kv : Val) :
    Ct 120 [.agg #[c0, c1, .int .i64 key, c3, .slice b n c], .agg #[.int .i64 kv.k, .int .i64 kv.n, .string kv.s]] h (fun v h' => Le h h' ∧ ∃ z t, v = .tuple #[.int .i64 z, .bool t] ∧ BsR (rows.map fun r => valCmp (keyOf key r) kv) z t) := by
  obtain ⟨A, hA⟩ := Ar.ex
  refine fn_of_sx A (tabOk T120.plan T120.pub) Tryz.func120 rfl (by kernel_rfl) ?_
  cbv
  intro nb h1 hnb e1
  have l1 : Le h h1 := by rw [e1]; exact Le.set hnb
  have g1 := (congrFun e1 nb).trans hset_self
  cbv
  rw [offm A]
  rw [offm A]
  refine ldb g1 rfl rfl ?_
  cbv
  refine (bs160 (q.mono (l1.t _)) g1 kv).mono (fun v h2 hR => ?_)
  obtain ⟨l2, z, t, rfl, hb⟩ := hR
  cbv
  exact ⟨l1.trans l2, z, t, rfl, hb⟩
end Go.S

set_option maxRecDepth 100000
set_option linter.unusedVariables false
set_option linter.unusedSimpArgs false
namespace Go.S
open Go.Sx Go.Proofs

def bareV (v : Val) : Val := if decide (v.k = 3) = true then ⟨v.k, 0, v.s⟩ else if decide (v.k = 1) = true then ⟨v.k, v.n, ⟨#[]⟩⟩ else if decide (v.k = 2) = true then ⟨v.k, v.n, ⟨#[]⟩⟩ else ⟨v.k, 0, ⟨#[]⟩⟩
def sameV (a b : Val) : Bool := decide (a.k = b.k) && (decide (a.n = b.n) && decide (a.s = b.s))
def valErr (v : Val) : Int :=
  if (decide (v.k < 0) || decide (v.k > 3)) = true then 3
  else if (!sameV v (bareV v) || (decide (v.k = 1) && decide (v.n ≠ 0) && decide (v.n ≠ 1))) = true then 1
  else if decide ((v.s.size : Int) > 60) = true then 5 else 0

theorem own158 {xs : List Row} {h : Heap} {b : Option Addr} {len cap : Nat} (q : Sl 63 shRow h (.slice b len cap) xs) :
    Ct 158 [.slice b len cap] h (fun v h' => Le h h' ∧ ∃ nb, h nb = none ∧ v = .slice (some ⟨nb, 0, none⟩) len len ∧ Own 63 shRow h' nb len xs) := by
  obtain ⟨A, hA⟩ := Ar.ex
  have hlen := q.len
  obtain ⟨hb1, hb2⟩ := q.bound
  refine fn_of_sx A (tabOk T158.plan T158.pub) Tryz.func158 rfl (by kernel_rfl) ?_
  cbv
  refine make_own (s := shRow) rfl (by omega) (by decide) (fun nb h1 hnb hle ho => ?_)
  cbv
  refine LoopX.go (G := Int) (fun z => [(11, .v (.int .i64 z))]) (fun _ => []) (fun n z h' => ∃ i : Nat, IsN z i ∧ n = len - i ∧ i ≤ len ∧ Le h h' ∧ Own 63 shRow h' nb len (xs.take i)) len 0 ⟨?_, ?_, ?_⟩ ⟨0, ⟨rfl⟩, by omega, by omega, hle, ho⟩ ?_
  · cbv
  · cbv
  · cbv
  · intro n z h' hI
    cbv
    obtain ⟨i, hz, hn, hi, hle', ho'⟩ := hI
    refine bsel_mk (fun hc => ?_) (fun hc => ?_)
    · have hlt := hz.lt hc
      clear hc
      cbv
      obtain ⟨x, hx⟩ := get_ex (xs := xs) (i := i) (by omega)
      refine ⟨⟨q.isSm (by omega), hz.ix hlt⟩, ?_⟩
      cbv
      refine (q.mono (hle'.t _)).load hx hz.eq (fun cs hcs => ?_)
      obtain ⟨v, rfl, hv⟩ := hcs
      obtain ⟨b1, l1, c1, rfl⟩ := hv.form
      cbv
      refine (clone122 hv).mono (fun v2 h2 hR => ?_)
      obtain ⟨hle2, b2, cap2, rfl, hv2, -⟩ := hR
      cbv
      refine ⟨⟨rfl, hz.ix hlt⟩, ?_⟩
      cbv
      refine (ho'.mono (hle2.t _)).store (by decide) (i := i) (by simp; omega) (by omega) (by omega) hz.eq rfl (x := x) ⟨_, rfl, hv2⟩ (fun h3 hk ht ho3 => ?_)
      cbv
      refine ⟨len - (i + 1), _, by omega, ⟨?_, ?_, ?_⟩, i + 1, hz.succ (A := A) (by omega), rfl, by omega, ?_, ?_⟩
      · cbv
      · cbv
      · cbv
      · exact (hle'.trans hle2).kpNew (by simpa using hnb) hk
      · rw [if_neg (by simp; omega)] at ho3
        rw [List.take_add_one, hx]
        exact ho3
    · have hge := hz.ge hc
      cbv
      have : i = len := by omega
      subst this
      refine ⟨hle', nb, hnb, rfl, ?_⟩
      rw [hlen, List.take_length] at ho'
      rw [hlen]; exact ho'

theorem with119 {nm : ByteArray} {cols : List Col} {key : Int} {only : Bool} {L : List (List Row)} {h : Heap} {sb b b4 : Option Addr} {sn sc n c n4 c4 : Nat} (qs : Sl 104 shCol h (.slice sb sn sc) cols) (qL : Sl 41 (shSl 63 shRow) h (.slice b n c) L) (hn : L.flatten.length ≤ 2 ^ 38) :
    Ct 119 [.agg #[.string nm, .slice sb sn sc, .int .i64 key, .bool only, .slice b4 n4 c4], .slice b n c] h (fun v h' => Le h h' ∧ ∃ b1 n1 k1 b2 n2 k2, v = .agg #[.string nm, .slice b1 n1 k1, .int .i64 key, .bool only, .slice b2 n2 k2] ∧ Sl 104 shCol h' (.slice b1 n1 k1) cols ∧ Sl 63 shRow h' (.slice b2 n2 k2) L.flatten) := by
  obtain ⟨A, hA⟩ := Ar.ex
  refine fn_of_sx A (tabOk T119.plan T119.pub) Tryz.func119 rfl (by kernel_rfl) ?_
  cbv
  refine (clone107 qs).mono (fun v h1 hR => ?_)
  obtain ⟨l1, b1, k1, rfl, q1, -⟩ := hR
  cbv
  refine (concat159 (qL.mono (l1.t _)) hn).mono (fun v h2 hR => ?_)
  obtain ⟨l2, b2, n2, k2, rfl, q2⟩ := hR
  cbv
  refine (own158 q2.sl).mono (fun v h3 hR => ?_)
  obtain ⟨l3, nb, hnb, rfl, o3⟩ := hR
  cbv
  exact ⟨(l1.trans l2).trans l3, _, _, _, _, _, _, rfl, q1.mono ((l2.trans l3).t _), o3.sl q2.sl.len⟩

theorem bare186 (w : Val) (h : Heap) : Ct 186 [.agg #[.int .i64 w.k, .int .i64 w.n, .string w.s]] h (fun v h' => Le h h' ∧ ∃ x : Val, v = .agg #[.int .i64 x.k, .int .i64 x.n, .string x.s] ∧ x = bareV w) := by
  obtain ⟨A, hA⟩ := Ar.ex
  obtain ⟨k, n, s⟩ := w
  generalize e3 : A .icm .eql k 3 = u3
  generalize e1 : A .icm .eql k 1 = u1
  generalize e2 : A .icm .eql k 2 = u2
  have f3 := e3
  have f2 := e2
  have f1 := e1
  rw [icm_eql A] at e1 e2 e3
  refine fn_of_sx A (tabOk T186.plan T186.pub) Tryz.func186 rfl (by kernel_rfl) ?_
  cbv
  rw [f3]
  cases u3 with
  | true =>
    cbv
    exact ⟨Le.refl _, ⟨k, 0, s⟩, rfl, by simp only [bareV, e3]; rfl⟩
  | false =>
    cbv
    rw [f1]
    cases u1 with
    | true =>
      cbv
      exact ⟨Le.refl _, ⟨k, n, ⟨#[]⟩⟩, rfl, by simp only [bareV, e3, e1]; rfl⟩
    | false =>
      cbv
      rw [f2]
      cases u2 with
      | true =>
        cbv
        exact ⟨Le.refl _, ⟨k, n, ⟨#[]⟩⟩, rfl, by simp only [bareV, e3, e1, e2]; rfl⟩
      | false =>
        cbv
        exact ⟨Le.refl _, ⟨k, 0, ⟨#[]⟩⟩, rfl, by simp only [bareV, e3, e1, e2]; rfl⟩

theorem check157 (w : Val) (h : Heap) : Ct 157 [.agg #[.int .i64 w.k, .int .i64 w.n, .string w.s]] h (fun v h' => Le h h' ∧ ∃ z, v = .int .i64 z ∧ z = valErr w) := by
  obtain ⟨A, hA⟩ := Ar.ex
  obtain ⟨k, n, s⟩ := w
  generalize eb : bareV ⟨k, n, s⟩ = bv
  obtain ⟨k', n', s'⟩ := bv
  generalize e1 : A .icm .lss k 0 = u1
  generalize e2 : A .icm .gtr k 3 = u2
  generalize e3 : A .not (A .and (A .icm .eql k k') (A .and (A .icm .eql n n') (A .and (A .scm .eql s s') true))) = u3
  generalize e4 : A .icm .eql k 1 = u4
  generalize e5 : A .icm .neq n 0 = u5
  generalize e6 : A .icm .neq n 1 = u6
  generalize e7 : A .icm .gtr (A .sln s) 60 = u7
  have f1 := e1
  have f2 := e2
  have f3 := e3
  have f4 := e4
  have f5 := e5
  have f6 := e6
  have f7 := e7
  rw [icm_lss A] at e1
  rw [icm_gtr A] at e2
  rw [icm_eql A] at e4
  rw [icm_neq A] at e5 e6
  rw [icm_gtr A, hA.sln] at e7
  rw [hA.not, hA.and, icm_eql A, icm_eql A, scm_eql A] at e3
  have key : ∀ z, z = (if (u1 || u2) = true then (3 : Int) else if (u3 || (u4 && u5 && u6)) = true then 1 else if u7 = true then 5 else 0) → z = valErr ⟨k, n, s⟩ := fun z hz => by
    rw [hz, ← e1, ← e2, ← e3, ← e4, ← e5, ← e6, ← e7]
    simp only [valErr, eb, sameV, Bool.and_true]
  refine fn_of_sx A (tabOk T157.plan T157.pub) Tryz.func157 rfl (by kernel_rfl) ?_
  cbv
  rw [f1]
  cases u1 with
  | true =>
    cbv
    exact ⟨Le.refl _, 3, rfl, key 3 rfl⟩
  | false =>
    cbv
    rw [f2]
    cases u2 with
    | true =>
      cbv
      exact ⟨Le.refl _, 3, rfl, key 3 rfl⟩
    | false =>
      cbv
      refine (bare186 ⟨k, n, s⟩ h).mono (fun v h1 hR => ?_)
      obtain ⟨l1, x, rfl, ex⟩ := hR
      rw [eb] at ex
      subst ex
      cbv
      rw [f3]
      cases u3 with
      | true =>
        cbv
        exact ⟨l1, 1, rfl, key 1 rfl⟩
      | false =>
        cbv
        rw [f4]
        cases u4 with
        | false =>
          cbv
          rw [f7]
          cases u7 with
          | true =>
            cbv
            exact ⟨l1, 5, rfl, key 5 rfl⟩
          | false =>
            cbv
            exact ⟨l1, 0, rfl, key 0 rfl⟩
        | true =>
          cbv
          rw [f5]
          cases u5 with
          | false =>
            cbv
            rw [f7]
            cases u7 with
            | true =>
              cbv
              exact ⟨l1, 5, rfl, key 5 rfl⟩
            | false =>
              cbv
              exact ⟨l1, 0, rfl, key 0 rfl⟩
          | true =>
            cbv
            rw [f6]
            cases u6 with
            | true =>
              cbv
              exact ⟨l1, 1, rfl, key 1 rfl⟩
            | false =>
              cbv
              rw [f7]
              cases u7 with
              | true =>
                cbv
                exact ⟨l1, 5, rfl, key 5 rfl⟩
              | false =>
                cbv
                exact ⟨l1, 0, rfl, key 0 rfl⟩
end Go.S

set_option maxRecDepth 100000
set_option linter.unusedVariables false
set_option linter.unusedSimpArgs false
namespace Go.S
open Go.Sx Go.Proofs

theorem BsR.at_ {l : List Int} {z : Int} {t : Bool} (q : BsR l z t) : IsN z (bsI l) ∧ t = bsB l := by
  obtain ⟨i, h1, h2, h3⟩ := q.out
  subst h2
  exact ⟨h1, h3⟩

def fitErr1 (c : Col) (v : Val) : Int := if decide (valErr v ≠ 0) = true then valErr v else if (decide (v.k = 0) && !c.null) = true then 13 else if (decide (v.k ≠ 0) && decide (v.k ≠ c.kind)) = true then 3 else 0
def fitsErr (cols : List Col) (r : Row) : Int := if decide ((r.length : Int) ≠ (cols.length : Int)) = true then 1 else firstNZ (List.zipWith fitErr1 cols r)
def rowCmps (t : Tbl) (k : Val) : List Int := t.rows.map fun r => valCmp (keyOf t.S.key r) k
def tblIns (t : Tbl) (i : Nat) (r : Row) : Tbl := ⟨t.S, t.rows.take i ++ [r] ++ t.rows.drop i⟩
def tblDel (t : Tbl) (i : Nat) : Tbl := ⟨t.S, t.rows.take i ++ t.rows.drop (i + 1)⟩
def tblPut (t : Tbl) (r : Row) : Tbl × Int :=
  if decide (fitsErr t.S.cols r ≠ 0) = true then (t, fitsErr t.S.cols r)
  else if bsB (rowCmps t (keyOf t.S.key r)) = true then (t, 7)
  else if decide ((t.rows.length : Int) ≥ 200) = true then (t, 4)
  else (tblIns t (bsI (rowCmps t (keyOf t.S.key r))) r, 0)
def tblTake (t : Tbl) (k : Val) : Tbl × Row × Int :=
  if bsB (rowCmps t k) = true then (tblDel t (bsI (rowCmps t k)), (t.rows[bsI (rowCmps t k)]?).getD [], 0) else (t, [], 2)

theorem fits118 {nm : ByteArray} {cols : List Col} {key : Int} {only : Bool} {r : Row} {h : Heap} {sb b : Option Addr} {sn sc n c : Nat} (qs : Sl 104 shCol h (.slice sb sn sc) cols) (q : Sl 68 shVal h (.slice b n c) r) :
    Ct 118 [.agg #[.string nm, .slice sb sn sc, .int .i64 key, .bool only], .slice b n c] h (fun v h' => Le h h' ∧ ∃ z, v = .int .i64 z ∧ z = fitsErr cols r) := by
  obtain ⟨A, hA⟩ := Ar.ex
  have hlen := q.len
  have hls := qs.len
  obtain ⟨hb1, hb2⟩ := q.bound
  generalize e1 : A .icm .neq (A .nat n) (A .nat sn) = u1
  have f1 := e1
  rw [icm_neq A, hA.nat] at e1
  simp only [Int.ofNat_eq_natCast] at e1
  rw [hlen, hls] at e1
  have hsn0 : u1 = false → n = sn := fun e => by rw [e] at e1; have := Decidable.not_not.1 (of_decide_eq_false e1); omega
  refine fn_of_sx A (tabOk T118.plan T118.pub) Tryz.func118 rfl (by kernel_rfl) ?_
  cbv
  rw [f1]
  cases u1 with
  | true =>
    cbv
    exact ⟨Le.refl _, 1, rfl, by simp only [fitsErr, e1]; rfl⟩
  | false =>
    have hsn := hsn0 rfl
    cbv
    refine LoopX.go (G := Int) (fun z => [(17, .v (.int .i64 z))]) (fun _ => [(2, [.string nm, .slice sb sn sc, .int .i64 key, .bool only])])
      (fun k z h' => ∃ i : Nat, IsN z i ∧ k = n - i ∧ i ≤ n ∧ Le h h' ∧ ∀ j, j < i → ∀ y, (List.zipWith fitErr1 cols r)[j]? = some y → y = 0) n 0 ⟨?_, ?_, ?_⟩ ⟨0, ⟨rfl⟩, by omega, by omega, Le.refl _, fun j hj => (by omega)⟩ ?_
    · cbv
    · cbv
    · cbv
    · intro k z h' hI
      cbv
      obtain ⟨i, hz, hk, hi, hle, hall⟩ := hI
      refine bsel_mk (fun hc => ?_) (fun hc => ?_)
      · have hlt := hz.lt hc
        clear hc
        cbv
        obtain ⟨x, hx⟩ := get_ex (xs := r) (i := i) (by omega)
        obtain ⟨y, hy⟩ := get_ex (xs := cols) (i := i) (by omega)
        have hzip : (List.zipWith fitErr1 cols r)[i]? = some (fitErr1 y x) := by rw [List.getElem?_zipWith, hx, hy]
        have hdr : (List.zipWith fitErr1 cols r).drop i = fitErr1 y x :: (List.zipWith fitErr1 cols r).drop (i + 1) := by
          have hl := (List.getElem?_eq_some_iff.1 hzip)
          rw [List.drop_eq_getElem_cons hl.1, hl.2]
        have hf : fitsErr cols r = firstNZ ((List.zipWith fitErr1 cols r).drop i) := by
          rw [← firstNZ_take hall]; simp only [fitsErr, e1]; rfl
        have bad : ∀ {hh : Heap} (w : Int), Le h hh → w = fitErr1 y x → w ≠ 0 → Le h hh ∧ ∃ z, Value.int .i64 w = .int .i64 z ∧ z = fitsErr cols r := fun w l ew hw => by
          refine ⟨l, w, rfl, ?_⟩
          rw [hf, hdr, ← ew]; simp only [firstNZ]; rw [if_pos (decide_eq_true hw)]
        have good : ∀ (h2 : Heap), Le h h2 → fitErr1 y x = 0 → ∃ j : Nat, IsN (A .ari .add .i64 z 1) j ∧ n - (i + 1) = n - j ∧ j ≤ n ∧ Le h h2 ∧ ∀ j', j' < j → ∀ w, (List.zipWith fitErr1 cols r)[j']? = some w → w = 0 := fun h2 l e0 =>
          ⟨i + 1, hz.succ (A := A) (by omega), rfl, by omega, l, fun j hj w hw => by
            rcases Nat.lt_or_ge j i with hji | hji
            · exact hall j hji w hw
            · have : j = i := by omega
              subst this
              rw [hzip] at hw; cases hw; exact e0⟩
        refine ⟨⟨q.isSm (by omega), hz.ix hlt⟩, ?_⟩
        cbv
        refine (q.mono (hle.t _)).load hx hz.eq (fun cs hcs => ?_)
        have hcs : cs = [.int .i64 x.k, .int .i64 x.n, .string x.s] := hcs
        subst hcs
        cbv
        refine ⟨⟨qs.isSm (by omega), hz.ix (by omega)⟩, ?_⟩
        cbv
        refine (qs.mono (hle.t _)).load hy hz.eq (fun cs hcs => ?_)
        have hcs : cs = [.string y.name, .int .i64 y.kind, .bool y.null] := hcs
        subst hcs
        cbv
        refine (check157 x h').mono (fun v h2 hR => ?_)
        obtain ⟨l2, ev, rfl, hev⟩ := hR
        have lh2 := hle.trans l2
        obtain ⟨nm2, kd, nl⟩ := y
        generalize g1 : A .icm .neq ev 0 = w1
        generalize g2 : A .icm .eql x.k 0 = w2
        generalize g3 : A .icm .neq x.k 0 = w3
        generalize g4 : A .icm .neq x.k kd = w4
        generalize g5 : A .not nl = w5
        have k1 := g1
        have k2 := g2
        have k3 := g3
        have k4 := g4
        have k5 := g5
        rw [icm_neq A] at g1 g3 g4
        rw [icm_eql A] at g2
        rw [hA.not] at g5
        have key : fitErr1 ⟨nm2, kd, nl⟩ x = if w1 = true then ev else if (w2 && w5) = true then 13 else if (w3 && w4) = true then 3 else 0 := by
          rw [← g1, ← g2, ← g3, ← g4, ← g5, hev]; rfl
        have hw0 : w1 = true → ev ≠ 0 := fun e => by rw [e] at g1; exact of_decide_eq_true g1
        cbv
        rw [k1]
        cases w1 with
        | true =>
          cbv
          exact bad ev lh2 key.symm (hw0 rfl)
        | false =>
          cbv
          rw [k2]
          cases w2 with
          | true =>
            have hw3 : w3 = false := by
              rw [← g3]; have := of_decide_eq_true g2; exact decide_eq_false (by omega)
            subst hw3
            cbv
            rw [k5]
            cases w5 with
            | true =>
              cbv
              exact bad 13 lh2 key.symm (by omega)
            | false =>
              have g := good h2 lh2 key
              cbv
              rw [k3]
              cbv
              refine ⟨n - (i + 1), _, by omega, ⟨?_, ?_, ?_⟩, g⟩
              · cbv
              · cbv
              · cbv
          | false =>
            cbv
            rw [k3]
            cases w3 with
            | true =>
              cbv
              rw [k4]
              cases w4 with
              | true =>
                cbv
                exact bad 3 lh2 key.symm (by omega)
              | false =>
                have g := good h2 lh2 key
                cbv
                refine ⟨n - (i + 1), _, by omega, ⟨?_, ?_, ?_⟩, g⟩
                · cbv
                · cbv
                · cbv
            | false =>
              have g := good h2 lh2 key
              cbv
              refine ⟨n - (i + 1), _, by omega, ⟨?_, ?_, ?_⟩, g⟩
              · cbv
              · cbv
              · cbv
      · have hge := hz.ge hc
        have hf := firstNZ_take hall
        rw [List.drop_eq_nil_of_le (by rw [List.length_zipWith]; omega)] at hf
        cbv
        refine ⟨hle, 0, rfl, ?_⟩
        simp only [fitsErr, e1, hf]; rfl
end Go.S

set_option maxRecDepth 100000
set_option linter.unusedVariables false
set_option linter.unusedSimpArgs false
namespace Go.S
open Go.Sx Go.Proofs

theorem row_sl {r : Row} {h : Heap} {b : Option Addr} {n c : Nat} (q : Sl 68 shVal h (.slice b n c) r) : shRow.R h [.slice b n c] r := ⟨_, rfl, q⟩
theorem rows_sl {L : List Row} {h : Heap} {b : Option Addr} {n c : Nat} (q : Sl 63 shRow h (.slice b n c) L) : (shSl 63 shRow).R h [.slice b n c] L := ⟨_, rfl, q⟩

theorem put56 {nm : ByteArray} {cols : List Col} {key : Int} {only : Bool} {rows : List Row} {r : Row} {h : Heap} {sb b4 b : Option Addr} {sn sc n4 c4 n c : Nat} (qs : Sl 104 shCol h (.slice sb sn sc) cols) (q4 : Sl 63 shRow h (.slice b4 n4 c4) rows) (q : Sl 68 shVal h (.slice b n c) r) (hn : n4 ≤ 2 ^ 37) :
    Ct 56 [.agg #[.string nm, .slice sb sn sc, .int .i64 key, .bool only, .slice b4 n4 c4], .slice b n c] h (fun v h' => Le h h' ∧ ∃ b1 n1 k1 b2 n2 k2 e T, v = .tuple #[.agg #[.string nm, .slice b1 n1 k1, .int .i64 key, .bool only, .slice b2 n2 k2], .int .i64 e] ∧
      Sl 104 shCol h' (.slice b1 n1 k1) cols ∧ Sl 63 shRow h' (.slice b2 n2 k2) T ∧ (⟨⟨⟨nm, cols, key, only⟩, T⟩, e⟩ : Tbl × Int) = tblPut ⟨⟨nm, cols, key, only⟩, rows⟩ r) := by
  obtain ⟨A, hA⟩ := Ar.ex
  have h4 := q4.len
  refine fn_of_sx A (tabOk T56.plan T56.pub) Tryz.func56 rfl (by kernel_rfl) ?_
  cbv
  refine (fits118 (nm := nm) (key := key) (only := only) qs q).mono (fun v h1 hR => ?_)
  obtain ⟨l1, z, rfl, ez⟩ := hR
  have key1 : tblPut ⟨⟨nm, cols, key, only⟩, rows⟩ r = if decide (z ≠ 0) = true then (⟨⟨nm, cols, key, only⟩, rows⟩, z) else if bsB (rowCmps ⟨⟨nm, cols, key, only⟩, rows⟩ (keyOf key r)) = true then (⟨⟨nm, cols, key, only⟩, rows⟩, 7)
      else if decide ((rows.length : Int) ≥ 200) = true then (⟨⟨nm, cols, key, only⟩, rows⟩, 4) else (tblIns ⟨⟨nm, cols, key, only⟩, rows⟩ (bsI (rowCmps ⟨⟨nm, cols, key, only⟩, rows⟩ (keyOf key r))) r, 0) := by rw [ez]; rfl
  generalize g1 : A .icm .neq z 0 = w1
  have k1 := g1
  rw [icm_neq A] at g1
  rw [g1] at key1
  have all : ([rows] : List (List Row)).flatten = rows := by simp
  cbv
  rw [k1]
  cases w1 with
  | true =>
    cbv
    intro nb h2 hnb e2
    have l2 : Le h1 h2 := by rw [e2]; exact Le.set hnb
    have g2 := (congrFun e2 nb).trans hset_self
    have l12 := l1.trans l2
    cbv
    refine (with119 (qs.mono (l12.t _)) (one_sl (s := shSl 63 shRow) g2 (rows_sl (q4.mono (l12.t _)))) (by rw [all]; omega)).mono (fun v h3 hR => ?_)
    obtain ⟨l3, b1, n1, k1, b2, n2, k2, rfl, r1, r2⟩ := hR
    rw [all] at r2
    cbv
    exact ⟨l12.trans l3, _, _, _, _, _, _, z, rows, rfl, r1, r2, key1.symm⟩
  | false =>
    cbv
    refine (key121 (q.mono (l1.t _))).mono (fun v h2 hR => ?_)
    obtain ⟨l2, kr, rfl, ekr⟩ := hR
    have l12 := l1.trans l2
    cbv
    refine (find120 (q4.mono (l12.t _)) kr).mono (fun v h3 hR => ?_)
    obtain ⟨l3, zi, t, rfl, hb⟩ := hR
    have l13 := l12.trans l3
    obtain ⟨hzi, ht⟩ := hb.at_
    rw [← ekr] at key1
    have ht : t = bsB (rowCmps ⟨⟨nm, cols, key, only⟩, rows⟩ kr) := ht
    have hzi : IsN zi (bsI (rowCmps ⟨⟨nm, cols, key, only⟩, rows⟩ kr)) := hzi
    have hile : bsI (rowCmps ⟨⟨nm, cols, key, only⟩, rows⟩ kr) ≤ n4 := by
      have := bsI_le (rowCmps ⟨⟨nm, cols, key, only⟩, rows⟩ kr)
      rw [h4]; simpa [rowCmps] using this
    rw [← ht] at key1
    generalize bsI (rowCmps ⟨⟨nm, cols, key, only⟩, rows⟩ kr) = i at *
    generalize g2 : A .icm .geq (A .nat n4) 200 = w2
    have k2 := g2
    rw [icm_geq A, hA.nat] at g2
    simp only [Int.ofNat_eq_natCast] at g2
    rw [h4] at g2
    rw [g2] at key1
    cases t with
    | true =>
      cbv
      intro nb h4 hnb e4
      have l4 : Le h3 h4 := by rw [e4]; exact Le.set hnb
      have g4 := (congrFun e4 nb).trans hset_self
      have l14 := l13.trans l4
      cbv
      refine (with119 (qs.mono (l14.t _)) (one_sl (s := shSl 63 shRow) g4 (rows_sl (q4.mono (l14.t _)))) (by rw [all]; omega)).mono (fun v h5 hR => ?_)
      obtain ⟨l5, b1, n1, k1, b2, n2, k2, rfl, r1, r2⟩ := hR
      rw [all] at r2
      cbv
      exact ⟨l14.trans l5, _, _, _, _, _, _, 7, rows, rfl, r1, r2, key1.symm⟩
    | false =>
      cbv
      rw [k2]
      cases w2 with
      | true =>
        cbv
        intro nb h4 hnb e4
        have l4 : Le h3 h4 := by rw [e4]; exact Le.set hnb
        have g4 := (congrFun e4 nb).trans hset_self
        have l14 := l13.trans l4
        cbv
        refine (with119 (qs.mono (l14.t _)) (one_sl (s := shSl 63 shRow) g4 (rows_sl (q4.mono (l14.t _)))) (by rw [all]; omega)).mono (fun v h5 hR => ?_)
        obtain ⟨l5, b1, n1, k1, b2, n2, k2, rfl, r1, r2⟩ := hR
        rw [all] at r2
        cbv
        exact ⟨l14.trans l5, _, _, _, _, _, _, 4, rows, rfl, r1, r2, key1.symm⟩
      | false =>
        have hbd := q4.bound
        have hck : 0 ≤ zi ∧ zi ≤ (c4 : Int) ∧ 0 ≤ zi ∧ zi ≤ zi := by have := hzi.eq; omega
        have hck2 : 0 ≤ zi ∧ zi ≤ (n4 : Int) := by have := hzi.eq; omega
        have all3 : ([rows.take i, [r], rows.drop i] : List (List Row)).flatten = rows.take i ++ [r] ++ rows.drop i := by simp
        have hl3 : (rows.take i ++ [r] ++ rows.drop i).length ≤ 2 ^ 38 := by simp; omega
        cbv
        refine ⟨hck, ?_⟩
        cbv
        refine ⟨hck2, ?_⟩
        cbv
        intro nb h4 hnb e4
        have l4 : Le h3 h4 := by rw [e4]; exact Le.set hnb
        have g4 := (congrFun e4 nb).trans hset_self
        have l14 := l13.trans l4
        cbv
        intro nb5 h5 hnb5 e5
        have l5 : Le h4 h5 := by rw [e5]; exact Le.set hnb5
        have g5 := (congrFun e5 nb5).trans hset_self
        have l15 := l14.trans l5
        have q45 := q4.mono (l15.t _)
        have p1 := rows_sl (q45.takeM (A := A) (s := shRow) (z := zi) hile (dif_z0 (A := A) hzi) (dif_z0 (A := A) hzi))
        have p2 := rows_sl (one_sl (s := shRow) (l5 _ _ g4) (row_sl (q.mono (l15.t _))))
        have p3 := rows_sl (q45.dropX (A := A) (s := shRow) hzi hile (dif_nz (A := A) hzi) (dif_nz (A := A) hzi))
        cbv
        refine (with119 (qs.mono (l15.t _)) (three_sl (s := shSl 63 shRow) rfl g5 p1 p2 p3) (by rw [all3]; exact hl3)).mono (fun v h6 hR => ?_)
        obtain ⟨l6, b1, n1, k1, b2, n2, k2, rfl, r1, r2⟩ := hR
        rw [all3] at r2
        cbv
        exact ⟨l15.trans l6, _, _, _, _, _, _, 0, _, rfl, r1, r2, key1.symm⟩
end Go.S

set_option maxRecDepth 100000
set_option linter.unusedVariables false
set_option linter.unusedSimpArgs false
namespace Go.S
open Go.Sx Go.Proofs

theorem take60 {nm : ByteArray} {cols : List Col} {key : Int} {only : Bool} {rows : List Row} {h : Heap} {sb b4 : Option Addr} {sn sc n4 c4 : Nat} (qs : Sl 104 shCol h (.slice sb sn sc) cols) (q4 : Sl 63 shRow h (.slice b4 n4 c4) rows) (hn : n4 ≤ 2 ^ 37) (kv : Val) :
    Ct 60 [.agg #[.string nm, .slice sb sn sc, .int .i64 key, .bool only, .slice b4 n4 c4], .agg #[.int .i64 kv.k, .int .i64 kv.n, .string kv.s]] h (fun v h' => Le h h' ∧ ∃ b1 n1 k1 b2 n2 k2 b3 n3 k3 e T R, v = .tuple #[.agg #[.string nm, .slice b1 n1 k1, .int .i64 key, .bool only, .slice b2 n2 k2], .slice b3 n3 k3, .int .i64 e] ∧
      Sl 104 shCol h' (.slice b1 n1 k1) cols ∧ Sl 63 shRow h' (.slice b2 n2 k2) T ∧ Sl 68 shVal h' (.slice b3 n3 k3) R ∧ (⟨⟨⟨nm, cols, key, only⟩, T⟩, R, e⟩ : Tbl × Row × Int) = tblTake ⟨⟨nm, cols, key, only⟩, rows⟩ kv) := by
  obtain ⟨A, hA⟩ := Ar.ex
  have h4 := q4.len
  have all : ([rows] : List (List Row)).flatten = rows := by simp
  refine fn_of_sx A (tabOk T60.plan T60.pub) Tryz.func60 rfl (by kernel_rfl) ?_
  cbv
  refine (find120 q4 kv).mono (fun v h1 hR => ?_)
  obtain ⟨l1, zi, t, rfl, hb⟩ := hR
  obtain ⟨hzi, ht⟩ := hb.at_
  have key1 : tblTake ⟨⟨nm, cols, key, only⟩, rows⟩ kv = if bsB (rowCmps ⟨⟨nm, cols, key, only⟩, rows⟩ kv) = true then (tblDel ⟨⟨nm, cols, key, only⟩, rows⟩ (bsI (rowCmps ⟨⟨nm, cols, key, only⟩, rows⟩ kv)), (rows[bsI (rowCmps ⟨⟨nm, cols, key, only⟩, rows⟩ kv)]?).getD [], 0) else (⟨⟨nm, cols, key, only⟩, rows⟩, [], 2) := rfl
  have ht : t = bsB (rowCmps ⟨⟨nm, cols, key, only⟩, rows⟩ kv) := ht
  have hzi : IsN zi (bsI (rowCmps ⟨⟨nm, cols, key, only⟩, rows⟩ kv)) := hzi
  have hlt : t = true → bsI (rowCmps ⟨⟨nm, cols, key, only⟩, rows⟩ kv) < n4 := fun e => by
    have := bsB_lt (ht.symm.trans e)
    rw [h4]; simpa [rowCmps] using this
  rw [← ht] at key1
  generalize bsI (rowCmps ⟨⟨nm, cols, key, only⟩, rows⟩ kv) = i at *
  cases t with
  | false =>
    have hnot : A .not false = true := by rw [hA.not]; rfl
    cbv
    rw [hnot]
    cbv
    intro nb h4 hnb e4
    have l4 : Le h1 h4 := by rw [e4]; exact Le.set hnb
    have g4 := (congrFun e4 nb).trans hset_self
    have l14 := l1.trans l4
    cbv
    refine (with119 (qs.mono (l14.t _)) (one_sl (s := shSl 63 shRow) g4 (rows_sl (q4.mono (l14.t _)))) (by rw [all]; omega)).mono (fun v h5 hR => ?_)
    obtain ⟨l5, b1, n1, k1, b2, n2, k2, rfl, r1, r2⟩ := hR
    rw [all] at r2
    cbv
    exact ⟨l14.trans l5, _, _, _, _, _, _, _, _, _, 2, rows, [], rfl, r1, r2, Sl.nil, key1.symm⟩
  | true =>
    have hlt := hlt rfl
    have hnot : A .not true = false := by rw [hA.not]; rfl
    have hbd := q4.bound
    have hz1 := hzi.succ (A := A) (by omega)
    have hck : 0 ≤ zi ∧ zi ≤ (c4 : Int) ∧ 0 ≤ zi ∧ zi ≤ zi := by have := hzi.eq; omega
    have hck2 : 0 ≤ A .ari .add .i64 zi 1 ∧ A .ari .add .i64 zi 1 ≤ (n4 : Int) := by have := hz1.eq; omega
    have all3 : ([rows.take i, rows.drop (i + 1)] : List (List Row)).flatten = rows.take i ++ rows.drop (i + 1) := by simp
    have hl3 : (rows.take i ++ rows.drop (i + 1)).length ≤ 2 ^ 38 := by simp; omega
    obtain ⟨x, hx⟩ := get_ex (xs := rows) (i := i) (by omega)
    have hck4 : b4.isSome = true ∧ 0 ≤ zi ∧ zi < (n4 : Int) := ⟨q4.isSm (by omega), hzi.ix hlt⟩
    cbv
    rw [hnot]
    cbv
    refine ⟨hck, ?_⟩
    cbv
    refine ⟨hck2, ?_⟩
    cbv
    refine ⟨hck4, ?_⟩
    cbv
    refine (q4.mono (l1.t _)).loadP hx hzi.eq (fun cs hcs again => ?_)
    obtain ⟨vx, rfl, hvx⟩ := hcs
    obtain ⟨bx, lx, cx, rfl⟩ := hvx.form
    cbv
    intro nb5 h5 hnb5 e5
    have l5 : Le h1 h5 := by rw [e5]; exact Le.set hnb5
    have g5 := (congrFun e5 nb5).trans hset_self
    have l15 := l1.trans l5
    have q45 := q4.mono (l15.t _)
    have p1 := rows_sl (q45.takeM (A := A) (s := shRow) (z := zi) (Nat.le_of_lt hlt) (dif_z0 (A := A) hzi) (dif_z0 (A := A) hzi))
    have p3 := rows_sl (q45.dropX (A := A) (s := shRow) hz1 hlt (dif_nz (A := A) hz1) (dif_nz (A := A) hz1))
    cbv
    refine again _ _ l5 ?_
    cbv
    refine ⟨⟨_, rfl, rfl⟩, ?_⟩
    cbv
    refine (with119 (qs.mono (l15.t _)) (two_sl (s := shSl 63 shRow) rfl g5 p1 p3) (by rw [all3]; exact hl3)).mono (fun v h6 hR => ?_)
    obtain ⟨l6, b1, n1, k1, b2, n2, k2, rfl, r1, r2⟩ := hR
    rw [all3] at r2
    cbv
    refine again _ _ (l5.trans l6) ?_
    cbv
    refine ⟨⟨_, rfl, rfl⟩, ?_⟩
    cbv
    refine (clone122 (hvx.mono ((l5.trans l6).t _))).mono (fun v h7 hR => ?_)
    obtain ⟨l7, b3, k3, rfl, r3, -⟩ := hR
    cbv
    rw [hx] at key1
    exact ⟨(l15.trans l6).trans l7, _, _, _, _, _, _, _, _, _, 0, _, _, rfl, r1.mono (l7.t _), r2.mono (l7.t _), r3, key1.symm⟩
end Go.S

set_option maxRecDepth 100000
set_option linter.unusedVariables false
set_option linter.unusedSimpArgs false
namespace Go.S
open Go.Sx Go.Proofs

theorem idxFind {α : Type} {xs : List α} {p : α → Bool} {z : Int} (q : IdxR xs p z) : (z = -1 ∧ xs.findIdx? p = none) ∨ ∃ i x, IsN z i ∧ xs.findIdx? p = some i ∧ xs[i]? = some x ∧ p x = true := by
  rcases q.out with ⟨h1, h2⟩ | ⟨i, x, h1, h2, h3, h4⟩
  · exact .inl ⟨h1, List.findIdx?_eq_none_iff.2 h2⟩
  · refine .inr ⟨i, x, h1, ?_, h2, h3⟩
    obtain ⟨hl1, hl2⟩ := List.getElem?_eq_some_iff.1 h2
    rw [List.findIdx?_eq_some_iff_getElem]
    refine ⟨hl1, by rw [hl2]; exact h3, fun j hj => ?_⟩
    have hjl : j < xs.length := by omega
    have := h4 j hj xs[j] (by simp [hjl])
    simp [this]

def sameH (a b : Hld) : Bool := decide (a.s = b.s) && (decide (a.table = b.table) && decide (a.x = b.x))
def mineI (H : List Hld) (hd : Hld) : Option Nat := H.findIdx? (mineP hd)
def askHas (H : List Hld) (hd : Hld) : Bool := match mineI H hd with
  | some i => (H[i]?).any fun o => o.x || sameH o hd
  | none => false
def askFree (H : List Hld) (hd : Hld) : Bool := askHas H hd || !(H.any (agst hd))
def askH (H : List Hld) (hd : Hld) : List Hld :=
  if askFree H hd = true then if askHas H hd = true then H else match mineI H hd with
    | some i => H.set i hd
    | none => H ++ [hd]
  else H
def askW (H W : List Hld) (hd : Hld) : List Hld := if askFree H hd = true then wout W hd.s else wout W hd.s ++ [hd]

theorem hld_sl {L : List Hld} {h : Heap} {b : Option Addr} {n c : Nat} (q : Sl 188 shHld h (.slice b n c) L) : (shSl 188 shHld).R h [.slice b n c] L := ⟨_, rfl, q⟩

theorem free124 {H W : List Hld} {h : Heap} {b1 b2 : Option Addr} {n1 c1 n2 c2 : Nat} (q1 : Sl 188 shHld h (.slice b1 n1 c1) H) (q2 : Sl 188 shHld h (.slice b2 n2 c2) W) (hn1 : n1 ≤ 2 ^ 38) (hn2 : n2 ≤ 2 ^ 38) (s : Int) :
    Ct 124 [.agg #[.slice b1 n1 c1, .slice b2 n2 c2], .int .i64 s] h (fun v h' => Le h h' ∧ ∃ b1 n1 c1 b2 n2 c2, v = .agg #[.slice b1 n1 c1, .slice b2 n2 c2] ∧ Sl 188 shHld h' (.slice b1 n1 c1) (wout H s) ∧ Sl 188 shHld h' (.slice b2 n2 c2) (wout W s)) := by
  obtain ⟨A, hA⟩ := Ar.ex
  refine fn_of_sx A (tabOk T124.plan T124.pub) Tryz.func124 rfl (by kernel_rfl) ?_
  cbv
  refine (without153 q1 hn1 s).mono (fun v h1 hR => ?_)
  obtain ⟨l1, b1', n1', c1', rfl, r1⟩ := hR
  cbv
  refine (without153 (q2.mono (l1.t _)) hn2 s).mono (fun v h2 hR => ?_)
  obtain ⟨l2, b2', n2', c2', rfl, r2⟩ := hR
  cbv
  exact ⟨l1.trans l2, _, _, _, _, _, _, rfl, r1.sl.mono (l2.t _), r2.sl⟩

theorem ask116 {H W : List Hld} {h : Heap} {b1 b2 : Option Addr} {n1 c1 n2 c2 : Nat} (q1 : Sl 188 shHld h (.slice b1 n1 c1) H) (q2 : Sl 188 shHld h (.slice b2 n2 c2) W) (hn1 : n1 ≤ 2 ^ 37) (hn2 : n2 ≤ 2 ^ 37) (hd : Hld) :
    Ct 116 [.agg #[.slice b1 n1 c1, .slice b2 n2 c2], .agg #[.int .i64 hd.s, .string hd.table, .bool hd.x]] h (fun v h' => Le h h' ∧ ∃ b1 n1 c1 b2 n2 c2 t, v = .tuple #[.agg #[.slice b1 n1 c1, .slice b2 n2 c2], .bool t] ∧ Sl 188 shHld h' (.slice b1 n1 c1) (askH H hd) ∧ Sl 188 shHld h' (.slice b2 n2 c2) (askW H W hd) ∧ t = askFree H hd) := by
  obtain ⟨A, hA⟩ := Ar.ex
  obtain ⟨hs, ht, hx⟩ := hd
  refine fn_of_sx A (tabOk T116.plan T116.pub) Tryz.func116 rfl (by kernel_rfl) ?_
  cbv
  refine (mine150 q1 ⟨hs, ht, hx⟩).mono (fun v h1 hR => ?_)
  obtain ⟨l1, z, rfl, hz⟩ := hR
  have hnot : A .not true = false := by rw [hA.not]; rfl
  have hnot2 : A .not false = true := by rw [hA.not]; rfl
  rcases (idxFind hz) with ⟨rfl, hf⟩ | ⟨i, o, hz1, hf, ho, hp⟩
  · have hge : A .icm .geq (-1) 0 = false := by rw [icm_geq A]; rfl
    have kH : askHas H ⟨hs, ht, hx⟩ = false := by unfold askHas mineI; rw [hf]
    cbv
    rw [hge]
    cbv
    refine (contains151 (q1.mono (l1.t _)) ⟨hs, ht, hx⟩).mono (fun v h2 hR => ?_)
    obtain ⟨l2, tc, rfl, etc⟩ := hR
    have l12 := l1.trans l2
    have kF : askFree H ⟨hs, ht, hx⟩ = !tc := by unfold askFree; rw [kH, etc]; rfl
    cases tc with
    | true =>
      have keyF : askFree H ⟨hs, ht, hx⟩ = false := kF
      have keyH : askH H ⟨hs, ht, hx⟩ = H := by unfold askH; rw [keyF]; rfl
      have keyW : askW H W ⟨hs, ht, hx⟩ = wout W hs ++ [⟨hs, ht, hx⟩] := by unfold askW; rw [keyF]; rfl
      cbv
      rw [hnot]
      cbv
      refine (cloneB104 (q1.mono (l12.t _))).mono (fun v h3 hR => ?_)
      obtain ⟨l3, bc, cc, rfl, hbc⟩ := hR
      cbv
      refine (without153 (q2.mono ((l12.trans l3).t _)) (by omega) hs).mono (fun v h4 hR => ?_)
      obtain ⟨l4, bw, nw, cw, rfl, hbw⟩ := hR
      have l14 := (l12.trans l3).trans l4
      have hbc4 := hbc.mono (l4.t _)
      cbv
      rw [hnot2]
      cbv
      intro nb5 h5 hnb5 e5
      have l5 : Le h4 h5 := by rw [e5]; exact Le.set hnb5
      have g5 := (congrFun e5 nb5).trans hset_self
      cbv
      intro nb6 h6 hnb6 e6
      have l6 : Le h5 h6 := by rw [e6]; exact Le.set hnb6
      have g6 := (congrFun e6 nb6).trans hset_self
      have allw : ([wout W hs, [⟨hs, ht, hx⟩]] : List (List Hld)).flatten = wout W hs ++ [⟨hs, ht, hx⟩] := by simp
      have hll : (wout W hs ++ [(⟨hs, ht, hx⟩ : Hld)]).length ≤ 2 ^ 38 := by
        have h1 : (wout W hs).length ≤ W.length := List.length_filter_le _ _
        have h2 := q2.len
        simp only [List.length_append, List.length_singleton]; omega
      cbv
      refine (concat154 (two_sl (s := shSl 188 shHld) rfl g6 (hld_sl (hbw.sl.mono ((l5.trans l6).t _))) (hld_sl (one_sl (s := shHld) (l6 _ _ g5) (x := ⟨hs, ht, hx⟩) rfl))) (by rw [allw]; exact hll)).mono (fun v h7 hR => ?_)
      obtain ⟨l7, b7, n7, c7, rfl, hb7⟩ := hR
      rw [allw] at hb7
      have l47 := (l5.trans l6).trans l7
      cbv
      exact ⟨l14.trans l47, _, _, _, _, _, _, false, rfl, by rw [keyH]; exact hbc4.sl.mono (l47.t _), by rw [keyW]; exact hb7.sl, keyF.symm⟩
    | false =>
      have keyF : askFree H ⟨hs, ht, hx⟩ = true := kF
      have keyH : askH H ⟨hs, ht, hx⟩ = H ++ [⟨hs, ht, hx⟩] := by unfold askH; rw [keyF, kH]; unfold mineI; rw [hf]; rfl
      have keyW : askW H W ⟨hs, ht, hx⟩ = wout W hs := by unfold askW; rw [keyF]; rfl
      cbv
      rw [hnot2]
      cbv
      refine (cloneB104 (q1.mono (l12.t _))).mono (fun v h3 hR => ?_)
      obtain ⟨l3, bc, cc, rfl, hbc⟩ := hR
      cbv
      refine (without153 (q2.mono ((l12.trans l3).t _)) (by omega) hs).mono (fun v h4 hR => ?_)
      obtain ⟨l4, bw, nw, cw, rfl, hbw⟩ := hR
      have l14 := (l12.trans l3).trans l4
      have hbc4 := hbc.mono (l4.t _)
      cbv
      rw [hnot]
      cbv
      rw [hge]
      cbv
      intro nb5 h5 hnb5 e5
      have l5 : Le h4 h5 := by rw [e5]; exact Le.set hnb5
      have g5 := (congrFun e5 nb5).trans hset_self
      cbv
      intro nb6 h6 hnb6 e6
      have l6 : Le h5 h6 := by rw [e6]; exact Le.set hnb6
      have g6 := (congrFun e6 nb6).trans hset_self
      have allw : ([H, [⟨hs, ht, hx⟩]] : List (List Hld)).flatten = H ++ [⟨hs, ht, hx⟩] := by simp
      have hll : (H ++ [(⟨hs, ht, hx⟩ : Hld)]).length ≤ 2 ^ 38 := by
        have h2 := q1.len
        simp only [List.length_append, List.length_singleton]; omega
      cbv
      refine (concat154 (two_sl (s := shSl 188 shHld) rfl g6 (hld_sl (hbc4.sl.mono ((l5.trans l6).t _))) (hld_sl (one_sl (s := shHld) (l6 _ _ g5) (x := ⟨hs, ht, hx⟩) rfl))) (by rw [allw]; exact hll)).mono (fun v h7 hR => ?_)
      obtain ⟨l7, b7, n7, c7, rfl, hb7⟩ := hR
      rw [allw] at hb7
      have l47 := (l5.trans l6).trans l7
      cbv
      exact ⟨l14.trans l47, _, _, _, _, _, _, true, rfl, by rw [keyH]; exact hb7.sl, by rw [keyW]; exact hbw.sl.mono (l47.t _), keyF.symm⟩
  · have hge : A .icm .geq z 0 = true := by rw [icm_geq A]; have := hz1.eq; exact decide_eq_true (by omega)
    have hi1 : i < n1 := by have := (List.getElem?_eq_some_iff.1 ho).1; rw [q1.len]; exact this
    have hck : b1.isSome = true ∧ 0 ≤ z ∧ z < (n1 : Int) := ⟨q1.isSm (by omega), hz1.ix hi1⟩
    have kH : askHas H ⟨hs, ht, hx⟩ = (o.x || sameH o ⟨hs, ht, hx⟩) := by unfold askHas mineI; rw [hf]; simp only [ho]; rfl
    obtain ⟨os, ot, ox⟩ := o
    cbv
    rw [hge]
    cbv
    refine ⟨hck, ?_⟩
    cbv
    refine (q1.mono (l1.t _)).loadF ho hz1.eq (o := 2) (m := 1) (by decide) (fun cs hcs => ?_)
    have hcs : cs = [.int .i64 os, .string ot, .bool ox] := hcs
    subst hcs
    cases ox with
    | true =>
      have kH' : askHas H ⟨hs, ht, hx⟩ = true := kH
      have keyF : askFree H ⟨hs, ht, hx⟩ = true := by unfold askFree; rw [kH']; rfl
      have keyH : askH H ⟨hs, ht, hx⟩ = H := by unfold askH; rw [keyF, kH']; rfl
      have keyW : askW H W ⟨hs, ht, hx⟩ = wout W hs := by unfold askW; rw [keyF]; rfl
      cbv
      refine (cloneB104 (q1.mono (l1.t _))).mono (fun v h3 hR => ?_)
      obtain ⟨l3, bc, cc, rfl, hbc⟩ := hR
      cbv
      refine (without153 (q2.mono ((l1.trans l3).t _)) (by omega) hs).mono (fun v h4 hR => ?_)
      obtain ⟨l4, bw, nw, cw, rfl, hbw⟩ := hR
      have l14 := (l1.trans l3).trans l4
      have hbc4 := hbc.mono (l4.t _)
      cbv
      rw [hnot]
      cbv
      exact ⟨l14, _, _, _, _, _, _, true, rfl, by rw [keyH]; exact hbc4.sl, by rw [keyW]; exact hbw.sl, keyF.symm⟩
    | false =>
      cbv
      refine ⟨hck, ?_⟩
      cbv
      refine (q1.mono (l1.t _)).load ho hz1.eq (fun cs hcs => ?_)
      have hcs : cs = [.int .i64 os, .string ot, .bool false] := hcs
      subst hcs
      generalize es : A .and (A .icm .eql os hs) (A .and (A .scm .eql ot ht) (A .and (A .bcm .eql false hx) true)) = us
      have fs := es
      rw [hA.and, icm_eql A, scm_eql A, hA.bcm] at es
      have kH2 : askHas H ⟨hs, ht, hx⟩ = us := by
        rw [kH, ← es]; simp only [sameH, Bool.false_or, Bool.and_true, bcm]
        cases hx <;> rfl
      cbv
      rw [fs]
      cases us with
      | true =>
        have kH' := kH2
        have keyF : askFree H ⟨hs, ht, hx⟩ = true := by unfold askFree; rw [kH']; rfl
        have keyH : askH H ⟨hs, ht, hx⟩ = H := by unfold askH; rw [keyF, kH']; rfl
        have keyW : askW H W ⟨hs, ht, hx⟩ = wout W hs := by unfold askW; rw [keyF]; rfl
        cbv
        refine (cloneB104 (q1.mono (l1.t _))).mono (fun v h3 hR => ?_)
        obtain ⟨l3, bc, cc, rfl, hbc⟩ := hR
        cbv
        refine (without153 (q2.mono ((l1.trans l3).t _)) (by omega) hs).mono (fun v h4 hR => ?_)
        obtain ⟨l4, bw, nw, cw, rfl, hbw⟩ := hR
        have l14 := (l1.trans l3).trans l4
        have hbc4 := hbc.mono (l4.t _)
        cbv
        rw [hnot]
        cbv
        exact ⟨l14, _, _, _, _, _, _, true, rfl, by rw [keyH]; exact hbc4.sl, by rw [keyW]; exact hbw.sl, keyF.symm⟩
      | false =>
        cbv
        refine (contains151 (q1.mono (l1.t _)) ⟨hs, ht, hx⟩).mono (fun v h2 hR => ?_)
        obtain ⟨l2, tc, rfl, etc⟩ := hR
        have l12 := l1.trans l2
        have kF : askFree H ⟨hs, ht, hx⟩ = !tc := by unfold askFree; rw [kH2, etc]; rfl
        cases tc with
        | true =>
          have keyF : askFree H ⟨hs, ht, hx⟩ = false := kF
          have keyH : askH H ⟨hs, ht, hx⟩ = H := by unfold askH; rw [keyF]; rfl
          have keyW : askW H W ⟨hs, ht, hx⟩ = wout W hs ++ [⟨hs, ht, hx⟩] := by unfold askW; rw [keyF]; rfl
          cbv
          rw [hnot]
          cbv
          refine (cloneB104 (q1.mono (l12.t _))).mono (fun v h3 hR => ?_)
          obtain ⟨l3, bc, cc, rfl, hbc⟩ := hR
          cbv
          refine (without153 (q2.mono ((l12.trans l3).t _)) (by omega) hs).mono (fun v h4 hR => ?_)
          obtain ⟨l4, bw, nw, cw, rfl, hbw⟩ := hR
          have l14 := (l12.trans l3).trans l4
          have hbc4 := hbc.mono (l4.t _)
          cbv
          rw [hnot2]
          cbv
          intro nb5 h5 hnb5 e5
          have l5 : Le h4 h5 := by rw [e5]; exact Le.set hnb5
          have g5 := (congrFun e5 nb5).trans hset_self
          cbv
          intro nb6 h6 hnb6 e6
          have l6 : Le h5 h6 := by rw [e6]; exact Le.set hnb6
          have g6 := (congrFun e6 nb6).trans hset_self
          have allw : ([wout W hs, [⟨hs, ht, hx⟩]] : List (List Hld)).flatten = wout W hs ++ [⟨hs, ht, hx⟩] := by simp
          have hll : (wout W hs ++ [(⟨hs, ht, hx⟩ : Hld)]).length ≤ 2 ^ 38 := by
            have h1 : (wout W hs).length ≤ W.length := List.length_filter_le _ _
            have h2 := q2.len
            simp only [List.length_append, List.length_singleton]; omega
          cbv
          refine (concat154 (two_sl (s := shSl 188 shHld) rfl g6 (hld_sl (hbw.sl.mono ((l5.trans l6).t _))) (hld_sl (one_sl (s := shHld) (l6 _ _ g5) (x := ⟨hs, ht, hx⟩) rfl))) (by rw [allw]; exact hll)).mono (fun v h7 hR => ?_)
          obtain ⟨l7, b7, n7, c7, rfl, hb7⟩ := hR
          rw [allw] at hb7
          have l47 := (l5.trans l6).trans l7
          cbv
          exact ⟨l14.trans l47, _, _, _, _, _, _, false, rfl, by rw [keyH]; exact hbc4.sl.mono (l47.t _), by rw [keyW]; exact hb7.sl, keyF.symm⟩
        | false =>
          have keyF : askFree H ⟨hs, ht, hx⟩ = true := kF
          have keyH : askH H ⟨hs, ht, hx⟩ = H.set i ⟨hs, ht, hx⟩ := by unfold askH; rw [keyF, kH2]; unfold mineI; rw [hf]; rfl
          have keyW : askW H W ⟨hs, ht, hx⟩ = wout W hs := by unfold askW; rw [keyF]; rfl
          cbv
          rw [hnot2]
          cbv
          refine (cloneB104 (q1.mono (l12.t _))).mono (fun v h3 hR => ?_)
          obtain ⟨l3, bc, cc, rfl, hbc⟩ := hR
          cbv
          refine (without153 (q2.mono ((l12.trans l3).t _)) (by omega) hs).mono (fun v h4 hR => ?_)
          obtain ⟨l4, bw, nw, cw, rfl, hbw⟩ := hR
          have l14 := (l12.trans l3).trans l4
          have hbc4 := hbc.mono (l4.t _)
          obtain ⟨nb5, rfl, hnb5, hlc, oc⟩ := hbc4.own (by omega)
          have hlt : i < H.length := (List.getElem?_eq_some_iff.1 ho).1
          have hcc : n1 ≤ cc := (hbc.sl).bound.2
          have hck5 : (some (⟨nb5, 0, none⟩ : Addr)).isSome = true ∧ 0 ≤ z ∧ z < (n1 : Int) := ⟨rfl, hz1.ix hi1⟩
          cbv
          rw [hnot]
          cbv
          rw [hge]
          cbv
          refine ⟨hck5, ?_⟩
          cbv
          refine oc.setAt (by decide) (i := i) (by omega) hz1.eq rfl (x := ⟨hs, ht, hx⟩) rfl (fun h5 k5 t5 o5 => ?_)
          have l5 : Le h h5 := l14.kpNew (by simpa using l12.none hnb5) k5
          have hin : h3 nb5 ≠ none := by
            obtain ⟨nb', e1, -, -, o3⟩ := hbc.own (by omega)
            cases e1
            exact o3.has
          have lw := (hbw.kp k5 (by simpa using hin) (t5 _ (by decide))).sl
          cbv
          exact ⟨l5, _, _, _, _, _, _, true, rfl, by rw [keyH]; exact o5.sl (by rw [List.length_set]; exact hlc), by rw [keyW]; exact lw, keyF.symm⟩
end Go.S

