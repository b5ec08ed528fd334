import Derived.Test.YtficmdggjjepmaaGreatTab
import Derived.Test.YtficmdggjjepmaaGreatRd
set_option linter.all false
set_option maxRecDepth 100000
namespace Go.S
open Go.Sx Go.Proofs

abbrev Ct (f : FuncId) (args : List Value) (h : Heap) (R : Value → Heap → Prop) : Prop := FnX (fun _ => Tryz.prog) f args h R
abbrev CtD (f : FuncId) (args : List Value) (h : Heap) (R : Value → Heap → Prop) : Prop := FnDX (fun _ => Tryz.prog) f args h R

structure Val where
  k : Int
  n : Int
  s : ByteArray
def shVal : Sh Val where
  n := 3
  R _ cs v := cs = [.int .i64 v.k, .int .i64 v.n, .string v.s]
  len := by rintro h cs x rfl; rfl
  one := by rintro h cs x rfl; rfl
  tys := []
  mono := fun _ q => q
structure Col where
  name : ByteArray
  kind : Int
  null : Bool
def shCol : Sh Col where
  n := 3
  R _ cs v := cs = [.string v.name, .int .i64 v.kind, .bool v.null]
  len := by rintro h cs x rfl; rfl
  one := by rintro h cs x rfl; rfl
  tys := []
  mono := fun _ q => q
structure Mrk where
  name : ByteArray
  at_ : Int
def shMrk : Sh Mrk where
  n := 2
  R _ cs v := cs = [.string v.name, .int .i64 v.at_]
  len := by rintro h cs x rfl; rfl
  one := by rintro h cs x rfl; rfl
  tys := []
  mono := fun _ q => q
structure Hld where
  s : Int
  table : ByteArray
  x : Bool
def shHld : Sh Hld where
  n := 3
  R _ cs v := cs = [.int .i64 v.s, .string v.table, .bool v.x]
  len := by rintro h cs x rfl; rfl
  one := by rintro h cs x rfl; rfl
  tys := []
  mono := fun _ q => q
abbrev Row := List Val
abbrev shRow : Sh Row := shSl 87 shVal
structure Sch where
  name : ByteArray
  cols : List Col
  key : Int
  only : Bool
structure Tbl where
  S : Sch
  rows : List Row
def shTbl : Sh Tbl where
  n := 5
  R h cs t := ∃ b1 n1 c1 b2 n2 c2, cs = [.string t.S.name, .slice b1 n1 c1, .int .i64 t.S.key, .bool t.S.only, .slice b2 n2 c2] ∧ Sl 58 shCol h (.slice b1 n1 c1) t.S.cols ∧ Sl 88 shRow h (.slice b2 n2 c2) t.rows
  len := by rintro h cs x ⟨_, _, _, _, _, _, rfl, -⟩; rfl
  one := by rintro h cs x ⟨_, _, _, _, _, _, rfl, -⟩; rfl
  tys := [58, 88, 87]
  mono := by
    rintro h h' cs x hl ⟨b1, n1, c1, b2, n2, c2, rfl, q1, q2⟩
    exact ⟨b1, n1, c1, b2, n2, c2, rfl, q1.mono (hl.sub (by decide)), q2.mono (hl.sub (by decide))⟩
structure Chg where
  table : ByteArray
  op : Int
  row : Row
def shChg : Sh Chg where
  n := 3
  R h cs t := ∃ b n c, cs = [.string t.table, .int .i64 t.op, .slice b n c] ∧ Sl 87 shVal h (.slice b n c) t.row
  len := by rintro h cs x ⟨_, _, _, rfl, -⟩; rfl
  one := by rintro h cs x ⟨_, _, _, rfl, -⟩; rfl
  tys := [87]
  mono := by
    rintro h h' cs x hl ⟨b, n, c, rfl, q⟩
    exact ⟨b, n, c, rfl, q.mono (hl.sub (by decide))⟩
structure Wrk where
  s : Int
  log : List Chg
  marks : List Mrk
def shWrk : Sh Wrk where
  n := 3
  R h cs t := ∃ b1 n1 c1 b2 n2 c2, cs = [.int .i64 t.s, .slice b1 n1 c1, .slice b2 n2 c2] ∧ Sl 228 shChg h (.slice b1 n1 c1) t.log ∧ Sl 213 shMrk h (.slice b2 n2 c2) t.marks
  len := by rintro h cs x ⟨_, _, _, _, _, _, rfl, -⟩; rfl
  one := by rintro h cs x ⟨_, _, _, _, _, _, rfl, -⟩; rfl
  tys := [228, 87, 213]
  mono := by
    rintro h h' cs x hl ⟨b1, n1, c1, b2, n2, c2, rfl, q1, q2⟩
    exact ⟨b1, n1, c1, b2, n2, c2, rfl, q1.mono (hl.sub (by decide)), q2.mono (hl.sub (by decide))⟩
/-- A session's work, and whether its log has just the room that it fills. -/
def shWrkG : Sh (Wrk × Bool) where
  n := 3
  R h cs t := ∃ b1 n1 c1 b2 n2 c2, cs = [.int .i64 t.1.s, .slice b1 n1 c1, .slice b2 n2 c2] ∧ Sl 228 shChg h (.slice b1 n1 c1) t.1.log ∧ Sl 213 shMrk h (.slice b2 n2 c2) t.1.marks ∧ (t.2 = true → c1 = n1)
  len := by rintro h cs x ⟨_, _, _, _, _, _, rfl, -⟩; rfl
  one := by rintro h cs x ⟨_, _, _, _, _, _, rfl, -⟩; rfl
  tys := [228, 87, 213]
  mono := by
    rintro h h' cs x hl ⟨b1, n1, c1, b2, n2, c2, rfl, q1, q2, q3⟩
    exact ⟨b1, n1, c1, b2, n2, c2, rfl, q1.mono (hl.sub (by decide)), q2.mono (hl.sub (by decide)), q3⟩
structure DB where
  tabs : List Tbl
  works : List Wrk
  holds : List Hld
  waits : List Hld
structure RDB (h : Heap) (v : Value) (d : DB) : Prop where
  out : ∃ b1 n1 c1 b2 n2 c2 b3 n3 c3 b4 n4 c4 ws, v = .agg #[.slice b1 n1 c1, .slice b2 n2 c2, .slice b3 n3 c3, .slice b4 n4 c4] ∧
    Sl 100 shTbl h (.slice b1 n1 c1) d.tabs ∧ Sl 211 shWrkG h (.slice b2 n2 c2) ws ∧ Sl 316 shHld h (.slice b3 n3 c3) d.holds ∧ Sl 316 shHld h (.slice b4 n4 c4) d.waits ∧ ws.map (·.1) = d.works
end Go.S

set_option maxRecDepth 100000
namespace Go.S
open Go.Sx Go.Proofs

theorem clone104 {xs : List Hld} {h : Heap} {b : Option Addr} {len cap : Nat} (q : Sl 316 shHld h (.slice b len cap) xs) :
    Ct 155 [.slice b len cap] h (fun v h' => Le h h' ∧ ∃ b' cap', v = .slice b' len cap' ∧ Sl 316 shHld h' v xs ∧ ∀ blk o s, b' = some ⟨blk, o, s⟩ → h blk = none) := by
  obtain ⟨A, hA⟩ := Ar.ex
  refine fn_of_sx A (tabOk T155.plan T155.pub) Tryz.func155 rfl (by kernel_rfl) ?_
  cbv
  refine bsel_mk (fun hc => ?_) (fun hc => ?_)
  · rw [hA.isn] at hc
    cbv
    have hb : b = none := by cases b <;> simp at hc ⊢
    subst hb
    have hl : len = 0 := by
      rcases Nat.eq_zero_or_pos len with e | e
      · exact e
      · have := q.isSm e; cases this
    have := q.len
    have hx : xs = [] := List.eq_nil_of_length_eq_zero (by omega)
    subst hx hl
    exact ⟨Le.refl _, none, 0, rfl, Sl.nil, fun _ _ _ e => (by cases e)⟩
  · cbv
    intro n0 h1 hn0 hh1
    have hle : Le h h1 := by rw [hh1]; exact Le.set hn0
    cbv
    refine append_new (q.mono (hle.t _)) (by simp [shHld]) rfl (by decide) (fun hn => ?_) (fun nb c h2 e1 e2 e3 e4 => ?_)
    · cbv
      have := q.len
      have hx : xs = [] := List.eq_nil_of_length_eq_zero (by omega)
      subst hx hn
      exact ⟨hle, _, _, rfl, Sl.nil, fun _ _ _ e => (by cases e; exact hn0)⟩
    · cbv
      exact ⟨hle.trans e3, _, _, rfl, e4.sl q.len, fun _ _ _ e => (by cases e; exact hle.none e1)⟩

theorem clone107 {xs : List Col} {h : Heap} {b : Option Addr} {len cap : Nat} (q : Sl 58 shCol h (.slice b len cap) xs) :
    Ct 201 [.slice b len cap] h (fun v h' => Le h h' ∧ ∃ b' cap', v = .slice b' len cap' ∧ Sl 58 shCol h' v xs ∧ ∀ blk o s, b' = some ⟨blk, o, s⟩ → h blk = none) := by
  obtain ⟨A, hA⟩ := Ar.ex
  refine fn_of_sx A (tabOk T201.plan T201.pub) Tryz.func201 rfl (by kernel_rfl) ?_
  cbv
  refine bsel_mk (fun hc => ?_) (fun hc => ?_)
  · rw [hA.isn] at hc
    cbv
    have hb : b = none := by cases b <;> simp at hc ⊢
    subst hb
    have hl : len = 0 := by
      rcases Nat.eq_zero_or_pos len with e | e
      · exact e
      · have := q.isSm e; cases this
    have := q.len
    have hx : xs = [] := List.eq_nil_of_length_eq_zero (by omega)
    subst hx hl
    exact ⟨Le.refl _, none, 0, rfl, Sl.nil, fun _ _ _ e => (by cases e)⟩
  · cbv
    intro n0 h1 hn0 hh1
    have hle : Le h h1 := by rw [hh1]; exact Le.set hn0
    cbv
    refine append_new (q.mono (hle.t _)) (by simp [shCol]) rfl (by decide) (fun hn => ?_) (fun nb c h2 e1 e2 e3 e4 => ?_)
    · cbv
      have := q.len
      have hx : xs = [] := List.eq_nil_of_length_eq_zero (by omega)
      subst hx hn
      exact ⟨hle, _, _, rfl, Sl.nil, fun _ _ _ e => (by cases e; exact hn0)⟩
    · cbv
      exact ⟨hle.trans e3, _, _, rfl, e4.sl q.len, fun _ _ _ e => (by cases e; exact hle.none e1)⟩

theorem clone122 {xs : List Val} {h : Heap} {b : Option Addr} {len cap : Nat} (q : Sl 87 shVal h (.slice b len cap) xs) :
    Ct 174 [.slice b len cap] h (fun v h' => Le h h' ∧ ∃ b' cap', v = .slice b' len cap' ∧ Sl 87 shVal h' v xs ∧ ∀ blk o s, b' = some ⟨blk, o, s⟩ → h blk = none) := by
  obtain ⟨A, hA⟩ := Ar.ex
  refine fn_of_sx A (tabOk T174.plan T174.pub) Tryz.func174 rfl (by kernel_rfl) ?_
  cbv
  refine bsel_mk (fun hc => ?_) (fun hc => ?_)
  · rw [hA.isn] at hc
    cbv
    have hb : b = none := by cases b <;> simp at hc ⊢
    subst hb
    have hl : len = 0 := by
      rcases Nat.eq_zero_or_pos len with e | e
      · exact e
      · have := q.isSm e; cases this
    have := q.len
    have hx : xs = [] := List.eq_nil_of_length_eq_zero (by omega)
    subst hx hl
    exact ⟨Le.refl _, none, 0, rfl, Sl.nil, fun _ _ _ e => (by cases e)⟩
  · cbv
    intro n0 h1 hn0 hh1
    have hle : Le h h1 := by rw [hh1]; exact Le.set hn0
    cbv
    refine append_new (q.mono (hle.t _)) (by simp [shVal]) rfl (by decide) (fun hn => ?_) (fun nb c h2 e1 e2 e3 e4 => ?_)
    · cbv
      have := q.len
      have hx : xs = [] := List.eq_nil_of_length_eq_zero (by omega)
      subst hx hn
      exact ⟨hle, _, _, rfl, Sl.nil, fun _ _ _ e => (by cases e; exact hn0)⟩
    · cbv
      exact ⟨hle.trans e3, _, _, rfl, e4.sl q.len, fun _ _ _ e => (by cases e; exact hle.none e1)⟩

theorem clone146 {xs : List Mrk} {h : Heap} {b : Option Addr} {len cap : Nat} (q : Sl 213 shMrk h (.slice b len cap) xs) :
    Ct 256 [.slice b len cap] h (fun v h' => Le h h' ∧ ∃ b' cap', v = .slice b' len cap' ∧ Sl 213 shMrk h' v xs ∧ ∀ blk o s, b' = some ⟨blk, o, s⟩ → h blk = none) := by
  obtain ⟨A, hA⟩ := Ar.ex
  refine fn_of_sx A (tabOk T256.plan T256.pub) Tryz.func256 rfl (by kernel_rfl) ?_
  cbv
  refine bsel_mk (fun hc => ?_) (fun hc => ?_)
  · rw [hA.isn] at hc
    cbv
    have hb : b = none := by cases b <;> simp at hc ⊢
    subst hb
    have hl : len = 0 := by
      rcases Nat.eq_zero_or_pos len with e | e
      · exact e
      · have := q.isSm e; cases this
    have := q.len
    have hx : xs = [] := List.eq_nil_of_length_eq_zero (by omega)
    subst hx hl
    exact ⟨Le.refl _, none, 0, rfl, Sl.nil, fun _ _ _ e => (by cases e)⟩
  · cbv
    intro n0 h1 hn0 hh1
    have hle : Le h h1 := by rw [hh1]; exact Le.set hn0
    cbv
    refine append_new (q.mono (hle.t _)) (by simp [shMrk]) rfl (by decide) (fun hn => ?_) (fun nb c h2 e1 e2 e3 e4 => ?_)
    · cbv
      have := q.len
      have hx : xs = [] := List.eq_nil_of_length_eq_zero (by omega)
      subst hx hn
      exact ⟨hle, _, _, rfl, Sl.nil, fun _ _ _ e => (by cases e; exact hn0)⟩
    · cbv
      exact ⟨hle.trans e3, _, _, rfl, e4.sl q.len, fun _ _ _ e => (by cases e; exact hle.none e1)⟩
end Go.S

set_option maxRecDepth 100000
namespace Go.S
open Go.Sx Go.Proofs

theorem own57 {r : Row} {h : Heap} {b : Option Addr} {len cap : Nat} (q : Sl 87 shVal h (.slice b len cap) r) :
    Ct 82 [.slice b len cap] h (fun v h' => Le h h' ∧ ∃ b' cap', v = .slice b' len cap' ∧ Sl 87 shVal h' v r) := by
  obtain ⟨A, hA⟩ := Ar.ex
  refine fn_of_sx A (tabOk T82.plan T82.pub) Tryz.func82 rfl (by kernel_rfl) ?_
  cbv
  refine (clone122 q).mono (fun v h' => ?_)
  rintro ⟨hle, b', cap', rfl, q', -⟩
  cbv
  exact ⟨hle, _, _, rfl, q'⟩

theorem each108 {xs : List Row} {h : Heap} {b : Option Addr} {len cap : Nat} (q : Sl 88 shRow h (.slice b len cap) xs) :
    Ct 241 [.slice b len cap, .func (.func 82) #[] #[]] h (fun v h' => Le h h' ∧ ∃ nb, h nb = none ∧ v = .slice (some ⟨nb, 0, none⟩) len len ∧ Own 88 shRow h' nb len xs) := by
  obtain ⟨A, hA⟩ := Ar.ex
  have hlen := q.len
  obtain ⟨hb1, hb2⟩ := q.bound
  refine fn_of_sx A (tabOk T241.plan T241.pub) Tryz.func241 rfl (by kernel_rfl) ?_
  cbv
  refine make_own (s := shRow) rfl (by omega) (by decide) (fun nb h1 hnb hle ho => ?_)
  cbv
  refine LoopX.go (G := Int) (fun z => [(13, .v (.int .i64 z))]) (fun _ => []) (fun n z h' => ∃ i : Nat, IsN z i ∧ n = len - i ∧ i ≤ len ∧ Le h h' ∧ Own 88 shRow h' nb len (xs.take i)) len 0 ⟨?_, ?_, ?_⟩ ⟨0, ⟨rfl⟩, by omega, by omega, hle, ho⟩ ?_
  · cbv
  · cbv
  · cbv
  · intro n z h' hI
    cbv
    obtain ⟨i, hz, hn, hi, hle', ho'⟩ := hI
    refine bsel_mk (fun hc => ?_) (fun hc => ?_)
    · have hlt := hz.lt hc
      clear hc
      cbv
      obtain ⟨x, hx⟩ := get_ex (xs := xs) (i := i) (by omega)
      refine ⟨⟨q.isSm (by omega), hz.ix hlt⟩, ?_⟩
      cbv
      refine (q.mono (hle'.t _)).load hx hz.eq (fun cs hcs => ?_)
      obtain ⟨v, rfl, hv⟩ := hcs
      obtain ⟨b1, l1, c1, rfl⟩ := hv.form
      cbv
      refine (own57 hv).mono (fun v2 h2 hR => ?_)
      obtain ⟨hle2, b2, cap2, rfl, hv2⟩ := hR
      cbv
      refine ⟨⟨rfl, hz.ix hlt⟩, ?_⟩
      cbv
      refine (ho'.mono (hle2.t _)).store (by decide) (i := i) (by simp; omega) (by omega) (by omega) hz.eq rfl (x := x) ⟨_, rfl, hv2⟩ (fun h3 hk ht ho3 => ?_)
      cbv
      refine ⟨len - (i + 1), _, by omega, ⟨?_, ?_, ?_⟩, i + 1, hz.succ (A := A) (by omega), rfl, by omega, ?_, ?_⟩
      · cbv
      · cbv
      · cbv
      · exact (hle'.trans hle2).kpNew (by simpa using hnb) hk
      · rw [if_neg (by simp; omega)] at ho3
        rw [List.take_add_one, hx]
        exact ho3
    · have hge := hz.ge hc
      cbv
      have : i = len := by omega
      subst this
      refine ⟨hle', nb, hnb, rfl, ?_⟩
      rw [hlen, List.take_length] at ho'
      rw [hlen]; exact ho'

theorem own49 {t : Tbl} {h : Heap} {c0 c1 c2 c3 c4 : Value} (q : shTbl.R h [c0, c1, c2, c3, c4] t) :
    Ct 143 [.agg #[c0, c1, c2, c3, c4]] h (fun v h' => Le h h' ∧ ∃ d0 d1 d2 d3 d4, v = .agg #[d0, d1, d2, d3, d4] ∧ shTbl.R h' [d0, d1, d2, d3, d4] t) := by
  obtain ⟨A, hA⟩ := Ar.ex
  obtain ⟨b1, n1, k1, b2, n2, k2, he, q1, q2⟩ := q
  cases he
  refine fn_of_sx A (tabOk T143.plan T143.pub) Tryz.func143 rfl (by kernel_rfl) ?_
  cbv
  refine (clone107 q1).mono (fun v h1 hR => ?_)
  obtain ⟨hle, b', cap', rfl, q1', -⟩ := hR
  cbv
  refine (each108 (q2.mono (hle.t _))).mono (fun v h2 hR => ?_)
  obtain ⟨hle2, nb, hnb, rfl, ho⟩ := hR
  cbv
  exact ⟨hle.trans hle2, _, _, _, _, _, rfl, _, _, _, _, _, _, rfl, q1'.mono (hle2.t _), ho.sl q2.len⟩

theorem each101 {xs : List Tbl} {h : Heap} {b : Option Addr} {len cap : Nat} (q : Sl 100 shTbl h (.slice b len cap) xs) :
    Ct 165 [.slice b len cap, .func (.func 143) #[] #[]] h (fun v h' => Le h h' ∧ ∃ nb, h nb = none ∧ v = .slice (some ⟨nb, 0, none⟩) len len ∧ Own 100 shTbl h' nb len xs) := by
  obtain ⟨A, hA⟩ := Ar.ex
  have hlen := q.len
  obtain ⟨hb1, hb2⟩ := q.bound
  refine fn_of_sx A (tabOk T165.plan T165.pub) Tryz.func165 rfl (by kernel_rfl) ?_
  cbv
  refine make_own (s := shTbl) rfl (by omega) (by decide) (fun nb h1 hnb hle ho => ?_)
  cbv
  refine LoopX.go (G := Int) (fun z => [(13, .v (.int .i64 z))]) (fun _ => []) (fun n z h' => ∃ i : Nat, IsN z i ∧ n = len - i ∧ i ≤ len ∧ Le h h' ∧ Own 100 shTbl h' nb len (xs.take i)) len 0 ⟨?_, ?_, ?_⟩ ⟨0, ⟨rfl⟩, by omega, by omega, hle, ho⟩ ?_
  · cbv
  · cbv
  · cbv
  · intro n z h' hI
    cbv
    obtain ⟨i, hz, hn, hi, hle', ho'⟩ := hI
    refine bsel_mk (fun hc => ?_) (fun hc => ?_)
    · have hlt := hz.lt hc
      clear hc
      cbv
      obtain ⟨x, hx⟩ := get_ex (xs := xs) (i := i) (by omega)
      refine ⟨⟨q.isSm (by omega), hz.ix hlt⟩, ?_⟩
      cbv
      refine (q.mono (hle'.t _)).load hx hz.eq (fun cs hcs => ?_)
      obtain ⟨b1, n1, k1, b2, n2, k2, rfl, q1, q2⟩ := hcs
      have hv : shTbl.R h' _ x := ⟨b1, n1, k1, b2, n2, k2, rfl, q1, q2⟩
      cbv
      refine (own49 hv).mono (fun v2 h2 hR => ?_)
      obtain ⟨hle2, d0, d1, d2, d3, d4, rfl, hv2⟩ := hR
      obtain ⟨b1, n1, k1, b2, n2, k2, he, q1, q2⟩ := hv2
      cases he
      cbv
      refine ⟨⟨rfl, hz.ix hlt⟩, ?_⟩
      cbv
      refine (ho'.mono (hle2.t _)).store (by decide) (i := i) (by simp; omega) (by omega) (by omega) hz.eq rfl (x := x) ⟨b1, n1, k1, b2, n2, k2, rfl, q1, q2⟩ (fun h3 hk ht ho3 => ?_)
      cbv
      refine ⟨len - (i + 1), _, by omega, ⟨?_, ?_, ?_⟩, i + 1, hz.succ (A := A) (by omega), rfl, by omega, ?_, ?_⟩
      · cbv
      · cbv
      · cbv
      · exact (hle'.trans hle2).kpNew (by simpa using hnb) hk
      · rw [if_neg (by simp; omega)] at ho3
        rw [List.take_add_one, hx]
        exact ho3
    · have hge := hz.ge hc
      cbv
      have : i = len := by omega
      subst this
      refine ⟨hle', nb, hnb, rfl, ?_⟩
      rw [hlen, List.take_length] at ho'
      rw [hlen]; exact ho'

theorem own64 {t : Chg} {h : Heap} {c0 c1 c2 : Value} (q : shChg.R h [c0, c1, c2] t) :
    Ct 180 [.agg #[c0, c1, c2]] h (fun v h' => Le h h' ∧ ∃ d0 d1 d2, v = .agg #[d0, d1, d2] ∧ shChg.R h' [d0, d1, d2] t) := by
  obtain ⟨A, hA⟩ := Ar.ex
  obtain ⟨b1, n1, k1, he, q1⟩ := q
  cases he
  refine fn_of_sx A (tabOk T180.plan T180.pub) Tryz.func180 rfl (by kernel_rfl) ?_
  cbv
  refine (own57 q1).mono (fun v h1 hR => ?_)
  obtain ⟨hle, b', cap', rfl, q1'⟩ := hR
  cbv
  exact ⟨hle, _, _, _, rfl, _, _, _, rfl, q1'⟩

theorem each63 {xs : List Chg} {h : Heap} {b : Option Addr} {len cap : Nat} (q : Sl 228 shChg h (.slice b len cap) xs) :
    Ct 179 [.slice b len cap, .func (.func 180) #[] #[]] h (fun v h' => Le h h' ∧ ∃ nb, h nb = none ∧ v = .slice (some ⟨nb, 0, none⟩) len len ∧ Own 228 shChg h' nb len xs) := by
  obtain ⟨A, hA⟩ := Ar.ex
  have hlen := q.len
  obtain ⟨hb1, hb2⟩ := q.bound
  refine fn_of_sx A (tabOk T179.plan T179.pub) Tryz.func179 rfl (by kernel_rfl) ?_
  cbv
  refine make_own (s := shChg) rfl (by omega) (by decide) (fun nb h1 hnb hle ho => ?_)
  cbv
  refine LoopX.go (G := Int) (fun z => [(13, .v (.int .i64 z))]) (fun _ => []) (fun n z h' => ∃ i : Nat, IsN z i ∧ n = len - i ∧ i ≤ len ∧ Le h h' ∧ Own 228 shChg h' nb len (xs.take i)) len 0 ⟨?_, ?_, ?_⟩ ⟨0, ⟨rfl⟩, by omega, by omega, hle, ho⟩ ?_
  · cbv
  · cbv
  · cbv
  · intro n z h' hI
    cbv
    obtain ⟨i, hz, hn, hi, hle', ho'⟩ := hI
    refine bsel_mk (fun hc => ?_) (fun hc => ?_)
    · have hlt := hz.lt hc
      clear hc
      cbv
      obtain ⟨x, hx⟩ := get_ex (xs := xs) (i := i) (by omega)
      refine ⟨⟨q.isSm (by omega), hz.ix hlt⟩, ?_⟩
      cbv
      refine (q.mono (hle'.t _)).load hx hz.eq (fun cs hcs => ?_)
      obtain ⟨b1, n1, k1, rfl, q1⟩ := hcs
      have hv : shChg.R h' _ x := ⟨b1, n1, k1, rfl, q1⟩
      cbv
      refine (own64 hv).mono (fun v2 h2 hR => ?_)
      obtain ⟨hle2, d0, d1, d2, rfl, hv2⟩ := hR
      obtain ⟨b1, n1, k1, he, q1⟩ := hv2
      cases he
      cbv
      refine ⟨⟨rfl, hz.ix hlt⟩, ?_⟩
      cbv
      refine (ho'.mono (hle2.t _)).store (by decide) (i := i) (by simp; omega) (by omega) (by omega) hz.eq rfl (x := x) ⟨b1, n1, k1, rfl, q1⟩ (fun h3 hk ht ho3 => ?_)
      cbv
      refine ⟨len - (i + 1), _, by omega, ⟨?_, ?_, ?_⟩, i + 1, hz.succ (A := A) (by omega), rfl, by omega, ?_, ?_⟩
      · cbv
      · cbv
      · cbv
      · exact (hle'.trans hle2).kpNew (by simpa using hnb) hk
      · rw [if_neg (by simp; omega)] at ho3
        rw [List.take_add_one, hx]
        exact ho3
    · have hge := hz.ge hc
      cbv
      have : i = len := by omega
      subst this
      refine ⟨hle', nb, hnb, rfl, ?_⟩
      rw [hlen, List.take_length] at ho'
      rw [hlen]; exact ho'

theorem own103 {t : Wrk × Bool} {h : Heap} {c0 c1 c2 : Value} (q : shWrkG.R h [c0, c1, c2] t) :
    Ct 167 [.agg #[c0, c1, c2]] h (fun v h' => Le h h' ∧ ∃ d0 d1 d2, v = .agg #[d0, d1, d2] ∧ shWrkG.R h' [d0, d1, d2] (t.1, true)) := by
  obtain ⟨A, hA⟩ := Ar.ex
  obtain ⟨b1, n1, k1, b2, n2, k2, he, q1, q2, -⟩ := q
  cases he
  refine fn_of_sx A (tabOk T167.plan T167.pub) Tryz.func167 rfl (by kernel_rfl) ?_
  cbv
  refine (each63 q1).mono (fun v h1 hR => ?_)
  obtain ⟨hle, nb, hnb, rfl, ho⟩ := hR
  cbv
  refine (clone146 (q2.mono (hle.t _))).mono (fun v h2 hR => ?_)
  obtain ⟨hle2, b', cap', rfl, q2', -⟩ := hR
  cbv
  exact ⟨hle.trans hle2, _, _, _, rfl, _, _, _, _, _, _, rfl, (ho.sl q1.len).mono (hle2.t _), q2', fun _ => rfl⟩

theorem each102 {xs : List (Wrk × Bool)} {h : Heap} {b : Option Addr} {len cap : Nat} (q : Sl 211 shWrkG h (.slice b len cap) xs) :
    Ct 166 [.slice b len cap, .func (.func 167) #[] #[]] h (fun v h' => Le h h' ∧ ∃ nb, h nb = none ∧ v = .slice (some ⟨nb, 0, none⟩) len len ∧ Own 211 shWrkG h' nb len (xs.map fun p => (p.1, true))) := by
  obtain ⟨A, hA⟩ := Ar.ex
  have hlen := q.len
  obtain ⟨hb1, hb2⟩ := q.bound
  refine fn_of_sx A (tabOk T166.plan T166.pub) Tryz.func166 rfl (by kernel_rfl) ?_
  cbv
  refine make_own (s := shWrkG) rfl (by omega) (by decide) (fun nb h1 hnb hle ho => ?_)
  cbv
  refine LoopX.go (G := Int) (fun z => [(13, .v (.int .i64 z))]) (fun _ => []) (fun n z h' => ∃ i : Nat, IsN z i ∧ n = len - i ∧ i ≤ len ∧ Le h h' ∧ Own 211 shWrkG h' nb len ((xs.take i).map fun p => (p.1, true))) len 0 ⟨?_, ?_, ?_⟩ ⟨0, ⟨rfl⟩, by omega, by omega, hle, ho⟩ ?_
  · cbv
  · cbv
  · cbv
  · intro n z h' hI
    cbv
    obtain ⟨i, hz, hn, hi, hle', ho'⟩ := hI
    refine bsel_mk (fun hc => ?_) (fun hc => ?_)
    · have hlt := hz.lt hc
      clear hc
      cbv
      obtain ⟨x, hx⟩ := get_ex (xs := xs) (i := i) (by omega)
      refine ⟨⟨q.isSm (by omega), hz.ix hlt⟩, ?_⟩
      cbv
      refine (q.mono (hle'.t _)).load hx hz.eq (fun cs hcs => ?_)
      obtain ⟨b1, n1, k1, b2, n2, k2, rfl, q1, q2, q3⟩ := hcs
      have hv : shWrkG.R h' _ x := ⟨b1, n1, k1, b2, n2, k2, rfl, q1, q2, q3⟩
      cbv
      refine (own103 hv).mono (fun v2 h2 hR => ?_)
      obtain ⟨hle2, d0, d1, d2, rfl, hv2⟩ := hR
      obtain ⟨b1, n1, k1, b2, n2, k2, he, q1, q2, q3⟩ := hv2
      cases he
      cbv
      refine ⟨⟨rfl, hz.ix hlt⟩, ?_⟩
      cbv
      refine (ho'.mono (hle2.t _)).store (by decide) (i := i) (by simp; omega) (by omega) (by omega) hz.eq rfl (x := (x.1, true)) ⟨b1, n1, k1, b2, n2, k2, rfl, q1, q2, q3⟩ (fun h3 hk ht ho3 => ?_)
      cbv
      refine ⟨len - (i + 1), _, by omega, ⟨?_, ?_, ?_⟩, i + 1, hz.succ (A := A) (by omega), rfl, by omega, ?_, ?_⟩
      · cbv
      · cbv
      · cbv
      · exact (hle'.trans hle2).kpNew (by simpa using hnb) hk
      · rw [if_neg (by simp; omega)] at ho3
        rw [List.take_add_one, hx]
        simpa using ho3
    · have hge := hz.ge hc
      cbv
      have : i = len := by omega
      subst this
      refine ⟨hle', nb, hnb, rfl, ?_⟩
      rw [hlen, List.take_length] at ho'
      rw [hlen]; exact ho'
end Go.S

set_option maxRecDepth 100000
namespace Go.S
open Go.Sx Go.Proofs
theorem ext179 : ExtOk Tryz.prog 344 Tryz.f344 := ⟨Tryz.func344, by kernel_rfl, by kernel_rfl, by kernel_rfl⟩
def cmpB (a b : ByteArray) : Int := Lib.compareBytes a.data.toList b.data.toList

/-- What a binary search gives. -/
structure BsR (l : List Int) (z : Int) (t : Bool) : Prop where
  out : ∃ i, IsN z i ∧ i = bsAt l 0 l.length ∧ t = decide (i < l.length ∧ l.getD i 0 = 0)

theorem cmp145 (a b : ByteArray) (h : Heap) : Ct 304 [.string a, .string b] h (fun v h' => Le h h' ∧ ∃ z, v = .int .i64 z ∧ z = cmpB a b) := by
  obtain ⟨A, hA⟩ := Ar.ex
  refine fn_of_sx A (tabOk T304.plan T304.pub) Tryz.func304 rfl (by kernel_rfl) ?_
  cbv
  refine ext_cmp ext179 (by kernel_rfl) ?_
  generalize hz : Lib.compareBytes a.data.toList b.data.toList = z
  cbv
  exact ⟨Le.refl _, z, rfl, hz.symm⟩
theorem cmp100 (a b : ByteArray) (h : Heap) : Ct 238 [.string a, .string b] h (fun v h' => Le h h' ∧ ∃ z, v = .int .i64 z ∧ z = cmpB a b) := by
  obtain ⟨A, hA⟩ := Ar.ex
  refine fn_of_sx A (tabOk T238.plan T238.pub) Tryz.func238 rfl (by kernel_rfl) ?_
  cbv
  refine (cmp145 a b h).mono (fun v h1 hR => ?_)
  obtain ⟨hle, z, rfl, hz⟩ := hR
  cbv
  exact ⟨hle, z, rfl, hz⟩
theorem cmp99 (a b : ByteArray) (h : Heap) (c1 c2 c3 c4 : Value) : Ct 237 [.agg #[.string a, c1, c2, c3, c4], .string b] h (fun v h' => Le h h' ∧ ∃ z, v = .int .i64 z ∧ z = cmpB a b) := by
  obtain ⟨A, hA⟩ := Ar.ex
  refine fn_of_sx A (tabOk T237.plan T237.pub) Tryz.func237 rfl (by kernel_rfl) ?_
  cbv
  refine (cmp100 a b h).mono (fun v h1 hR => ?_)
  obtain ⟨hle, z, rfl, hz⟩ := hR
  cbv
  exact ⟨hle, z, rfl, hz⟩

theorem bs98 {xs : List Tbl} {h : Heap} {b : Option Addr} {len cap : Nat} (q : Sl 100 shTbl h (.slice b len cap) xs) (name : ByteArray) :
    Ct 236 [.slice b len cap, .string name, .func (.func 237) #[] #[]] h (fun v h' => Le h h' ∧ ∃ (z : Int) (t : Bool), v = .tuple #[.int .i64 z, .bool t] ∧ BsR (xs.map (fun x => cmpB x.S.name name)) z t) := by
  obtain ⟨A, hA⟩ := Ar.ex
  have hlen := q.len
  obtain ⟨hb1, hb2⟩ := q.bound
  have hml : (xs.map (fun x => cmpB x.S.name name)).length = len := by simp [hlen]
  generalize hl : xs.map (fun x => cmpB x.S.name name) = l at hml
  have hget : ∀ (i : Nat) x, xs[i]? = some x → l[i]? = some ((fun x => cmpB x.S.name name) x) := fun i x hx => by rw [← hl]; simp [hx]
  refine fn_of_sx A (tabOk T236.plan T236.pub) Tryz.func236 rfl (by kernel_rfl) ?_
  cbv
  refine LoopX.go (G := Int × Int) (fun g => [(9, .v (.int .i64 g.1)), (10, .v (.int .i64 g.2))]) (fun _ => [])
    (fun n g h' => ∃ i j : Nat, IsN g.1 i ∧ IsN g.2 j ∧ n = j - i ∧ i ≤ j ∧ j ≤ len ∧ Le h h' ∧ bsAt l 0 len = bsAt l i j) len (0, A .nat len) ⟨?_, ?_, ?_⟩ ⟨0, len, ⟨rfl⟩, ⟨by rw [hA.nat]; rfl⟩, by omega, by omega, by omega, Le.refl _, rfl⟩ ?_
  · cbv
  · cbv
  · cbv
  · intro n g h' hI
    cbv
    obtain ⟨i, j, hi, hj, hn, hij, hjl, hle, hbs⟩ := hI
    refine bsel_mk (fun hc => ?_) (fun hc => ?_)
    · rw [hi.lt2 (A := A) hj, decide_eq_true_eq] at hc
      cbv
      refine ⟨by decide, ?_⟩
      cbv
      have hm := hi.mid (A := A) hj (by omega) (by omega)
      obtain ⟨x, hx⟩ := get_ex (xs := xs) (i := (i + j) / 2) (by omega)
      refine ⟨⟨q.isSm (by omega), hm.ix (by omega)⟩, ?_⟩
      cbv
      refine (q.mono (hle.t _)).load hx hm.eq (fun cs hcs => ?_)
      obtain ⟨b1, n1, k1, b2, n2, k2, rfl, q1, q2⟩ := hcs
      cbv
      refine (cmp99 x.S.name name _ _ _ _ _).mono (fun v h2 hR => ?_)
      obtain ⟨hle2, z, rfl, hz⟩ := hR
      cbv
      have hg : l.getD ((i + j) / 2) 0 = z := by rw [List.getD_eq_getElem?_getD, hget _ _ hx, hz]; rfl
      have hbs2 := hbs
      rw [bsAt.eq_1 l i j, if_pos hc, hg] at hbs2
      refine bsel_mk (fun hc2 => ?_) (fun hc2 => ?_)
      · rw [hA.icm] at hc2
        have hc3 : z < 0 := of_decide_eq_true hc2
        rw [if_pos hc3] at hbs2
        clear hc2 hc3
        cbv
        refine ⟨j - ((i + j) / 2 + 1), (_, g.2), by omega, ⟨?_, ?_, ?_⟩, (i + j) / 2 + 1, j, hm.succ (A := A) (by omega), hj, rfl, by omega, hjl, hle.trans hle2, hbs2⟩
        · cbv
        · cbv
        · cbv
      · rw [hA.icm] at hc2
        have hc3 : ¬ z < 0 := of_decide_eq_false hc2
        rw [if_neg hc3] at hbs2
        clear hc2 hc3
        cbv
        refine ⟨(i + j) / 2 - i, (g.1, A .conv .i64 (A .ari .shr .u64 (A .conv .u64 (A .ari .add .i64 g.1 g.2)) 1)), by omega, ⟨?_, ?_, ?_⟩, i, (i + j) / 2, hi, hm, rfl, by omega, by omega, hle.trans hle2, hbs2⟩
        · cbv
        · cbv
        · cbv
    · rw [hi.lt2 (A := A) hj, decide_eq_false_iff_not] at hc
      cbv
      have hbs2 := hbs
      rw [bsAt.eq_1 l i j, if_neg hc] at hbs2
      have hlt2 := hi.lt2 (A := A) (w := A .nat len) (j := len) ⟨by rw [hA.nat]; rfl⟩
      refine bsel_mk (fun hc2 => ?_) (fun hc2 => ?_)
      · rw [hc2]
        rw [hlt2, decide_eq_true_eq] at hc2
        cbv
        obtain ⟨x, hx⟩ := get_ex (xs := xs) (i := i) (by omega)
        refine ⟨⟨q.isSm (by omega), hi.ix (by omega)⟩, ?_⟩
        cbv
        refine (q.mono (hle.t _)).load hx hi.eq (fun cs hcs => ?_)
        obtain ⟨b1, n1, k1, b2, n2, k2, rfl, q1, q2⟩ := hcs
        cbv
        refine (cmp99 x.S.name name _ _ _ _ _).mono (fun v h2 hR => ?_)
        obtain ⟨hle2, z, rfl, hz⟩ := hR
        cbv
        refine ⟨hle.trans hle2, _, _, rfl, ⟨i, hi, ?_, ?_⟩⟩
        · rw [hml]; exact hbs2.symm
        · rw [hA.icm]
          have hg : l.getD i 0 = z := by rw [List.getD_eq_getElem?_getD, hget _ _ hx, hz]; rfl
          rw [hg, hml]
          simp [icm, hc2]
          rfl
      · rw [hc2]
        rw [hlt2, decide_eq_false_iff_not] at hc2
        cbv
        refine ⟨hle, _, _, rfl, ⟨i, hi, ?_, ?_⟩⟩
        · rw [hml]; exact hbs2.symm
        · rw [hml]; simp [hc2]
end Go.S

set_option maxRecDepth 100000
namespace Go.S
open Go.Sx Go.Proofs

theorem own47 {d : DB} {h : Heap} {v : Value} (q : RDB h v d) :
    Ct 78 [v] h (fun v' h' => Le h h' ∧ ∃ tb wb n1 n2 b3 n3 c3 b4 n4 c4 ws, h tb = none ∧ h wb = none ∧
      v' = .agg #[.slice (some ⟨tb, 0, none⟩) n1 n1, .slice (some ⟨wb, 0, none⟩) n2 n2, .slice b3 n3 c3, .slice b4 n4 c4] ∧
      n1 = d.tabs.length ∧ Own 100 shTbl h' tb n1 d.tabs ∧ n2 = ws.length ∧ Own 211 shWrkG h' wb n2 ws ∧ Sl 316 shHld h' (.slice b3 n3 c3) d.holds ∧ Sl 316 shHld h' (.slice b4 n4 c4) d.waits ∧ ws = d.works.map fun w => (w, true)) := by
  obtain ⟨A, hA⟩ := Ar.ex
  obtain ⟨b1, n1, c1, b2, n2, c2, b3, n3, c3, b4, n4, c4, ws, rfl, q1, q2, q3, q4, qw⟩ := q.out
  refine fn_of_sx A (tabOk T78.plan T78.pub) Tryz.func78 rfl (by kernel_rfl) ?_
  cbv
  refine (each101 q1).mono (fun v h1 hR => ?_)
  obtain ⟨l1, tb, htb, rfl, o1⟩ := hR
  cbv
  refine (each102 (q2.mono (l1.t _))).mono (fun v h2 hR => ?_)
  obtain ⟨l2, wb, hwb, rfl, o2⟩ := hR
  cbv
  refine (clone104 (q3.mono ((l1.trans l2).t _))).mono (fun v h3 hR => ?_)
  obtain ⟨l3, b3', c3', rfl, o3, -⟩ := hR
  cbv
  refine (clone104 (q4.mono (((l1.trans l2).trans l3).t _))).mono (fun v h4 hR => ?_)
  obtain ⟨l4, b4', c4', rfl, o4, -⟩ := hR
  cbv
  refine ⟨((l1.trans l2).trans l3).trans l4, tb, wb, n1, n2, _, _, _, _, _, _, _, htb, l1.none hwb, rfl, q1.len, o1.mono (((l2.trans l3).trans l4).t _), ?_, o2.mono ((l3.trans l4).t _), o3.mono (l4.t _), o4, ?_⟩
  · rw [List.length_map]; exact q2.len
  · rw [← qw, List.map_map]; rfl

/-- What a call holds: its tables, works, holds, waits, error. -/
structure Cst (h : Heap) (c tb wb ct cw : Nat) (T : List Tbl) (W : List (Wrk × Bool)) (H Wt : List Hld) (e : Int) : Prop where
  out : ∃ n1 n2 b3 n3 c3 b4 n4 c4 o, h c = some (.cells #[.slice (some ⟨tb, 0, none⟩) n1 ct, .slice (some ⟨wb, 0, none⟩) n2 cw, .slice b3 n3 c3, .slice b4 n4 c4, .int .u32 o, .int .i32 0, .int .u32 0, .int .i64 e] 226 (0, 0)) ∧
    ((o = 0 ∧ e = 0) ∨ (o = 1 ∧ e ≠ 0)) ∧
    n1 = T.length ∧ Own 100 shTbl h tb ct T ∧ n2 = W.length ∧ Own 211 shWrkG h wb cw W ∧ Sl 316 shHld h (.slice b3 n3 c3) H ∧ Sl 316 shHld h (.slice b4 n4 c4) Wt

theorem Cst.mono {h h' : Heap} {c tb wb ct cw : Nat} {T : List Tbl} {W : List (Wrk × Bool)} {H Wt : List Hld} {e : Int} (q : Cst h c tb wb ct cw T W H Wt e) (hl : Le h h') : Cst h' c tb wb ct cw T W H Wt e := by
  obtain ⟨n1, n2, b3, n3, c3, b4, n4, c4, o, g0, g1, g2, g3, g4, g5, g6, g7⟩ := q.out
  exact ⟨n1, n2, b3, n3, c3, b4, n4, c4, o, hl _ _ g0, g1, g2, g3.mono (hl.t _), g4, g5.mono (hl.t _), g6.mono (hl.t _), g7.mono (hl.t _)⟩

theorem begun43 {d : DB} {h : Heap} {v : Value} (q : RDB h v d) :
    Ct 76 [v] h (fun v' h' => Le h h' ∧ ∃ c tb wb ct cw W, v' = .pointer (some ⟨c, 0, none⟩) ∧ h c = none ∧ h tb = none ∧ h wb = none ∧ c ≠ tb ∧ c ≠ wb ∧ W = (d.works.map fun w => (w, true)) ∧ ct = d.tabs.length ∧ cw = W.length ∧ Cst h' c tb wb ct cw d.tabs W d.holds d.waits 0) := by
  obtain ⟨A, hA⟩ := Ar.ex
  have q' := q
  obtain ⟨b1, n1, c1, b2, n2, c2, b3, n3, c3, b4, n4, c4, ws, rfl, -⟩ := q'.out
  refine fn_of_sx A (tabOk T76.plan T76.pub) Tryz.func76 rfl (by kernel_rfl) ?_
  cbv
  refine (own47 q).mono (fun v h1 hR => ?_)
  obtain ⟨l1, tb, wb, n1, n2, b3, n3, c3, b4, n4, c4, W, htb, hwb, rfl, g1, g2, g3, g4, g5, g6, g7⟩ := hR
  cbv
  intro n h2 hn hh
  have l2 : Le h1 h2 := by rw [hh]; exact Le.set hn
  have ht : n ≠ tb := fun e => by
    obtain ⟨c, h3, -⟩ := g2.out
    rw [← e, hn] at h3; cases h3
  have hw : n ≠ wb := fun e => by
    obtain ⟨c, h3, -⟩ := g4.out
    rw [← e, hn] at h3; cases h3
  have gc := (congrFun hh n).trans hset_self
  have hc : Cst h2 n tb wb n1 n2 d.tabs W d.holds d.waits 0 :=
    ⟨n1, n2, b3, n3, c3, b4, n4, c4, 0, gc, .inl ⟨rfl, rfl⟩, g1, g2.mono (l2.t _), g3, g4.mono (l2.t _), g5.mono (l2.t _), g6.mono (l2.t _)⟩
  cbv
  exact ⟨l1.trans l2, n, tb, wb, n1, n2, W, rfl, l1.none hn, htb, hwb, ht, hw, g7, g1, g3, hc⟩

end Go.S

set_option maxRecDepth 100000
namespace Go.S
open Go.Sx Go.Proofs

theorem offm (A : Ar) [hA : ArOk A] (b o n : Nat) : A .off ⟨b, o, none⟩ n = ⟨b, o + n, none⟩ := by rw [hA.off]; exact add_none b o n

theorem ext174 : ExtOk Tryz.prog 206 Tryz.f206 := ⟨Tryz.func206, by kernel_rfl, by kernel_rfl, by kernel_rfl⟩
theorem ext193 : ExtOk Tryz.prog 284 Tryz.f284 := ⟨Tryz.func284, by kernel_rfl, by kernel_rfl, by kernel_rfl⟩
theorem ext197 : ExtOk Tryz.prog 326 Tryz.f326 := ⟨Tryz.func326, by kernel_rfl, by kernel_rfl, by kernel_rfl⟩
theorem ext198 : ExtOk Tryz.prog 327 Tryz.f327 := ⟨Tryz.func327, by kernel_rfl, by kernel_rfl, by kernel_rfl⟩
theorem ext199 : ExtOk Tryz.prog 328 Tryz.f328 := ⟨Tryz.func328, by kernel_rfl, by kernel_rfl, by kernel_rfl⟩
theorem ext200 : ExtOk Tryz.prog 329 Tryz.f329 := ⟨Tryz.func329, by kernel_rfl, by kernel_rfl, by kernel_rfl⟩
theorem ext202 : ExtOk Tryz.prog 331 Tryz.f331 := ⟨Tryz.func331, by kernel_rfl, by kernel_rfl, by kernel_rfl⟩
theorem ext203 : ExtOk Tryz.prog 332 Tryz.f332 := ⟨Tryz.func332, by kernel_rfl, by kernel_rfl, by kernel_rfl⟩

/-- One cell of a block is another one. -/
structure Up (h : Heap) (b o : Nat) (x : Value) (h' : Heap) : Prop where
  out : ∃ c e, h b = some (.cells c e (0, 0)) ∧ h' = hset h b (.cells (c.setIfInBounds o x) e (0, 0))

theorem Up.cel {h h' : Heap} {b o : Nat} {x v : Value} (u : Up h b o x h') (q : Cel h ⟨b, o, none⟩ v) : Cel h' ⟨b, o, none⟩ x := by
  obtain ⟨c, e, h1, rfl⟩ := u.out
  obtain ⟨-, c', e', h2, h3⟩ := q.out
  simp only at h2
  rw [h1] at h2; cases h2
  refine ⟨rfl, _, e, hset_self, ?_⟩
  have := (Array.getElem?_eq_some_iff.1 h3).1
  simp only at this ⊢
  rw [Array.getElem?_setIfInBounds_self_of_lt this]
theorem Up.other {h h' : Heap} {b o p : Nat} {x v : Value} (u : Up h b o x h') (hp : p ≠ o) (q : Cel h ⟨b, p, none⟩ v) : Cel h' ⟨b, p, none⟩ v := by
  obtain ⟨c, e, h1, rfl⟩ := u.out
  obtain ⟨-, c', e', h2, h3⟩ := q.out
  simp only at h2
  rw [h1] at h2; cases h2
  refine ⟨rfl, _, e, hset_self, ?_⟩
  simp only at h3 ⊢
  rw [Array.getElem?_setIfInBounds_ne (Ne.symm hp)]; exact h3

theorem lock191 {h : Heap} {b o : Nat} (q : Cel h ⟨b, o, none⟩ (.int .i32 0)) : Ct 282 [.pointer (some ⟨b, o, none⟩)] h (fun v h' => v = .tuple #[] ∧ Up h b o (.int .i32 1) h') := by
  obtain ⟨A, hA⟩ := Ar.ex
  refine fn_of_sx A (tabOk T282.plan T282.pub) Tryz.func282 rfl (by kernel_rfl) ?_
  cbv
  refine ext_mark0 ext197 .disable (by kernel_rfl) ?_
  cbv
  rw [offm A]
  refine ext_cas ext198 (by kernel_rfl) q (fun c e h1 e1 e2 => ?_)
  have hu : Up h b o (.int .i32 1) h1 := ⟨c, e, e1, e2⟩
  cbv
  refine ext_mark0 ext199 .enable (by kernel_rfl) ?_
  cbv
  refine sem_unsafe (t := 142) (by kernel_rfl) (by kernel_rfl) (by kernel_rfl) (hu.cel q) ?_
  cbv
  refine ext_marked ext200 .acquire (by kernel_rfl) ?_
  cbv
  exact ⟨rfl, hu⟩

theorem lock175 {h : Heap} {b o : Nat} (q : Cel h ⟨b, o, none⟩ (.int .i32 0)) : Ct 207 [.pointer (some ⟨b, o, none⟩)] h (fun v h' => v = .tuple #[] ∧ Up h b o (.int .i32 1) h') := by
  obtain ⟨A, hA⟩ := Ar.ex
  refine fn_of_sx A (tabOk T207.plan T207.pub) Tryz.func207 rfl (by kernel_rfl) ?_
  cbv
  rw [offm A]
  refine (lock191 q).mono (fun v h1 hR => ?_)
  obtain ⟨rfl, hu⟩ := hR
  cbv
  exact ⟨rfl, hu⟩

theorem unlock192 {h : Heap} {b o : Nat} (q : Cel h ⟨b, o, none⟩ (.int .i32 1)) : Ct 283 [.pointer (some ⟨b, o, none⟩)] h (fun v h' => v = .tuple #[] ∧ Up h b o (.int .i32 0) h') := by
  obtain ⟨A, hA⟩ := Ar.ex
  refine fn_of_sx A (tabOk T283.plan T283.pub) Tryz.func283 rfl (by kernel_rfl) ?_
  cbv
  rw [offm A]
  obtain ⟨-, c0, e0, g1, g2⟩ := q.out
  refine ⟨[.int .i32 1], ⟨rfl, rfl, c0, e0, (0, 0), g1, fun i hi => ?_⟩, ?_⟩
  · have : i = 0 := by omega
    subst this
    exact g2
  cbv
  refine sem_unsafe (t := 142) (by kernel_rfl) (by kernel_rfl) (by kernel_rfl) q ?_
  cbv
  refine ext_marked ext202 .releaseMerge (by kernel_rfl) ?_
  cbv
  refine ext_mark0 ext197 .disable (by kernel_rfl) ?_
  cbv
  rw [offm A]
  refine ext_add ext203 (by kernel_rfl) q (fun c e h1 e1 e2 => ?_)
  have hu : Up h b o (.int .i32 0) h1 := ⟨c, e, e1, e2⟩
  cbv
  refine bsel_mk (fun hc => ?_) (fun hc => ?_)
  · rw [hA.icm] at hc; cases hc
  cbv
  refine ext_mark0 ext199 .enable (by kernel_rfl) ?_
  cbv
  exact ⟨rfl, hu⟩

theorem unlock176D {h : Heap} {b o : Nat} (q : Cel h ⟨b, o, none⟩ (.int .i32 1)) : CtD 208 [.pointer (some ⟨b, o, none⟩)] h (fun v h' => v = .tuple #[] ∧ Up h b o (.int .i32 0) h') := by
  obtain ⟨A, hA⟩ := Ar.ex
  refine fnd_of_sx A (tabOk T208.plan T208.pub) Tryz.func208 rfl (by kernel_rfl) ?_
  cbv
  rw [offm A]
  refine (unlock192 q).mono (fun v h1 hR => ?_)
  obtain ⟨rfl, hu⟩ := hR
  cbv
  exact ⟨rfl, hu⟩

theorem load140 {h : Heap} {b o : Nat} {x : Int} (q : Cel h ⟨b, o, none⟩ (.int .u32 x)) : Ct 116 [.pointer (some ⟨b, o, none⟩)] h (fun v h' => ∃ t, v = .bool t ∧ t = decide (x ≠ 0) ∧ h' = h) := by
  obtain ⟨A, hA⟩ := Ar.ex
  refine fn_of_sx A (tabOk T116.plan T116.pub) Tryz.func116 rfl (by kernel_rfl) ?_
  cbv
  rw [offm A]
  refine ext_load ext174 (by kernel_rfl) q ?_
  cbv
  refine ⟨_, rfl, ?_, rfl⟩
  rw [hA.icm]
  simp [icm]
  rfl

theorem b32 (h : Heap) : Ct 285 [.bool true] h (fun v h' => v = .int .u32 1 ∧ h' = h) := by
  obtain ⟨A, hA⟩ := Ar.ex
  refine fn_of_sx A (tabOk T285.plan T285.pub) Tryz.func285 rfl (by kernel_rfl) ?_
  cbv

theorem store177D {h : Heap} {b o : Nat} {x : Value} (q : Cel h ⟨b, o, none⟩ x) : CtD 209 [.pointer (some ⟨b, o, none⟩), .bool true] h (fun v h' => v = .tuple #[] ∧ Up h b o (.int .u32 1) h') := by
  obtain ⟨A, hA⟩ := Ar.ex
  refine fnd_of_sx A (tabOk T209.plan T209.pub) Tryz.func209 rfl (by kernel_rfl) ?_
  cbv
  refine (b32 h).mono (fun v h1 hR => ?_)
  obtain ⟨rfl, rfl⟩ := hR
  cbv
  rw [offm A]
  refine ext_store ext193 (by kernel_rfl) q (fun c e h1 e1 e2 => ?_)
  have hu : Up _ b o (.int .u32 1) h1 := ⟨c, e, e1, e2⟩
  cbv
  exact ⟨rfl, hu⟩
end Go.S

set_option maxRecDepth 100000
namespace Go.S
open Go.Sx Go.Proofs

theorem slow141_95 {h : Heap} {b o : Nat} {a1 a2 : Addr} {Q : Heap → Prop} (q0 : Cel h ⟨b, o, none⟩ (.int .u32 0)) (q1 : Cel h ⟨b, o + 1, none⟩ (.int .i32 0))
    (clo : ∀ h1, Up h b (o + 1) (.int .i32 1) h1 → Ct 233 [.pointer (some a1), .pointer (some a2)] h1 (fun v h2 => v = .tuple #[] ∧ Cel h2 ⟨b, o, none⟩ (.int .u32 0) ∧ Cel h2 ⟨b, o + 1, none⟩ (.int .i32 1) ∧ Q h2)) :
    Ct 117 [.pointer (some ⟨b, o, none⟩), .func (.func 233) #[] #[.pointer (some a1), .pointer (some a2)]] h (fun v h' => v = .tuple #[] ∧ ∃ h2 h3, Q h2 ∧ Up h2 b o (.int .u32 1) h3 ∧ Up h3 b (o + 1) (.int .i32 0) h') := by
  obtain ⟨A, hA⟩ := Ar.ex
  refine fn_of_sxD A (tabOk T117.plan T117.pub) Tryz.func117 rfl (by kernel_rfl) ?_
  cbv
  rw [offm A]
  refine (lock175 q1).mono (fun v h1 hR => ?_)
  obtain ⟨rfl, hu⟩ := hR
  have q0' := hu.other (by omega) q0
  cbv
  rw [offm A]
  rw [offm A]
  refine (load140 q0').mono (fun v h2 hR => ?_)
  obtain ⟨t, rfl, ht, rfl⟩ := hR
  have ht : t = false := by rw [ht]; rfl
  subst ht
  cbv
  rw [hA.not]
  cbv
  rw [offm A]
  refine (clo _ hu).mono (fun v h2 hR => ?_)
  obtain ⟨rfl, c0, c1, hQ⟩ := hR
  cbv
  refine (store177D c0).mono (fun v h3 hR => ?_)
  obtain ⟨-, hu3⟩ := hR
  have c1' := hu3.other (by omega) c1
  cbv
  refine (unlock176D c1').mono (fun v h4 hR => ?_)
  obtain ⟨-, hu4⟩ := hR
  cbv
  exact ⟨rfl, h2, h3, hQ, hu3, hu4⟩

theorem do94_95 {h : Heap} {b o : Nat} {a1 a2 : Addr} {Q : Heap → Prop} (q0 : Cel h ⟨b, o, none⟩ (.int .u32 0)) (q1 : Cel h ⟨b, o + 1, none⟩ (.int .i32 0))
    (clo : ∀ h1, Up h b (o + 1) (.int .i32 1) h1 → Ct 233 [.pointer (some a1), .pointer (some a2)] h1 (fun v h2 => v = .tuple #[] ∧ Cel h2 ⟨b, o, none⟩ (.int .u32 0) ∧ Cel h2 ⟨b, o + 1, none⟩ (.int .i32 1) ∧ Q h2)) :
    Ct 43 [.pointer (some ⟨b, o, none⟩), .func (.func 233) #[] #[.pointer (some a1), .pointer (some a2)]] h (fun v h' => v = .tuple #[] ∧ ∃ h2 h3, Q h2 ∧ Up h2 b o (.int .u32 1) h3 ∧ Up h3 b (o + 1) (.int .i32 0) h') := by
  obtain ⟨A, hA⟩ := Ar.ex
  refine fn_of_sx A (tabOk T43.plan T43.pub) Tryz.func43 rfl (by kernel_rfl) ?_
  cbv
  rw [offm A]
  refine (load140 q0).mono (fun v h2 hR => ?_)
  obtain ⟨t, rfl, ht, rfl⟩ := hR
  have ht : t = false := by rw [ht]; rfl
  subst ht
  cbv
  rw [hA.not]
  cbv
  refine (slow141_95 q0 q1 clo).mono (fun v h2 hR => ?_)
  obtain ⟨rfl, hR⟩ := hR
  cbv
  exact ⟨rfl, hR⟩

theorem did94_95 {h : Heap} {b o : Nat} {a1 a2 : Addr} (q0 : Cel h ⟨b, o, none⟩ (.int .u32 1)) :
    Ct 43 [.pointer (some ⟨b, o, none⟩), .func (.func 233) #[] #[.pointer (some a1), .pointer (some a2)]] h (fun v h' => v = .tuple #[] ∧ h' = h) := by
  obtain ⟨A, hA⟩ := Ar.ex
  refine fn_of_sx A (tabOk T43.plan T43.pub) Tryz.func43 rfl (by kernel_rfl) ?_
  cbv
  rw [offm A]
  refine (load140 q0).mono (fun v h2 hR => ?_)
  obtain ⟨t, rfl, ht, rfl⟩ := hR
  have ht : t = true := by rw [ht]; rfl
  subst ht
  cbv
  rw [hA.not]
  cbv
  exact ⟨rfl, True.intro⟩

theorem slow141_142 {h : Heap} {b o : Nat} {a1 : Addr} {Q : Heap → Prop} (q0 : Cel h ⟨b, o, none⟩ (.int .u32 0)) (q1 : Cel h ⟨b, o + 1, none⟩ (.int .i32 0))
    (clo : ∀ h1, Up h b (o + 1) (.int .i32 1) h1 → Ct 301 [.pointer (some a1)] h1 (fun v h2 => v = .tuple #[] ∧ Cel h2 ⟨b, o, none⟩ (.int .u32 0) ∧ Cel h2 ⟨b, o + 1, none⟩ (.int .i32 1) ∧ Q h2)) :
    Ct 117 [.pointer (some ⟨b, o, none⟩), .func (.func 301) #[.pointer (some a1)] #[]] h (fun v h' => v = .tuple #[] ∧ ∃ h2 h3, Q h2 ∧ Up h2 b o (.int .u32 1) h3 ∧ Up h3 b (o + 1) (.int .i32 0) h') := by
  obtain ⟨A, hA⟩ := Ar.ex
  refine fn_of_sxD A (tabOk T117.plan T117.pub) Tryz.func117 rfl (by kernel_rfl) ?_
  cbv
  rw [offm A]
  refine (lock175 q1).mono (fun v h1 hR => ?_)
  obtain ⟨rfl, hu⟩ := hR
  have q0' := hu.other (by omega) q0
  cbv
  rw [offm A]
  rw [offm A]
  refine (load140 q0').mono (fun v h2 hR => ?_)
  obtain ⟨t, rfl, ht, rfl⟩ := hR
  have ht : t = false := by rw [ht]; rfl
  subst ht
  cbv
  rw [hA.not]
  cbv
  rw [offm A]
  refine (clo _ hu).mono (fun v h2 hR => ?_)
  obtain ⟨rfl, c0, c1, hQ⟩ := hR
  cbv
  refine (store177D c0).mono (fun v h3 hR => ?_)
  obtain ⟨-, hu3⟩ := hR
  have c1' := hu3.other (by omega) c1
  cbv
  refine (unlock176D c1').mono (fun v h4 hR => ?_)
  obtain ⟨-, hu4⟩ := hR
  cbv
  exact ⟨rfl, h2, h3, hQ, hu3, hu4⟩

theorem do94_142 {h : Heap} {b o : Nat} {a1 : Addr} {Q : Heap → Prop} (q0 : Cel h ⟨b, o, none⟩ (.int .u32 0)) (q1 : Cel h ⟨b, o + 1, none⟩ (.int .i32 0))
    (clo : ∀ h1, Up h b (o + 1) (.int .i32 1) h1 → Ct 301 [.pointer (some a1)] h1 (fun v h2 => v = .tuple #[] ∧ Cel h2 ⟨b, o, none⟩ (.int .u32 0) ∧ Cel h2 ⟨b, o + 1, none⟩ (.int .i32 1) ∧ Q h2)) :
    Ct 43 [.pointer (some ⟨b, o, none⟩), .func (.func 301) #[.pointer (some a1)] #[]] h (fun v h' => v = .tuple #[] ∧ ∃ h2 h3, Q h2 ∧ Up h2 b o (.int .u32 1) h3 ∧ Up h3 b (o + 1) (.int .i32 0) h') := by
  obtain ⟨A, hA⟩ := Ar.ex
  refine fn_of_sx A (tabOk T43.plan T43.pub) Tryz.func43 rfl (by kernel_rfl) ?_
  cbv
  rw [offm A]
  refine (load140 q0).mono (fun v h2 hR => ?_)
  obtain ⟨t, rfl, ht, rfl⟩ := hR
  have ht : t = false := by rw [ht]; rfl
  subst ht
  cbv
  rw [hA.not]
  cbv
  refine (slow141_142 q0 q1 clo).mono (fun v h2 hR => ?_)
  obtain ⟨rfl, hR⟩ := hR
  cbv
  exact ⟨rfl, hR⟩

theorem did94_142 {h : Heap} {b o : Nat} {a1 : Addr} (q0 : Cel h ⟨b, o, none⟩ (.int .u32 1)) :
    Ct 43 [.pointer (some ⟨b, o, none⟩), .func (.func 301) #[.pointer (some a1)] #[]] h (fun v h' => v = .tuple #[] ∧ h' = h) := by
  obtain ⟨A, hA⟩ := Ar.ex
  refine fn_of_sx A (tabOk T43.plan T43.pub) Tryz.func43 rfl (by kernel_rfl) ?_
  cbv
  rw [offm A]
  refine (load140 q0).mono (fun v h2 hR => ?_)
  obtain ⟨t, rfl, ht, rfl⟩ := hR
  have ht : t = true := by rw [ht]; rfl
  subst ht
  cbv
  rw [hA.not]
  cbv
  exact ⟨rfl, True.intro⟩
end Go.S

set_option maxRecDepth 100000
namespace Go.S
open Go.Sx Go.Proofs

theorem fail95 {h : Heap} {b3 b2 c : Nat} {x : Int} {t1 t2 e1 e2 : Nat} {s1 s2 s3 s4 o1 o2 o3 y : Value} (g3 : h b3 = some (.cells #[.int .i64 x] t1 (e1, e2))) (g2 : h b2 = some (.cells #[.pointer (some ⟨c, 0, none⟩)] t2 (0, 0)))
    (gc : h c = some (.cells #[s1, s2, s3, s4, o1, o2, o3, y] 226 (0, 0))) :
    Ct 233 [.pointer (some ⟨b3, 0, none⟩), .pointer (some ⟨b2, 0, none⟩)] h (fun v h' => v = .tuple #[] ∧ h' = hset h c (.cells #[s1, s2, s3, s4, o1, o2, o3, .int .i64 x] 226 (0, 0))) := by
  obtain ⟨A, hA⟩ := Ar.ex
  refine fn_of_sx A (tabOk T233.plan T233.pub) Tryz.func233 rfl (by kernel_rfl) ?_
  cbv
  refine ldb g2 rfl rfl ?_
  cbv
  refine ldb g3 rfl rfl ?_
  cbv
  rw [offm A]
  refine stb gc (by simp) (fun h' hh => ?_)
  cbv
  exact ⟨rfl, hh⟩

theorem Up.exp {h h' : Heap} {b o e : Nat} {x : Value} {c : List Value} (u : Up h b o x h') (g : h b = some (.cells (List.toArray c) e (0, 0))) : h' = hset h b (.cells (List.toArray (c.set o x)) e (0, 0)) := by
  obtain ⟨c', e', g', rfl⟩ := u.out
  rw [g] at g'
  cases g'
  simp

theorem cel_exp {h : Heap} {b o e : Nat} {c : List Value} {x : Value} (g : h b = some (.cells (List.toArray c) e (0, 0))) (hx : c[o]? = some x) : Cel h ⟨b, o, none⟩ x := ⟨rfl, _, e, g, by simpa using hx⟩

/-- Nothing but a call's own state is touched. -/
theorem fail44 {h : Heap} {c tb wb ct cw : Nat} {T : List Tbl} {W : List (Wrk × Bool)} {H Wt : List Hld} {e x : Int} (q : Cst h c tb wb ct cw T W H Wt e) (ht : c ≠ tb) (hw : c ≠ wb) :
    Ct 139 [.pointer (some ⟨c, 0, none⟩), .int .i64 x] h (fun v h' => v = .tuple #[] ∧ Kp [c] h h' ∧ Cst h' c tb wb ct cw T W H Wt (if e = 0 then x else e)) := by
  obtain ⟨A, hA⟩ := Ar.ex
  obtain ⟨n1, n2, b3, n3, c3, b4, n4, c4, o, gc, ho, q1, q2, q3, q4, q5, q6⟩ := q.out
  refine fn_of_sx A (tabOk T139.plan T139.pub) Tryz.func139 rfl (by kernel_rfl) ?_
  cbv
  intro p2 h1 hp2 e1
  cbv
  intro p3 h2 hp3 e2
  have l1 : Le h h1 := by rw [e1]; exact Le.set hp2
  have l2 : Le h1 h2 := by rw [e2]; exact Le.set hp3
  have g3 : h2 p3 = some (.cells #[.int .i64 x] 26 (0, 0)) := by rw [e2]; exact hset_self
  have g2 : h2 p2 = some (.cells #[.pointer (some ⟨c, 0, none⟩)] 220 (0, 0)) := l2 _ _ (by rw [e1]; exact hset_self)
  have q' := q.mono (l1.trans l2)
  have gc' := (l1.trans l2) _ _ gc
  have n2c : p2 ≠ c := fun e => by rw [e, gc] at hp2; cases hp2
  have n3c : p3 ≠ c := fun e => by rw [e, l1 _ _ gc] at hp3; cases hp3
  cbv
  refine ldb g3 rfl rfl ?_
  cbv
  refine bsel_mk (fun hc => ?_) (fun hc => ?_)
  · have hx : x ≠ 0 := by
      intro e; rw [hA.icm, e] at hc; cases hc
    clear hc
    cbv
    refine ldb g2 rfl rfl ?_
    cbv
    rw [offm A]
    rcases ho with ⟨rfl, rfl⟩ | ⟨rfl, he⟩
    · refine (do94_95 (a1 := ⟨p3, 0, none⟩) (a2 := ⟨p2, 0, none⟩) (Q := fun hq => hq = hset h2 c (.cells (List.toArray [.slice (some ⟨tb, 0, none⟩) n1 ct, .slice (some ⟨wb, 0, none⟩) n2 cw, .slice b3 n3 c3, .slice b4 n4 c4, .int .u32 0, .int .i32 1, .int .u32 0, .int .i64 x]) 226 (0, 0)))
        (cel_exp gc' rfl) (cel_exp gc' rfl) (fun h3 hu => ?_)).mono (fun v h4 hR => ?_)
      · have e3 := hu.exp gc'
        have g3' : h3 p3 = some (.cells #[.int .i64 x] 26 (0, 0)) := by rw [e3, hset_ne n3c]; exact g3
        have g2' : h3 p2 = some (.cells #[.pointer (some ⟨c, 0, none⟩)] 220 (0, 0)) := by rw [e3, hset_ne n2c]; exact g2
        have gc3 : h3 c = some (.cells (List.toArray [.slice (some ⟨tb, 0, none⟩) n1 ct, .slice (some ⟨wb, 0, none⟩) n2 cw, .slice b3 n3 c3, .slice b4 n4 c4, .int .u32 0, .int .i32 1, .int .u32 0, .int .i64 0]) 226 (0, 0)) := by rw [e3]; exact hset_self
        refine (fail95 g3' g2' gc3).mono (fun v h4 hR => ?_)
        obtain ⟨rfl, rfl⟩ := hR
        exact ⟨rfl, cel_exp hset_self rfl, cel_exp hset_self rfl, by rw [e3, hset_twice]⟩
      · obtain ⟨rfl, h5, h6, rfl, u5, u6⟩ := hR
        have e6 := u5.exp hset_self
        rw [hset_twice] at e6
        have g6 := (congrFun e6 c).trans hset_self
        have e4 := u6.exp g6
        rw [e6, hset_twice] at e4
        cbv
        have kp : Kp [c] h2 h4 := by rw [e4]; exact Kp.set (by simp)
        have lt : ∀ tys, 226 ∉ tys → LeT tys h2 h4 := fun tys hn => by rw [e4]; exact LeT.set gc' hn
        refine ⟨rfl, ((l1.trans l2).kp _).trans kp, n1, n2, b3, n3, c3, b4, n4, c4, 1, ?_, .inr ⟨rfl, ?_⟩, q1, ?_, q3, ?_, ?_, ?_⟩
        · rw [e4]; exact hset_self
        · exact hx
        · exact q2.mono (((l1.trans l2).t _).trans (lt _ (by decide)))
        · exact q4.mono (((l1.trans l2).t _).trans (lt _ (by decide)))
        · exact q5.mono (((l1.trans l2).t _).trans (lt _ (by decide)))
        · exact q6.mono (((l1.trans l2).t _).trans (lt _ (by decide)))
    · refine (did94_95 (a1 := ⟨p3, 0, none⟩) (a2 := ⟨p2, 0, none⟩) (cel_exp gc' rfl)).mono (fun v h4 hR => ?_)
      obtain ⟨rfl, rfl⟩ := hR
      cbv
      refine ⟨rfl, (l1.trans l2).kp _, ?_⟩
      rw [if_neg he]
      exact q'
  · have hx : x = 0 := by
      rw [hA.icm] at hc
      simpa [icm] using hc
    cbv
    refine ⟨rfl, (l1.trans l2).kp _, ?_⟩
    subst hx
    have : (if e = 0 then 0 else e) = e := by split <;> simp_all
    rw [this]
    exact q'
end Go.S

set_option maxRecDepth 100000
namespace Go.S
open Go.Sx Go.Proofs

def shStr : Sh ByteArray where
  n := 1
  R _ cs v := cs = [.string v]
  len := by rintro h cs x rfl; rfl
  one := by rintro h cs x rfl; rfl
  tys := []
  mono := fun _ q => q

/-- The language's words. -/
def langL : List ByteArray := [⟨#[97, 110, 100]⟩, ⟨#[98, 101, 103, 105, 110]⟩, ⟨#[98, 111, 111, 108]⟩, ⟨#[98, 121]⟩, ⟨#[99, 111, 109, 109, 105, 116]⟩, ⟨#[99, 111, 117, 110, 116]⟩, ⟨#[99, 114, 101, 97, 116, 101]⟩, ⟨#[100, 101, 108, 101, 116, 101]⟩, ⟨#[100, 101, 115, 99]⟩, ⟨#[100, 114, 111, 112]⟩, ⟨#[102, 97, 108, 115, 101]⟩, ⟨#[102, 114, 111, 109]⟩, ⟨#[103, 114, 111, 117, 112]⟩, ⟨#[105, 110, 115, 101, 114, 116]⟩, ⟨#[105, 110, 116]⟩, ⟨#[105, 110, 116, 111]⟩, ⟨#[105, 115]⟩, ⟨#[106, 111, 105, 110]⟩, ⟨#[107, 101, 121]⟩, ⟨#[108, 105, 109, 105, 116]⟩, ⟨#[109, 97, 120]⟩, ⟨#[109, 105, 110]⟩, ⟨#[110, 111, 116]⟩, ⟨#[110, 117, 108, 108]⟩, ⟨#[111, 110]⟩, ⟨#[111, 110, 108, 121]⟩, ⟨#[111, 114]⟩, ⟨#[111, 114, 100, 101, 114]⟩, ⟨#[112, 114, 105, 109, 97, 114, 121]⟩, ⟨#[114, 111, 108, 108, 98, 97, 99, 107]⟩, ⟨#[115, 97, 118, 101, 112, 111, 105, 110, 116]⟩, ⟨#[115, 101, 108, 101, 99, 116]⟩, ⟨#[115, 101, 116]⟩, ⟨#[115, 117, 109]⟩, ⟨#[116, 97, 98, 108, 101]⟩, ⟨#[116, 101, 120, 116]⟩, ⟨#[116, 111]⟩, ⟨#[116, 114, 117, 101]⟩, ⟨#[117, 112, 100, 97, 116, 101]⟩, ⟨#[118, 97, 108, 117, 101, 115]⟩, ⟨#[119, 104, 101, 114, 101]⟩]
theorem langL_nodup : langL.Nodup := by decide

theorem lang178 (h : Heap) : Ct 343 [] h (fun v h' => Le h h' ∧ ∃ nb, v = .slice (some ⟨nb, 0, none⟩) 41 41 ∧ Sl 9 shStr h' v langL) := by
  obtain ⟨A, hA⟩ := Ar.ex
  refine fn_of_sx A (tabOk T343.plan T343.pub) Tryz.func343 rfl (by kernel_rfl) ?_
  cbv
  intro n h1 hn e1
  have g : h1 n = some (.cells (List.toArray (langL.map Value.string)) 9 (0, 0)) := by rw [e1]; exact hset_self
  have hr : Sx.Rows shStr h1 (langL.map Value.string) 0 langL := by
    refine ⟨by decide, fun i x hx => ?_⟩
    have hlt := (List.getElem?_eq_some_iff.1 hx).1
    show List.take 1 (List.drop (0 + i * 1) _) = _
    rw [Nat.zero_add, Nat.mul_one, List.drop_eq_getElem_cons (by simpa using hlt)]
    rw [List.getElem?_eq_some_iff] at hx
    simp [hx.2]
  have hs : Sl 9 shStr h1 (.slice (some ⟨n, 0, none⟩) 41 41) langL := Sl.fresh (xs := langL) g hr (by decide) (by decide)
  have hl : Le h h1 := by rw [e1]; exact Le.set hn
  clear g hr e1
  cbv
  exact ⟨hl, n, rfl, hs⟩

theorem u175 : Tryz.prog.underlying 393 = some (.map 9 4) := by kernel_rfl
theorem u9 : Tryz.prog.underlying 9 = some .string := by kernel_rfl
def wordsM (l : List ByteArray) : List (Value × Value) := l.map fun w => (.string w, .bool true)

theorem Kp.new {bs : List Nat} {h h1 h2 : Heap} {m : Nat} (x : Kp bs h h1) (hm : h m = none) (y : Kp (m :: bs) h1 h2) : Kp bs h h2 := fun b o q hb =>
  y b o (x b o q hb) (by
    intro hc
    rcases List.mem_cons.1 hc with e | e
    · rw [e, hm] at q; cases q
    · exact hb e)

theorem read142 {h : Heap} {sp : Nat} {o1 o2 o3 mv : Value} (gsp : h sp = some (.cells #[o1, o2, o3, mv] 395 (0, 0))) :
    Ct 301 [.pointer (some ⟨sp, 0, none⟩)] h (fun v h' => v = .tuple #[] ∧ Kp [sp] h h' ∧ ∃ m, h m = none ∧ h' sp = some (.cells #[o1, o2, o3, .map (some m)] 395 (0, 0)) ∧ Mp h' m .string (wordsM langL)) := by
  obtain ⟨A, hA⟩ := Ar.ex
  refine fn_of_sx A (tabOk T301.plan T301.pub) Tryz.func301 rfl (by kernel_rfl) ?_
  cbv
  intro m h1 hm e1
  have l1 : Le h h1 := by rw [e1]; exact Le.set hm
  have hne : m ≠ sp := fun e => by rw [e, gsp] at hm; cases hm
  have mp1 : Mp h1 m .string [] := Mp.new (by rw [e1]; exact hset_self)
  cbv
  rw [offm A]
  refine stb (l1 _ _ gsp) (by simp) (fun h2 e2 => ?_)
  have k2 : Kp [sp] h1 h2 := by rw [e2]; exact Kp.set (by simp)
  have g2 : h2 sp = some (.cells #[o1, o2, o3, .map (some m)] 395 (0, 0)) := by rw [e2]; exact hset_self
  have mp2 := mp1.kp k2 (by simpa using hne)
  cbv
  refine (lang178 h2).mono (fun v h3 hR => ?_)
  obtain ⟨l3, nb, rfl, hs⟩ := hR
  have mp3 := mp2.kp (l3.kp []) (by simp)
  have k3 : Kp [sp] h h3 := ((l1.kp _).trans k2).trans (l3.kp _)
  have g3 := l3 _ _ g2
  have hlen : langL.length = 41 := rfl
  cbv
  refine LoopX.go (G := Int) (fun z => [(10, .v (.int .i64 z))]) (fun _ => []) (fun n z h' => ∃ i : Nat, IsN z i ∧ n = 41 - i ∧ i ≤ 41 ∧ Kp [sp] h h' ∧ h' sp = some (.cells #[o1, o2, o3, .map (some m)] 395 (0, 0)) ∧ Mp h' m .string (wordsM (langL.take i)) ∧ Sl 9 shStr h' (.slice (some ⟨nb, 0, none⟩) 41 41) langL) 41 0 ⟨?_, ?_, ?_⟩ ⟨0, ⟨rfl⟩, rfl, by decide, k3, g3, mp3, hs⟩ ?_
  · cbv
  · cbv
  · cbv
  · intro n z h' hI
    cbv
    obtain ⟨i, hz, hn, hi, k', g', mp', hs'⟩ := hI
    refine bsel_mk (fun hc => ?_) (fun hc => ?_)
    · have hlt := hz.lt (A := A) (len := 41) hc
      clear hc
      cbv
      obtain ⟨x, hx⟩ := get_ex (xs := langL) (i := i) (by rw [hlen]; exact hlt)
      refine ⟨⟨rfl, hz.ix hlt⟩, ?_⟩
      cbv
      refine hs'.load hx hz.eq (fun cs hcs => ?_)
      have hcs : cs = [.string x] := hcs
      subst hcs
      cbv
      rw [offm A]
      refine ldb g' rfl rfl ?_
      cbv
      refine sem_put u175 u9 mp' (key := .string x) True.intro ?_ (fun h4 mp4 k4 t4 => ?_)
      · intro p hp e
        obtain ⟨w, hw, rfl⟩ := List.mem_map.1 hp
        cases e
        obtain ⟨j, hj⟩ := List.getElem?_of_mem hw
        rw [List.getElem?_take] at hj
        split at hj
        · rename_i hji
          have h5 := List.getElem?_eq_some_iff.1 hj
          have h6 := List.getElem?_eq_some_iff.1 hx
          have := List.pairwise_iff_getElem.1 langL_nodup j i h5.1 h6.1 hji
          rw [h5.2, h6.2] at this
          exact this rfl
        · cases hj
      cbv
      refine ⟨41 - (i + 1), _, by omega, ⟨?_, ?_, ?_⟩, i + 1, hz.succ (A := A) (by omega), rfl, by omega, Kp.new k' hm (k4.sub (by simp)), k4 _ _ g' (by simpa using fun e => hne (Eq.symm e)), ?_, hs'.mono (t4 _)⟩
      · cbv
      · cbv
      · cbv
      · rw [List.take_add_one, hx]
        simpa [wordsM] using mp4
    · have hge := hz.ge (A := A) (len := 41) hc
      cbv
      have : i = 41 := by omega
      subst this
      exact ⟨rfl, k', m, hm, g', mp'⟩
end Go.S

