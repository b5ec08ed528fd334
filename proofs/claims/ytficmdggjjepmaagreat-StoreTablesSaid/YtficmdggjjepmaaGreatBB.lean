import Derived.Test.YtficmdggjjepmaaGreatBA
import Derived.Test.YtficmdggjjepmaaGreatRd
import Derived.Test.YtficmdggjjepmaaGreatSxC
set_option linter.all false
set_option maxRecDepth 100000
set_option maxHeartbeats 8000000
namespace Go.S
open Go.Sx Go.Proofs
theorem pg0_R (h : Heap) : shPg.R h (List.replicate 64 (.int .u8 0)) pg0 := ⟨rfl, rfl⟩
def dk0 (n : Nat) : Dk := ⟨0, false, List.replicate n pg0, List.replicate n pg0, []⟩
theorem NewD {h : Heap} {z : Int} {n : Nat} (hz : IsN z n) (h2 : 2 ≤ n) (hn : n ≤ 4096) {k : Value → Heap → Prop}
    (hk : ∀ h' p, h p = none → Le h h' → DkO h' p (dk0 n) → k (.tuple #[.pointer (some ⟨p, 0, none⟩), .int .i64 0]) h') :
    Ct 7 [.int .i64 z] h k := by
  obtain ⟨A, hA⟩ := Ar.ex
  have f1 : A .icm .lss z 2 = false := by rw [icm_lss A, hz.eq]; exact decide_eq_false (by omega)
  have f2 : A .icm .gtr z 4096 = false := by rw [icm_gtr A, hz.eq]; exact decide_eq_false (by omega)
  have hzn : z = A .nat n := by rw [hA.nat]; exact hz.eq
  have fin : ∀ (h1 h2 : Heap) (kb nb : Nat) (h3 : Heap) (p : Nat), h kb = none ∨ h1 kb = none → Le h h1 → Le h1 h2 → Own 135 shPg h2 kb n (List.replicate n pg0) → Own 135 shPg h2 nb n (List.replicate n pg0) → kb ≠ nb → h2 p = none → h3 = hset h2 p (.cells (List.toArray [.int .i64 0, .int .u32 0, .slice (some ⟨kb, 0, none⟩) n n, .slice (some ⟨nb, 0, none⟩) n n, .slice none 0 0]) 120 (0, 0)) →
      k (.tuple #[.pointer (some ⟨p, 0, none⟩), .int .i64 0]) h3 := fun h1 h2 kb nb h3 p _ l1 l2 o1 o2 hne hp e3 => by
    have l3 : Le h2 h3 := by rw [e3]; exact Le.set hp
    refine hk h3 p ((l1.trans l2).none hp) ((l1.trans l2).trans l3) ⟨kb, nb, none, 0, 0, 0, ?_, ?_, ?_, ?_, hne, rfl, Buf.nil, ?_⟩
    · rw [e3, hset_self]
      simp only [dk0, List.length_replicate]
    · simp only [dk0, List.length_replicate]; exact o1.mono (l3.t _)
    · simp only [dk0, List.length_replicate]; exact o2.mono (l3.t _)
    · simp only [dk0]
    · simp only [dk0, List.length_replicate]; exact hn
  refine fn_of_sx A (tabOk T7.plan T7.pub) Tryz.func7 rfl (by kernel_rfl) ?_
  cbv
  rw [f1]
  cbv
  rw [f2]
  cbv
  rw [hzn]
  refine ⟨?_, ?_⟩
  · refine make_z (x := pg0) pg0_R (by omega) (by decide) (fun n1 h1 hn1 l1 o1 => ?_)
    cbv
    refine make_z (x := pg0) pg0_R (by omega) (by decide) (fun n2 h2 hn2 l2 o2 => ?_)
    have hne : n1 ≠ n2 := fun e => by rw [← e] at hn2; exact o1.has hn2
    have fin := fun h3 p => fin h1 h2 n1 n2 h3 p (.inl hn1) l1 l2 (o1.mono (l2.t _)) o2 hne
    cbv
    intro p h3 hp e3
    cbv
    exact fin h3 p hp e3
  · refine make_z (x := pg0) pg0_R (by omega) (by decide) (fun n1 h1 hn1 l1 o1 => ?_)
    cbv
    refine make_z (x := pg0) pg0_R (by omega) (by decide) (fun n2 h2 hn2 l2 o2 => ?_)
    have hne : n2 ≠ n1 := fun e => by rw [e] at hn2; exact o1.has hn2
    have fin := fun h3 p => fin h1 h2 n2 n1 h3 p (.inr hn2) l1 l2 o2 (o1.mono (l2.t _)) hne
    cbv
    intro p h3 hp e3
    cbv
    exact fin h3 p hp e3
end Go.S

set_option maxRecDepth 100000
set_option maxHeartbeats 8000000
namespace Go.S
open Go.Sx Go.Proofs
/-- A heap without one block goes on: all but blocks of that one's type are as they were. -/
theorem del_x {h h' : Heap} {l : Nat} {c : Array Value} {e : Nat} {fr : Nat × Nat} (g : h l = some (.cells c e fr)) (q : Le (Sx.hdel h l) h') {ex : List Nat} (he : e ∈ ex) : LeX ex h h' := fun b o hb hne => by
  have hbl : b ≠ l := fun e1 => by rw [e1, g] at hb; cases hb; exact hne _ _ _ rfl he
  exact q b o (by rw [Sx.hdel_ne hbl]; exact hb)
/-- The bytes of the pages from 1 on. -/
def restB (D : Dk) : Bs := (D.now.drop 1).flatten
theorem DkO.pg {h : Heap} {p : Nat} {D : Dk} (q : DkO h p D) {i : Nat} {b : Bs} (hb : D.now[i]? = some b) : b.length = 64 := by
  obtain ⟨kb, nb, wb, wn, wc, d, g, o1, o2, e1, e2, e3, w, e4⟩ := q.out
  obtain ⟨c, h1, h2, h3⟩ := o2.out
  exact (h2.2 i b hb).2
theorem flat_len {L : List Bs} (hL : ∀ b ∈ L, b.length = 64) : L.flatten.length = 64 * L.length := by
  induction L with
  | nil => rfl
  | cons x r ih =>
    rw [List.flatten_cons, List.length_append, hL x (by simp), ih (fun b hb => hL b (by simp [hb])), List.length_cons]
    omega
theorem DkO.max {h : Heap} {p : Nat} {D : Dk} (q : DkO h p D) : D.now.length ≤ 4096 := by
  obtain ⟨kb, nb, wb, wn, wc, d, g, o1, o2, e1, e2, e3, w, e4⟩ := q.out
  exact e4
def lzC (p : Nat) (d s : Int) (v : Value) : List Value := [.pointer (some ⟨p, 0, none⟩), .int .u32 d, .int .i32 s, .int .u32 0, v, .int .i64 0]
theorem lreadC {h : Heap} {p l : Nat} {D : Dk} (q : DkO h p D) (hd : D.dead = false) (g : h l = some (.cells (List.toArray [.pointer (some ⟨p, 0, none⟩), .int .u32 0, .int .i32 1, .int .u32 0, .slice none 0 0, .int .i64 0]) 265 (0, 0))) (hP : 1 ≤ D.now.length) {k : Value → Heap → Prop}
    (hk : ∀ h' b m c, LeX [265] h h' → h' l = some (.cells (List.toArray [.pointer (some ⟨p, 0, none⟩), .int .u32 0, .int .i32 1, .int .u32 0, .slice b m c, .int .i64 0]) 265 (0, 0)) → Sl 5 shB h' (.slice b m c) (restB D) → k (.tuple #[]) h') :
    Ct 197 [.pointer (some ⟨l, 0, none⟩)] h k := by
  obtain ⟨A, hA⟩ := Ar.ex
  have hmax := q.max
  have h64 : ∀ b ∈ D.now, b.length = 64 := fun b hb => by
    obtain ⟨i, hi⟩ := List.mem_iff_getElem?.1 hb
    exact q.pg hi
  obtain ⟨P, hPe⟩ : ∃ P, P = D.now.length := ⟨_, rfl⟩
  obtain ⟨J, hJ0⟩ : ∃ J : Nat → Int → Heap → Prop, ∀ w z h', J w z h' = (∃ i b m c, IsN z (i + 1) ∧ i + 1 ≤ P ∧ w = P - i ∧ (m = 0 → b = none) ∧ Le (Sx.hdel h l) h' ∧ h' l = some (.cells (List.toArray [.pointer (some ⟨p, 0, none⟩), .int .u32 0, .int .i32 1, .int .u32 0, .slice b m c, .int .i64 0]) 265 (0, 0)) ∧
    Buf 5 shB (Sx.hdel h l) h' (.slice b m c) (((D.now.drop 1).take i).flatten)) := ⟨_, fun _ _ _ => rfl⟩
  have hJ : J P 1 h := by rw [hJ0]; exact ⟨0, none, 0, 0, ⟨rfl⟩, by omega, by omega, fun _ => rfl, Sx.hdel_le _ _, g, Buf.nil⟩
  refine fn_of_sx A (tabOk T197.plan T197.pub) Tryz.func197 rfl (by kernel_rfl) ?_
  cbv
  refine LoopX.go (G := Int) (fun z => [(2, .v (.int .i64 z))]) (fun _ => []) (fun w z h' => J w z h') P 1 ⟨?_, ?_, ?_⟩ hJ ?_
  · cbv
  · cbv
  · cbv
  · intro w z h1 hI
    rw [hJ0] at hI
    cbv
    obtain ⟨i, b, m, c, hz, hi, hw, hmb, l1, g1, q1⟩ := hI
    have lx1 := del_x g l1 (ex := [265]) (by decide)
    have d1 := q.lt (lx1.t (by decide))
    have hml := q1.sl.len
    have hfl : (((D.now.drop 1).take i).flatten).length = 64 * i := by
      rw [flat_len (fun x hx => h64 x (List.mem_of_mem_drop (List.mem_of_mem_take hx))), List.length_take, List.length_drop]
      congr 1; omega
    rw [hfl] at hml
    rw [offm A]
    refine ldb g1 rfl rfl ?_
    cbv
    refine PagesC d1 (fun zP hzP => ?_)
    have f1 : A .icm .lss z zP = decide (i + 1 < P) := by rw [hPe]; exact hz.lt2 hzP
    have hck : i + 1 < P → chkD D z 0 = 0 := fun hh => by
      unfold chkD
      rw [hd]
      show (if _ then (1 : Int) else 0) = 0
      rw [if_neg]
      have := hz.eq
      rintro (hh1 | hh1 | hh1) <;> omega
    have hnx := hz.succ (A := A) (by omega)
    have hpg : i + 1 < P → ((D.now.drop 1).take (i + 1)).flatten = ((D.now.drop 1).take i).flatten ++ pgAt D z := fun hh => by
      obtain ⟨x, hx⟩ := get_ex (xs := D.now) (i := i + 1) (by omega)
      have e1 : pgAt D z = x := by
        unfold pgAt
        rw [show z.toNat = i + 1 by have := hz.eq; omega, hx]; rfl
      rw [e1]
      exact flat_take (by rw [List.getElem?_drop, Nat.add_comm]; exact hx)
    have hJ2 : ∀ h' b' m' c', i + 1 < P → m' = m + 64 → Le (Sx.hdel h l) h' → h' l = some (.cells (List.toArray [.pointer (some ⟨p, 0, none⟩), .int .u32 0, .int .i32 1, .int .u32 0, .slice b' m' c', .int .i64 0]) 265 (0, 0)) → Buf 5 shB (Sx.hdel h l) h' (.slice b' m' c') (((D.now.drop 1).take i).flatten ++ pgAt D z) →
        J (P - (i + 1)) (A .ari .add .i64 z 1) h' := fun h' b' m' c' hh hm' l' g' q' => by
      rw [hJ0]; exact ⟨i + 1, b', m', c', hnx, by omega, rfl, fun e => absurd e (by omega), l', g', by rw [hpg hh]; exact q'⟩
    cbv
    rw [f1]
    by_cases hlt : i + 1 < P
    · have hck := hck hlt
      rw [decide_eq_true hlt]
      clear hJ0 hJ hnx hpg hfl
      cbv
      rw [offm A]
      refine ldb g1 rfl rfl ?_
      cbv
      refine ReadC d1 z (fun hne => absurd hck hne) (fun _ h2 b2 c2 l2 hl2 q2 => ?_)
      have g2 := l2 _ _ g1
      have q12 := q1.mono (l2.t _)
      have fe : A .icm .neq 0 0 = false := by rw [icm_neq A]; rfl
      generalize pgAt D z = pg at *
      cbv
      rw [fe]
      cbv
      rw [offm A]
      refine ldb g2 rfl rfl ?_
      cbv
      refine q12.app q2.sl (by decide) rfl (by decide) (by omega) (l1.trans l2) (fun m' b' c' h3 hm' l3 t3 k3 q3 => ?_)
      have hbl : b ≠ some ⟨l, 0, none⟩ := fun e => by
        rcases q12.out with ⟨b0, e1, -⟩ | ⟨nb, cap, e1, e2, o⟩
        · injection e1 with e3 e4 e5
          rw [hmb e4] at e
          cases e
        · cases e1
          cases e
          obtain ⟨cc, hcc, -⟩ := o.out
          rw [g2] at hcc
          cases hcc
      have g3 := k3 _ _ g2 (.inr (.inl hbl))
      cbv
      rw [offm A]
      refine stb g3 (by simp) (fun h4 e4 => ?_)
      have l4 : Le (Sx.hdel h l) h4 := fun j o hj => by
        have hjl : j ≠ l := fun e => by rw [e, Sx.hdel_self] at hj; cases hj
        rw [e4, hset_ne hjl]; exact l3 j o hj
      have t4 : LeT [5] h3 h4 := by rw [e4]; exact LeT.set g3 (by decide)
      have g4 := (congrFun e4 l).trans hset_self
      have hJ3 := hJ2 h4 b' m' c' hlt hm' l4 g4 (q3.mono t4)
      clear hJ2 e4
      cbv
      refine ⟨P - (i + 1), _, by omega, ⟨?_, ?_, ?_⟩, hJ3⟩
      · cbv
      · cbv
      · cbv
    · rw [decide_eq_false hlt]
      have hfin : ((D.now.drop 1).take i).flatten = restB D := by
        unfold restB
        rw [List.take_of_length_le (by rw [List.length_drop]; omega)]
      have := hk h1 b m c lx1 g1 (hfin ▸ q1.sl)
      clear hJ0 hJ hnx hpg hfl hJ2
      cbv
      exact this
end Go.S

set_option maxRecDepth 100000
set_option maxHeartbeats 8000000
namespace Go.S
open Go.Sx Go.Proofs
theorem _root_.Go.Sx.Sl.short {α : Type} {e : Nat} {s : Sh α} {h : Heap} {b : Option Addr} {n c : Nat} {xs : List α} (q : Sl e s h (.slice b n c) xs) {m : Nat} (hm : m ≤ n) : Sl e s h (.slice b m c) (xs.take m) := by
  have hl : (xs.take m).length = m := by rw [List.length_take, ← q.len]; omega
  obtain ⟨b', cap, e1, h2, h3, h4⟩ := q.out
  cases e1
  refine ⟨b, c, by rw [hl], by rw [hl]; omega, by rw [hl]; omega, ?_⟩
  rcases h4 with rfl | ⟨blk, off, cc, fr, h5, h6, h7⟩
  · exact .inl (by simp)
  · exact .inr ⟨blk, off, cc, fr, h5, h6, h7.take m⟩
/-- 's[i:j]'. -/
theorem _root_.Go.Sx.Sl.midX {α : Type} {A : Ar} [hA : ArOk A] {e : Nat} {s : Sh α} {h : Heap} {b : Option Addr} {n c : Nat} {xs : List α} (q : Sl e s h (.slice b n c) xs) {z : Int} {i : Nat} (hz : IsN z i) {m : Nat} (hi : i + m ≤ n) {c' : Nat} (hc : c' = c - i) :
    Sl e s h (.slice (A .cut b z (A .nat c) s.n) m c') ((xs.drop i).take m) :=
  (q.dropX (A := A) hz (by omega) rfl hc).short (by omega)
theorem bytesC {h : Heap} {p l : Nat} {D : Dk} (q : DkO h p D) (hd : D.dead = false) (g : h l = some (.cells (List.toArray [.pointer (some ⟨p, 0, none⟩), .int .u32 0, .int .i32 0, .int .u32 0, .slice none 0 0, .int .i64 0]) 265 (0, 0))) (hP : 1 ≤ D.now.length) {k : Value → Heap → Prop}
    (hk : ∀ h' b m c, LeX [265] h h' → Sl 5 shB h' (.slice b m c) (restB D) → k (.tuple #[.slice b m c, .int .i64 0]) h') :
    Ct 105 [.pointer (some ⟨l, 0, none⟩)] h k := by
  obtain ⟨A, hA⟩ := Ar.ex
  refine fn_of_sx A (tabOk T105.plan T105.pub) Tryz.func105 rfl (by kernel_rfl) ?_
  cbv
  rw [offm A]
  refine doB (f := 197) (fl := [.pointer (some ⟨l, 0, none⟩)]) (cl := []) g rfl rfl (fun h1 e1 => ?_)
  have x1 : LeX [265] h h1 := by rw [e1]; exact (Kp.set (bs := [l]) (by simp)).x (fun b hb o ho => by simp at hb; rw [hb, g] at ho; cases ho; exact ⟨_, _, _, rfl, by decide⟩)
  refine lreadC (q.lt (x1.t (by decide))) hd ((congrFun e1 l).trans hset_self) hP (fun h2 b m c x2 g2 s2 => ?_)
  refine ⟨rfl, _, g2, rfl, rfl, ?_⟩
  generalize e3 : hset h2 l _ = h3
  have e3 := e3.symm
  have x3 : LeX [265] h2 h3 := by rw [e3]; exact (Kp.set (bs := [l]) (by simp)).x (fun b hb o ho => by simp at hb; rw [hb, g2] at ho; cases ho; exact ⟨_, _, _, rfl, by decide⟩)
  have g3 := (congrFun e3 l).trans hset_self
  have g3 : h3 l = some (.cells (List.toArray [.pointer (some ⟨p, 0, none⟩), .int .u32 1, .int .i32 0, .int .u32 0, .slice b m c, .int .i64 0]) 265 (0, 0)) := g3
  have hk := hk h3 b m c ((x1.trans x2).trans x3) (s2.mono (x3.t (by decide)))
  clear e3
  cbv
  rw [offm A]
  refine ldb g3 rfl rfl ?_
  cbv
  rw [offm A]
  refine ldb g3 rfl rfl ?_
  cbv
  exact hk
/-- A record's length, as it stands ahead. -/
def recN (b : Bs) : Int := IntKind.i64.wrap (leN (b.take 8) : Int)
def cutR (b : Bs) : Nat → List Bs × Bs
  | 0 => ([], b)
  | m + 1 => if 8 ≤ b.length then if 0 ≤ recN b ∧ recN b ≤ (b.length - 8 : Nat) then ((b.drop 8).take (recN b).toNat :: (cutR (b.drop (8 + (recN b).toNat)) m).1, (cutR (b.drop (8 + (recN b).toNat)) m).2) else ([], b) else ([], b)
end Go.S

set_option maxRecDepth 100000
set_option maxHeartbeats 8000000
namespace Go.S
open Go.Sx Go.Proofs
abbrev shBB : Sh Bs := shSl 5 shB
theorem cloneYY {xs : List Bs} {h : Heap} {b : Option Addr} {len cap : Nat} (q : Sl 35 shBB h (.slice b len cap) xs) {k : Value → Heap → Prop}
    (hk : ∀ h' b' c', Le h h' → Buf 35 shBB h h' (.slice b' len c') xs → k (.slice b' len c') h') :
    Ct 199 [.slice b len cap] h k := by
  obtain ⟨A, hA⟩ := Ar.ex
  refine fn_of_sx A (tabOk T199.plan T199.pub) Tryz.func199 rfl (by kernel_rfl) ?_
  cbv
  refine bsel_mk (fun hc => ?_) (fun hc => ?_)
  · rw [hA.isn] at hc
    cbv
    have hb : b = none := by cases b <;> simp at hc ⊢
    subst hb
    have hl : len = 0 := by
      rcases Nat.eq_zero_or_pos len with e | e
      · exact e
      · have := q.isSm e; cases this
    have := q.len
    have hx : xs = [] := List.eq_nil_of_length_eq_zero (by omega)
    subst hx hl
    exact hk _ _ _ (Le.refl _) Buf.nil
  · cbv
    intro n0 h1 hn0 hh1
    have hle : Le h h1 := by rw [hh1]; exact Le.set hn0
    cbv
    refine append_new2 (q.mono (hle.t _)) rfl (by decide) (fun hn => ?_) (fun nb c h2 e1 e2 e3 e4 => ?_)
    · cbv
      have := q.len
      have hx : xs = [] := List.eq_nil_of_length_eq_zero (by omega)
      subst hx hn
      exact hk _ _ _ hle Buf.nil
    · cbv
      exact hk _ _ _ (hle.trans e3) (e4.buf (hle.none e1) q.len)
theorem num8 (l : Bs) (hl : l.length = 8) : numT 8 (some l) = (leN l, some []) := by
  simp only [numT, takeT]
  rw [if_pos (by omega), List.take_of_length_le (by omega), List.drop_of_length_le (by omega)]
theorem cutC {bs : Bs} {h : Heap} {b : Option Addr} {m c : Nat} (q : Sl 5 shB h (.slice b m c) bs) (hm : m ≤ 2 ^ 30) (most : Int) {k : Value → Heap → Prop}
    (hk : ∀ h' b1 m1 c1, Le h h' → Sl 35 shBB h' (.slice b1 m1 c1) (cutR bs most.toNat).1 → k (.tuple #[.slice b1 m1 c1, .bool (decide ((cutR bs most.toNat).2 = []))]) h') :
    Ct 108 [.slice b m c, .int .i64 most] h k := by
  obtain ⟨A, hA⟩ := Ar.ex
  have hlen := q.len
  obtain ⟨J, hJ0⟩ : ∃ J : Nat → ((Option Addr × Nat × Nat) × Option Addr × Nat × Nat) → Heap → Prop, ∀ w g h', J w g h' = (∃ cur recs, w = g.1.2.1 ∧ (recs.length : Int) ≤ max most 0 ∧ cur.length + 8 * recs.length ≤ bs.length ∧ Le h h' ∧ Sl 5 shB h' (.slice g.1.1 g.1.2.1 g.1.2.2) cur ∧
    Buf 35 shBB h h' (.slice g.2.1 g.2.2.1 g.2.2.2) recs ∧ cutR bs most.toNat = (recs ++ (cutR cur (most.toNat - recs.length)).1, (cutR cur (most.toNat - recs.length)).2)) := ⟨_, fun _ _ _ => rfl⟩
  have hJ : J m ((b, m, c), none, 0, 0) h := by rw [hJ0]; exact ⟨bs, [], rfl, by simp only [List.length_nil]; omega, by simp, Le.refl _, q, Buf.nil, rfl⟩
  refine fn_of_sx A (tabOk T108.plan T108.pub) Tryz.func108 rfl (by kernel_rfl) ?_
  cbv
  refine LoopX.go (G := (Option Addr × Nat × Nat) × Option Addr × Nat × Nat) (fun g => [(0, .v (.slice g.1.1 g.1.2.1 g.1.2.2)), (6, .v (.slice g.2.1 g.2.2.1 g.2.2.2))]) (fun _ => []) (fun w g h' => J w g h') m ((b, m, c), none, 0, 0) ⟨?_, ?_, ?_⟩ hJ ?_
  · cbv
  · cbv
  · cbv
  · intro w g h1 hI
    rw [hJ0] at hI
    cbv
    obtain ⟨⟨gb, gm, gc⟩, ob, om, oc⟩ := g
    obtain ⟨cur, recs, hw, hr, hle, l1, q1, q2, hcut⟩ := hI
    have hw : w = gm := hw
    have q1 : Sl 5 shB h1 (.slice gb gm gc) cur := q1
    have q2 : Buf 35 shBB h h1 (.slice ob om oc) recs := q2
    have hgm := q1.len
    have hbd := q1.bound
    have hom := q2.sl.len
    have f1 : A .icm .geq (A .nat gm) 8 = decide (8 ≤ gm) := by rw [icm_geq A, hA.nat]; exact decide_eq_decide.2 (by rw [Int.ofNat_eq_natCast]; omega)
    have f2 : A .icm .lss (A .nat om) most = decide ((om : Int) < most) := by rw [icm_lss A, hA.nat]; rfl
    -- the end
    have fin : ∀ h2, Le h1 h2 → (cutR cur (most.toNat - recs.length)) = ([], cur) → ∀ b1 c1, Buf 35 shBB h1 h2 (.slice b1 om c1) recs → ∀ t, t = decide (gm = 0) → k (.tuple #[.slice b1 om c1, .bool t]) h2 := fun h2 l2 hc b1 c1 q3 t ht => by
      rw [hc] at hcut
      simp only [List.append_nil] at hcut
      rw [hcut] at hk
      have := hk h2 b1 om c1 (l1.trans l2) q3.sl
      have e1 : decide (cur = []) = decide (gm = 0) := decide_eq_decide.2 (by rw [hgm]; exact List.length_eq_zero_iff.symm)
      rw [ht, ← e1]; exact this
    have fe : A .icm .eql (A .nat gm) 0 = decide (gm = 0) := by rw [icm_eql A, hA.nat]; exact decide_eq_decide.2 (by rw [Int.ofNat_eq_natCast]; omega)
    rw [f1]
    by_cases c1 : 8 ≤ gm
    · rw [decide_eq_true c1]
      cbv
      rw [f2]
      by_cases c2 : (om : Int) < most
      · rw [decide_eq_true c2]
        -- a record
        obtain ⟨j, hj⟩ : ∃ j, most.toNat - recs.length = j + 1 := ⟨most.toNat - recs.length - 1, by omega⟩
        have hRec : cutR cur (most.toNat - recs.length) = if 0 ≤ recN cur ∧ recN cur ≤ (cur.length - 8 : Nat) then ((cur.drop 8).take (recN cur).toNat :: (cutR (cur.drop (8 + (recN cur).toNat)) j).1, (cutR (cur.drop (8 + (recN cur).toNat)) j).2) else ([], cur) := by
          rw [hj]
          show (if 8 ≤ cur.length then _ else _) = _
          rw [if_pos (by omega)]
        have hn8 : numT 8 (some (cur.take 8)) = (leN (cur.take 8), some []) := num8 _ (by rw [List.length_take]; omega)
        have hck1 : (0 : Int) ≤ 8 ∧ (8 : Int) ≤ (gc : Int) := by omega
        have d8 : A .dif 8 0 = 8 := dif_z0 ⟨rfl⟩
        have t8 := q1.take2 (A := A) (z := A .nat gc) (i := 8) c1 rfl
        have hA1 : recN cur < 0 → cutR cur (most.toNat - recs.length) = ([], cur) := fun hh => by rw [hRec, if_neg (by omega)]
        have hA2 : recN cur > (gm : Int) - 8 → cutR cur (most.toNat - recs.length) = ([], cur) := fun hh => by rw [hRec, if_neg (by omega)]
        have hA3 : ¬ recN cur < 0 → ¬ recN cur > (gm : Int) - 8 → IsN (recN cur) (recN cur).toNat ∧ 8 + (recN cur).toNat ≤ gm ∧ cutR bs most.toNat = ((recs ++ [(cur.drop 8).take (recN cur).toNat]) ++ (cutR (cur.drop (8 + (recN cur).toNat)) (most.toNat - (recs.length + 1))).1, (cutR (cur.drop (8 + (recN cur).toNat)) (most.toNat - (recs.length + 1))).2) ∧ ((recs.length + 1 : Nat) : Int) ≤ max most 0 ∧ cur.length - (8 + (recN cur).toNat) + 8 * (recs.length + 1) ≤ bs.length := fun hh1 hh2 => by
          rw [if_pos (by omega)] at hRec
          refine ⟨⟨by omega⟩, by omega, ?_, by omega, by omega⟩
          rw [hcut, hRec, show most.toNat - (recs.length + 1) = j by omega, List.append_assoc]
          rfl
        have hB : om + 1 ≤ 2 ^ 39 := by omega
        clear hJ hRec hcut
        cbv
        refine ⟨hck1, ?_⟩
        cbv
        rw [d8]
        refine NewS t8 (fun h2 p hp l2 r2 => ?_)
        cbv
        refine IntS r2 (fun h3 k3 r3 => ?_)
        rw [hn8]
        have l3 : Le h1 h3 := l2.kpNew (by simpa using hp) k3
        have hz : IntKind.i64.wrap ((leN (cur.take 8) : Nat) : Int) = recN cur := rfl
        have q13 := q1.mono (l3.t [5])
        have q23 := q2.mono (l3.t [35, 5])
        clear hn8 r3 r2 k3 t8 d8 hck1 hp l2
        rw [show IntKind.i64.wrap (((leN (cur.take 8), (some [] : St)).1 : Nat) : Int) = recN cur from rfl]
        generalize recN cur = z at *
        have f3 : A .icm .lss z 0 = decide (z < 0) := icm_lss A ..
        have hsub : A .ari .sub .i64 (A .nat gm) 8 = (gm : Int) - 8 := by
          rw [hA.ari, hA.nat]
          show IntKind.i64.wrap ((gm : Int) - 8) = _
          rw [IntWalk.i64_in _ (by omega)]
        have f4 : A .icm .gtr z (A .ari .sub .i64 (A .nat gm) 8) = decide (z > (gm : Int) - 8) := by rw [hsub]; exact icm_gtr A ..
        by_cases c3 : z < 0
        · have hc : cutR cur (most.toNat - recs.length) = ([], cur) := hA1 c3
          have fin := fun h5 l5 => fin h5 (l3.trans l5) hc
          cbv
          rw [f3, decide_eq_true c3]
          cbv
          refine cloneYY q23.sl (fun h5 b5 c5 l5 q5 => ?_)
          cbv
          rw [fe]
          exact fin h5 l5 b5 c5 (q5.base l3) _ rfl
        · by_cases c4 : z > (gm : Int) - 8
          · have hc : cutR cur (most.toNat - recs.length) = ([], cur) := hA2 c4
            have fin := fun h5 l5 => fin h5 (l3.trans l5) hc
            rw [decide_eq_true c4] at f4
            cbv
            rw [f3, decide_eq_false c3]
            cbv
            rw [f4]
            cbv
            refine cloneYY q23.sl (fun h5 b5 c5 l5 q5 => ?_)
            cbv
            rw [fe]
            exact fin h5 l5 b5 c5 (q5.base l3) _ rfl
          · rw [decide_eq_false c4] at f4
            obtain ⟨hzn, hng, hcut, hr2, hl2⟩ := hA3 c3 c4
            generalize z.toNat = n at *
            have h8 : IsN 8 8 := ⟨rfl⟩
            have h8n : IsN (A .ari .add .i64 8 z) (8 + n) := h8.add (A := A) hzn (by omega)
            have hck2 : 0 ≤ A .ari .add .i64 8 z ∧ A .ari .add .i64 8 z ≤ (gc : Int) ∧ 0 ≤ (8 : Int) ∧ (8 : Int) ≤ A .ari .add .i64 8 z := by have := h8n.eq; omega
            have hck3 : 0 ≤ A .ari .add .i64 8 z ∧ A .ari .add .i64 8 z ≤ (gm : Int) := by have := h8n.eq; omega
            have dd1 : A .dif (A .ari .add .i64 8 z) 8 = n := by rw [dif_zz (A := A) h8n h8]; omega
            have dd2 : A .dif (A .nat gc) 8 = gc - 8 := dif_nz (A := A) h8
            have dd3 := dif_nz (A := A) (n := gm) h8n
            have dd4 := dif_nz (A := A) (n := gc) h8n
            have tm := q13.midX (A := A) h8 (m := n) (by omega) rfl
            have td := q13.dropX (A := A) h8n (by omega) rfl rfl
            have hJ2 : ∀ h' m' b' c', Le h h' → Sl 5 shB h' (.slice (A .cut gb (A .ari .add .i64 8 z) (A .nat gc) 1) (gm - (8 + n)) (gc - (8 + n))) (cur.drop (8 + n)) → Buf 35 shBB h h' (.slice b' m' c') (recs ++ [(cur.drop 8).take n]) →
                J (gm - (8 + n)) ((A .cut gb (A .ari .add .i64 8 z) (A .nat gc) 1, gm - (8 + n), gc - (8 + n)), b', m', c') h' := fun h' m' b' c' l' s' q' => by
              rw [hJ0]
              exact ⟨_, _, rfl, by rw [List.length_append]; exact hr2, by rw [List.length_append, List.length_drop]; exact hl2, l', s', q', by rw [List.length_append]; exact hcut⟩
            clear fin hcut hk hJ0 hA1 hA2 hA3
            cbv
            rw [f3, decide_eq_false c3]
            cbv
            rw [f4]
            cbv
            refine ⟨hck2, ?_⟩
            cbv
            rw [dd1, dd2]
            refine cloneY tm (fun h4 b4 c4' l4 q4 => ?_)
            cbv
            intro n5 h5 hn5 e5
            have l5 : Le h4 h5 := by rw [e5]; exact Le.set hn5
            have q5 : Sl 35 shBB h5 (.slice (some ⟨n5, 0, none⟩) 1 1) [(cur.drop 8).take n] := one_sl (s := shBB) ((congrFun e5 n5).trans hset_self) ⟨_, rfl, q4.sl.mono (l5.t _)⟩
            clear e5
            cbv
            refine (q23.mono ((l4.trans l5).t _)).app q5 (by decide) rfl (by decide) hB ((l1.trans l3).trans (l4.trans l5)) (fun m' b' c' h6 hm' l6 t6 k6 q6 => ?_)
            have hJ3 := hJ2 h6 m' b' c' l6 ((td.mono ((l4.trans l5).t _)).mono (t6 _ (by decide))) q6
            clear hJ2
            cbv
            refine ⟨hck3, ?_⟩
            cbv
            rw [dd3, dd4]
            refine ⟨gm - (8 + n), ((_, _, _), b', m', c'), by omega, ⟨?_, ?_, ?_⟩, hJ3⟩
            · cbv
            · cbv
            · cbv
      · rw [decide_eq_false c2]
        have hc : cutR cur (most.toNat - recs.length) = ([], cur) := by
          rw [show most.toNat - recs.length = 0 by omega]; rfl
        have fin := fun h5 l5 => fin h5 l5 hc
        clear hcut
        cbv
        refine cloneYY q2.sl (fun h5 b5 c5 l5 q5 => ?_)
        cbv
        rw [fe]
        exact fin h5 l5 b5 c5 q5 _ rfl
    · rw [decide_eq_false c1]
      have hc : cutR cur (most.toNat - recs.length) = ([], cur) := by
        cases most.toNat - recs.length with
        | zero => rfl
        | succ j => show (if 8 ≤ cur.length then _ else _) = _; rw [if_neg (by omega)]
      have fin := fun h5 l5 => fin h5 l5 hc
      clear hcut
      cbv
      refine cloneYY q2.sl (fun h5 b5 c5 l5 q5 => ?_)
      cbv
      rw [fe]
      exact fin h5 l5 b5 c5 q5 _ rfl
end Go.S

set_option maxRecDepth 100000
set_option maxHeartbeats 8000000
namespace Go.S
open Go.Sx Go.Proofs
structure Fnd where
  size : Int
  count : Int
  recs : List Bs
  bad : Bool
def hd8 (p : Bs) : Int := IntKind.i64.wrap (leN (p.take 8) : Int)
def lookF (D : Dk) (size count : Int) : Fnd :=
  if size < 0 ∨ count < 0 ∨ size > (restB D).length then ⟨size, count, [], true⟩
  else ⟨size, count, (cutR ((restB D).take size.toNat) count.toNat).1, !decide ((cutR ((restB D).take size.toNat) count.toNat).2 = []) || decide (((cutR ((restB D).take size.toNat) count.toNat).1.length : Int) ≠ count)⟩
def lookP (D : Dk) : Fnd × Int := if D.dead then (⟨0, 0, [], true⟩, 15) else (lookF D (hd8 (pgAt D 0)) (hd8 ((pgAt D 0).drop 8)), 0)
abbrev lzT : List Nat := [265]
theorem rest_len {h : Heap} {p : Nat} {D : Dk} (q : DkO h p D) : (restB D).length ≤ 2 ^ 18 := by
  unfold restB
  rw [flat_len (fun b hb => by
    obtain ⟨i, hi⟩ := List.mem_iff_getElem?.1 (List.mem_of_mem_drop hb)
    exact q.pg hi), List.length_drop]
  have := q.max
  omega
theorem lookC {h : Heap} {p : Nat} {D : Dk} (q : DkO h p D) (hP : 1 ≤ D.now.length) {k : Value → Heap → Prop}
    (hk : ∀ h' b m c F e, (F, e) = lookP D → LeX lzT h h' → Sl 35 shBB h' (.slice b m c) F.recs → k (.tuple #[.agg #[.int .i64 F.size, .int .i64 F.count, .slice b m c, .bool F.bad], .int .i64 e]) h') :
    Ct 103 [.pointer (some ⟨p, 0, none⟩)] h k := by
  obtain ⟨A, hA⟩ := Ar.ex
  have f15 : A .icm .neq 15 0 = true := by rw [icm_neq A]; rfl
  have f00 : A .icm .neq 0 0 = false := by rw [icm_neq A]; rfl
  have hch : chkD D 0 0 = if D.dead then 15 else 0 := by
    unfold chkD
    split
    · rfl
    · rw [if_neg]
      rintro (hh | hh | hh) <;> omega
  have hrl := rest_len q
  have hLP : lookP D = if D.dead then (⟨0, 0, [], true⟩, 15) else (lookF D (hd8 (pgAt D 0)) (hd8 ((pgAt D 0).drop 8)), 0) := rfl
  refine fn_of_sx A (tabOk T103.plan T103.pub) Tryz.func103 rfl (by kernel_rfl) ?_
  cbv
  refine ReadC q 0 (fun hne => ?_) (fun he h1 b1 c1 l1 hp0 q1 => ?_)
  · have hdd : D.dead = true := by
      cases hd : D.dead with
      | true => rfl
      | false => rw [hch, hd] at hne; exact absurd rfl hne
    have he : chkD D 0 0 = 15 := by rw [hch, hdd]; rfl
    rw [hdd] at hLP
    have := hk h none 0 0 _ _ hLP.symm (LeX.refl _ _) Sl.nil
    rw [he]
    clear hLP
    cbv
    rw [f15]
    cbv
    exact this
  · have hdd : D.dead = false := by
      cases hd : D.dead with
      | false => rfl
      | true => rw [hch, hd] at he; cases he
    rw [hdd] at hLP
    have hLP : lookP D = (lookF D (hd8 (pgAt D 0)) (hd8 ((pgAt D 0).drop 8)), 0) := hLP
    have hn1 : numT 8 (some (pgAt D 0)) = (leN ((pgAt D 0).take 8), some ((pgAt D 0).drop 8)) := by
      simp only [numT, takeT]; rw [if_pos (by omega)]
    have hn2 : numT 8 (some ((pgAt D 0).drop 8)) = (leN (((pgAt D 0).drop 8).take 8), some (((pgAt D 0).drop 8).drop 8)) := by
      simp only [numT, takeT]; rw [if_pos (by rw [List.length_drop]; omega)]
    have hx1 : IntKind.i64.wrap ((numT 8 (some (pgAt D 0))).1 : Int) = hd8 (pgAt D 0) := by rw [hn1]; rfl
    have hx2 : IntKind.i64.wrap ((numT 8 (some ((pgAt D 0).drop 8))).1 : Int) = hd8 ((pgAt D 0).drop 8) := by rw [hn2]; rfl
    have hs1 : (numT 8 (some (pgAt D 0))).2 = some ((pgAt D 0).drop 8) := by rw [hn1]
    clear hn1 hn2
    cbv
    rw [f00]
    cbv
    refine NewS q1.sl (fun h2 pr hpr l2 r2 => ?_)
    cbv
    refine IntS r2 (fun h3 k3 r3 => ?_)
    rw [hs1] at r3
    rw [hx1]
    clear hx1 hs1
    generalize hd8 (pgAt D 0) = sz at *
    cbv
    refine IntS r3 (fun h4 k4 r4 => ?_)
    rw [hx2]
    have l4 : Le h h4 := l1.trans (l2.kpNew (by simpa using hpr) (k3.trans k4))
    clear hx2 r2 r3 r4
    generalize hd8 ((pgAt D 0).drop 8) = cn at *
    rw [hLP] at hk
    have d4 := q.le l4
    cbv
    intro l h5 hl e5
    have l5 : Le h4 h5 := by rw [e5]; exact Le.set hl
    have g5 := (congrFun e5 l).trans hset_self
    have d5 := d4.le l5
    clear e5
    cbv
    refine bytesC d5 hdd g5 hP (fun h6 b m c x6 s6 => ?_)
    have x16 : LeX lzT h h6 := ((l4.trans l5).x _).trans x6
    have hm := s6.len
    have hbd := s6.bound
    have hF : lookF D sz cn = if sz < 0 ∨ cn < 0 ∨ sz > (restB D).length then ⟨sz, cn, [], true⟩
      else ⟨sz, cn, (cutR ((restB D).take sz.toNat) cn.toNat).1, !decide ((cutR ((restB D).take sz.toNat) cn.toNat).2 = []) || decide (((cutR ((restB D).take sz.toNat) cn.toNat).1.length : Int) ≠ cn)⟩ := rfl
    generalize restB D = rb at *
    have f1 : A .icm .lss sz 0 = decide (sz < 0) := icm_lss A ..
    have f2 : A .icm .lss cn 0 = decide (cn < 0) := icm_lss A ..
    have f3 : A .icm .gtr sz (A .nat m) = decide (sz > (rb.length : Int)) := by rw [icm_gtr A, hA.nat, hm]; rfl
    have bad : sz < 0 ∨ cn < 0 ∨ sz > (rb.length : Int) → ∀ h', LeX lzT h h' → k (.tuple #[.agg #[.int .i64 sz, .int .i64 cn, .slice none 0 0, .bool true], .int .i64 0]) h' := fun hb h' x' => by
      rw [if_pos hb] at hF
      exact hk h' none 0 0 ⟨sz, cn, [], true⟩ 0 (by rw [hF]) x' Sl.nil
    by_cases c1 : sz < 0
    · have bad := bad (.inl c1) h6 x16
      rw [decide_eq_true c1] at f1
      clear hF hk
      cbv
      rw [f00]
      cbv
      rw [f1]
      cbv
      exact bad
    · rw [decide_eq_false c1] at f1
      by_cases c2 : cn < 0
      · have bad := bad (.inr (.inl c2)) h6 x16
        rw [decide_eq_true c2] at f2
        clear hF hk
        cbv
        rw [f00]
        cbv
        rw [f1]
        cbv
        rw [f2]
        cbv
        exact bad
      · rw [decide_eq_false c2] at f2
        by_cases c3 : sz > (rb.length : Int)
        · have bad := bad (.inr (.inr c3)) h6 x16
          rw [decide_eq_true c3] at f3
          clear hF hk
          cbv
          rw [f00]
          cbv
          rw [f1]
          cbv
          rw [f2]
          cbv
          rw [f3]
          cbv
          exact bad
        · rw [decide_eq_false c3] at f3
          rw [if_neg (fun g => g.elim c1 (fun g => g.elim c2 c3))] at hF
          have hsz : IsN sz sz.toNat := ⟨by omega⟩
          have hck : 0 ≤ sz ∧ sz ≤ (c : Int) := by omega
          have dd := dif_z0 (A := A) hsz
          have ts := s6.take2 (A := A) (z := A .nat c) (i := sz.toNat) (by omega) rfl
          have hm30 : sz.toNat ≤ 2 ^ 30 := by omega
          have hfin : ∀ h' b' m' c' t, LeX lzT h h' → Sl 35 shBB h' (.slice b' m' c') (cutR (rb.take sz.toNat) cn.toNat).1 → t = (!decide ((cutR (rb.take sz.toNat) cn.toNat).2 = []) || decide (((cutR (rb.take sz.toNat) cn.toNat).1.length : Int) ≠ cn)) → k (.tuple #[.agg #[.int .i64 sz, .int .i64 cn, .slice b' m' c', .bool t], .int .i64 0]) h' := fun h' b' m' c' t x' s' ht => by
            subst ht
            exact hk h' b' m' c' _ 0 (by rw [hF]) x' s'
          clear hF hk bad
          cbv
          rw [f00]
          cbv
          rw [f1]
          cbv
          rw [f2]
          cbv
          rw [f3]
          cbv
          refine ⟨hck, ?_⟩
          cbv
          rw [dd]
          refine cutC ts hm30 cn (fun h7 b7 m7 c7 l7 s7 => ?_)
          have hm7 := s7.len
          have hfin := fun t => hfin h7 b7 m7 c7 t (x16.trans (l7.x _)) s7
          generalize cutR (rb.take sz.toNat) cn.toNat = R at *
          have f7 : A .icm .neq (A .nat m7) cn = decide ((R.1.length : Int) ≠ cn) := by rw [icm_neq A, hA.nat, hm7]; rfl
          generalize decide ((R.1.length : Int) ≠ cn) = t2 at *
          generalize decide (R.2 = []) = t1 at *
          have hnt : A .not t1 = !t1 := by rw [hA.not]
          cases t1 with
          | true =>
            have hfin := hfin _ rfl
            cbv
            rw [hnt]
            cbv
            rw [f7]
            cbv
            exact hfin
          | false =>
            have hfin := hfin _ rfl
            cbv
            rw [hnt]
            cbv
            exact hfin
end Go.S

set_option maxRecDepth 100000
set_option maxHeartbeats 8000000
namespace Go.S
open Go.Sx Go.Proofs
theorem extL64 : ExtOk Tryz.prog 306 Tryz.f306 := ⟨Tryz.func306, by kernel_rfl, by kernel_rfl, by kernel_rfl⟩
theorem extS64 : ExtOk Tryz.prog 226 Tryz.f226 := ⟨Tryz.func226, by kernel_rfl, by kernel_rfl, by kernel_rfl⟩
theorem extA64 : ExtOk Tryz.prog 309 Tryz.f309 := ⟨Tryz.func309, by kernel_rfl, by kernel_rfl, by kernel_rfl⟩
theorem load64 {h : Heap} {b o : Nat} {x : Int} (q : Cel h ⟨b, o, none⟩ (.int .i64 x)) {k : Value → Heap → Prop} (hk : k (.int .i64 x) h) : Ct 243 [.pointer (some ⟨b, o, none⟩)] h k := by
  obtain ⟨A, hA⟩ := Ar.ex
  refine fn_of_sx A (tabOk T243.plan T243.pub) Tryz.func243 rfl (by kernel_rfl) ?_
  cbv
  rw [offm A]
  refine ext_load extL64 (by kernel_rfl) q ?_
  cbv
  exact hk
theorem store64 {h : Heap} {b o ty : Nat} {x : Value} {c : List Value} (g : h b = some (.cells (List.toArray c) ty (0, 0))) (hx : c[o]? = some x) (y : Int) {k : Value → Heap → Prop} (hk : ∀ h', h' = hset h b (.cells (List.toArray (c.set o (.int .i64 y))) ty (0, 0)) → k (.tuple #[]) h') : Ct 132 [.pointer (some ⟨b, o, none⟩), .int .i64 y] h k := by
  obtain ⟨A, hA⟩ := Ar.ex
  refine fn_of_sx A (tabOk T132.plan T132.pub) Tryz.func132 rfl (by kernel_rfl) ?_
  cbv
  rw [offm A]
  refine ext_store extS64 (by kernel_rfl) (cel_exp g hx) (fun c' e' h1 e1 e2 => ?_)
  have hu : Up h b o (.int .i64 y) h1 := ⟨c', e', e1, e2⟩
  have := hk h1 (hu.exp g)
  cbv
  exact this
theorem add64 {h : Heap} {b o ty : Nat} {x : Int} {c : List Value} (g : h b = some (.cells (List.toArray c) ty (0, 0))) (hx : c[o]? = some (.int .i64 x)) (y : Int) {k : Value → Heap → Prop} (hk : ∀ h', h' = hset h b (.cells (List.toArray (c.set o (.int .i64 (IntKind.i64.wrap (x + y))))) ty (0, 0)) → k (.int .i64 (IntKind.i64.wrap (x + y))) h') : Ct 249 [.pointer (some ⟨b, o, none⟩), .int .i64 y] h k := by
  obtain ⟨A, hA⟩ := Ar.ex
  refine fn_of_sx A (tabOk T249.plan T249.pub) Tryz.func249 rfl (by kernel_rfl) ?_
  cbv
  rw [offm A]
  refine ext_add extA64 (by kernel_rfl) (cel_exp g hx) (fun c' e' h1 e1 e2 => ?_)
  have hu : Up h b o (.int .i64 (IntKind.i64.wrap (x + y))) h1 := ⟨c', e', e1, e2⟩
  have := hk h1 (hu.exp g)
  generalize IntKind.i64.wrap (x + y) = z at *
  cbv
  exact this
structure LgO (h : Heap) (g p : Nat) (size count : Int) : Prop where
  out : h g = some (.cells (List.toArray [.pointer (some ⟨p, 0, none⟩), .int .i64 size, .int .i64 count]) 295 (0, 0))
theorem LgO.lt {h h' : Heap} {g p : Nat} {s c : Int} (q : LgO h g p s c) (l : LeT [295] h h') : LgO h' g p s c := ⟨l _ _ _ _ (by decide) q.out⟩
theorem OpenL {h : Heap} {p : Nat} {D : Dk} (q : DkO h p D) (hP : 1 ≤ D.now.length) {k : Value → Heap → Prop}
    (hk0 : ∀ h' e, LeX lzT h h' → e = (if (lookP D).2 ≠ 0 then (lookP D).2 else 10) → ((lookP D).2 ≠ 0 ∨ (lookP D).1.bad = true) → k (.tuple #[.pointer none, .slice none 0 0, .int .i64 e]) h')
    (hk1 : ∀ h' g b m c, (lookP D).2 = 0 → (lookP D).1.bad = false → LeX lzT h h' → LgO h' g p (lookP D).1.size (lookP D).1.count → Sl 35 shBB h' (.slice b m c) (lookP D).1.recs → k (.tuple #[.pointer (some ⟨g, 0, none⟩), .slice b m c, .int .i64 0]) h') :
    Ct 55 [.pointer (some ⟨p, 0, none⟩)] h k := by
  obtain ⟨A, hA⟩ := Ar.ex
  have f10 : A .icm .neq 10 0 = true := by rw [icm_neq A]; rfl
  have f00 : A .icm .neq 0 0 = false := by rw [icm_neq A]; rfl
  have g00 : A .icm .eql 0 0 = true := by rw [icm_eql A]; rfl
  refine fn_of_sx A (tabOk T55.plan T55.pub) Tryz.func55 rfl (by kernel_rfl) ?_
  cbv
  refine lookC q hP (fun h1 b m c F e he x1 s1 => ?_)
  rw [← he] at hk0 hk1
  obtain ⟨sz, cn, rs, bad⟩ := F
  have f1 : A .icm .eql e 0 = decide (e = 0) := icm_eql A ..
  have f2 : A .icm .neq e 0 = decide (e ≠ 0) := icm_neq A ..
  by_cases hc : e = 0
  · subst hc
    cases bad with
    | true =>
      have := hk0 h1 10 x1 (by rw [if_neg (fun g => g rfl)]) (.inr rfl)
      clear hk0 hk1 he
      cbv
      rw [g00]
      cbv
      rw [f10]
      cbv
      exact this
    | false =>
      have hk1 := fun h' g => hk1 h' g b m c rfl rfl
      clear hk0 he
      cbv
      rw [g00]
      cbv
      rw [f00]
      cbv
      intro g h2 hg e2
      have l2 : Le h1 h2 := by rw [e2]; exact Le.set hg
      have g2 := (congrFun e2 g).trans hset_self
      cbv
      rw [offm A]
      refine store64 g2 rfl sz (fun h3 e3 => ?_)
      have g3 := (congrFun e3 g).trans hset_self
      cbv
      rw [offm A]
      refine store64 g3 rfl cn (fun h4 e4 => ?_)
      have g4 := (congrFun e4 g).trans hset_self
      have l4 : Le h1 h4 := by
        rw [e4, e3, hset_twice, e2, hset_twice]
        exact Le.set hg
      have := hk1 h4 g (x1.trans (l4.x _)) ⟨g4⟩ (s1.mono (l4.t _))
      cbv
      exact this
  · have := hk0 h1 e x1 (by rw [if_pos hc]) (.inl hc)
    rw [decide_eq_false hc] at f1
    have hc2 : e ≠ 0 := hc
    rw [decide_eq_true hc2] at f2
    clear hk0 hk1 he
    cbv
    rw [f1]
    cbv
    rw [f2]
    cbv
    exact this
end Go.S

set_option maxRecDepth 100000
set_option maxHeartbeats 8000000
namespace Go.S
open Go.Sx Go.Proofs
theorem storeT {h : Heap} {b o ty : Nat} {x : Value} {c : List Value} (g : h b = some (.cells (List.toArray c) ty (0, 0))) (hx : c[o]? = some x) {k : Value → Heap → Prop} (hk : ∀ h', h' = hset h b (.cells (List.toArray (c.set o (.int .u32 1))) ty (0, 0)) → k (.tuple #[]) h') : Ct 209 [.pointer (some ⟨b, o, none⟩), .bool true] h k := by
  obtain ⟨A, hA⟩ := Ar.ex
  refine fn_of_sx A (tabOk T209.plan T209.pub) Tryz.func209 rfl (by kernel_rfl) ?_
  cbv
  refine (b32 h).mono (fun v h1 hR => ?_)
  obtain ⟨rfl, rfl⟩ := hR
  cbv
  rw [offm A]
  refine ext_store ext193 (by kernel_rfl) (cel_exp g hx) (fun c' e' h1 e1 e2 => ?_)
  have hu : Up _ b o (.int .u32 1) h1 := ⟨c', e', e1, e2⟩
  have := hk h1 (hu.exp g)
  cbv
  exact this
def stepD (D : Dk) : Bool × Dk := if D.left > 0 then if IntKind.i64.wrap (D.left + -1) = 0 then (true, { D with left := 0, dead := true }) else (false, { D with left := IntKind.i64.wrap (D.left + -1) }) else (false, D)
/-- The block of a disk is another, of the same slices. -/
theorem DkO.upd {h : Heap} {p : Nat} {D : Dk} (q : DkO h p D) {G : Prop} {left : Int} {dead : Bool}
    (hk : ∀ kb nb wb wn wc d, h p = some (.cells (List.toArray [.int .i64 D.left, .int .u32 d, .slice (some ⟨kb, 0, none⟩) D.now.length D.now.length, .slice (some ⟨nb, 0, none⟩) D.now.length D.now.length, .slice wb wn wc]) 120 (0, 0)) → (d = 0 ∨ d = 1) →
      (∀ h', h' = hset h p (.cells (List.toArray [.int .i64 left, .int .u32 (if dead then 1 else 0), .slice (some ⟨kb, 0, none⟩) D.now.length D.now.length, .slice (some ⟨nb, 0, none⟩) D.now.length D.now.length, .slice wb wn wc]) 120 (0, 0)) → DkO h' p { D with left := left, dead := dead }) → (d = if D.dead then 1 else 0) → G) : G := by
  obtain ⟨kb, nb, wb, wn, wc, d, g, o1, o2, e1, e2, e3, w, e4⟩ := q.out
  refine hk kb nb wb wn wc d g (by rw [e3]; cases D.dead <;> simp) (fun h' e => ?_) e3
  have lt : ∀ tys, 120 ∉ tys → LeT tys h h' := fun tys hn => by rw [e]; exact LeT.set g hn
  exact ⟨kb, nb, wb, wn, wc, _, (congrFun e p).trans hset_self, o1.mono (lt _ (by decide)), o2.mono (lt _ (by decide)), e1, e2, rfl, w.mono (lt _ (by decide)), e4⟩
theorem set_x {h : Heap} {p : Nat} {c : Array Value} {e : Nat} {fr : Nat × Nat} {o : Obj} (g : h p = some (.cells c e fr)) {ex : List Nat} (he : e ∈ ex) : LeX ex h (hset h p o) := fun b o' hb hne => by
  have hbp : b ≠ p := fun e1 => by rw [e1, g] at hb; cases hb; exact hne _ _ _ rfl he
  rw [hset_ne hbp]; exact hb
theorem stepC {h : Heap} {p : Nat} {D : Dk} (q : DkO h p D) {k : Value → Heap → Prop} (hk : ∀ h', LeX dT h h' → DkO h' p (stepD D).2 → k (.bool (stepD D).1) h') : Ct 308 [.pointer (some ⟨p, 0, none⟩)] h k := by
  obtain ⟨A, hA⟩ := Ar.ex
  refine q.upd (left := if IntKind.i64.wrap (D.left + -1) = 0 then 0 else IntKind.i64.wrap (D.left + -1)) (dead := if IntKind.i64.wrap (D.left + -1) = 0 then true else D.dead) (fun kb nb wb wn wc d g hd up e3 => ?_)
  have f1 : A .icm .gtr D.left 0 = decide (D.left > 0) := icm_gtr A ..
  have f2 : A .icm .eql (IntKind.i64.wrap (D.left + -1)) 0 = decide (IntKind.i64.wrap (D.left + -1) = 0) := icm_eql A ..
  have hP : stepD D = if D.left > 0 then if IntKind.i64.wrap (D.left + -1) = 0 then (true, { D with left := 0, dead := true }) else (false, { D with left := IntKind.i64.wrap (D.left + -1) }) else (false, D) := rfl
  generalize hlf : D.left = lf at *
  obtain ⟨lf2, hlf2⟩ : ∃ lf2, lf2 = IntKind.i64.wrap (lf + -1) := ⟨_, rfl⟩
  rw [← hlf2] at f2 hP up
  refine fn_of_sx A (tabOk T308.plan T308.pub) Tryz.func308 rfl (by kernel_rfl) ?_
  cbv
  rw [offm A]
  refine load64 (cel_exp g rfl) ?_
  cbv
  rw [f1]
  by_cases c1 : lf > 0
  · rw [if_pos c1] at hP
    rw [decide_eq_true c1]
    cbv
    rw [offm A]
    refine add64 g rfl (-1) (fun h1 e1 => ?_)
    rw [← hlf2] at e1 ⊢
    have g1 := (congrFun e1 p).trans hset_self
    by_cases c2 : lf2 = 0
    · rw [if_pos c2] at hP
      rw [if_pos c2, if_pos c2] at up
      rw [decide_eq_true c2] at f2
      clear hlf2
      subst c2
      cbv
      rw [f2]
      cbv
      rw [offm A]
      refine storeT g1 rfl (fun h2 e2 => ?_)
      rw [e1, hset_twice] at e2
      have d2 := up h2 e2
      rw [hP] at hk
      have := hk h2 (by rw [e2]; exact set_x g (by decide)) d2
      clear hk hP up
      cbv
      exact this
    · rw [if_neg c2] at hP
      rw [if_neg c2, if_neg c2, ← e3] at up
      rw [decide_eq_false c2] at f2
      have d1 := up h1 e1
      rw [hP] at hk
      have := hk h1 (by rw [e1]; exact set_x g (by decide)) d1
      clear hk hP up hlf2
      cbv
      rw [f2]
      cbv
      exact this
  · rw [if_neg c1] at hP
    rw [decide_eq_false c1]
    rw [hP] at hk
    have := hk h (LeX.refl _ _) q
    clear hk hP
    cbv
    exact this
end Go.S

set_option maxRecDepth 100000
set_option maxHeartbeats 8000000
namespace Go.S
open Go.Sx Go.Proofs
/-- Sixty-four cells, by a function. -/
def pgl (g : Nat → Int) : List Value := [.int .u8 (g 0), .int .u8 (g 1), .int .u8 (g 2), .int .u8 (g 3), .int .u8 (g 4), .int .u8 (g 5), .int .u8 (g 6), .int .u8 (g 7), .int .u8 (g 8), .int .u8 (g 9), .int .u8 (g 10), .int .u8 (g 11), .int .u8 (g 12), .int .u8 (g 13), .int .u8 (g 14), .int .u8 (g 15), .int .u8 (g 16), .int .u8 (g 17), .int .u8 (g 18), .int .u8 (g 19), .int .u8 (g 20), .int .u8 (g 21), .int .u8 (g 22), .int .u8 (g 23), .int .u8 (g 24), .int .u8 (g 25), .int .u8 (g 26), .int .u8 (g 27), .int .u8 (g 28), .int .u8 (g 29), .int .u8 (g 30), .int .u8 (g 31), .int .u8 (g 32), .int .u8 (g 33), .int .u8 (g 34), .int .u8 (g 35), .int .u8 (g 36), .int .u8 (g 37), .int .u8 (g 38), .int .u8 (g 39), .int .u8 (g 40), .int .u8 (g 41), .int .u8 (g 42), .int .u8 (g 43), .int .u8 (g 44), .int .u8 (g 45), .int .u8 (g 46), .int .u8 (g 47), .int .u8 (g 48), .int .u8 (g 49), .int .u8 (g 50), .int .u8 (g 51), .int .u8 (g 52), .int .u8 (g 53), .int .u8 (g 54), .int .u8 (g 55), .int .u8 (g 56), .int .u8 (g 57), .int .u8 (g 58), .int .u8 (g 59), .int .u8 (g 60), .int .u8 (g 61), .int .u8 (g 62), .int .u8 (g 63)]
theorem pgl_of {b : Bs} (hb : b.length = 64) : ∃ g, pgl g = cellsB b := by
  refine ⟨fun i => ((b.getD i 0).toNat : Int), ?_⟩
  have h1 : pgl (fun i => ((b.getD i 0).toNat : Int)) = (List.range 64).map fun i => Value.int .u8 ((b.getD i 0).toNat : Int) := rfl
  rw [h1]
  apply List.ext_getElem?
  intro i
  unfold cellsB
  rw [List.getElem?_map, List.getElem?_map]
  by_cases hi : i < 64
  · rw [List.getElem?_range hi, List.getElem?_eq_getElem (by omega : i < b.length)]
    simp [List.getElem?_eq_getElem (by omega : i < b.length)]
  · rw [List.getElem?_eq_none (by simp; omega), List.getElem?_eq_none (by omega)]
    rfl
def padP (l : Bs) : Bs := l ++ List.replicate (64 - l.length) 0
theorem padP_len {l : Bs} (h : l.length ≤ 64) : (padP l).length = 64 := by unfold padP; rw [List.length_append, List.length_replicate]; omega
theorem sl_rdo {e : Nat} {h : Heap} {b : Option Addr} {m c : Nat} {l : Bs} (q : Sl e shB h (.slice b m c) l) : rdo h b m (cellsB l) := by
  have hn := q.len
  subst hn
  obtain ⟨b', cap, e1, h2, h3, h4⟩ := q.out
  cases e1
  rcases h4 with rfl | ⟨blk, off, cc, fr, rfl, g2, g3⟩
  · exact .inl ⟨rfl, rfl⟩
  · refine .inr ⟨_, rfl, rfl, by simp [cellsB], cc, _, fr, g2, fun i hi => ?_⟩
    have hx := g3.2 i l[i] (by simp [hi])
    have hx : ((cc.toList.drop (off + i * 1)).take 1) = [.int .u8 (l[i].toNat : Int)] := hx
    have := congrArg (fun z => z[0]?) hx
    simp only [List.getElem?_take, List.getElem?_drop] at this
    unfold cellsB
    rw [List.getElem?_map, List.getElem?_eq_getElem hi]
    simpa using this
theorem hset_same {h : Heap} {n : Nat} {o : Obj} (g : h n = some o) : hset h n o = h := by
  funext b
  unfold hset
  split
  · rename_i e; rw [e, g]
  · rfl
theorem setN0 (cs : List Value) : ∀ c : List Value, cs.length ≤ c.length → setN c 0 cs = cs ++ c.drop cs.length := fun c hl => by
  apply List.ext_getElem?
  intro j
  rw [setN_get _ _ _ _ (by omega)]
  by_cases hj : j < cs.length
  · rw [if_pos (by omega), List.getElem?_append_left hj, Nat.sub_zero]
  · rw [if_neg (by omega), List.getElem?_append_right (by omega), List.getElem?_drop]
    congr 1; omega
theorem copy_pg {e1 ty n8 : Nat} {h : Heap} {b : Option Addr} {m c : Nat} {l : Bs} (g8 : h n8 = some (.cells (List.toArray (List.replicate 64 (.int .u8 0))) ty (0, 0))) (qb : Sl e1 shB h (.slice b m c) l) (hm : m ≤ 64) {k : Value → Heap → Prop}
    (hk : ∀ h' g z, h' = hset h n8 (.cells (List.toArray (pgl g)) ty (0, 0)) → pgl g = cellsB (padP l) → k (.int .i64 z) h') : CopyX h (some ⟨n8, 0, none⟩) 64 b m 1 k := by
  have hlen := qb.len
  obtain ⟨g, hg⟩ := pgl_of (padP_len (l := l) (by omega))
  have hcl : (cellsB l).length = l.length := by simp [cellsB]
  have hset : setN (List.replicate 64 (.int .u8 0)) 0 (cellsB l) = pgl g := by
    rw [hg, setN0 _ _ (by rw [hcl, List.length_replicate]; omega), hcl, List.drop_replicate]
    unfold padP cellsB
    rw [List.map_append, List.map_replicate]
    rfl
  refine ⟨cellsB l, ?_, ones_cellsB l, ?_⟩
  · rw [Nat.min_eq_left hm, Nat.mul_one]; exact sl_rdo qb
  · by_cases hz : cellsB l = []
    · refine .inl ⟨hz, hk _ g _ ?_ hg⟩
      rw [hz] at hset
      rw [← hset]
      exact (hset_same g8).symm
    · refine .inr ⟨_, rfl, stb g8 (by rw [hcl, List.length_replicate]; omega) (fun h' e => hk h' g _ ?_ hg)⟩
      rw [e, hset]
def writeD (D : Dk) (n : Int) (l : Bs) : Int × Dk :=
  if chkD D n l.length ≠ 0 then (chkD D n l.length, D)
  else (if (stepD { D with now := D.now.set n.toNat (padP l), ws := D.ws ++ [(n, padP l)] }).1 then 15 else 0, (stepD { D with now := D.now.set n.toNat (padP l), ws := D.ws ++ [(n, padP l)] }).2)
theorem WriteC {e1 : Nat} {h : Heap} {p : Nat} {D : Dk} (q : DkO h p D) (n : Int) {b : Option Addr} {m c : Nat} {l : Bs} (qb : Sl e1 shB h (.slice b m c) l) (hw : D.ws.length ≤ 2 ^ 38) {k : Value → Heap → Prop}
    (hk : ∀ h', LeX dT h h' → DkO h' p (writeD D n l).2 → k (.int .i64 (writeD D n l).1) h') :
    Ct 246 [.pointer (some ⟨p, 0, none⟩), .int .i64 n, .slice b m c] h k := by
  obtain ⟨A, hA⟩ := Ar.ex
  have hlen := qb.len
  have hml : A .nat m = ((l.length : Nat) : Int) := by rw [hA.nat, hlen]; rfl
  have f1 : A .icm .neq (chkD D n l.length) 0 = decide (chkD D n l.length ≠ 0) := icm_neq A ..
  have hP : writeD D n l = if chkD D n l.length ≠ 0 then (chkD D n l.length, D) else (if (stepD { D with now := D.now.set n.toNat (padP l), ws := D.ws ++ [(n, padP l)] }).1 then 15 else 0, (stepD { D with now := D.now.set n.toNat (padP l), ws := D.ws ++ [(n, padP l)] }).2) := rfl
  have hin : chkD D n l.length = 0 → IsN n n.toNat ∧ n.toNat < D.now.length ∧ m ≤ 64 := fun hc => by
    unfold chkD at hc
    split at hc
    · cases hc
    · split at hc
      · cases hc
      · rename_i hn
        have h1 : ¬ n < 0 := fun g => hn (.inl g)
        have h2 : ¬ n ≥ (D.now.length : Int) := fun g => hn (.inr (.inl g))
        have h3 : ¬ (l.length : Int) > 64 := fun g => hn (.inr (.inr g))
        exact ⟨⟨by omega⟩, by omega, by omega⟩
  refine fn_of_sx A (tabOk T246.plan T246.pub) Tryz.func246 rfl (by kernel_rfl) ?_
  cbv
  rw [hml]
  refine checkedC q n _ ?_
  by_cases hr : chkD D n l.length ≠ 0
  · rw [if_pos hr] at hP
    rw [hP] at hk
    have := hk h (LeX.refl _ _) q
    rw [decide_eq_true hr] at f1
    clear hk hP hin
    generalize chkD D n l.length = r at *
    cbv
    rw [f1]
    cbv
    exact this
  · rw [if_neg hr] at hP
    rw [hP] at hk
    have hr0 : chkD D n l.length = 0 := by omega
    obtain ⟨hn, hnl, hm64⟩ := hin hr0
    rw [decide_eq_false hr] at f1
    rw [hr0] at f1 ⊢
    clear hP hin hr
    cbv
    rw [f1]
    cbv
    intro n8 h1 hn8 e1
    have l1 : Le h h1 := by rw [e1]; exact Le.set hn8
    have g8 := (congrFun e1 n8).trans hset_self
    have q1 := q.le l1
    clear e1
    cbv
    refine copy_pg g8 (qb.mono (l1.t _)) hm64 (fun h2 g zz e2 hg => ?_)
    have l2 : Le h h2 := l1.kpNew (bs := [n8]) (by simpa using hn8) (by rw [e2]; exact Kp.set (by simp))
    have g82 := (congrFun e2 n8).trans hset_self
    have q2 := q.le l2
    obtain ⟨kb, nb, wb, wn, wc, d, g2, o1, o2, x1, x2, x3, w2, x4⟩ := q2.out
    have hP64 := padP_len (l := l) (by omega)
    have hck : (some (⟨nb, 0, none⟩ : Addr)).isSome = true ∧ 0 ≤ n ∧ n < (D.now.length : Int) := ⟨rfl, hn.ix hnl⟩
    obtain ⟨P, hPl⟩ : ∃ P, P = D.now.length := ⟨_, rfl⟩
    rw [← hPl] at g2 o1 o2 hck x1 x4
    have hp8 : n8 ≠ nb := fun e => by
      obtain ⟨kb', nb', wb', wn', wc', d', g', o1', o2', _, _, _, _, _⟩ := q.out
      have := l2 _ _ g'
      rw [← hPl] at this o2'
      rw [g2] at this
      cases this
      rw [← e] at o2'
      exact o2'.has hn8
    clear e2 q1
    cbv
    rw [offm A]
    refine ldb g2 rfl rfl ?_
    cbv
    refine ldb g82 rfl rfl ?_
    cbv
    refine ⟨hck, ?_⟩
    cbv
    have hR : shPg.R h2 (pgl g) (padP l) := ⟨hg, hP64⟩
    refine o2.setAt (by decide) (i := n.toNat) (by omega) hn.eq rfl hR (fun h3 k3 t3 o3 => ?_)
    have hnk : n8 ∉ [nb] := by simpa using hp8
    have g83 := k3 _ _ g82 hnk
    have g3 := t3 [120] (by decide) _ _ _ _ (by simp) g2
    have ok3 := o1.kp k3 (by simpa using x2) (fun _ _ _ _ hm => by cases hm)
    have w3 := w2.mono (t3 [455] (by decide))
    have x23 : LeX dT h2 h3 := k3.x (fun b hb o ho => by
      simp at hb
      subst hb
      obtain ⟨c', hc', -⟩ := o2.out
      rw [hc'] at ho; cases ho
      exact ⟨_, _, _, rfl, by decide⟩)
    have hz65 : wn + 1 ≤ 2 ^ 39 := by have := w2.sl.len; omega
    cbv
    rw [offm A]
    refine ldb g3 rfl rfl ?_
    cbv
    refine ldb g83 rfl rfl ?_
    cbv
    intro n9 h4 hn9 e4
    have l4 : Le h3 h4 := by rw [e4]; exact Le.set hn9
    have q9 : Sl 455 shWr h4 (.slice (some ⟨n9, 0, none⟩) 1 1) [(n, padP l)] := one_sl (s := shWr) ((congrFun e4 n9).trans hset_self) ⟨by
      show .int .i64 n :: pgl g = _
      rw [hg], hP64⟩
    have g4 := l4 _ _ g3
    clear e4
    cbv
    refine ldb g4 rfl rfl ?_
    cbv
    refine ⟨⟨_, rfl, rfl⟩, ?_⟩
    cbv
    refine (w3.mono (l4.t _)).app q9 (by decide) rfl (by decide) hz65 (fun _ _ hh => by cases hh) (fun m' b' c' h5 hm' _ t5 k5 w5 => ?_)
    have g5 := t5 [120] (by decide) _ _ _ _ (by simp) g4
    have o5 := (o3.mono (l4.t _)).mono (t5 [135] (by decide))
    have ok5 := (ok3.mono (l4.t _)).mono (t5 [135] (by decide))
    have x35 : LeX dT h3 h5 := fun j o hj hne => k5 j o (l4 j o hj) (.inr (.inr (fun c fr e => hne _ _ _ e (by decide))))
    cbv
    rw [offm A]
    refine stb g5 (by simp) (fun h6 e6 => ?_)
    have g6 := (congrFun e6 p).trans hset_self
    have t6 : ∀ tys, 120 ∉ tys → LeT tys h5 h6 := fun tys hh => by rw [e6]; exact LeT.set g5 hh
    have x06 : LeX dT h h6 := (l2.x _).trans (x23.trans (x35.trans (by rw [e6]; exact set_x g5 (by decide))))
    have q6 : DkO h6 p { D with now := D.now.set n.toNat (padP l), ws := D.ws ++ [(n, padP l)] } := ⟨kb, nb, b', m', c', d, by
      rw [show (D.now.set n.toNat (padP l)).length = P by rw [List.length_set, hPl]]
      exact g6, by
      rw [show (D.now.set n.toNat (padP l)).length = P by rw [List.length_set, hPl]]
      exact ok5.mono (t6 _ (by decide)), by
      rw [show (D.now.set n.toNat (padP l)).length = P by rw [List.length_set, hPl]]
      exact o5.mono (t6 _ (by decide)), by
      rw [show (D.now.set n.toNat (padP l)).length = P by rw [List.length_set, hPl]]
      exact x1, x2, x3, w5.mono (t6 _ (by decide)), by
      rw [show (D.now.set n.toNat (padP l)).length = P by rw [List.length_set, hPl]]
      exact x4⟩
    generalize ({ D with now := D.now.set n.toNat (padP l), ws := D.ws ++ [(n, padP l)] } : Dk) = D1 at *
    clear e6
    cbv
    rw [offm A]
    refine stepC q6 (fun h7 x7 q7 => ?_)
    have hk := hk h7 (x06.trans x7) q7
    generalize stepD D1 = R at *
    obtain ⟨t, D2⟩ := R
    cases t with
    | true =>
      cbv
      exact hk
    | false =>
      cbv
      exact hk
end Go.S

set_option maxRecDepth 100000
set_option maxHeartbeats 8000000
namespace Go.S
open Go.Sx Go.Proofs
def syncD (D : Dk) : Int × Dk := if D.dead then (15, D) else if (stepD D).1 then (15, (stepD D).2) else (0, { (stepD D).2 with kept := (stepD D).2.now, ws := [] })
/-- All elements of a block over those of another. -/
theorem copy_all {α : Type} {e : Nat} {s : Sh α} {h : Heap} {nb1 nb2 P : Nat} {xs ys : List α} (o1 : Own e s h nb1 P xs) (o2 : Own e s h nb2 P ys) (hx : xs.length = P) (hy : ys.length = P) (he : e ∉ s.tys) {sz : Nat} (hsz : sz = s.n) {k : Value → Heap → Prop}
    (hk : ∀ h' z, Kp [nb1] h h' → (∀ tys, e ∉ tys → LeT tys h h') → Own e s h' nb1 P ys → k (.int .i64 z) h') : CopyX h (some ⟨nb1, 0, none⟩) P (some ⟨nb2, 0, none⟩) P sz k := by
  subst hsz
  obtain ⟨cs, h1, h2, h3, h4⟩ := (o2.sl (n := P) hy.symm).allCells
  have hr : Sx.Rows s h cs 0 ys := by
    have := h4 h (LeT.refl _ _) [] []
    simpa using this
  refine ⟨cs, by rw [Nat.min_self]; exact h1, h3, .inr ⟨⟨nb1, 0, none⟩, rfl, ?_⟩⟩
  have := o1.write (ys := ys) he (i := 0) (by omega) (by omega) (by have := o2.bd; omega) (cs := cs) (by rw [h2, hy]) hr (k := fun h' => k (.int .i64 ((min P P : Nat) : Int)) h') (fun h' k1 t1 o' => hk h' _ k1 t1 (by
    have e1 : xs.take 0 ++ ys ++ xs.drop (0 + ys.length) = ys := by
      rw [List.take_zero, List.nil_append, List.drop_of_length_le (by omega), List.append_nil]
    rw [e1] at o'; exact o'))
  rw [Nat.zero_mul] at this
  exact this
theorem SyncC {h : Heap} {p : Nat} {D : Dk} (q : DkO h p D) {k : Value → Heap → Prop} (hk : ∀ h', LeX dT h h' → DkO h' p (syncD D).2 → k (.int .i64 (syncD D).1) h') :
    Ct 248 [.pointer (some ⟨p, 0, none⟩)] h k := by
  obtain ⟨A, hA⟩ := Ar.ex
  have hP : syncD D = if D.dead then (15, D) else if (stepD D).1 then (15, (stepD D).2) else (0, { (stepD D).2 with kept := (stepD D).2.now, ws := [] }) := rfl
  refine fn_of_sx A (tabOk T248.plan T248.pub) Tryz.func248 rfl (by kernel_rfl) ?_
  cbv
  rw [offm A]
  refine DeadC q ?_
  cases hd : D.dead with
  | true =>
    rw [hd] at hP
    have hP : syncD D = (15, D) := hP
    rw [hP] at hk
    have := hk h (LeX.refl _ _) q
    clear hk hP
    cbv
    exact this
  | false =>
    rw [hd] at hP
    have hP : syncD D = if (stepD D).1 then (15, (stepD D).2) else (0, { (stepD D).2 with kept := (stepD D).2.now, ws := [] }) := hP
    rw [hP] at hk
    clear hP
    cbv
    rw [offm A]
    refine stepC q (fun h1 x1 q1 => ?_)
    generalize stepD D = R at *
    obtain ⟨t, D1⟩ := R
    cases t with
    | true =>
      have := hk h1 x1 q1
      clear hk
      cbv
      exact this
    | false =>
      have hk : ∀ h', LeX dT h h' → DkO h' p { D1 with kept := D1.now, ws := [] } → k (.int .i64 0) h' := hk
      have q1 : DkO h1 p D1 := q1
      obtain ⟨kb, nb, wb, wn, wc, d, g, o1, o2, y1, y2, y3, w, y4⟩ := q1.out
      obtain ⟨P, hPl⟩ : ∃ P, P = D1.now.length := ⟨_, rfl⟩
      rw [← hPl] at g o1 o2 y1 y4
      cbv
      rw [offm A]
      refine ldb g rfl rfl ?_
      cbv
      rw [offm A]
      refine ldb g rfl rfl ?_
      cbv
      refine copy_all o1 o2 y1 hPl.symm (by decide) rfl (fun h2 z k2 t2 ok2 => ?_)
      have g2 := t2 [120] (by decide) _ _ _ _ (by simp) g
      have o22 := o2.kp k2 (by simpa using Ne.symm y2) (fun _ _ _ _ hm => by cases hm)
      have x12 : LeX dT h1 h2 := k2.x (fun b hb o ho => by
        simp at hb
        subst hb
        obtain ⟨c', hc', -⟩ := o1.out
        rw [hc'] at ho; cases ho
        exact ⟨_, _, _, rfl, by decide⟩)
      cbv
      rw [offm A]
      refine stb g2 (by simp) (fun h3 e3 => ?_)
      have g3 := (congrFun e3 p).trans hset_self
      have t3 : ∀ tys, 120 ∉ tys → LeT tys h2 h3 := fun tys hh => by rw [e3]; exact LeT.set g2 hh
      have q3 : DkO h3 p { D1 with kept := D1.now, ws := [] } := ⟨kb, nb, none, 0, 0, d, by
        show h3 p = some (.cells (List.toArray [_, _, .slice _ D1.now.length _, .slice _ D1.now.length D1.now.length, _]) _ _)
        rw [← hPl]
        exact g3, by
        show Own _ _ _ _ D1.now.length _
        rw [← hPl]
        exact ok2.mono (t3 _ (by decide)), by
        show Own _ _ _ _ D1.now.length _
        rw [← hPl]
        exact o22.mono (t3 _ (by decide)), rfl, y2, y3, Buf.nil, by
        show D1.now.length ≤ 4096
        rw [← hPl]; exact y4⟩
      have := hk h3 (x1.trans (x12.trans (by rw [e3]; exact set_x g2 (by decide)))) q3
      clear e3 hk
      cbv
      exact this
end Go.S

set_option maxRecDepth 100000
set_option maxHeartbeats 8000000
namespace Go.S
open Go.Sx Go.Proofs
def writesD (D : Dk) (pg : Nat) (b : Bs) : Int × Dk :=
  if h : b = [] then syncD D
  else if (writeD D pg (b.take 64)).1 ≠ 0 then writeD D pg (b.take 64)
  else writesD (writeD D pg (b.take 64)).2 (pg + 1) (b.drop 64)
  termination_by b.length
  decreasing_by
  have := List.length_pos_iff.2 h
  simp only [List.length_drop]; omega
def pagesD (D : Dk) (at_ : Nat) (b : Bs) : Int × Dk :=
  if at_ % 64 = 0 then writesD D (1 + at_ / 64) b
  else if chkD D ((1 + at_ / 64 : Nat) : Int) 0 ≠ 0 then (chkD D ((1 + at_ / 64 : Nat) : Int) 0, D)
  else writesD D (1 + at_ / 64) ((pgAt D ((1 + at_ / 64 : Nat) : Int)).take (at_ % 64) ++ b)
theorem stepD_ws (D : Dk) : (stepD D).2.ws = D.ws := by
  unfold stepD
  split
  · split <;> rfl
  · rfl
theorem writeD_ws (D : Dk) (n : Int) (l : Bs) : (writeD D n l).2.ws.length ≤ D.ws.length + 1 := by
  unfold writeD
  split
  · exact Nat.le_succ _
  · rw [stepD_ws]; simp
/-- The loop that writes pages. -/
theorem pagesC {h : Heap} {p lg : Nat} {D : Dk} {cn : Int} (q : DkO h p D) {z : Int} {s : Nat} (hz : IsN z s) (ql : LgO h lg p z cn) {b : Option Addr} {m c : Nat} {l : Bs} (qb : Sl 5 shB h (.slice b m c) l) (hs : s ≤ 2 ^ 30) (hm : m ≤ 2 ^ 30) (hw : D.ws.length ≤ 2 ^ 30) {k : Value → Heap → Prop}
    (hk : ∀ h', LeX dT h h' → DkO h' p (pagesD D s l).2 → k (.int .i64 (pagesD D s l).1) h') :
    Ct 244 [.pointer (some ⟨lg, 0, none⟩), .slice b m c] h k := by
  obtain ⟨A, hA⟩ := Ar.ex
  have hlen := qb.len
  have f00 : A .icm .neq 0 0 = false := by rw [icm_neq A]; rfl
  have hP : pagesD D s l = if s % 64 = 0 then writesD D (1 + s / 64) l
    else if chkD D ((1 + s / 64 : Nat) : Int) 0 ≠ 0 then (chkD D ((1 + s / 64 : Nat) : Int) 0, D)
    else writesD D (1 + s / 64) ((pgAt D ((1 + s / 64 : Nat) : Int)).take (s % 64) ++ l) := rfl
  have hrem : A .ari .rem .i64 z 64 = ((s % 64 : Nat) : Int) := by
    rw [hA.ari, hz.eq]
    show ((s : Int)).tmod 64 = _
    rw [Int.tmod_eq_emod_of_nonneg (by omega)]; omega
  have hpg : A .ari .add .i64 1 (A .ari .quo .i64 z 64) = ((1 + s / 64 : Nat) : Int) := by
    have h1 : A .ari .quo .i64 z 64 = ((s / 64 : Nat) : Int) := by
      rw [hA.ari, hz.eq]
      show IntKind.i64.wrap (((s : Int)).tdiv 64) = _
      rw [Int.tdiv_eq_ediv_of_nonneg (by omega), IntWalk.i64_in _ (by omega)]; omega
    rw [h1, hA.ari]
    show IntKind.i64.wrap (1 + ((s / 64 : Nat) : Int)) = _
    rw [IntWalk.i64_in _ (by omega)]; omega
  have f1 : A .icm .gtr (A .ari .rem .i64 z 64) 0 = decide (¬ s % 64 = 0) := by rw [hrem, icm_gtr A]; exact decide_eq_decide.2 (by omega)
  obtain ⟨pg, hpge⟩ : ∃ pg, pg = 1 + s / 64 := ⟨_, rfl⟩
  obtain ⟨pz, hpz⟩ : ∃ pz : Int, pz = ((pg : Nat) : Int) := ⟨_, rfl⟩
  rw [← hpge] at hP hpg
  rw [← hpz] at hP hpg
  have hpN : IsN pz pg := ⟨hpz⟩
  have hpb : pg ≤ 2 ^ 31 := by omega
  obtain ⟨C, hC0⟩ : ∃ C : (Option Addr × Nat × Nat) → Heap → Prop, ∀ g h1, C g h1 = (Le h h1 ∧ ∃ l1, Sl 5 shB h1 (.slice g.1 g.2.1 g.2.2) l1 ∧ pagesD D s l = writesD D pg l1 ∧ l1.length ≤ 2 ^ 30 + 64) := ⟨_, fun _ _ => rfl⟩
  obtain ⟨J, hJ0⟩ : ∃ J : Nat → ((Option Addr × Nat × Nat) × Int) → Heap → Prop, ∀ w g h', J w g h' = (∃ Dc pc cur, IsN g.2 pc ∧ w = g.1.2.1 ∧ DkO h' p Dc ∧ LeX dT h h' ∧ Sl 5 shB h' (.slice g.1.1 g.1.2.1 g.1.2.2) cur ∧ pagesD D s l = writesD Dc pc cur ∧ pc + cur.length ≤ 2 ^ 33 ∧ Dc.ws.length + cur.length ≤ 2 ^ 33) := ⟨_, fun _ _ _ => rfl⟩
  have hCJ : ∀ g h1, C g h1 → J g.2.1 (g, pz) h1 := fun g h1 hc => by
    rw [hC0] at hc
    obtain ⟨l1, l2, s1, he, hl⟩ := hc
    rw [hJ0]
    exact ⟨D, pg, l2, hpN, rfl, q.le l1, l1.x _, s1, he, by omega, by omega⟩
  refine fn_of_sxc A [false, false, false, true] (tabOk T244.plan T244.pub) Tryz.func244 rfl (by kernel_rfl) ?_
  cbv
  rw [offm A]
  refine load64 (cel_exp ql.out rfl) ?_
  cbv
  refine ⟨by decide, ?_⟩
  cbv
  rw [hpg]
  refine CutX.go (G := Option Addr × Nat × Nat) (fun g => [(1, .v (.slice g.1 g.2.1 g.2.2))]) (fun _ => []) C ?_ ?_
  · cbv
    refine ⟨by decide, ?_⟩
    cbv
    rw [f1]
    by_cases c1 : s % 64 = 0
    · rw [if_pos c1] at hP
      have hC : C (b, m, c) h := by rw [hC0]; exact ⟨Le.refl _, l, qb, hP, by omega⟩
      rw [decide_eq_false (fun g => g c1)]
      clear hC0 hCJ hJ0 hk hP
      cbv
      refine ⟨(b, m, c), ⟨?_, ?_, ?_⟩, hC⟩
      · cbv
      · cbv
      · cbv
    · rw [if_neg c1] at hP
      rw [decide_eq_true c1]
      have hsm : s % 64 < 64 := Nat.mod_lt _ (by decide)
      generalize s % 64 = r at *
      cbv
      rw [offm A]
      refine ldb ql.out rfl rfl ?_
      cbv
      refine ReadC q pz (fun hne => ?_) (fun he h1 b1 c1' l1 hp0 q1 => ?_)
      · rw [if_pos hne] at hP
        rw [hP] at hk
        have := hk h (LeX.refl _ _) q
        have f2 : A .icm .neq (chkD D pz 0) 0 = true := by rw [icm_neq A]; exact decide_eq_true hne
        clear hC0 hCJ hJ0 hk hP
        generalize chkD D pz 0 = e at *
        cbv
        rw [f2]
        cbv
        exact this
      · rw [if_neg (fun g => g he)] at hP
        have hrN : IsN (A .ari .rem .i64 z 64) r := ⟨hrem⟩
        have hck : 0 ≤ A .ari .rem .i64 z 64 ∧ A .ari .rem .i64 z 64 ≤ (c1' : Int) := by have := q1.sl.bound; have h9 := hrN.eq; omega
        have dd := dif_z0 (A := A) hrN
        have tk := q1.sl.take2 (A := A) (z := A .nat c1') (i := r) (by omega) rfl
        have hCl : ∀ h', Le h h' → ∀ b2 n2 c2, Sl 5 shB h' (.slice b2 n2 c2) ((pgAt D pz).take r ++ l) → C (b2, n2, c2) h' := fun h' l' b2 n2 c2 s' => by
          rw [hC0]; exact ⟨l', _, s', hP, by rw [List.length_append, List.length_take]; omega⟩
        have ha : ([(pgAt D pz).take r, l] : List Bs).flatten = (pgAt D pz).take r ++ l := by simp
        have hab : ((pgAt D pz).take r ++ l).length ≤ 2 ^ 38 := by rw [List.length_append, List.length_take]; omega
        clear hC0 hCJ hJ0 hk hP
        generalize pgAt D pz = pb at *
        cbv
        rw [f00]
        cbv
        refine ⟨by decide, ?_⟩
        cbv
        refine ⟨hck, ?_⟩
        cbv
        rw [dd]
        intro n2 h2 hn2 e2
        have l2 : Le h1 h2 := by rw [e2]; exact Le.set hn2
        have g2 := (congrFun e2 n2).trans hset_self
        clear e2
        cbv
        refine concatY (L := [pb.take r, l]) (two_sl (s := shBs) rfl g2 (shBs_of (tk.mono (l2.t _))) (shBs_of (qb.mono ((l1.trans l2).t _)))) (by rw [ha]; exact hab) (fun h3 b' n' c' l3 q3 => ?_)
        rw [ha] at q3
        have hC := hCl h3 ((l1.trans l2).trans l3) b' n' c' q3.sl
        clear hCl
        cbv
        refine ⟨(b', n', c'), ⟨?_, ?_, ?_⟩, hC⟩
        · cbv
        · cbv
        · cbv
  · intro g h1 hc
    have hJ := hCJ g h1 hc
    clear hCJ hC0 hc
    cbv
    obtain ⟨gb, gm, gc⟩ := g
    refine LoopX.go (G := (Option Addr × Nat × Nat) × Int) (fun g => [(1, .v (.slice g.1.1 g.1.2.1 g.1.2.2)), (6, .v (.int .i64 g.2))]) (fun _ => []) (fun w g h' => J w g h') gm ((gb, gm, gc), pz) ⟨?_, ?_, ?_⟩ hJ ?_
    · cbv
    · cbv
    · cbv
    · intro w g h2 hI
      rw [hJ0] at hI
      cbv
      obtain ⟨⟨gb, gm, gc⟩, zp⟩ := g
      obtain ⟨Dc, pc, cur, hzp, hw, d2, x2, s2, he, hb1, hb2⟩ := hI
      have hzp : IsN zp pc := hzp
      have hw : w = gm := hw
      have s2 : Sl 5 shB h2 (.slice gb gm gc) cur := s2
      have hgm := s2.len
      have hbd := s2.bound
      have ql2 := ql.lt (x2.t (by decide))
      have f2 : A .icm .gtr (A .nat gm) 0 = decide (cur ≠ []) := by
        rw [icm_gtr A, hA.nat]
        refine decide_eq_decide.2 ?_
        rw [Int.ofNat_eq_natCast, hgm]
        constructor
        · intro h e; rw [e] at h; simp at h
        · intro h; have := List.length_pos_iff.2 h; omega
      have hWD : writesD Dc pc cur = if h : cur = [] then syncD Dc
        else if (writeD Dc pc (cur.take 64)).1 ≠ 0 then writeD Dc pc (cur.take 64)
        else writesD (writeD Dc pc (cur.take 64)).2 (pc + 1) (cur.drop 64) := by rw [writesD]
      have hws := writeD_ws Dc pc (cur.take 64)
      rw [f2]
      by_cases hc : cur = []
      · rw [dif_pos hc] at hWD
        rw [he, hWD] at hk
        rw [decide_eq_false (fun g => g hc)]
        clear hJ0 hJ hWD hws
        cbv
        rw [offm A]
        refine ldb ql2.out rfl rfl ?_
        cbv
        refine SyncC d2 (fun h3 x3 d3 => ?_)
        have := hk h3 (x2.trans x3) d3
        clear hk
        generalize syncD Dc = R at *
        obtain ⟨e, D3⟩ := R
        cbv
        exact this
      · rw [dif_neg hc] at hWD
        rw [decide_eq_true hc]
        have hpos := List.length_pos_iff.2 hc
        obtain ⟨nn, hnn⟩ : ∃ nn, nn = min gm 64 := ⟨_, rfl⟩
        have hmin : A .imin (A .nat gm) 64 = A .nat nn := by rw [hA.imin, hA.nat, hnn]; show min (gm : Int) 64 = ((min gm 64 : Nat) : Int); omega
        have hnN : IsN (A .nat nn) nn := IsN.nat nn
        have hck1 : 0 ≤ A .nat nn ∧ A .nat nn ≤ (gc : Int) := by have := hnN.eq; omega
        have hck2 : 0 ≤ A .nat nn ∧ A .nat nn ≤ (gm : Int) := by have := hnN.eq; omega
        have dd1 := dif_z0 (A := A) hnN
        have dd2 := dif_nz (A := A) (n := gm) hnN
        have dd3 := dif_nz (A := A) (n := gc) hnN
        have tk := s2.take2 (A := A) (z := A .nat gc) (i := nn) (by omega) rfl
        have td := s2.dropX (A := A) hnN (by omega) rfl rfl
        have e64 : cur.take nn = cur.take 64 := by rw [hnn, hgm, Nat.min_comm, ← List.take_eq_take_min]
        have e65 : cur.drop nn = cur.drop 64 := by
          rw [hnn, hgm]
          by_cases hh : cur.length ≤ 64
          · rw [Nat.min_eq_left hh, List.drop_of_length_le (Nat.le_refl _), List.drop_of_length_le hh]
          · rw [Nat.min_eq_right (by omega)]
        rw [e64] at tk
        rw [e65] at td
        have hnx := hzp.succ (A := A) (by omega)
        have hwsb : Dc.ws.length ≤ 2 ^ 38 := by omega
        have hJ2 : ∀ h', (writeD Dc pc (cur.take 64)).1 = 0 → LeX dT h h' → DkO h' p (writeD Dc pc (cur.take 64)).2 → Sl 5 shB h' (.slice (A .cut gb (A .nat nn) (A .nat gc) 1) (gm - nn) (gc - nn)) (cur.drop 64) →
            J (gm - nn) ((A .cut gb (A .nat nn) (A .nat gc) 1, gm - nn, gc - nn), A .ari .add .i64 zp 1) h' := fun h' h0 x' d' s' => by
          rw [hJ0]
          rw [if_neg (fun g => g h0)] at hWD
          refine ⟨_, pc + 1, _, hnx, rfl, d', x', s', by rw [he, hWD], ?_, ?_⟩
          · rw [List.length_drop]; omega
          · rw [List.length_drop]; omega
        have hlt : gm - nn < w := by omega
        have ez : writeD Dc zp (cur.take 64) = writeD Dc pc (cur.take 64) := by rw [hzp.eq]
        clear hJ0 hJ hnx
        cbv
        rw [hmin, offm A]
        refine ldb ql2.out rfl rfl ?_
        cbv
        refine ⟨hck1, ?_⟩
        cbv
        rw [dd1]
        refine WriteC d2 zp tk hwsb (fun h3 x3 d3 => ?_)
        rw [ez] at d3 ⊢
        clear ez
        have hJ2 := hJ2 h3
        have td3 := td.mono (x3.t (by decide))
        have hx := x2.trans x3
        rw [he, hWD] at hk
        clear hWD he hws
        generalize hwr : writeD Dc pc (cur.take 64) = R at *
        obtain ⟨e, D3⟩ := R
        have f3 : A .icm .neq e 0 = decide (e ≠ 0) := icm_neq A ..
        by_cases hee : e ≠ 0
        · have hk : ∀ h', LeX dT h h' → DkO h' p (if e ≠ 0 then (e, D3) else writesD D3 (pc + 1) (cur.drop 64)).2 → k (.int .i64 (if e ≠ 0 then (e, D3) else writesD D3 (pc + 1) (cur.drop 64)).1) h' := hk
          rw [if_pos hee] at hk
          have := hk h3 hx d3
          rw [decide_eq_true hee] at f3
          clear hk hJ2
          cbv
          rw [f3]
          cbv
          exact this
        · have hJ3 := hJ2 (by show e = 0; omega) hx d3 td3
          rw [decide_eq_false hee] at f3
          clear hk hJ2
          cbv
          rw [f3]
          cbv
          refine ⟨hck2, ?_⟩
          cbv
          rw [dd2, dd3]
          refine ⟨gm - nn, ((_, _, _), A .ari .add .i64 zp 1), hlt, ⟨?_, ?_, ?_⟩, hJ3⟩
          · cbv
          · cbv
          · cbv
end Go.S

