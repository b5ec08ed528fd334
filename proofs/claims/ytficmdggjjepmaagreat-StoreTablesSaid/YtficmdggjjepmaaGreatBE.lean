import Derived.Test.YtficmdggjjepmaaGreatBD
import Derived.Test.YtficmdggjjepmaaGreatBC
import Derived.Test.YtficmdggjjepmaaGreatNA
import Derived.Test.YtficmdggjjepmaaGreatLB
import Derived.Test.YtficmdggjjepmaaGreatGC
import Derived.Test.YtficmdggjjepmaaGreatMB
import Derived.Test.YtficmdggjjepmaaGreatEC
import Derived.Test.YtficmdggjjepmaaGreatI2b
import Derived.Test.YtficmdggjjepmaaGreatSxC
set_option linter.all false
set_option maxRecDepth 100000
set_option maxHeartbeats 8000000
namespace Go.S
open Go.Sx Go.Proofs
def shZ (z : List Value) (hz : ones z = true) : Sh Unit where
  n := z.length
  R _ cs _ := cs = z
  len := by rintro h cs x rfl; rfl
  one := by rintro h cs x rfl; exact hz
  tys := []
  mono := fun _ q => q
theorem EachTx0 {h : Heap} {k : Value → Heap → Prop} (hk : ∀ h' b c, Le h h' → k (.slice b 0 c) h') :
    Ct 273 [.slice none 0 0, .func (.func 274) #[] #[]] h k := by
  obtain ⟨A, hA⟩ := Ar.ex
  refine fn_of_sx A (tabOk T273.plan T273.pub) Tryz.func273 rfl (by kernel_rfl) ?_
  have f0 : A .icm .lss 0 (A .nat 0) = false := by rw [icm_lss A, hA.nat]; rfl
  cbv
  refine make_z (s := shZ [.int .i64 0, .slice none 0 0] rfl) (x := ()) (fun _ => rfl) (by omega) (by decide) (fun nb h1 hnb l1 o1 => ?_)
  have := hk h1 (some ⟨nb, 0, none⟩) 0 l1
  cbv
  refine LoopX.go (G := Unit) (fun _ => [(13, .v (.int .i64 0))]) (fun _ => []) (fun w _ h' => h' = h1) 0 () ⟨?_, ?_, ?_⟩ rfl ?_
  · cbv
  · cbv
  · cbv
  · intro w g h2 hI
    subst hI
    cbv
    rw [f0]
    cbv
    exact this
theorem OwnTxs0 {h : Heap} {k : Value → Heap → Prop} (hk : ∀ h' b c, Le h h' → k (.slice b 0 c) h') :
    Ct 176 [.slice none 0 0] h k := by
  obtain ⟨A, hA⟩ := Ar.ex
  refine fn_of_sx A (tabOk T176.plan T176.pub) Tryz.func176 rfl (by kernel_rfl) ?_
  cbv
  refine EachTx0 (fun h1 b c l => ?_)
  have := hk h1 b c l
  cbv
  exact this
theorem EachTs0 {h : Heap} {k : Value → Heap → Prop} (hk : ∀ h' b c, Le h h' → k (.slice b 0 c) h') :
    Ct 178 [.slice none 0 0, .func (.func 176) #[] #[]] h k := by
  obtain ⟨A, hA⟩ := Ar.ex
  refine fn_of_sx A (tabOk T178.plan T178.pub) Tryz.func178 rfl (by kernel_rfl) ?_
  have f0 : A .icm .lss 0 (A .nat 0) = false := by rw [icm_lss A, hA.nat]; rfl
  cbv
  refine make_z (s := shZ [.slice none 0 0] rfl) (x := ()) (fun _ => rfl) (by omega) (by decide) (fun nb h1 hnb l1 o1 => ?_)
  have := hk h1 (some ⟨nb, 0, none⟩) 0 l1
  cbv
  refine LoopX.go (G := Unit) (fun _ => [(13, .v (.int .i64 0))]) (fun _ => []) (fun w _ h' => h' = h1) 0 () ⟨?_, ?_, ?_⟩ rfl ?_
  · cbv
  · cbv
  · cbv
  · intro w g h2 hI
    subst hI
    cbv
    rw [f0]
    cbv
    exact this
theorem CloneBk0 {h : Heap} {k : Value → Heap → Prop} (hk : k (.slice none 0 0) h) :
    Ct 177 [.slice none 0 0] h k := by
  obtain ⟨A, hA⟩ := Ar.ex
  refine fn_of_sx A (tabOk T177.plan T177.pub) Tryz.func177 rfl (by kernel_rfl) ?_
  have f0 : A .isn none = true := by rw [hA.isn]; rfl
  cbv
  rw [f0]
  cbv
  exact hk
theorem OwnLed0 {h : Heap} {k : Value → Heap → Prop} (hk : ∀ h' b1 c1 b2 c2, Le h h' → k (.agg #[.int .i64 0, .slice b1 0 c1, .slice none 0 0, .slice b2 0 c2]) h') : Ct 84 [.agg #[.int .i64 0, .slice none 0 0, .slice none 0 0, .slice none 0 0]] h k := by
  obtain ⟨A, hA⟩ := Ar.ex
  refine fn_of_sx A (tabOk T84.plan T84.pub) Tryz.func84 rfl (by kernel_rfl) ?_
  cbv
  refine OwnTxs0 (fun h1 b5 c5 l1 => ?_)
  cbv
  refine CloneBk0 ?_
  cbv
  refine EachTs0 (fun h2 b6 c6 l2 => ?_)
  have := hk h2 b5 c5 b6 c6 (l1.trans l2)
  cbv
  exact this
/-- The ledger of a store that has none. -/
theorem Led0 {h : Heap} {s p : Nat} {G : Lg} {d : DB} (q : WhO h s p G d L0) {k : Value → Heap → Prop} (hk : ∀ h' b1 c1 b2 c2, Le h h' → k (.agg #[.int .i64 0, .slice b1 0 c1, .slice none 0 0, .slice b2 0 c2]) h') : Ct 31 [.pointer (some ⟨s, 0, none⟩)] h k := by
  obtain ⟨A, hA⟩ := Ar.ex
  obtain ⟨g, x, qs, ql, qk, qx⟩ := q.out
  obtain ⟨b1, n1, c1, b2, n2, c2, b3, n3, c3, b4, n4, c4, gx, qd⟩ := qx.out
  refine fn_of_sx A (tabOk T31.plan T31.pub) Tryz.func31 rfl (by kernel_rfl) ?_
  cbv
  rw [offm A]
  refine PLoad (cel_exp qs.out rfl) gx rfl ?_
  cbv
  rw [offm A]
  refine ldb gx rfl rfl ?_
  cbv
  refine OwnLed0 (fun h1 b5 c5 b6 c6 l1 => ?_)
  have := hk h1 b5 c5 b6 c6 l1
  cbv
  exact this
end Go.S

set_option maxRecDepth 100000
namespace Go.S
open Go.Sx Go.Proofs
/-- A disk that does not die. -/
structure Good (D : Dk) (P : Nat) : Prop where
  dead : D.dead = false
  left : ¬ D.left > 0
  len : D.now.length = P
  pg : ∀ b ∈ D.now, b.length = 64
theorem step_ok {D : Dk} {P : Nat} (g : Good D P) : stepD D = (false, D) := by
  unfold stepD; rw [if_neg g.left]
theorem sync_ok {D : Dk} {P : Nat} (g : Good D P) : ∃ D', syncD D = (0, D') ∧ Good D' P ∧ D'.ws = [] ∧ D'.now = D.now := by
  unfold syncD
  rw [step_ok g, g.dead]
  exact ⟨_, rfl, ⟨g.dead, g.left, g.len, g.pg⟩, rfl, rfl⟩
theorem write_ok {D : Dk} {P : Nat} (g : Good D P) {n : Nat} {l : Bs} (hn : n < P) (hl : l.length ≤ 64) : ∃ D', writeD D (n : Int) l = (0, D') ∧ Good D' P ∧ D'.now = D.now.set n (padP l) := by
  have hc : chkD D (n : Int) l.length = 0 := by
    unfold chkD
    rw [g.dead, if_neg (by simp), if_neg (by have := g.len; omega)]
  unfold writeD
  rw [hc, if_neg (by simp), Int.toNat_natCast]
  have g' : Good { D with now := D.now.set n (padP l), ws := D.ws ++ [((n : Int), padP l)] } P :=
    ⟨g.dead, g.left, by show (D.now.set n _).length = P; rw [List.length_set]; exact g.len, fun b hb => by
      rcases List.mem_or_eq_of_mem_set hb with h | h
      · exact g.pg b h
      · rw [h]; exact padP_len hl⟩
  rw [step_ok g']
  exact ⟨_, rfl, g', rfl⟩
theorem padP_take {l : Bs} : (padP l).take l.length = l := by unfold padP; rw [List.take_append_of_le_length (Nat.le_refl _), List.take_length]
theorem writes_ok {P : Nat} : ∀ (n : Nat) (D : Dk) (pg : Nat) (b : Bs), b.length ≤ n → Good D P → pg * 64 + b.length ≤ P * 64 →
    ∃ D', writesD D pg b = (0, D') ∧ Good D' P ∧ D'.ws = [] ∧ D'.now.take pg = D.now.take pg ∧ (D'.now.drop pg).flatten.take b.length = b := fun n => by
  induction n with
  | zero =>
    intro D pg b hb g h
    have hb : b = [] := List.eq_nil_of_length_eq_zero (by omega)
    obtain ⟨D', e, g', w, nw⟩ := sync_ok g
    refine ⟨D', ?_, g', w, by rw [nw], by rw [hb]; rfl⟩
    rw [writesD, dif_pos hb, e]
  | succ n ih =>
    intro D pg b hb g h
    by_cases hne : b = []
    · obtain ⟨D', e, g', w, nw⟩ := sync_ok g
      refine ⟨D', ?_, g', w, by rw [nw], by rw [hne]; rfl⟩
      rw [writesD, dif_pos hne, e]
    · have hpos := List.length_pos_iff.2 hne
      obtain ⟨D1, e1, g1, n1⟩ := write_ok g (n := pg) (l := b.take 64) (by omega) (by rw [List.length_take]; omega)
      obtain ⟨D', e2, g2, w2, t2, f2⟩ := ih D1 (pg + 1) (b.drop 64) (by rw [List.length_drop]; omega) g1 (by rw [List.length_drop]; omega)
      have hpl : pg < D.now.length := by rw [g.len]; omega
      have hget : D'.now[pg]? = some (padP (b.take 64)) := by
        have := congrArg (fun z => z[pg]?) t2
        simp only [List.getElem?_take] at this
        rw [if_pos (by omega), if_pos (by omega), n1, List.getElem?_set_self hpl] at this
        exact this
      refine ⟨D', ?_, g2, w2, ?_, ?_⟩
      · rw [writesD, dif_neg hne, e1]
        exact e2
      · have h1 : D'.now.take pg = (D'.now.take (pg + 1)).take pg := by rw [List.take_take, Nat.min_eq_left (by omega)]
        rw [h1, t2, List.take_take, Nat.min_eq_left (by omega), n1, List.take_set_of_le (Nat.le_refl _)]
      · have hd : D'.now.drop pg = padP (b.take 64) :: D'.now.drop (pg + 1) := by
          obtain ⟨hlt, he⟩ := List.getElem?_eq_some_iff.1 hget
          rw [List.drop_eq_getElem_cons hlt, he]
        have hpl64 : (padP (b.take 64)).length = 64 := padP_len (by rw [List.length_take]; omega)
        rw [hd, List.flatten_cons, List.take_append, hpl64]
        by_cases hle : b.length ≤ 64
        · have h0 : b.length - 64 = 0 := by omega
          rw [h0, List.take_zero, List.append_nil, List.take_of_length_le (l := b) hle]
          exact padP_take
        · have h64 : (b.take 64).length = 64 := by rw [List.length_take]; omega
          have hp : padP (b.take 64) = b.take 64 := by unfold padP; rw [h64]; simp
          rw [List.length_drop] at f2
          rw [f2, hp, List.take_of_length_le (by omega), List.take_append_drop]
theorem flat_take {q : Nat} : ∀ {xs : List Bs}, (∀ b ∈ xs, b.length = 64) → q ≤ xs.length → (xs.take q).flatten.length = 64 * q := fun {xs} hx hq => by
  rw [flat_len (fun b hb => hx b (List.mem_of_mem_take hb)), List.length_take, Nat.min_eq_left hq]
  try omega
theorem rest_split {D : Dk} {P : Nat} (g : Good D P) (q : Nat) (hq : 1 + q ≤ P) : restB D = ((D.now.take (1 + q)).drop 1).flatten ++ (D.now.drop (1 + q)).flatten ∧ ((D.now.take (1 + q)).drop 1).flatten.length = 64 * q := by
  constructor
  · unfold restB
    rw [← List.flatten_append]
    congr 1
    have : D.now.drop 1 = (D.now.drop 1).take q ++ (D.now.drop 1).drop q := (List.take_append_drop _ _).symm
    rw [List.drop_drop] at this
    rw [this, List.drop_take]
    simp
  · rw [List.drop_take, show 1 + q - 1 = q by omega]
    exact flat_take (fun b hb => g.pg b (List.mem_of_mem_drop hb)) (by rw [List.length_drop, g.len]; omega)
end Go.S

set_option maxRecDepth 100000
namespace Go.S
open Go.Sx Go.Proofs
theorem pages_ok {P : Nat} {D : Dk} (g : Good D P) (a : Nat) (b : Bs) (h : 64 + a + b.length ≤ P * 64) (hb : 0 < b.length) :
    ∃ D', pagesD D a b = (0, D') ∧ Good D' P ∧ D'.ws = [] ∧ D'.now.take 1 = D.now.take 1 ∧ (restB D').take (a + b.length) = (restB D).take a ++ b := by
  obtain ⟨q, hq⟩ : ∃ q, q = a / 64 := ⟨_, rfl⟩
  obtain ⟨r, hr⟩ : ∃ r, r = a % 64 := ⟨_, rfl⟩
  have ha : a = 64 * q + r := by omega
  have hr64 : r < 64 := by omega
  have hqP : 1 + q < P := by omega
  have hqP1 : 1 + q ≤ P := by omega
  -- the page that the first byte falls into
  obtain ⟨pg, hpg⟩ : ∃ pg, D.now[1 + q]? = some pg := by
    have : 1 + q < D.now.length := by rw [g.len]; exact hqP
    exact ⟨_, List.getElem?_eq_getElem this⟩
  have hpl : pg.length = 64 := g.pg pg (List.mem_of_getElem? hpg)
  have key : ∃ D', pagesD D a b = (0, D') ∧ Good D' P ∧ D'.ws = [] ∧ D'.now.take (1 + q) = D.now.take (1 + q) ∧ (D'.now.drop (1 + q)).flatten.take (r + b.length) = pg.take r ++ b := by
    unfold pagesD
    rw [← hq, ← hr]
    by_cases h0 : r = 0
    · rw [if_pos h0]
      obtain ⟨D', e, g', w, t, f⟩ := writes_ok b.length D (1 + q) b (Nat.le_refl _) g (by omega)
      exact ⟨D', e, g', w, t, by rw [h0, Nat.zero_add, f]; rfl⟩
    · have hc : chkD D ((1 + q : Nat) : Int) 0 = 0 := by
        unfold chkD
        rw [g.dead, if_neg (by simp), if_neg (by have := g.len; omega)]
      have hpa : pgAt D ((1 + q : Nat) : Int) = pg := by unfold pgAt; rw [Int.toNat_natCast, hpg]; rfl
      rw [if_neg h0, hc, if_neg (by simp), hpa]
      have hl : (pg.take r ++ b).length = r + b.length := by rw [List.length_append, List.length_take]; omega
      obtain ⟨D', e, g', w, t, f⟩ := writes_ok _ D (1 + q) (pg.take r ++ b) (Nat.le_refl _) g (by omega)
      exact ⟨D', e, g', w, t, by rw [hl] at f; exact f⟩
  obtain ⟨D', e, g', w, t, f⟩ := key
  refine ⟨D', e, g', w, ?_, ?_⟩
  · have h1 : D'.now.take 1 = (D'.now.take (1 + q)).take 1 := by rw [List.take_take, Nat.min_eq_left (by omega)]
    rw [h1, t, List.take_take, Nat.min_eq_left (by omega)]
  · obtain ⟨s1, s2⟩ := rest_split g q hqP1
    obtain ⟨s3, s4⟩ := rest_split g' q hqP1
    rw [t] at s3
    have hd : D.now.drop (1 + q) = pg :: D.now.drop (1 + q + 1) := by
      obtain ⟨hlt, he⟩ := List.getElem?_eq_some_iff.1 hpg
      rw [List.drop_eq_getElem_cons hlt, he]
    rw [s1, s3, hd, List.flatten_cons]
    generalize ((D.now.take (1 + q)).drop 1).flatten = X at *
    rw [List.take_append, List.take_append, s2, List.take_of_length_le (l := X) (i := a + b.length) (by omega), List.take_of_length_le (l := X) (i := a) (by omega), List.append_assoc]
    congr 1
    rw [show a + b.length - 64 * q = r + b.length by omega, show a - 64 * q = r by omega, f, List.take_append_of_le_length (by omega)]
def bodyB (rs : List Bs) : Bs := (rs.map fun l => le8 (l.length : Int) ++ l).flatten
/-- A log whose records are these. -/
structure LogI (g : Lg) (P : Nat) (rs : List Bs) : Prop where
  good : Good g.D P
  n : g.n = rs.length
  s : g.s = (bodyB rs).length
  body : (restB g.D).take g.s = bodyB rs
  hd : g.D.now[0]? = some (padP (hdB g.s g.n))
  ws : g.D.ws = []
theorem append_ok {g : Lg} {P : Nat} {rs : List Bs} (I : LogI g P rs) (l : Bs) (hl : l.length ≤ 65536) (hP : 64 + g.s + 8 + l.length ≤ P * 64) : ∃ g', appendD g l = (0, g') ∧ LogI g' P (rs ++ [l]) ∧ g'.s = g.s + 8 + l.length := by
  have h8 := le8_len (l.length : Int)
  have hbl : (le8 (l.length : Int) ++ l).length = 8 + l.length := by rw [List.length_append, h8]
  obtain ⟨D1, e1, g1, w1, t1, f1⟩ := pages_ok I.good g.s (le8 (l.length : Int) ++ l) (by omega) (by omega)
  have hhd : (hdB (g.s + 8 + l.length) (g.n + 1)).length = 16 := by unfold hdB; rw [List.length_append]; rfl
  obtain ⟨D2, e2, g2, n2⟩ := write_ok g1 (n := 0) (l := hdB (g.s + 8 + l.length) (g.n + 1)) (by omega) (by omega)
  obtain ⟨D3, e3, g3, w3, n3⟩ := sync_ok g2
  have e2' : writeD D1 0 (hdB (g.s + 8 + l.length) (g.n + 1)) = (0, D2) := e2
  have hap : apD3 g l = (0, D3) := by unfold apD3; rw [e1, e2', e3]
  have hr : restB D3 = restB D1 := by
    unfold restB
    rw [n3, n2]
    cases hh : D1.now with
    | nil => rfl
    | cons x y => rfl
  have hlen1 : 0 < D1.now.length := by rw [g1.len]; omega
  refine ⟨⟨D3, g.s + 8 + l.length, g.n + 1⟩, ?_, ⟨g3, ?_, ?_, ?_, ?_, w3⟩, rfl⟩
  · unfold appendD
    rw [if_neg (by omega), if_neg (by have := I.good.len; omega), e1]
    rw [if_neg (by simp), e2', if_neg (by simp), hap]
    rfl
  · show g.n + 1 = _
    rw [List.length_append, I.n]; rfl
  · show g.s + 8 + l.length = _
    unfold bodyB
    rw [List.map_append, List.flatten_append, List.length_append, I.s]
    simp [bodyB, h8]; omega
  · show (restB D3).take (g.s + 8 + l.length) = _
    rw [hr, show g.s + 8 + l.length = g.s + (le8 (l.length : Int) ++ l).length by omega, f1, I.body]
    unfold bodyB
    simp
  · show D3.now[0]? = _
    rw [n3, n2, List.getElem?_set_self hlen1]
end Go.S

set_option maxRecDepth 100000
namespace Go.S
open Go.Sx Go.Proofs
theorem u8_nat (n : Nat) : (u8 (n : Int)).toNat = n % 256 := by
  unfold u8
  have : ((n : Int) % 256).toNat = n % 256 := by omega
  rw [this, UInt8.toNat_ofNat']
  omega
theorem leN_le8 {n : Nat} (h : n < 2 ^ 63) : leN (le8 (n : Int)) = n := by
  have hb : ∀ k, (nByte (n : Int) k).toNat = n / 2 ^ (8 * k) % 256 := fun k => by
    unfold nByte
    have e : ((n : Int) % 18446744073709551616 / (2 ^ (8 * k))) = ((n / 2 ^ (8 * k) : Nat) : Int) := by
      have : (n : Int) % 18446744073709551616 = (n : Int) := by omega
      rw [this]; simp
    rw [e, u8_nat]
  show leN [nByte n 0, nByte n 1, nByte n 2, nByte n 3, nByte n 4, nByte n 5, nByte n 6, nByte n 7] = n
  simp only [leN, hb]
  omega
theorem recN_le8 {n : Nat} (h : n < 2 ^ 63) (l : Bs) : recN (le8 (n : Int) ++ l) = n := by
  unfold recN
  rw [List.take_append_of_le_length (by rw [le8_len]; omega), List.take_of_length_le (by rw [le8_len]; omega), leN_le8 h, IntWalk.i64_in _ (by omega)]
theorem hd8_le8 {n : Nat} (h : n < 2 ^ 63) (l : Bs) : hd8 (le8 (n : Int) ++ l) = n := recN_le8 h l
theorem cut_body : ∀ (rs : List Bs), (∀ l ∈ rs, l.length < 2 ^ 63) → cutR (bodyB rs) rs.length = (rs, []) := fun rs => by
  induction rs with
  | nil => intro _; rfl
  | cons l r ih =>
    intro h
    have hl := h l (by simp)
    have hb : bodyB (l :: r) = le8 (l.length : Int) ++ (l ++ bodyB r) := by unfold bodyB; simp
    have h8 := le8_len (l.length : Int)
    have hr : recN (le8 (l.length : Int) ++ (l ++ bodyB r)) = l.length := recN_le8 hl _
    have hlen : (le8 (l.length : Int) ++ (l ++ bodyB r)).length = 8 + (l.length + (bodyB r).length) := by rw [List.length_append, List.length_append, h8]
    rw [hb, List.length_cons]
    unfold cutR
    rw [hr, hlen, if_pos (by omega), if_pos (by omega), Int.toNat_natCast]
    have d1 : (le8 (l.length : Int) ++ (l ++ bodyB r)).drop 8 = l ++ bodyB r := by rw [← h8, List.drop_left]
    have d2 : (le8 (l.length : Int) ++ (l ++ bodyB r)).drop (8 + l.length) = bodyB r := by rw [← List.drop_drop, d1, List.drop_left]
    rw [d1, d2, ih (fun x hx => h x (by simp [hx])), List.take_left]
theorem body_len {l : Bs} {rs : List Bs} (h : l ∈ rs) : l.length ≤ (bodyB rs).length := by
  induction rs with
  | nil => cases h
  | cons x r ih =>
    have hb : bodyB (x :: r) = le8 (x.length : Int) ++ (x ++ bodyB r) := by unfold bodyB; simp
    rw [hb, List.length_append, List.length_append]
    rcases List.mem_cons.1 h with e | e
    · rw [e]; omega
    · have := ih e; omega
theorem look_ok {g : Lg} {P : Nat} {rs : List Bs} (I : LogI g P rs) (hP : 0 < P) (hs : g.s < 2 ^ 60) (hn : g.n < 2 ^ 60) : lookP g.D = (⟨g.s, g.n, rs, false⟩, 0) := by
  have hp0 : pgAt g.D 0 = padP (hdB g.s g.n) := by unfold pgAt; rw [show (0 : Int).toNat = 0 from rfl, I.hd]; rfl
  have e1 : hd8 (padP (hdB g.s g.n)) = g.s := by unfold padP hdB; rw [List.append_assoc, hd8_le8 (by omega)]
  have e2 : hd8 ((padP (hdB g.s g.n)).drop 8) = g.n := by
    unfold padP hdB
    have : (le8 (g.s : Int)).length = 8 := le8_len _
    rw [List.append_assoc, ← this, List.drop_left, hd8_le8 (by omega)]
  have hle : g.s ≤ (restB g.D).length := by
    have := congrArg List.length I.body
    rw [List.length_take, ← I.s] at this; omega
  unfold lookP
  rw [I.good.dead, if_neg (by simp), hp0, e1, e2]
  unfold lookF
  have hc := cut_body rs (fun l hl => by have := body_len hl; rw [← I.s] at this; omega)
  rw [if_neg (by omega), Int.toNat_natCast, Int.toNat_natCast, I.body, I.n, hc]
  simp
end Go.S

set_option maxRecDepth 100000
namespace Go.S
open Go.Sx Go.Proofs
def sName (j : Nat) : ByteArray := ⟨#[116, UInt8.ofNat (97 + j)]⟩
def sSch (j k : Nat) : Sch := ⟨sName j, [⟨⟨#[122]⟩, (1 + k : Nat), false⟩], 0, false⟩
theorem recS {j k : Nat} (hj : j < 5) (hk : k < 3) : (numT 1 (some (tabRec (sSch j k)))).1 = 1 ∧ parseT (textT (numT 1 (some (tabRec (sSch j k)))).2).1 = some (sSch j k) ∧ (textT (numT 1 (some (tabRec (sSch j k)))).2).2 = some [] := by
  have hj : j = 0 ∨ j = 1 ∨ j = 2 ∨ j = 3 ∨ j = 4 := by omega
  have hk : k = 0 ∨ k = 1 ∨ k = 2 := by omega
  rcases hj with rfl | rfl | rfl | rfl | rfl <;> rcases hk with rfl | rfl | rfl <;> exact ⟨by kernel_rfl, by kernel_rfl, by kernel_rfl⟩
theorem recN' {j : Nat} (hj : j < 5) : (numT 1 (some (dropRec (sName j)))).1 = 2 ∧ strOf (textT (numT 1 (some (dropRec (sName j)))).2).1 = sName j ∧ (textT (numT 1 (some (dropRec (sName j)))).2).2 = some [] := by
  have hj : j = 0 ∨ j = 1 ∨ j = 2 ∨ j = 3 ∨ j = 4 := by omega
  rcases hj with rfl | rfl | rfl | rfl | rfl <;> exact ⟨by kernel_rfl, by kernel_rfl, by kernel_rfl⟩
theorem rec_tab {j k : Nat} (hj : j < 5) (hk : k < 3) (d : DB) (h : (createD d (sSch j k)).2 = 0) : recD d (tabRec (sSch j k)) = ((createD d (sSch j k)).1, true) := by
  obtain ⟨h1, h2, h3⟩ := recS hj hk
  unfold recD tabD
  rw [if_pos h1, h2, h3]
  simp [h]
theorem rec_drop {j : Nat} (hj : j < 5) (d : DB) (h : (dropD d (sName j)).2 = 0) : recD d (dropRec (sName j)) = ((dropD d (sName j)).1, true) := by
  obtain ⟨h1, h2, h3⟩ := recN' hj
  unfold recD dropT
  rw [if_neg (by rw [h1]; decide), h2, h3]
  simp [h]
theorem tabRec_len {j k : Nat} (hj : j < 5) (hk : k < 3) : (tabRec (sSch j k)).length ≤ 30 := by
  have hj : j = 0 ∨ j = 1 ∨ j = 2 ∨ j = 3 ∨ j = 4 := by omega
  have hk : k = 0 ∨ k = 1 ∨ k = 2 := by omega
  rcases hj with rfl | rfl | rfl | rfl | rfl <;> rcases hk with rfl | rfl | rfl <;> exact Nat.le_of_ble_eq_true (by kernel_rfl)
theorem dropRec_len {j : Nat} (hj : j < 5) : (dropRec (sName j)).length ≤ 30 := by
  have hj : j = 0 ∨ j = 1 ∨ j = 2 ∨ j = 3 ∨ j = 4 := by omega
  rcases hj with rfl | rfl | rfl | rfl | rfl <;> exact Nat.le_of_ble_eq_true (by kernel_rfl)
end Go.S

set_option maxRecDepth 100000
namespace Go.S
open Go.Sx Go.Proofs
/-- Tables alone, in the order of their names, without rows. -/
structure TI (d : DB) : Prop where
  srt : d.tabs.Pairwise (fun a b => cmpB a.S.name b.S.name < 0)
  le : d.tabs.length ≤ 8
  rows : ∀ t ∈ d.tabs, t.rows = [] ∧ t.S.name.size ≤ 12
  works : d.works = []
  holds : d.holds = []
  waits : d.waits = []
theorem TI.small {d : DB} (q : TI d) : Small d where
  tabs := by have := q.le; omega
  works := by rw [q.works]; exact Nat.zero_le _
  rows := fun t ht => by rw [(q.rows t ht).1]; exact Nat.zero_le _
  holds := by rw [q.holds]; exact Nat.two_pow_pos _
  waits := by rw [q.waits]; exact Nat.two_pow_pos _
theorem ti0 : TI dz := ⟨List.Pairwise.nil, by decide, fun t ht => (by cases ht), rfl, rfl, rfl⟩
theorem create_ref2 {d : DB} (h : d.tabs.Pairwise (fun a b => cmpB a.S.name b.S.name < 0)) (s : Sch) : createD d s = refCreate d s := by
  obtain ⟨h1, -, -, -⟩ := tab_pos h s.name
  have h2 := tab_any h s.name
  unfold createD createR createE refCreate
  rw [h1, h2]
  have c1 : ((8 : Int) ≤ (d.tabs.length : Int)) ↔ 8 ≤ d.tabs.length := by omega
  have c2 : ((0 : Int) < (d.works.length : Int)) ↔ 0 < d.works.length := by omega
  generalize d.tabs.any (fun t => decide (t.S.name = s.name)) = u
  by_cases a : schErr s = 0
  · cases u with
    | true => simp [a]
    | false =>
      by_cases c : 8 ≤ d.tabs.length
      · simp [a, c, c1]
      · by_cases e : 0 < d.works.length
        · simp only [a, c, c1, c2, e, ne_eq, not_true_eq_false, if_false, ge_iff_le, gt_iff_lt, decide_false, decide_true, Bool.false_eq_true, if_true]
          rfl
        · simp only [a, c, c1, c2, e, ne_eq, not_true_eq_false, if_false, ge_iff_le, gt_iff_lt, decide_false, decide_true, Bool.false_eq_true, if_true]
  · simp [a]
theorem ti_create {d : DB} (q : TI d) {s : Sch} (h3 : s.name.size ≤ 12) : TI (createD d s).1 := by
  rw [create_ref2 q.srt]
  unfold refCreate
  split
  · exact q
  · split
    · exact q
    · rename_i ha
      split
      · exact q
      · rename_i hb
        split
        · exact q
        · have hb : d.tabs.length < 8 := by simp at hb; omega
          obtain ⟨-, p1, p2, p3⟩ := tab_pos q.srt s.name
          refine ⟨?_, ?_, fun t ht => ?_, q.works, q.holds, q.waits⟩
          · show (d.tabs.take (refPos d.tabs s.name) ++ [(⟨s, []⟩ : Tbl)] ++ d.tabs.drop (refPos d.tabs s.name)).Pairwise _
            have hsplit := q.srt
            rw [← List.take_append_drop (refPos d.tabs s.name) d.tabs, List.pairwise_append] at hsplit
            obtain ⟨s1, s2, s3⟩ := hsplit
            rw [List.append_assoc, List.pairwise_append]
            refine ⟨s1, ?_, fun a ha b hb => ?_⟩
            · rw [List.singleton_append, List.pairwise_cons]
              refine ⟨fun b hb => ?_, s2⟩
              have h5 := p3 b hb
              rw [cmpB_neg]
              have hne : cmpB b.S.name s.name ≠ 0 := fun e => by
                have := cmpB_zero e
                exact ha (List.any_eq_true.2 ⟨b, List.mem_of_mem_drop hb, decide_eq_true this⟩)
              show - cmpB b.S.name s.name < 0
              omega
            · rcases List.mem_cons.1 (by simpa using hb : b ∈ (⟨s, []⟩ : Tbl) :: d.tabs.drop (refPos d.tabs s.name)) with rfl | hb
              · exact p2 a ha
              · exact s3 a ha b hb
          · show (d.tabs.take (refPos d.tabs s.name) ++ [(⟨s, []⟩ : Tbl)] ++ d.tabs.drop (refPos d.tabs s.name)).length ≤ 8
            simp; omega
          · have ht : t ∈ d.tabs.take (refPos d.tabs s.name) ++ [(⟨s, []⟩ : Tbl)] ++ d.tabs.drop (refPos d.tabs s.name) := ht
            rcases List.mem_append.1 ht with ht | ht
            · rcases List.mem_append.1 ht with ht | ht
              · exact q.rows t (List.mem_of_mem_take ht)
              · simp at ht
                subst ht
                exact ⟨rfl, h3⟩
            · exact q.rows t (List.mem_of_mem_drop ht)
theorem ti_drop {d : DB} (q : TI d) (nm : ByteArray) : TI (dropD d nm).1 := by
  unfold dropD
  split
  · split
    · exact q
    · refine ⟨q.srt.sublist (List.eraseIdx_sublist ..), ?_, fun t ht => q.rows t (List.mem_of_mem_eraseIdx ht), q.works, q.holds, q.waits⟩
      show (d.tabs.eraseIdx _).length ≤ 8
      have := (List.eraseIdx_sublist d.tabs (bsI (tabCmps d.tabs nm))).length_le
      have := q.le
      omega
  · exact q
/-- A store, plain: its log is what its tables are. -/
structure SW (G : Lg) (d : DB) (i : Nat) : Prop where
  ti : TI d
  out : ∃ rs, LogI G 60 rs ∧ playD dz rs = some d ∧ (∀ l ∈ rs, (numT 1 (some l)).1 = 1 ∨ (numT 1 (some l)).1 = 2) ∧ (∀ k dk, playD dz (rs.take k) = some dk → Small dk)
  s : G.s ≤ 38 * i
  n : G.n ≤ i
theorem sw_go {G : Lg} {d : DB} {i : Nat} (q : SW G d i) (hi : i < 15) {D : DB × Int} {l : Bs} (hl : l.length ≤ 30) (h12 : (numT 1 (some l)).1 = 1 ∨ (numT 1 (some l)).1 = 2) (hD : D.2 = 0 → recD d l = (D.1, true)) (ht : TI D.1) (hne : D.2 ≠ 0 → D.1 = d) :
    (goW G d D l).1 = D.2 ∧ (goW G d D l).2.2 = D.1 ∧ SW (goW G d D l).2.1 (goW G d D l).2.2 (i + 1) := by
  unfold goW
  by_cases h : D.2 ≠ 0
  · rw [if_pos h]
    exact ⟨rfl, (hne h).symm, q.ti, q.out, by have := q.s; show G.s ≤ _; omega, by have := q.n; show G.n ≤ _; omega⟩
  · rw [if_neg h]
    have h0 : D.2 = 0 := by omega
    obtain ⟨rs, I, hp, hk, hsm⟩ := q.out
    have hqs := q.s
    obtain ⟨g', e, I', hs'⟩ := append_ok I l (by omega) (by omega)
    rw [e]
    have hp' : playD dz (rs ++ [l]) = some D.1 := by
      rw [playD_app, hp, Option.bind_some, hD h0]; rfl
    refine ⟨h0.symm, rfl, ht, ⟨rs ++ [l], I', hp', fun x hx => ?_, fun k dk hdk => ?_⟩, ?_, ?_⟩
    · rcases List.mem_append.1 hx with hx | hx
      · exact hk x hx
      · rw [List.mem_singleton.1 hx]; exact h12
    · by_cases hkl : k ≤ rs.length
      · rw [List.take_append_of_le_length hkl] at hdk
        exact hsm k dk hdk
      · rw [List.take_of_length_le (by rw [List.length_append, List.length_singleton]; omega), hp'] at hdk
        cases hdk
        exact ht.small
    · show g'.s ≤ _
      omega
    · show g'.n ≤ _
      rw [I'.n, List.length_append, List.length_singleton, ← I.n]
      have := q.n
      omega
end Go.S

set_option maxRecDepth 100000
set_option maxHeartbeats 8000000
namespace Go.S
open Go.Sx Go.Proofs
theorem logP {P : Nat} (hP : 0 < P) : LogI ⟨dk0 P, 0, 0⟩ P [] where
  good := ⟨rfl, Int.lt_irrefl 0, by show (List.replicate P pg0).length = P; rw [List.length_replicate], fun b hb => by
    have : b ∈ List.replicate P pg0 := hb
    rw [List.eq_of_mem_replicate this]; rfl⟩
  n := rfl
  s := rfl
  body := rfl
  hd := by
    show (List.replicate P pg0)[0]? = _
    rw [List.getElem?_replicate, if_pos hP]
    exact congrArg some (show pg0 = padP (hdB 0 0) from by kernel_rfl)
  ws := rfl
/-- A store opened on a disk whose log is whole. -/
theorem OpenG {h : Heap} {p : Nat} {g : Lg} {P : Nat} {rs : List Bs} {d : DB} (q : DkO h p g.D) (I : LogI g P rs) (hP : 0 < P) (hs : g.s < 2 ^ 60) (hn : g.n < 2 ^ 60) (hp : playD dz rs = some d)
    (h12 : ∀ l ∈ rs, (numT 1 (some l)).1 = 1 ∨ (numT 1 (some l)).1 = 2) (hS : ∀ k dk, playD dz (rs.take k) = some dk → Small dk) {k : Value → Heap → Prop}
    (hk : ∀ h' s, LeX lzT h h' → WhO h' s p g d L0 → k (.tuple #[.pointer (some ⟨s, 0, none⟩), .int .i64 0]) h') :
    Ct 19 [.pointer (some ⟨p, 0, none⟩)] h k := by
  have hl := look_ok I hP hs hn
  refine OpenS q (by rw [I.good.len]; exact hP) (by rw [hl]; exact h12) (by rw [hl]; exact hS) (fun hb => ?_) (fun h' s gb x d' _ _ hp' x1 qs ql qx => ?_)
  · rw [hl, hp] at hb
    rcases hb with hb | hb | hb
    · exact absurd rfl hb
    · cases hb
    · cases hb
  · rw [hl] at hp' ql
    rw [hp] at hp'
    cases hp'
    exact hk h' s x1 ⟨gb, x, qs, ql, q.lt (x1.t (by decide)), qx⟩
theorem run_pnil {P : Program} {t el : TypeId} (h1 : P.underlying t = some (.pointer el)) (p : Option Addr) (w : World) : (Op.equal t (.pointer p) (.pointer none)).run P w = .ok p.isNone w := by
  unfold Op.equal Op.maxDepth Op.equalIn
  rw [Sem.run_bind, run_underlying h1, Result.andThen_ok]
  cases p <;> rfl
theorem eq_pnil {P : Program} {t el : TypeId} (h1 : P.underlying t = some (.pointer el)) {x : Operand} {p : Option Addr} {k : Value → Prop} (hk : k (.bool p.isNone)) :
    RunX (fun _ => P) (fun _ => do
      eqGuard .eql t x (.const (.pointer none)) (.pointer p) (.pointer none)
      Go.binOp .eql t (.pointer p) (.pointer none)) k := by
  refine ⟨_, fun w => ?_, hk⟩
  have hg : (eqGuard .eql t x (.const (.pointer none)) (.pointer p) (.pointer none)).run P w = .ok () w := by unfold eqGuard; split <;> rfl
  have he : Go.binOp .eql t (.pointer p) (.pointer none) = Functor.map Value.bool (Op.equal t (.pointer p) (.pointer none)) := rfl
  rw [Sem.run_bind, hg, Result.andThen_ok, he]
  simp [run_pnil h1]
  try rfl
theorem ne_pnil {P : Program} {t el : TypeId} (h1 : P.underlying t = some (.pointer el)) {x : Operand} {p : Option Addr} {k : Value → Prop} (hk : k (.bool (!p.isNone))) :
    RunX (fun _ => P) (fun _ => do
      eqGuard .neq t x (.const (.pointer none)) (.pointer p) (.pointer none)
      Go.binOp .neq t (.pointer p) (.pointer none)) k := by
  refine ⟨_, fun w => ?_, hk⟩
  have hg : (eqGuard .neq t x (.const (.pointer none)) (.pointer p) (.pointer none)).run P w = .ok () w := by unfold eqGuard; split <;> rfl
  have he : Go.binOp .neq t (.pointer p) (.pointer none) = Functor.map (fun b => Value.bool (!b)) (Op.equal t (.pointer p) (.pointer none)) := rfl
  rw [Sem.run_bind, hg, Result.andThen_ok, he]
  simp [run_pnil h1]
  try rfl
theorem und_disk : Tryz.prog.underlying 25 = some (.pointer 120) := by kernel_rfl
theorem und_store : Tryz.prog.underlying 47 = some (.pointer 189) := by kernel_rfl
theorem known16 (h : Heap) {k : Value → Heap → Prop} (hk : ∀ h', LeX lzT h h' → k (.bool true) h') : Ct 18 [] h k := by
  obtain ⟨A, hA⟩ := Ar.ex
  have f00 : A .icm .eql 0 0 = true := by rw [icm_eql A]; rfl
  have fn0 : A .icm .eql (A .nat 0) 0 = true := by rw [icm_eql A, hA.nat]; rfl
  refine fn_of_sx A (tabOk T18.plan T18.pub) Tryz.func18 rfl (by kernel_rfl) ?_
  cbv
  refine NewD (n := 9) ⟨rfl⟩ (by omega) (by omega) (fun h1 p hp l1 q1 => ?_)
  cbv
  refine eq_pnil und_disk ?_
  cbv
  refine OpenG (g := ⟨dk0 9, 0, 0⟩) q1 (logP (by omega)) (by omega) (by decide) (by decide) rfl (fun l hl => by cases hl) (fun k dk hdk => ?_) (fun h2 s x2 w2 => ?_)
  · rw [List.take_nil] at hdk
    cases hdk
    exact ti0.small
  · cbv
    rw [f00]
    cbv
    refine ne_pnil und_store ?_
    cbv
    refine StDB w2 (fun h3 b1 n1 c1 b2 n2 c2 b3 n3 c3 b4 n4 c4 l3 qd => ?_)
    have hn1 : n1 = 0 := by
      obtain ⟨_, _, _, _, _, _, _, _, _, _, _, _, ws, he, qt, _⟩ := qd.out
      cases he
      exact qt.len
    subst hn1
    cbv
    rw [fn0]
    cbv
    refine Led0 (w2.lx l3) (fun h4 b5 c5 b6 c6 l4 => ?_)
    have := hk h4 (((l1.x _).trans x2).trans ((l3.trans l4).x _))
    cbv
    rw [fn0]
    cbv
    exact this
end Go.S

set_option maxRecDepth 100000
set_option maxHeartbeats 8000000
namespace Go.S
open Go.Sx Go.Proofs
theorem within16 (a : Int) (n : Nat) (hn : 0 < n) (hn2 : n ≤ 2 ^ 40) (h : Heap) {k : Value → Heap → Prop} (hk : ∀ z i, IsN z i → i = (a % (n : Int)).toNat → i < n → k (.int .i64 z) h) : Ct 20 [.int .i64 a, .int .i64 (n : Int)] h k := by
  obtain ⟨A, hA⟩ := Ar.ex
  obtain ⟨m, hm⟩ : ∃ m : Int, m = (n : Int) := ⟨_, rfl⟩
  rw [← hm]
  have hm0 : m ≠ 0 := by omega
  have hrem : A .ari .rem .i64 a m = a.tmod m := by rw [hA.ari]; rfl
  have hb1 : a.tmod m < m := by have := Int.tmod_lt_of_pos a (show 0 < m by omega); omega
  have hb2 : -m < a.tmod m := by
    have := Int.lt_tmod_of_pos a (show 0 < m by omega); omega
  have hemod : a % m = if a.tmod m < 0 then a.tmod m + m else a.tmod m := by
    rw [Int.tmod_eq_emod]
    have h1 := Int.emod_nonneg a hm0
    have h2 := Int.emod_lt_of_pos a (show 0 < m by omega)
    by_cases hc : 0 ≤ a ∨ m ∣ a
    · rw [if_pos hc]
      rw [if_neg (by omega)]; omega
    · rw [if_neg hc]
      have : (m.natAbs : Int) = m := by omega
      rw [this, if_pos (by omega)]; omega
  generalize ht : a.tmod m = t at *
  generalize eu : A .icm .lss t 0 = u
  have fu := eu
  rw [icm_lss A] at eu
  have key : ∀ z : Int, z = a % m → k (.int .i64 z) h := fun z hz => by
    have h1 := Int.emod_nonneg a hm0
    have h2 := Int.emod_lt_of_pos a (show 0 < m by omega)
    refine hk z (a % (n : Int)).toNat ⟨?_⟩ rfl ?_
    · rw [← hm]; omega
    · rw [← hm]; omega
  have hadd : t < 0 → A .ari .add .i64 t m = t + m := fun h => by
    rw [hA.ari]; simp only [ari]
    rw [IntWalk.i64_in _ (by omega)]
  refine fn_of_sx A (tabOk T20.plan T20.pub) Tryz.func20 rfl (by kernel_rfl) ?_
  cbv
  refine ⟨hm0, ?_⟩
  cbv
  rw [hrem]
  rw [fu]
  cases u with
  | true =>
    have hneg := of_decide_eq_true eu
    have hk2 := key (t + m) (by rw [hemod, if_pos hneg])
    cbv
    rw [hadd hneg]
    exact hk2
  | false =>
    have hneg := of_decide_eq_false eu
    have hk2 := key t (by rw [hemod, if_neg hneg])
    cbv
    exact hk2

theorem drop87S {d : DB} {h : Heap} {b1 b2 b3 b4 : Option Addr} {n1 c1 n2 c2 n3 c3 n4 c4 : Nat} (q : RP h b1 n1 c1 b2 n2 c2 b3 n3 c3 b4 n4 c4 d) (hsrt : d.tabs.Pairwise (fun a b => cmpB a.S.name b.S.name < 0)) (hle8 : d.tabs.length ≤ 8) (nm : ByteArray) {D : DB × Int} (hD : dropD d nm = D) {k : Value → Heap → Prop} (hk : RK h D.1 D.2 k) :
    Ct 24 [.agg #[.slice b1 n1 c1, .slice b2 n2 c2, .slice b3 n3 c3, .slice b4 n4 c4], .string nm] h k := by
  obtain ⟨A, hA⟩ := Ar.ex
  have lm1 : A .icm .lss (-1) 0 = true := by rw [icm_lss A]; rfl
  have hn1 := q.tabs.len
  have hn2 := q.works.len
  have hbd := q.tabs.bound
  have htl := hle8
  have f1 : A .icm .gtr (A .nat n2) 0 = decide ((d.works.length : Int) > 0) := by rw [icm_gtr A, hA.nat, hn2]; rfl
  refine fn_of_sx A (tabOk T24.plan T24.pub) Tryz.func24 rfl (by kernel_rfl) ?_
  cbv
  refine (find25 q).mono (fun v h5 hR => ?_)
  obtain ⟨l5, zf, rfl, hidx⟩ := hR
  have q5 := q.mono l5
  rcases tab_idx hsrt hidx with ⟨rfl, hb, -⟩ | ⟨i, t, hz, ht, hnn, e1, e2⟩
  · have hDe : D = (d, 2) := by rw [← hD]; unfold dropD; rw [hb]; rfl
    subst hDe
    have hfin := hk h5 b1 n1 c1 b2 n2 c2 b3 n3 c3 b4 n4 c4 l5 q5
    cbv
    rw [lm1]
    cbv
    exact hfin
  · have hil := (List.getElem?_eq_some_iff.1 ht).1
    have hDe : D = if decide ((d.works.length : Int) > 0) = true then (d, 18) else (⟨d.tabs.take i ++ d.tabs.drop (i + 1), d.works, d.holds, d.waits⟩, 0) := by
      rw [← hD]
      unfold dropD
      rw [e2, e1, List.eraseIdx_eq_take_drop_succ]
      rfl
    clear hD hidx
    have hlt : A .icm .lss zf 0 = false := hz.nlt0 (A := A)
    have hz1 := hz.succ (A := A) (by omega)
    have hdz : A .dif zf 0 = i := dif_z0 (A := A) hz
    have hdn := dif_nz (A := A) hz1 (n := n1)
    obtain ⟨hcb1, hcb2⟩ := hbd
    have hzi : 0 ≤ zf ∧ zf ≤ (c1 : Int) := by have := hz.eq; omega
    have hzn : 0 ≤ A .ari .add .i64 zf 1 ∧ A .ari .add .i64 zf 1 ≤ (n1 : Int) := by have := hz1.eq; omega
    have hin : i ≤ n1 := by omega
    have hin1 : i + 1 ≤ n1 := by omega
    cbv
    rw [hlt]
    cbv
    rw [f1]
    generalize decide ((d.works.length : Int) > 0) = u at *
    cases u with
    | true =>
      have hDe : D = (d, 18) := hDe
      subst hDe
      have hfin := hk h5 b1 n1 c1 b2 n2 c2 b3 n3 c3 b4 n4 c4 l5 q5
      cbv
      exact hfin
    | false =>
      have hDe : D = (⟨d.tabs.take i ++ d.tabs.drop (i + 1), d.works, d.holds, d.waits⟩, 0) := hDe
      subst hDe
      cbv
      intro n6 h6 g6 e6
      have l6 : Le h5 h6 := by rw [e6]; exact Le.set g6
      have q6 := q5.mono l6
      have hnil : Buf 198 shTbl h5 h6 (.slice (some ⟨n6, 0, none⟩) 0 0) ([] : List Tbl) := Buf.nil
      cbv
      refine ⟨hzi, ?_⟩
      cbv
      refine hnil.append (q6.tabs.takeM (A := A) (s := shTbl) (z := A .nat c1) hin hdz hdz) (by decide) rfl (by decide) (by rw [hdz]; omega) l6 (fun m7 b7 c7 h7 em7 l7 t7 k7 hb7 => ?_)
      rw [List.nil_append] at hb7
      have q7 := q5.mono l7
      cbv
      refine ⟨hzn, ?_⟩
      cbv
      refine hb7.append (q7.tabs.dropX (A := A) (s := shTbl) hz1 hin1 hdn (c' := c1 - (i + 1)) rfl) (by decide) rfl (by decide) (by rw [hdn]; omega) l7 (fun m8 b8 c8 h8 em8 l8 t8 k8 hb8 => ?_)
      have q8 := q5.mono l8
      have hfin := hk h8 b8 m8 c8 b2 n2 c2 b3 n3 c3 b4 n4 c4 (l5.trans l8) ⟨hb8.sl, q8.works, q8.holds, q8.waits⟩
      cbv
      exact hfin
end Go.S

set_option maxRecDepth 100000
set_option maxHeartbeats 8000000
namespace Go.S
open Go.Sx Go.Proofs
/-- A part of a heap in which something goes on; what was there at first is no part of it, and stays. -/
structure Fz (h0 hA h : Heap) : Prop where
  le : Le hA h
  keep : ∀ b o, h0 b = some o → h b = some o ∧ hA b = none
theorem Fz.base {h0 hA h : Heap} (q : Fz h0 hA h) : Le h0 h := fun b o hb => (q.keep b o hb).1
theorem Fz.to {h0 hA h h' : Heap} (q : Fz h0 hA h) (l : Le h h') : Fz h0 hA h' := ⟨q.le.trans l, fun b o hb => ⟨l _ _ (q.keep b o hb).1, (q.keep b o hb).2⟩⟩
theorem Fz.add {h0 hA h h' : Heap} {n : Nat} {o : Obj} (q : Fz h0 hA h) (hn : h n = none) (hb : h' n = some o) (l : Le h h') : Fz h0 (hset hA n o) h' ∧ Le hA (hset hA n o) := by
  refine ⟨⟨fun b x hx => ?_, fun b x hx => ?_⟩, Le.set (q.le.none hn)⟩
  · by_cases e : b = n
    · subst e
      rw [hset_self] at hx
      rw [hb]; exact hx
    · rw [hset_ne e] at hx
      exact l _ _ (q.le _ _ hx)
  · have hk := q.keep b x hx
    refine ⟨l _ _ hk.1, ?_⟩
    rw [hset_ne (fun e => by rw [e, hn] at hk; cases hk.1)]
    exact hk.2
theorem Fz.frm {h0 hA h : Heap} {ex : List Nat} {f : FuncId} {args : List Value} {P : Value → Heap → Prop} (q : Fz h0 hA h) (c : Ct f args hA (fun v h' => LeX ex hA h' ∧ P v h')) {k : Value → Heap → Prop}
    (hk : ∀ v hA' h', P v hA' → Fz h0 hA' h' → LeX ex h h' → k v h') : Ct f args h k := by
  refine FnX.frm q.le c (fun v hA' h' hR l fr => hk v hA' h' hR.2 ⟨l, fun b o hb => ?_⟩ (fun b o hb hne => ?_))
  · have h1 := q.keep b o hb
    exact fr b o h1.2 h1.1
  · cases hA1 : hA b with
    | none => exact (fr b o hA1 hb).1
    | some o' =>
      have := q.le b o' hA1
      rw [hb] at this
      cases this
      exact l _ _ (hR.1 b o hA1 hne)
theorem RP.nil0 {h : Heap} : RP h none 0 0 none 0 0 none 0 0 none 0 0 dz := ⟨Sl.nil, Sl.nil, Sl.nil, Sl.nil⟩
theorem sw0 : SW ⟨dk0 60, 0, 0⟩ dz 0 := ⟨ti0, ⟨[], logP (by omega), rfl, fun l hl => (by cases hl), fun k dk hdk => (by rw [List.take_nil] at hdk; cases hdk; exact ti0.small)⟩, by decide, by decide⟩
theorem WhO.lz {h h' : Heap} {s p : Nat} {G : Lg} {d : DB} {L : Value × Value × Value × Value} (q : WhO h s p G d L) (l : LeX lzT h h') : WhO h' s p G d L := by
  obtain ⟨g, x, qs, ql, qk, qx⟩ := q.out
  exact ⟨g, x, ⟨l _ _ qs.out (fun _ _ _ he => by cases he; decide)⟩, ql.lt (l.t (by decide)), qk.lt (l.t (by decide)), qx.lt (l.t (by decide))⟩
theorem tables16 {h : Heap} {b : Option Addr} {n c : Nat} {ns : List Int} (q : SlB shInt h (.slice b n c) ns) :
    Ct 4 [.slice b n c] h (fun v h' => Le h h' ∧ v = .bool true) := by
  obtain ⟨A, hA⟩ := Ar.ex
  have hlen := q.len
  have f00 : A .icm .eql 0 0 = true := by rw [icm_eql A]; rfl
  have hb1 := q.bound
  refine fn_of_sxr A [10] (tabOk T4.plan T4.pub) Tryz.func4 rfl (by kernel_rfl) ?_
  cbv
  have z0 : Fz h (fun _ => none) h := ⟨fun b o hb => (by cases hb), fun b o hb => ⟨hb, rfl⟩⟩
  refine z0.frm (ex := lzT) (known16 _ (k := fun v h' => LeX lzT _ h' ∧ v = .bool true) (fun h1 x1 => ⟨x1, rfl⟩)) (fun v a1 h1 hv z1 x1 => ?_)
  subst hv
  cbv
  rw [hA.not]
  cbv
  refine z1.frm (ex := lzT) (NewD (n := 60) ⟨rfl⟩ (by omega) (by omega) (k := fun v h' => LeX lzT _ h' ∧ ∃ p, v = .tuple #[.pointer (some ⟨p, 0, none⟩), .int .i64 0] ∧ DkO h' p (dk0 60)) (fun h2 p hp l2 q2 => ⟨l2.x _, p, rfl, q2⟩)) (fun v a2 h2 hv z2 x2 => ?_)
  obtain ⟨p, rfl, q2⟩ := hv
  cbv
  obtain ⟨rs, I, hpl, h12, hsm⟩ := sw0.out
  refine z2.frm (ex := lzT) (OpenG (g := ⟨dk0 60, 0, 0⟩) q2 I (by omega) (by decide) (by decide) hpl h12 hsm (k := fun v h' => LeX lzT a2 h' ∧ ∃ s, v = .tuple #[.pointer (some ⟨s, 0, none⟩), .int .i64 0] ∧ WhO h' s p ⟨dk0 60, 0, 0⟩ dz L0) (fun h3 s x3 w3 => ⟨x3, s, rfl, w3⟩)) (fun v a3 h3 hv z3 x3 => ?_)
  obtain ⟨s, rfl, w3⟩ := hv
  clear q2 x1 x2 x3 I hpl h12 hsm
  obtain ⟨J, hJ0⟩ : ∃ J : Nat → (((Option Addr × Nat × Nat) × (Option Addr × Nat × Nat) × (Option Addr × Nat × Nat) × (Option Addr × Nat × Nat)) × Int) → Heap → Prop, ∀ w g h', J w g h' = (∃ i G d hA, IsN g.2 i ∧ w = 15 - i ∧ i ≤ n ∧ i ≤ 15 ∧ Fz h hA h' ∧ WhO hA s p G d L0 ∧ RP h' g.1.1.1 g.1.1.2.1 g.1.1.2.2 g.1.2.1.1 g.1.2.1.2.1 g.1.2.1.2.2 g.1.2.2.1.1 g.1.2.2.1.2.1 g.1.2.2.1.2.2 g.1.2.2.2.1 g.1.2.2.2.2.1 g.1.2.2.2.2.2 d ∧ SW G d i) := ⟨_, fun _ _ _ => rfl⟩
  have hJ1 : J 15 (((none, 0, 0), (none, 0, 0), (none, 0, 0), (none, 0, 0)), 0) h3 := by
    rw [hJ0]; exact ⟨0, _, dz, a3, ⟨rfl⟩, rfl, by omega, by omega, z3, w3, RP.nil0, sw0⟩
  cbv
  refine LoopX.go (G := ((Option Addr × Nat × Nat) × (Option Addr × Nat × Nat) × (Option Addr × Nat × Nat) × (Option Addr × Nat × Nat)) × Int) (fun g => [(8, .v (.int .i64 g.2))]) (fun g => [(7, [.slice g.1.1.1 g.1.1.2.1 g.1.1.2.2, .slice g.1.2.1.1 g.1.2.1.2.1 g.1.2.1.2.2, .slice g.1.2.2.1.1 g.1.2.2.1.2.1 g.1.2.2.1.2.2, .slice g.1.2.2.2.1 g.1.2.2.2.2.1 g.1.2.2.2.2.2])]) (fun w g h' => J w g h') 15 (((none, 0, 0), (none, 0, 0), (none, 0, 0), (none, 0, 0)), 0) ⟨?_, ?_, ?_⟩ hJ1 ?_
  · cbv
  · cbv
  · cbv
  · intro w g h4 hI
    rw [hJ0] at hI
    cbv
    obtain ⟨⟨⟨b1, n1, c1⟩, ⟨b2, n2, c2⟩, ⟨b3, n3, c3⟩, ⟨b4, n4, c4⟩⟩, z⟩ := g
    obtain ⟨i, G, d, aA, hz, hw, hi, hi15, z4, w4, r4, sw⟩ := hI
    have q4 := q.mono z4.base
    have hz : IsN z i := hz
    have r4 : RP h4 b1 n1 c1 b2 n2 c2 b3 n3 c3 b4 n4 c4 d := r4
    have f1 : A .icm .lss z (A .nat n) = decide (i < n) := by rw [icm_lss A, hz.eq, hA.nat]; exact decide_eq_decide.2 (by show (i : Int) < (n : Int) ↔ _; omega)
    have f2 : A .icm .lss z 15 = decide (i < 15) := by rw [icm_lss A, hz.eq]; exact decide_eq_decide.2 (by omega)
    rw [f1]
    by_cases hc : i < n
    · rw [decide_eq_true hc]
      cbv
      rw [f2]
      by_cases hd : i < 15
      · obtain ⟨x, hx⟩ := get_ex (xs := ns) (i := i) (by omega)
        have ix := hz.ix hc
        have hsm : b.isSome = true := q.isSm (by omega)
        have fcol : ∀ (zk : Int) (kk : Nat), IsN zk kk → kk < 3 → ∃ zc : Int, zc = ((1 + kk : Nat) : Int) ∧ A .ari .add .i64 1 zk = zc := fun zk kk hzk hk3 => ⟨_, rfl, by
          rw [hA.ari, hzk.eq]
          show IntKind.i64.wrap (1 + (kk : Int)) = _
          rw [IntWalk.i64_in _ (by omega)]; omega⟩
        rw [decide_eq_true hd]
        clear f1 f2
        obtain ⟨C, hC0⟩ : ∃ C : (ByteArray × (Option Addr × Nat × Nat)) → Heap → Prop, ∀ g h', C g h' = (Le h4 h' ∧ ∃ j kk, j < 5 ∧ kk < 3 ∧ g.1 = sName j ∧ ∃ zc : Int, zc = ((1 + kk : Nat) : Int) ∧ ∃ aB, Fz h aB h' ∧ Le aA aB ∧ Sl 58 shCol aB (.slice g.2.1 g.2.2.1 g.2.2.2) [⟨⟨#[122]⟩, zc, false⟩]) := ⟨_, fun _ _ => rfl⟩
        cbv
        refine CutX.go (G := ByteArray × (Option Addr × Nat × Nat)) (fun g => [(9, .loc 9 0)]) (fun g => [(9, [.string g.1, .slice g.2.1 g.2.2.1 g.2.2.2, .int .i64 0, .bool false]), (7, [.slice b1 n1 c1, .slice b2 n2 c2, .slice b3 n3 c3, .slice b4 n4 c4])]) C ?_ ?_
        · cbv
          refine ⟨⟨hsm, ix⟩, ?_⟩
          cbv
          refine q4.load hx hz.eq (fun cs hcs => ?_)
          have hcs : cs = [.int .i64 x] := hcs
          subst hcs
          cbv
          refine ⟨by decide, ?_⟩
          cbv
          refine ⟨⟨hsm, ix⟩, ?_⟩
          cbv
          refine q4.load hx hz.eq (fun cs hcs => ?_)
          have hcs : cs = [.int .i64 x] := hcs
          subst hcs
          cbv
          refine within16 (A .ari .quo .i64 x 2) 5 (by decide) (by decide) _ (fun zj j hzj hj hj5 => ?_)
          obtain ⟨bx, hbx⟩ : ∃ bx : UInt8, bx = UInt8.ofNat (97 + j) := ⟨_, rfl⟩
          obtain ⟨nm, hnm⟩ : ∃ nm, nm = sName j := ⟨_, rfl⟩
          obtain ⟨sv, hsv⟩ : ∃ sv, sv = strOf [bx] := ⟨_, rfl⟩
          obtain ⟨yb, hyb, hbyte⟩ : ∃ yb : Int, yb = (bx.toNat : Int) ∧ A .conv .u8 (A .ari .add .i64 97 zj) = yb := ⟨_, rfl, by
            rw [hA.conv, hA.ari, hzj.eq, hbx]
            show IntKind.u8.wrap (IntKind.i64.wrap (97 + (j : Int))) = _
            have hj5 : j = 0 ∨ j = 1 ∨ j = 2 ∨ j = 3 ∨ j = 4 := by omega
            rcases hj5 with rfl | rfl | rfl | rfl | rfl <;> decide⟩
          have hcat : A .cat ⟨#[116]⟩ sv = nm := by
            rw [hA.cat, hsv, hnm, hbx]
            have hj5 : j = 0 ∨ j = 1 ∨ j = 2 ∨ j = 3 ∨ j = 4 := by omega
            show (⟨#[116]⟩ : ByteArray) ++ _ = _
            rcases hj5 with rfl | rfl | rfl | rfl | rfl <;> kernel_rfl
          have hsz : (((⟨#[116]⟩ : ByteArray).size + sv.size : Nat) : Int) ≤ 2 ^ 62 := by
            rw [hsv]
            show ((1 + 1 : Nat) : Int) ≤ _
            decide
          cbv
          refine q4.load hx hz.eq (fun cs hcs => ?_)
          have hcs : cs = [.int .i64 x] := hcs
          subst hcs
          cbv
          refine ⟨⟨_, rfl, rfl⟩, ?_⟩
          cbv
          rw [hbyte]
          refine ⟨?_, ?_⟩
          · skip
            intro nb h5 hnb eh5
            have lh5 : Le h4 h5 := by rw [eh5]; exact Le.set hnb
            have gb : h5 nb = some (.cells (List.toArray [.int .u8 yb]) 5 (0, 0)) := (congrFun eh5 nb).trans hset_self
            have sb := one_sl (s := shB) (x := bx) gb (by rw [hyb]; rfl)
            clear eh5 gb
            cbv
            refine (q4.mono lh5).load hx hz.eq (fun cs hcs => ?_)
            have hcs : cs = [.int .i64 x] := hcs
            subst hcs
            cbv
            refine ⟨⟨_, rfl, rfl⟩, ?_⟩
            cbv
            refine ⟨?_, ?_⟩
            · skip
              refine sem_b2s sb ?_
              rw [← hsv]
              cbv
              refine (q4.mono lh5).load hx hz.eq (fun cs hcs => ?_)
              have hcs : cs = [.int .i64 x] := hcs
              subst hcs
              cbv
              refine ⟨⟨_, rfl, rfl⟩, ?_⟩
              cbv
              refine ⟨hsz, ?_⟩
              cbv
              rw [hcat]
              refine within16 x 3 (by decide) (by decide) _ (fun zk kk hzk hkk hk3 => ?_)
              obtain ⟨zc, hzc, hcol⟩ := fcol zk kk hzk hk3
              cbv
              rw [hcol]
              intro nc h6 hnc eh6
              have lh6 : Le h5 h6 := by rw [eh6]; exact Le.set hnc
              have gc : h6 nc = some (.cells (List.toArray [.string ⟨#[122]⟩, .int .i64 zc, .bool false]) 58 (0, 0)) := (congrFun eh6 nc).trans hset_self
              have zb := Fz.add (z4.to lh5) hnc gc lh6
              have sc := one_sl (h := hset aA nc (.cells (List.toArray [.string ⟨#[122]⟩, .int .i64 zc, .bool false]) 58 (0, 0))) (s := shCol) (x := ⟨⟨#[122]⟩, zc, false⟩) hset_self rfl
              clear eh6 gc
              cbv
              refine ⟨(nm, (some ⟨nc, 0, none⟩, 1, 1)), ⟨?_, ?_, ?_⟩, ?_⟩
              · cbv
              · cbv
              · cbv
              · rw [hC0]; exact ⟨(lh5.trans lh6), j, kk, hj5, hk3, hnm, zc, hzc, _, zb.1, zb.2, sc⟩
            · skip
              refine within16 x 3 (by decide) (by decide) _ (fun zk kk hzk hkk hk3 => ?_)
              obtain ⟨zc, hzc, hcol⟩ := fcol zk kk hzk hk3
              cbv
              rw [hcol]
              refine ⟨?_, ?_⟩
              · skip
                refine sem_b2s sb ?_
                rw [← hsv]
                cbv
                refine ⟨hsz, ?_⟩
                cbv
                rw [hcat]
                intro nc h6 hnc eh6
                have lh6 : Le h5 h6 := by rw [eh6]; exact Le.set hnc
                have gc : h6 nc = some (.cells (List.toArray [.string ⟨#[122]⟩, .int .i64 zc, .bool false]) 58 (0, 0)) := (congrFun eh6 nc).trans hset_self
                have zb := Fz.add (z4.to lh5) hnc gc lh6
                have sc := one_sl (h := hset aA nc (.cells (List.toArray [.string ⟨#[122]⟩, .int .i64 zc, .bool false]) 58 (0, 0))) (s := shCol) (x := ⟨⟨#[122]⟩, zc, false⟩) hset_self rfl
                clear eh6 gc
                cbv
                refine ⟨(nm, (some ⟨nc, 0, none⟩, 1, 1)), ⟨?_, ?_, ?_⟩, ?_⟩
                · cbv
                · cbv
                · cbv
                · rw [hC0]; exact ⟨(lh5.trans lh6), j, kk, hj5, hk3, hnm, zc, hzc, _, zb.1, zb.2, sc⟩
              · skip
                intro nc h6 hnc eh6
                have lh6 : Le h5 h6 := by rw [eh6]; exact Le.set hnc
                have gc : h6 nc = some (.cells (List.toArray [.string ⟨#[122]⟩, .int .i64 zc, .bool false]) 58 (0, 0)) := (congrFun eh6 nc).trans hset_self
                have zb := Fz.add (z4.to lh5) hnc gc lh6
                have sc := one_sl (h := hset aA nc (.cells (List.toArray [.string ⟨#[122]⟩, .int .i64 zc, .bool false]) 58 (0, 0))) (s := shCol) (x := ⟨⟨#[122]⟩, zc, false⟩) hset_self rfl
                clear eh6 gc
                cbv
                refine sem_b2s (sb.mono (lh6.t _)) ?_
                rw [← hsv]
                cbv
                refine ⟨hsz, ?_⟩
                cbv
                rw [hcat]
                refine ⟨(nm, (some ⟨nc, 0, none⟩, 1, 1)), ⟨?_, ?_, ?_⟩, ?_⟩
                · cbv
                · cbv
                · cbv
                · rw [hC0]; exact ⟨(lh5.trans lh6), j, kk, hj5, hk3, hnm, zc, hzc, _, zb.1, zb.2, sc⟩
          · skip
            refine within16 x 3 (by decide) (by decide) _ (fun zk kk hzk hkk hk3 => ?_)
            obtain ⟨zc, hzc, hcol⟩ := fcol zk kk hzk hk3
            cbv
            rw [hcol]
            refine ⟨?_, ?_⟩
            · skip
              intro nb h5 hnb eh5
              have lh5 : Le h4 h5 := by rw [eh5]; exact Le.set hnb
              have gb : h5 nb = some (.cells (List.toArray [.int .u8 yb]) 5 (0, 0)) := (congrFun eh5 nb).trans hset_self
              have sb := one_sl (s := shB) (x := bx) gb (by rw [hyb]; rfl)
              clear eh5 gb
              cbv
              refine ⟨?_, ?_⟩
              · skip
                refine sem_b2s sb ?_
                rw [← hsv]
                cbv
                refine ⟨hsz, ?_⟩
                cbv
                rw [hcat]
                intro nc h6 hnc eh6
                have lh6 : Le h5 h6 := by rw [eh6]; exact Le.set hnc
                have gc : h6 nc = some (.cells (List.toArray [.string ⟨#[122]⟩, .int .i64 zc, .bool false]) 58 (0, 0)) := (congrFun eh6 nc).trans hset_self
                have zb := Fz.add (z4.to lh5) hnc gc lh6
                have sc := one_sl (h := hset aA nc (.cells (List.toArray [.string ⟨#[122]⟩, .int .i64 zc, .bool false]) 58 (0, 0))) (s := shCol) (x := ⟨⟨#[122]⟩, zc, false⟩) hset_self rfl
                clear eh6 gc
                cbv
                refine ⟨(nm, (some ⟨nc, 0, none⟩, 1, 1)), ⟨?_, ?_, ?_⟩, ?_⟩
                · cbv
                · cbv
                · cbv
                · rw [hC0]; exact ⟨(lh5.trans lh6), j, kk, hj5, hk3, hnm, zc, hzc, _, zb.1, zb.2, sc⟩
              · skip
                intro nc h6 hnc eh6
                have lh6 : Le h5 h6 := by rw [eh6]; exact Le.set hnc
                have gc : h6 nc = some (.cells (List.toArray [.string ⟨#[122]⟩, .int .i64 zc, .bool false]) 58 (0, 0)) := (congrFun eh6 nc).trans hset_self
                have zb := Fz.add (z4.to lh5) hnc gc lh6
                have sc := one_sl (h := hset aA nc (.cells (List.toArray [.string ⟨#[122]⟩, .int .i64 zc, .bool false]) 58 (0, 0))) (s := shCol) (x := ⟨⟨#[122]⟩, zc, false⟩) hset_self rfl
                clear eh6 gc
                cbv
                refine sem_b2s (sb.mono (lh6.t _)) ?_
                rw [← hsv]
                cbv
                refine ⟨hsz, ?_⟩
                cbv
                rw [hcat]
                refine ⟨(nm, (some ⟨nc, 0, none⟩, 1, 1)), ⟨?_, ?_, ?_⟩, ?_⟩
                · cbv
                · cbv
                · cbv
                · rw [hC0]; exact ⟨(lh5.trans lh6), j, kk, hj5, hk3, hnm, zc, hzc, _, zb.1, zb.2, sc⟩
            · skip
              intro nc h5 hnc eh5
              have lh5 : Le h4 h5 := by rw [eh5]; exact Le.set hnc
              have gc : h5 nc = some (.cells (List.toArray [.string ⟨#[122]⟩, .int .i64 zc, .bool false]) 58 (0, 0)) := (congrFun eh5 nc).trans hset_self
              have zb := Fz.add z4 hnc gc lh5
              have sc := one_sl (h := hset aA nc (.cells (List.toArray [.string ⟨#[122]⟩, .int .i64 zc, .bool false]) 58 (0, 0))) (s := shCol) (x := ⟨⟨#[122]⟩, zc, false⟩) hset_self rfl
              clear eh5 gc
              cbv
              intro nb h6 hnb eh6
              have lh6 : Le h5 h6 := by rw [eh6]; exact Le.set hnb
              have gb : h6 nb = some (.cells (List.toArray [.int .u8 yb]) 5 (0, 0)) := (congrFun eh6 nb).trans hset_self
              have sb := one_sl (s := shB) (x := bx) gb (by rw [hyb]; rfl)
              clear eh6 gb
              cbv
              refine sem_b2s sb ?_
              rw [← hsv]
              cbv
              refine ⟨hsz, ?_⟩
              cbv
              rw [hcat]
              refine ⟨(nm, (some ⟨nc, 0, none⟩, 1, 1)), ⟨?_, ?_, ?_⟩, ?_⟩
              · cbv
              · cbv
              · cbv
              · rw [hC0]; exact ⟨(lh5.trans lh6), j, kk, hj5, hk3, hnm, zc, hzc, _, (zb.1.to lh6), zb.2, sc⟩
        · intro g h5 hC
          rw [hC0] at hC
          cbv
          obtain ⟨nm, sb, sn, sc⟩ := g
          obtain ⟨l5, j, kk, hj5, hk3, hnm, zc, hzc, aB, z5, lAB, qs⟩ := hC
          have hnm : nm = sName j := hnm
          have qs : Sl 58 shCol aB (.slice sb sn sc) [⟨⟨#[122]⟩, zc, false⟩] := qs
          have hsn := qs.len
          have q5 := q.mono z5.base
          have w5 := w4.lx lAB
          have qs5 := qs.mono (z5.le.t _)
          have r5 := r4.mono l5
          have hsch : (⟨nm, [⟨⟨#[122]⟩, zc, false⟩], 0, false⟩ : Sch) = sSch j kk := by rw [hnm, hzc]; rfl
          have hns2 : nm.size = 2 := by
            rw [hnm]; rfl
          have ti := sw.ti
          have hsb := sw.s
          have hnb := sw.n
          obtain ⟨rs, I, -⟩ := sw.out
          have hws : G.D.ws.length ≤ 2 ^ 28 := by rw [I.ws]; exact Nat.zero_le _
          have e1 : d.tabs.length ≤ 2 ^ 37 := by have := ti.le; omega
          have e2 : ∀ t ∈ d.tabs, t.S.name.size ≤ 2 ^ 60 := fun t ht => by have := (ti.rows t ht).2; omega
          have gc := sw_go sw (by omega) (D := createD d (sSch j kk)) (l := tabRec (sSch j kk)) (tabRec_len hj5 hk3) (.inl (recS hj5 hk3).1) (rec_tab hj5 hk3 d) (ti_create ti (by rw [← hsch]; show nm.size ≤ 12; omega)) (fun hne => by
            unfold createD createR at hne ⊢
            split
            · rename_i h0; rw [if_pos h0] at hne; exact absurd rfl hne
            · rfl)
          have gd := sw_go sw (by omega) (D := dropD d nm) (l := dropRec nm) (by rw [hnm]; exact dropRec_len hj5) (.inr (by rw [hnm]; exact (recN' hj5).1)) (by rw [hnm]; exact rec_drop hj5 d) (ti_drop ti nm) (fun hne => by
            unfold dropD at hne ⊢
            split
            · rename_i h0
              rw [if_pos h0] at hne
              split
              · rfl
              · rename_i h1; rw [if_neg h1] at hne; exact absurd rfl hne
            · rfl)
          have hnx := hz.succ (A := A) (by omega)
          have hlt : 15 - (i + 1) < w := by omega
          have fin : ∀ h' a' G' d' c1' c2' c3' c4' m1 m2 m3 m4 k1 k2 k3 k4, Fz h a' h' → WhO a' s p G' d' L0 → RP h' c1' m1 k1 c2' m2 k2 c3' m3 k3 c4' m4 k4 d' → SW G' d' (i + 1) → J (15 - (i + 1)) (((c1', m1, k1), (c2', m2, k2), (c3', m3, k3), (c4', m4, k4)), A .ari .add .i64 z 1) h' := fun h' a' G' d' c1' c2' c3' c4' m1 m2 m3 m4 k1 k2 k3 k4 a1 a2 a3 a4 => by
            rw [hJ0]
            exact ⟨i + 1, G', d', a', hnx, rfl, by omega, by omega, a1, a2, a3, a4⟩
          generalize eu : A .icm .eql (A .ari .rem .i64 x 2) 0 = u
          clear hC0 C hJ0 hJ1
          refine ⟨⟨hsm, ix⟩, ?_⟩
          cbv
          refine q5.load hx hz.eq (fun cs hcs => ?_)
          have hcs : cs = [.int .i64 x] := hcs
          subst hcs
          cbv
          refine ⟨by decide, ?_⟩
          cbv
          rw [eu]
          cases u with
          | true =>
            cbv
            refine z5.frm (ex := whT) (CreateS w5 qs (by rw [hsn]; show 1 ≤ 2 ^ 16; decide) (by omega) (fun y hy => by rw [List.mem_singleton.1 hy]; show 1 ≤ 2 ^ 40; decide) ti.small (by omega) (by omega) hws (k := fun v h' => LeX whT aB h' ∧ v = .int .i64 (createW G d ⟨nm, [⟨⟨#[122]⟩, zc, false⟩], 0, false⟩).1 ∧ WhO h' s p (createW G d ⟨nm, [⟨⟨#[122]⟩, zc, false⟩], 0, false⟩).2.1 (createW G d ⟨nm, [⟨⟨#[122]⟩, zc, false⟩], 0, false⟩).2.2 L0) (fun h6 l6 w6 => ⟨l6, rfl, w6⟩)) (fun v a6 h6 hv z6 l6 => ?_)
            obtain ⟨rfl, w6⟩ := hv
            rw [hsch] at w6 ⊢
            have r6 := r5.lt (l6.t (by decide))
            have qs6 := qs5.mono (l6.t (by decide))
            have hD : refCreate d ⟨nm, [⟨⟨#[122]⟩, zc, false⟩], 0, false⟩ = createD d (sSch j kk) := by rw [hsch, create_ref2 ti.srt]
            have w6 : WhO a6 s p (goW G d (createD d (sSch j kk)) (tabRec (sSch j kk))).2.1 (goW G d (createD d (sSch j kk)) (tabRec (sSch j kk))).2.2 L0 := w6
            have hg : createW G d (sSch j kk) = goW G d (createD d (sSch j kk)) (tabRec (sSch j kk)) := rfl
            rw [hg]
            clear hg gd
            generalize goW G d (createD d (sSch j kk)) (tabRec (sSch j kk)) = W at *
            obtain ⟨e6, G6, d6⟩ := W
            generalize createD d (sSch j kk) = D at *
            obtain ⟨D1, D2⟩ := D
            obtain ⟨ge, gd, gs⟩ := gc
            have ge : e6 = D2 := ge
            have gd : d6 = D1 := gd
            subst ge gd
            have w6 : WhO a6 s p G6 d6 L0 := w6
            have gs : SW G6 d6 (i + 1) := gs
            have fe : A .icm .neq e6 e6 = false := by rw [icm_neq A]; exact decide_eq_false (fun h => h rfl)
            cbv
            refine rcreate52 r6 qs6 e1 e2 hD (fun h7 b1' n1' c1' b2' n2' c2' b3' n3' c3' b4' n4' c4' l7 r7 => ?_)
            have hJ := fin h7 a6 G6 d6 _ _ _ _ _ _ _ _ _ _ _ _ (z6.to l7) w6 r7 gs
            clear fin
            cbv
            rw [fe]
            cbv
            refine ⟨15 - (i + 1), (((b1', n1', c1'), (b2', n2', c2'), (b3', n3', c3'), (b4', n4', c4')), A .ari .add .i64 z 1), hlt, ⟨?_, ?_, ?_⟩, hJ⟩
            · cbv
            · cbv
            · cbv
          | false =>
            cbv
            refine z5.frm (ex := whT) (DropS w5 nm (by omega) (by omega) (by omega) hws (k := fun v h' => LeX whT aB h' ∧ v = .int .i64 (dropW G d nm).1 ∧ WhO h' s p (dropW G d nm).2.1 (dropW G d nm).2.2 L0) (fun h6 l6 w6 => ⟨l6, rfl, w6⟩)) (fun v a6 h6 hv z6 l6 => ?_)
            obtain ⟨rfl, w6⟩ := hv
            have r6 := r5.lt (l6.t (by decide))
            have w6 : WhO a6 s p (goW G d (dropD d nm) (dropRec nm)).2.1 (goW G d (dropD d nm) (dropRec nm)).2.2 L0 := w6
            have hg : dropW G d nm = goW G d (dropD d nm) (dropRec nm) := rfl
            rw [hg]
            clear hg gc
            obtain ⟨D, hD⟩ : ∃ D, dropD d nm = D := ⟨_, rfl⟩
            rw [hD] at w6 gd ⊢
            generalize goW G d D (dropRec nm) = W at *
            obtain ⟨e6, G6, d6⟩ := W
            obtain ⟨D1, D2⟩ := D
            obtain ⟨ge, gd, gs⟩ := gd
            have ge : e6 = D2 := ge
            have gd : d6 = D1 := gd
            subst ge gd
            have w6 : WhO a6 s p G6 d6 L0 := w6
            have gs : SW G6 d6 (i + 1) := gs
            have fe : A .icm .neq e6 e6 = false := by rw [icm_neq A]; exact decide_eq_false (fun h => h rfl)
            cbv
            refine drop87S r6 ti.srt ti.le nm hD (fun h7 b1' n1' c1' b2' n2' c2' b3' n3' c3' b4' n4' c4' l7 r7 => ?_)
            have hJ := fin h7 a6 G6 d6 _ _ _ _ _ _ _ _ _ _ _ _ (z6.to l7) w6 r7 gs
            clear fin
            cbv
            rw [fe]
            cbv
            refine ⟨15 - (i + 1), (((b1', n1', c1'), (b2', n2', c2'), (b3', n3', c3'), (b4', n4', c4')), A .ari .add .i64 z 1), hlt, ⟨?_, ?_, ?_⟩, hJ⟩
            · cbv
            · cbv
            · cbv
      · rw [decide_eq_false hd]
        cbv
        obtain ⟨rs, I, hpl, h12, hsm⟩ := sw.out
        have hsb := sw.s
        have hnb := sw.n
        obtain ⟨gg, xx, qs, ql, qk, qx⟩ := w4.out
        refine z4.frm (ex := lzT) (OpenG (g := G) qk I (by omega) (by omega) (by omega) hpl h12 hsm (k := fun v h' => LeX lzT aA h' ∧ ∃ t, v = .tuple #[.pointer (some ⟨t, 0, none⟩), .int .i64 0] ∧ WhO h' t p G d L0 ∧ WhO h' s p G d L0) (fun h5 t x5 w5 => ⟨x5, t, rfl, w5, w4.lz x5⟩)) (fun v a5 h5 hv z5 x5 => ?_)
        obtain ⟨t, rfl, w5, w45⟩ := hv
        have r5 := r4.lt (x5.t (by decide))
        have w5 := w5.lx z5.le
        have w45 := w45.lx z5.le
        clear I hpl h12 hsm qk qx ql qs
        have ti := sw.ti
        have e1 : d.tabs.length ≤ 2 ^ 37 := by have := ti.le; omega
        have e2 : d.works.length ≤ 2 ^ 37 := by rw [ti.works]; exact Nat.zero_le _
        have e3 : ∀ w ∈ d.works, w.marks.length ≤ 2 ^ 37 := fun w hw => by rw [ti.works] at hw; cases hw
        have e4 : d.holds.length ≤ 2 ^ 37 := by rw [ti.holds]; exact Nat.zero_le _
        have e5 : d.waits.length ≤ 2 ^ 37 := by rw [ti.waits]; exact Nat.zero_le _
        cbv
        rw [f00]
        cbv
        refine StDB w5 (fun h6 v1 k1 a1 v2 k2 a2 v3 k3 a3 v4 k4 a4 l6 qd => ?_)
        cbv
        refine toRef26K qd e1 e2 e3 e4 e5 (fun h7 u1 j1 z1 u2 j2 z2 u3 j3 z3 u4 j4 z4 l7 rd => ?_)
        have r7 := (r5.mono (l6.trans l7))
        have w7 := w45.lx (l6.trans l7)
        cbv
        refine rsame42 rd r7 ?_
        cbv
        refine StDB w7 (fun h8 v1 k1 a1 v2 k2 a2 v3 k3 a3 v4 k4 a4 l8 qd => ?_)
        cbv
        refine toRef26K qd e1 e2 e3 e4 e5 (fun h9 u1 j1 z1 u2 j2 z2 u3 j3 z3 u4 j4 z4 l9 rd => ?_)
        have r9 := (r7.mono (l8.trans l9))
        have hle := z5.base.trans ((l6.trans l7).trans (l8.trans l9))
        cbv
        refine rsame42 rd r9 ?_
        cbv
        first | exact ⟨hle, rfl⟩ | exact ⟨hle, trivial⟩
    · rw [decide_eq_false hc]
      cbv
      obtain ⟨rs, I, hpl, h12, hsm⟩ := sw.out
      have hsb := sw.s
      have hnb := sw.n
      obtain ⟨gg, xx, qs, ql, qk, qx⟩ := w4.out
      refine z4.frm (ex := lzT) (OpenG (g := G) qk I (by omega) (by omega) (by omega) hpl h12 hsm (k := fun v h' => LeX lzT aA h' ∧ ∃ t, v = .tuple #[.pointer (some ⟨t, 0, none⟩), .int .i64 0] ∧ WhO h' t p G d L0 ∧ WhO h' s p G d L0) (fun h5 t x5 w5 => ⟨x5, t, rfl, w5, w4.lz x5⟩)) (fun v a5 h5 hv z5 x5 => ?_)
      obtain ⟨t, rfl, w5, w45⟩ := hv
      have r5 := r4.lt (x5.t (by decide))
      have w5 := w5.lx z5.le
      have w45 := w45.lx z5.le
      clear I hpl h12 hsm qk qx ql qs
      have ti := sw.ti
      have e1 : d.tabs.length ≤ 2 ^ 37 := by have := ti.le; omega
      have e2 : d.works.length ≤ 2 ^ 37 := by rw [ti.works]; exact Nat.zero_le _
      have e3 : ∀ w ∈ d.works, w.marks.length ≤ 2 ^ 37 := fun w hw => by rw [ti.works] at hw; cases hw
      have e4 : d.holds.length ≤ 2 ^ 37 := by rw [ti.holds]; exact Nat.zero_le _
      have e5 : d.waits.length ≤ 2 ^ 37 := by rw [ti.waits]; exact Nat.zero_le _
      cbv
      rw [f00]
      cbv
      refine StDB w5 (fun h6 v1 k1 a1 v2 k2 a2 v3 k3 a3 v4 k4 a4 l6 qd => ?_)
      cbv
      refine toRef26K qd e1 e2 e3 e4 e5 (fun h7 u1 j1 z1 u2 j2 z2 u3 j3 z3 u4 j4 z4 l7 rd => ?_)
      have r7 := (r5.mono (l6.trans l7))
      have w7 := w45.lx (l6.trans l7)
      cbv
      refine rsame42 rd r7 ?_
      cbv
      refine StDB w7 (fun h8 v1 k1 a1 v2 k2 a2 v3 k3 a3 v4 k4 a4 l8 qd => ?_)
      cbv
      refine toRef26K qd e1 e2 e3 e4 e5 (fun h9 u1 j1 z1 u2 j2 z2 u3 j3 z3 u4 j4 z4 l9 rd => ?_)
      have r9 := (r7.mono (l8.trans l9))
      have hle := z5.base.trans ((l6.trans l7).trans (l8.trans l9))
      cbv
      refine rsame42 rd r9 ?_
      cbv
      first | exact ⟨hle, rfl⟩ | exact ⟨hle, trivial⟩
end Go.S

