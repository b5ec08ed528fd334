import Derived.Test.YtficmdggjjepmaaGreatSxB
import Derived.Laws.LoneSync
import Derived.Lib.Bytealg
import Derived.MapKept
import Derived.Maps.RangeRun
set_option linter.all false
namespace Go.Sx

/-! How data lie in a partial heap. -/

def Le (h h' : Heap) : Prop := ∀ b o, h b = some o → h' b = some o
theorem Le.refl (h : Heap) : Le h h := fun _ _ x => x
theorem Le.trans {a b c : Heap} (x : Le a b) (y : Le b c) : Le a c := fun k o q => y k o (x k o q)
theorem Le.set {h : Heap} {n : Nat} {o : Obj} (hn : h n = none) : Le h (hset h n o) := fun b q hb => by
  unfold hset
  split
  · rename_i e; rw [e, hn] at hb; cases hb
  · exact hb
theorem hset_self {h : Heap} {n : Nat} {o : Obj} : hset h n o n = some o := by unfold hset; rw [if_pos rfl]
theorem hset_ne {h : Heap} {n b : Nat} {o : Obj} (hb : b ≠ n) : hset h n o b = h b := by unfold hset; rw [if_neg hb]
theorem hset_twice {h : Heap} {n : Nat} {o o' : Obj} : hset (hset h n o) n o' = hset h n o' := by
  funext b; unfold hset; split <;> rfl

/-- All blocks of some element types are as they were. -/
def LeT (tys : List Nat) (h h' : Heap) : Prop := ∀ b c e fr, e ∈ tys → h b = some (.cells c e fr) → h' b = some (.cells c e fr)
theorem Le.t {h h' : Heap} (x : Le h h') (tys : List Nat) : LeT tys h h' := fun b c e fr _ q => x b _ q
theorem LeT.refl (tys : List Nat) (h : Heap) : LeT tys h h := fun _ _ _ _ _ x => x
theorem LeT.trans {tys : List Nat} {a b c : Heap} (x : LeT tys a b) (y : LeT tys b c) : LeT tys a c := fun k d e fr m q => y k d e fr m (x k d e fr m q)
theorem LeT.set {tys : List Nat} {h : Heap} {n e : Nat} {c : Array Value} {fr : Nat × Nat} {o : Obj} (hn : h n = some (.cells c e fr)) (he : e ∉ tys) : LeT tys h (hset h n o) := fun b d e' fr' hm hb => by
  unfold hset
  split
  · rename_i q; rw [q, hn] at hb; cases hb; exact absurd hm he
  · exact hb
theorem LeT.sub {tys tys' : List Nat} {h h' : Heap} (x : LeT tys h h') (hs : ∀ t ∈ tys', t ∈ tys) : LeT tys' h h' := fun b c e fr m q => x b c e fr (hs e m) q

/-- A shape: how many cells, and what they read as. -/
structure Sh (α : Type) where
  n : Nat
  R : Heap → List Value → α → Prop
  len : ∀ {h cs x}, R h cs x → cs.length = n
  one : ∀ {h cs x}, R h cs x → ones cs = true
  tys : List Nat
  mono : ∀ {h h' cs x}, LeT tys h h' → R h cs x → R h' cs x

/-- n elements of a shape lie in cells, from an offset on. -/
def Rows {α : Type} (s : Sh α) (h : Heap) (c : List Value) (off : Nat) (xs : List α) : Prop :=
  off + xs.length * s.n ≤ c.length ∧ ∀ i x, xs[i]? = some x → s.R h ((c.drop (off + i * s.n)).take s.n) x

theorem Rows.mono {α : Type} {s : Sh α} {h h' : Heap} {c : List Value} {off : Nat} {xs : List α} (hl : LeT s.tys h h') (r : Rows s h c off xs) : Rows s h' c off xs :=
  ⟨r.1, fun i x hx => s.mono hl (r.2 i x hx)⟩

/-- A slice's value reads as a list. -/
structure Sl {α : Type} (e : Nat) (s : Sh α) (h : Heap) (v : Value) (xs : List α) : Prop where
  out : ∃ b cap, v = .slice b xs.length cap ∧ xs.length ≤ cap ∧ xs.length ≤ 2 ^ 40 ∧
    (xs = [] ∨ ∃ blk off c fr, b = some ⟨blk, off, none⟩ ∧ h blk = some (.cells c e fr) ∧ Rows s h c.toList off xs)

theorem Sl.mono {α : Type} {e : Nat} {s : Sh α} {h h' : Heap} {v : Value} {xs : List α} (hl : LeT (e :: s.tys) h h') (q : Sl e s h v xs) : Sl e s h' v xs := by
  obtain ⟨b, cap, h1, h2, h3, h4⟩ := q.out
  refine ⟨b, cap, h1, h2, h3, ?_⟩
  rcases h4 with h4 | ⟨blk, off, c, fr, g1, g2, g3⟩
  · exact .inl h4
  · exact .inr ⟨blk, off, c, fr, g1, hl _ _ _ _ (by simp) g2, g3.mono (hl.sub fun t ht => by simp [ht])⟩

/-- A slice as a cell. -/
def shSl {α : Type} (e : Nat) (s : Sh α) : Sh (List α) where
  n := 1
  R h cs xs := ∃ v, cs = [v] ∧ Sl e s h v xs
  len := by rintro h cs x ⟨v, rfl, -⟩; rfl
  one := by rintro h cs x ⟨v, rfl, q⟩; obtain ⟨b, cap, rfl, -⟩ := q.out; rfl
  tys := e :: s.tys
  mono := by rintro h h' cs x hl ⟨v, rfl, q⟩; exact ⟨v, rfl, q.mono hl⟩

theorem rdc_of_rows {α : Type} {s : Sh α} {h : Heap} {c : Array Value} {e : Nat} {fr : Nat × Nat} {blk off : Nat} {xs : List α} (hb : h blk = some (.cells c e fr)) (r : Rows s h c.toList off xs) {i : Nat} {x : α}
    (hx : xs[i]? = some x) : rdc h ⟨blk, off + i * s.n, none⟩ s.n ((c.toList.drop (off + i * s.n)).take s.n) := by
  refine ⟨rfl, s.len (r.2 i x hx), c, e, fr, hb, fun j hj => ?_⟩
  rw [List.getElem?_take, if_pos hj, List.getElem?_drop]
  simp

/-- An element is read. -/
theorem Sl.load {α : Type} {A : Ar} [ArOk A] {e : Nat} {s : Sh α} {h : Heap} {b : Option Addr} {len cap : Nat} {xs : List α} (q : Sl e s h (.slice b len cap) xs) {i : Nat} {x : α} (hx : xs[i]? = some x) {n : Int} (hn : n = (i : Int))
    {k : List Value → Prop} (hk : ∀ cs, s.R h cs x → k cs) : LdX h (A.elt b n s.n) s.n k := by
  obtain ⟨b', cap', h1, h2, h3, h4⟩ := q.out
  cases h1
  rcases h4 with rfl | ⟨blk, off, c, fr, rfl, g2, g3⟩
  · simp at hx
  · subst hn
    refine ⟨_, ?_, hk _ (g3.2 i x hx)⟩
    rw [A.elt_eq]
    simp only [elt, Option.getD_some, Int.toNat_natCast, add_none]
    exact rdc_of_rows g2 g3 hx

theorem Sl.len {α : Type} {e : Nat} {s : Sh α} {h : Heap} {b : Option Addr} {len cap : Nat} {xs : List α} (q : Sl e s h (.slice b len cap) xs) : len = xs.length := by
  obtain ⟨b', cap', h1, -⟩ := q.out
  cases h1; rfl

theorem Sl.isSm {α : Type} {e : Nat} {s : Sh α} {h : Heap} {b : Option Addr} {len cap : Nat} {xs : List α} (q : Sl e s h (.slice b len cap) xs) (hl : 0 < len) : b.isSome = true := by
  obtain ⟨b', cap', h1, h2, h3, h4⟩ := q.out
  cases h1
  rcases h4 with rfl | ⟨blk, off, c, fr, rfl, -⟩
  · simp at hl
  · rfl

theorem Sl.bound {α : Type} {e : Nat} {s : Sh α} {h : Heap} {b : Option Addr} {len cap : Nat} {xs : List α} (q : Sl e s h (.slice b len cap) xs) : len ≤ 2 ^ 40 ∧ len ≤ cap := by
  obtain ⟨b', cap', h1, h2, h3, -⟩ := q.out
  cases h1; exact ⟨h3, h2⟩

/-- All its cells, for an append. -/
theorem Sl.allCells {α : Type} {e : Nat} {s : Sh α} {h : Heap} {b : Option Addr} {len cap : Nat} {xs : List α} (q : Sl e s h (.slice b len cap) xs) :
    ∃ cs, rdo h b (len * s.n) cs ∧ cs.length = len * s.n ∧ ones cs = true ∧ ∀ h', LeT s.tys h h' → ∀ pre rest, Rows s h' (pre ++ cs ++ rest) pre.length xs := by
  obtain ⟨b', cap', h1, h2, h3, h4⟩ := q.out
  cases h1
  rcases h4 with rfl | ⟨blk, off, c, fr, rfl, g2, g3⟩
  · exact ⟨[], .inl ⟨by simp, rfl⟩, by simp, rfl, fun h' _ pre rest => ⟨by simp, fun i x hx => by simp at hx⟩⟩
  · refine ⟨(c.toList.drop off).take (xs.length * s.n), .inr ⟨_, rfl, rfl, ?_, c, e, fr, g2, fun j hj => ?_⟩, ?_, ?_, fun h' hl pre rest => ⟨?_, fun i x hx => ?_⟩⟩
    · have := g3.1; simp at this ⊢; omega
    · rw [List.getElem?_take, if_pos hj, List.getElem?_drop]; simp
    · have := g3.1; simp at this ⊢; omega
    · -- ones
      have key : ∀ m, m ≤ xs.length → ones ((c.toList.drop off).take (m * s.n)) = true := fun m => by
        induction m with
        | zero => intro _; simp [ones]
        | succ m ih =>
          intro hm
          have hx : xs[m]? = some xs[m] := by simp [show m < xs.length by omega]
          have h5 := s.one (g3.2 m _ hx)
          have h6 : (c.toList.drop off).take ((m + 1) * s.n) = (c.toList.drop off).take (m * s.n) ++ (c.toList.drop (off + m * s.n)).take s.n := by
            rw [Nat.succ_mul, List.take_add, List.drop_drop]
          rw [h6]
          exact ones_append (ih (by omega)) h5
      exact key _ (Nat.le_refl _)
    · have := g3.1; simp at this ⊢; omega
    · have h5 := g3.2 i x hx
      have hi : i < xs.length := (List.getElem?_eq_some_iff.1 hx).1
      have hb := g3.1
      have e1 : i * s.n + s.n ≤ xs.length * s.n := by rw [← Nat.succ_mul]; exact Nat.mul_le_mul_right _ hi
      have : ((pre ++ (c.toList.drop off).take (xs.length * s.n) ++ rest).drop (pre.length + i * s.n)).take s.n = (c.toList.drop (off + i * s.n)).take s.n := by
        apply List.ext_getElem?
        intro j
        simp only [List.getElem?_take]
        split
        · rename_i hj
          rw [List.getElem?_drop, List.append_assoc, List.getElem?_append_right (by omega), List.getElem?_append_left (by simp at hb ⊢; omega), List.getElem?_take, if_pos (by omega), List.getElem?_drop, List.getElem?_drop]
          congr 1; omega
        · rfl
      rw [this]
      exact s.mono hl h5

/-- A slice over a block that is its own: all of it can be written. -/
theorem Sl.fresh {α : Type} {e : Nat} {s : Sh α} {h : Heap} {n : Nat} {c : List Value} {xs : List α} {cap : Nat} (hb : h n = some (.cells c.toArray e (0, 0))) (r : Rows s h c 0 xs) (hl : xs.length ≤ 2 ^ 40) (hc : xs.length ≤ cap) :
    Sl e s h (.slice (some ⟨n, 0, none⟩) xs.length cap) xs :=
  ⟨some ⟨n, 0, none⟩, cap, rfl, hc, hl, .inr ⟨n, 0, c.toArray, (0, 0), rfl, hb, by simpa using r⟩⟩

theorem Sl.nil {α : Type} {e : Nat} {s : Sh α} {h : Heap} {b : Option Addr} {cap : Nat} : Sl e s h (.slice b 0 cap) ([] : List α) :=
  ⟨b, cap, rfl, by simp, by simp, .inl rfl⟩

end Go.Sx
namespace Go.Sx
theorem bsel_mk {t : Bool} {x y : Unit → Prop} (h1 : t = true → x ()) (h2 : t = false → y ()) : bsel t x y := by
  cases t
  · exact h2 rfl
  · exact h1 rfl
end Go.Sx

namespace Go.Sx

/-- A block that is a slice's own, whole: it may be written. -/
structure Own {α : Type} (e : Nat) (s : Sh α) (h : Heap) (nb cap : Nat) (xs : List α) : Prop where
  out : ∃ c, h nb = some (.cells (List.toArray c) e (0, 0)) ∧ Rows s h c 0 xs ∧ c.length = cap * s.n
  le : xs.length ≤ cap
  bd : xs.length ≤ 2 ^ 40

theorem Own.sl {α : Type} {e : Nat} {s : Sh α} {h : Heap} {nb cap : Nat} {xs : List α} (o : Own e s h nb cap xs) {n : Nat} (hn : n = xs.length) : Sl e s h (.slice (some ⟨nb, 0, none⟩) n cap) xs := by
  obtain ⟨c, h1, h2, -⟩ := o.out
  subst hn
  exact Sl.fresh h1 h2 o.bd o.le

theorem Own.mono {α : Type} {e : Nat} {s : Sh α} {h h' : Heap} {nb cap : Nat} {xs : List α} (hl : LeT (e :: s.tys) h h') (o : Own e s h nb cap xs) : Own e s h' nb cap xs := by
  obtain ⟨c, h1, h2, h3⟩ := o.out
  exact ⟨⟨c, hl _ _ _ _ (by simp) h1, h2.mono (hl.sub fun t ht => by simp [ht]), h3⟩, o.le, o.bd⟩

/-- 'append(S{}, xs...)'. -/
theorem append_new {α : Type} {e : Nat} {s : Sh α} {h : Heap} {x : Option Addr} {n cx : Nat} {xs : List α} (q : Sl e s h (.slice x n cx) xs) (he : e ∉ s.tys) {b0 : Option Addr} {size bytes : Nat} (hsz : size = s.n) (hby : bytes ≤ 128)
    {k : Value → Heap → Prop} (hk0 : n = 0 → k (.slice b0 0 0) h)
    (hk1 : ∀ nb cap h', h nb = none → 0 < n → Le h h' → Own e s h' nb cap xs → k (.slice (some ⟨nb, 0, none⟩) n cap) h') : AppendX h b0 0 0 x n size bytes e k := by
  subst hsz
  obtain ⟨cs, h1, h2, h3, h4⟩ := q.allCells
  have hlen := q.len
  obtain ⟨hb1, hb2⟩ := q.bound
  refine ⟨cs, h1, h3, fun hf => ?_, fun hg => ?_⟩
  · have hn : n = 0 := by omega
    have hcs : cs = [] := List.eq_nil_of_length_eq_zero (by rw [h2, hn]; simp)
    subst hn
    exact .inl ⟨hcs, hk0 rfl⟩
  · refine ⟨?_, ?_, [], .inl ⟨by simp, rfl⟩, fun nb c h' rest e1 e2 e3 e4 => ?_⟩
    · have h40 : (2 : Nat) ^ 40 = 1099511627776 := rfl
      have h48 : (2 : Nat) ^ 48 = 281474976710656 := rfl
      have : 2 * (0 + n) * bytes ≤ 2 * (0 + n) * 128 := Nat.mul_le_mul_left _ hby
      omega
    · have h40 : (2 : Nat) ^ 40 = 1099511627776 := rfl
      have h48 : (2 : Nat) ^ 48 = 281474976710656 := rfl
      omega
    · have hle : Le h h' := by rw [e4]; exact Le.set e1
      have := hk1 nb c h' e1 (by omega) hle ⟨⟨cs ++ rest, ?_, ?_, ?_⟩, by omega, by omega⟩
      · simpa using this
      · rw [e4, hset_self]; simp
      · have := h4 h' (hle.t _) [] rest
        simpa using this
      · simp only [List.length_append, h2, e3]
        rw [← Nat.add_mul]; congr 1; omega

end Go.Sx

namespace Go.Sx

/-! Loops. -/

def setE : Env → List (Nat × SV) → Env
  | env, [] => env
  | env, (t, x) :: r => setE (env.set t x) r
def hav : Env → List Nat → Env
  | env, [] => env
  | env, t :: r => hav (env.set t .u) r

theorem LoopX.go {G : Type} {ws : List Nat} {body : (Ex → Env → Loc → Heap → Prop) → Env → Loc → Heap → Prop} {K : Ex → Env → Loc → Heap → Prop} {env : Env} {L : Loc} {h : Heap}
    (vs : G → List (Nat × SV)) (lv : G → Loc) (I : Nat → G → Heap → Prop) (n0 : Nat) (g0 : G)
    (hw : Wk env L (setE (hav env ws) (vs g0)) (lv g0)) (hI : I n0 g0 h)
    (step : ∀ n g h', I n g h' → body (fun e env' L' h'' => match e with
      | .normal => ∃ m g', m < n ∧ Wk env' L' (setE (hav env ws) (vs g')) (lv g') ∧ I m g' h''
      | e => K e env' L' h'') (setE (hav env ws) (vs g)) (lv g) h') : LoopX ws body K env L h :=
  ⟨fun n env1 L1 h1 => ∃ g, env1 = setE (hav env ws) (vs g) ∧ L1 = lv g ∧ I n g h1, n0, ⟨_, _, hw, g0, rfl, rfl, hI⟩, fun n env1 L1 h1 ⟨g, e1, e2, hI⟩ => by
    subst e1 e2
    have := step n g h1 hI
    have key : (fun (e : Ex) (env' : Env) (L' : Loc) (h'' : Heap) => match e with
      | .normal => ∃ m g', m < n ∧ Wk env' L' (setE (hav env ws) (vs g')) (lv g') ∧ I m g' h''
      | e => K e env' L' h'') = (fun e env' L' h' => match e with
      | .normal => ∃ m env1 L1, m < n ∧ Wk env' L' env1 L1 ∧ ∃ g, env1 = setE (hav env ws) (vs g) ∧ L1 = lv g ∧ I m g h'
      | e => K e env' L' h') := by
      funext e env' L' h''
      cases e with
      | normal =>
        apply propext
        constructor
        · rintro ⟨m, g', h1, h2, h3⟩; exact ⟨m, _, _, h1, h2, g', rfl, rfl, h3⟩
        · rintro ⟨m, _, _, h1, h2, g', rfl, rfl, h3⟩; exact ⟨m, g', h1, h2, h3⟩
      | exit j => rfl
      | ret => rfl
    rw [key] at this
    exact this⟩

/-! What stays. -/

/-- All blocks but some are as they were. -/
def Kp (bs : List Nat) (h h' : Heap) : Prop := ∀ b o, h b = some o → b ∉ bs → h' b = some o
theorem Kp.refl (bs : List Nat) (h : Heap) : Kp bs h h := fun _ _ x _ => x
theorem Kp.trans {bs : List Nat} {a b c : Heap} (x : Kp bs a b) (y : Kp bs b c) : Kp bs a c := fun k o q hk => y k o (x k o q hk) hk
theorem Le.kp {h h' : Heap} (x : Le h h') (bs : List Nat) : Kp bs h h' := fun b o q _ => x b o q
theorem Kp.set {bs : List Nat} {h : Heap} {n : Nat} {o : Obj} (hn : n ∈ bs) : Kp bs h (hset h n o) := fun b q hb hk => by
  rw [hset_ne (fun e => hk (by rw [e]; exact hn))]; exact hb
theorem Kp.sub {bs bs' : List Nat} {h h' : Heap} (x : Kp bs h h') (hs : ∀ b ∈ bs, b ∈ bs') : Kp bs' h h' := fun b o q hk => x b o q (fun e => hk (hs b e))
/-- What was made since does not count. -/
theorem Le.kpNew {h h1 h2 : Heap} {bs : List Nat} (x : Le h h1) (hn : ∀ b ∈ bs, h b = none) (y : Kp bs h1 h2) : Le h h2 := fun b o q => y b o (x b o q) (fun e => by rw [hn b e] at q; cases q)
theorem Le.none {h h' : Heap} (x : Le h h') {b : Nat} (q : h' b = none) : h b = none := by
  cases hb : h b with
  | none => rfl
  | some o => rw [x b o hb] at q; cases q

theorem rows_nil {α : Type} {s : Sh α} {h : Heap} {c : List Value} : Rows s h c 0 [] := ⟨by simp, fun i x hx => by simp at hx⟩

/-- 'make' of a slice: its block, nothing in it yet. -/
theorem make_own {α : Type} {e : Nat} {s : Sh α} {h : Heap} {l : Nat} {A : Ar} [ArOk A] {bytes : Nat} {z : List Value} {k : Value → Heap → Prop} (hz : z.length = s.n) (hl : l ≤ 2 ^ 40) (hb : bytes ≤ 128)
    (hk : ∀ nb h', h nb = none → Le h h' → Own e s h' nb l [] → k (.slice (some ⟨nb, 0, none⟩) l l) h') :
    MakeX h e (A .nat l) (A .nat l) bytes z k := by
  have h40 : (2 : Nat) ^ 40 = 1099511627776 := rfl
  have h48 : (2 : Int) ^ 48 = 281474976710656 := rfl
  rw [ArOk.nat (A := A)]
  refine ⟨by simp only [Int.ofNat_eq_natCast]; omega, ⟨by rw [h48]; simp only [Int.ofNat_eq_natCast]; omega, ?_⟩, fun nb h' e1 e2 => ?_⟩
  · rw [h48]
    simp only [Int.ofNat_eq_natCast]
    have : bytes * l ≤ 128 * l := Nat.mul_le_mul_right _ hb
    have h2 : ((bytes * l : Nat) : Int) ≤ ((128 * l : Nat) : Int) := Int.ofNat_le.2 this
    simp only [Int.natCast_mul] at h2
    omega
  · simp only [Int.ofNat_eq_natCast, Int.toNat_natCast] at e2 ⊢
    refine hk nb h' e1 (by rw [e2]; exact Le.set e1) ⟨⟨zeros l z, by rw [e2, hset_self], rows_nil, ?_⟩, by simp, by simp⟩
    rw [zeros_length, hz]

theorem setN_get : ∀ (vs : List Value) (c : List Value) (o j : Nat), o + vs.length ≤ c.length → (setN c o vs)[j]? = if o ≤ j ∧ j < o + vs.length then vs[j - o]? else c[j]?
  | [], c, o, j, _ => by simp [setN]; omega
  | v :: r, c, o, j, hl => by
    simp only [List.length_cons] at hl
    unfold setN
    rw [setN_get r (c.set o v) (o + 1) j (by simp; omega)]
    by_cases h1 : o + 1 ≤ j ∧ j < o + 1 + r.length
    · rw [if_pos h1, if_pos ⟨by omega, by simp; omega⟩]
      rw [show j - o = (j - (o + 1)) + 1 by omega]
      simp
    · rw [if_neg h1]
      by_cases h2 : o = j
      · subst h2
        rw [if_pos ⟨Nat.le_refl _, by simp⟩]
        simp [List.getElem?_set_self (show o < c.length by omega)]
      · rw [List.getElem?_set_ne h2, if_neg (by simp; omega)]

theorem setN_slice {vs c : List Value} {o n : Nat} (hl : o + vs.length ≤ c.length) (hn : n = vs.length) : ((setN c o vs).drop o).take n = vs := by
  subst hn
  apply List.ext_getElem?
  intro j
  rw [List.getElem?_take]
  split
  · rename_i hj
    rw [List.getElem?_drop, setN_get vs c o _ hl, if_pos ⟨by omega, by omega⟩]
    congr 1; omega
  · rename_i hj
    rw [List.getElem?_eq_none (by omega)]
theorem setN_other {vs c : List Value} {o p n : Nat} (hl : o + vs.length ≤ c.length) (hd : p + n ≤ o ∨ o + vs.length ≤ p) : ((setN c o vs).drop p).take n = (c.drop p).take n := by
  apply List.ext_getElem?
  intro j
  rw [List.getElem?_take, List.getElem?_take]
  split
  · rename_i hj
    rw [List.getElem?_drop, List.getElem?_drop, setN_get vs c o _ hl, if_neg (by omega)]
  · rfl

/-- An element of an own block is written: in its place, or next to the last one. -/
theorem Own.store {α : Type} {A : Ar} [ArOk A] {e : Nat} {s : Sh α} {h : Heap} {nb cap : Nat} {xs : List α} (o : Own e s h nb cap xs) (he : e ∉ s.tys) {i : Nat} (hi : i ≤ xs.length) (hc : i < cap) (hcap : cap ≤ 2 ^ 40) {n : Int} (hn : n = (i : Int)) {sz : Nat} (hsz : sz = s.n)
    {cs : List Value} {x : α} (hx : s.R h cs x) {k : Heap → Prop}
    (hk : ∀ h', Kp [nb] h h' → (∀ tys, e ∉ tys → LeT tys h h') → Own e s h' nb cap (if i < xs.length then xs.set i x else xs ++ [x]) → k h') : StX h (A.elt (some ⟨nb, 0, none⟩) n sz) cs k := by
  subst hn hsz
  obtain ⟨c, h1, h2, h3⟩ := o.out
  have hlen := s.len hx
  have hle := o.le
  have hb1 : i * s.n + s.n ≤ c.length := by
    rw [h3, ← Nat.succ_mul]
    exact Nat.mul_le_mul_right _ hc
  rw [A.elt_eq]
  simp only [elt, Option.getD_some, Int.toNat_natCast, add_none, Nat.zero_add]
  refine ⟨c.toArray, e, (0, 0), rfl, h1, by simp; omega, by simp, fun h' eh => ?_⟩
  have ht : ∀ tys, e ∉ tys → LeT tys h h' := fun tys hne => by rw [eh]; exact LeT.set h1 hne
  refine hk h' (by rw [eh]; exact Kp.set (by simp)) ht ⟨⟨setN c (i * s.n) cs, by rw [eh]; simp [hset_self], ?_, by rw [setN_length, h3]⟩, ?_, ?_⟩
  · have hm := ht s.tys he
    have hin : ∀ j y, (if i < xs.length then xs.set i x else xs ++ [x])[j]? = some y → (j = i ∧ y = x) ∨ (j ≠ i ∧ xs[j]? = some y) := fun j y hj => by
      split at hj
      · rename_i hlt
        by_cases hji : j = i
        · subst hji
          rw [List.getElem?_set_self hlt] at hj
          exact .inl ⟨rfl, (Option.some.inj hj).symm⟩
        · rw [List.getElem?_set_ne (Ne.symm hji)] at hj
          exact .inr ⟨hji, hj⟩
      · rename_i hge
        have : i = xs.length := by omega
        by_cases hji : j = i
        · subst hji
          rw [List.getElem?_append_right (by omega), this] at hj
          simp at hj
          exact .inl ⟨rfl, hj.symm⟩
        · rw [List.getElem?_append] at hj
          split at hj
          · exact .inr ⟨hji, hj⟩
          · rename_i hjl
            rw [List.getElem?_singleton] at hj
            split at hj
            · omega
            · cases hj
    refine ⟨?_, fun j y hj => ?_⟩
    · rw [setN_length, h3]
      simp only [Nat.zero_add]
      refine Nat.mul_le_mul_right _ ?_
      split
      · simp; exact hle
      · simp; omega
    · simp only [Nat.zero_add]
      rcases hin j y hj with ⟨rfl, rfl⟩ | ⟨hne, hjx⟩
      · rw [setN_slice (by omega) hlen.symm]
        exact s.mono hm hx
      · have hjl : j < xs.length := (List.getElem?_eq_some_iff.1 hjx).1
        rw [setN_other (by omega)]
        · have := h2.2 j y hjx
          simp only [Nat.zero_add] at this
          exact s.mono hm this
        · rcases Nat.lt_or_ge j i with hlt | hge
          · left
            rw [← Nat.succ_mul]
            exact Nat.mul_le_mul_right _ hlt
          · right
            rw [hlen, ← Nat.succ_mul]
            exact Nat.mul_le_mul_right _ (by omega)
  · split
    · simp; exact hle
    · simp; omega
  · split
    · simp; exact o.bd
    · simp; omega

theorem Sl.form {α : Type} {e : Nat} {s : Sh α} {h : Heap} {v : Value} {xs : List α} (q : Sl e s h v xs) : ∃ b l c, v = .slice b l c := by
  obtain ⟨b, cap, h1, -⟩ := q.out
  exact ⟨b, _, cap, h1⟩

structure IsN (z : Int) (i : Nat) : Prop where
  eq : z = (i : Int)

theorem IsN.ix {z : Int} {i len : Nat} (hz : IsN z i) (h : i < len) : 0 ≤ z ∧ z < (len : Int) := by have := hz.eq; omega
theorem IsN.lt {A : Ar} [hA : ArOk A] {z : Int} {i len : Nat} (hz : IsN z i) (hc : A .icm .lss z (A .nat len) = true) : i < len := by
  have := hz.eq
  simp only [hA.nat, hA.icm, icm, decide_eq_true_eq, Int.ofNat_eq_natCast] at hc
  omega
theorem IsN.ge {A : Ar} [hA : ArOk A] {z : Int} {i len : Nat} (hz : IsN z i) (hc : A .icm .lss z (A .nat len) = false) : len ≤ i := by
  have := hz.eq
  simp only [hA.nat, hA.icm, icm, decide_eq_false_iff_not, Int.ofNat_eq_natCast] at hc
  omega
theorem IsN.succ {A : Ar} [hA : ArOk A] {z : Int} {i : Nat} (hz : IsN z i) (hi : i < 2 ^ 62) : IsN (A .ari .add .i64 z 1) (i + 1) := by
  constructor
  have := hz.eq
  rw [hA.ari]; simp only [ari]
  rw [IntWalk.i64_in _ (by omega)]
  omega

theorem get_ex {α : Type} {xs : List α} {i : Nat} (h : i < xs.length) : ∃ x, xs[i]? = some x := ⟨xs[i], by simp [h]⟩

end Go.Sx

namespace Go.Sx
variable {P : Program}

/-! Functions without a body. -/

theorem SemX.ext {f : FuncId} {args : List Value} {h : Heap} {k : Value → Heap → Prop}
    (hr : ∀ w, Agr h w → ∃ v w' h', (callFunc f args.toArray).run P w = .ok (.value v) w' ∧ k v h' ∧ After h w h' w') : SemX (fun _ => P) (fun _ => extS f args) h k :=
  ⟨fun w hw => by
    obtain ⟨v, w', h', h1, h2, h3⟩ := hr w hw
    refine ⟨v, w', h', ?_, h2, h3⟩
    simp only [extS]
    rw [Sem.run_bind, h1]
    rfl⟩

structure ExtOk (P : Program) (f : FuncId) (fn : Func) : Prop where
  hf : P.funcs[f]? = some fn
  hname : (fn.name == "runtime.NumGoroutine") = false
  hb : fn.body.isNone = true
  hn : Extern.findNext fn = none

/-- A cell of the heap, in a block that is not frozen. -/
structure Cel (h : Heap) (a : Addr) (v : Value) : Prop where
  out : a.spot = none ∧ ∃ c e, h a.block = some (.cells c e (0, 0)) ∧ c[a.off]? = some v

theorem Cel.cell {h : Heap} {a : Addr} {v : Value} (c : Cel h a v) {w : World} (hw : Agr h w) : w.cell? a = some v ∧ w.frozen? a = false := by
  obtain ⟨h1, c, e, h2, h3⟩ := c.out
  have h2 := hw _ _ h2
  constructor
  · simp [World.cell?, h2, h1, h3]
  · simp [World.frozen?, h2]

theorem Cel.set {h : Heap} {a : Addr} {v : Value} (q : Cel h a v) (x : Value) {k : Heap → Prop} (hk : ∀ c e h', h a.block = some (.cells c e (0, 0)) → h' = hset h a.block (.cells (c.setIfInBounds a.off x) e (0, 0)) → k h') {w : World} (hw : Agr h w) :
    ∃ h', k h' ∧ After h w h' (w.setCell a x) := by
  obtain ⟨h1, c, e, h2, h3⟩ := q.out
  refine ⟨_, hk c e _ h2 rfl, ?_⟩
  refine After.set hw h2 ?_ ?_ ?_ ?_
  · simp [World.setCell, Array.getElem?_modify, hw _ _ h2, h1]
  · intro b hb
    simp [World.setCell, Array.getElem?_modify, Ne.symm hb]
  · simp [World.setCell]
  · exact ⟨rfl, rfl, rfl⟩

theorem ext_mark0 {f : FuncId} {fn : Func} (ok : ExtOk P f fn) (m : Mark) (he : Extern.find fn = some (fun _ => do mark m; pure Extern.Race.none_)) {h : Heap} {k : Value → Heap → Prop} (hk : k (.tuple #[]) h) :
    SemX (fun _ => P) (fun _ => extS f []) h k :=
  SemX.ext fun w hw => ⟨_, w, h, run_call_mark0 ok.hf ok.hname ok.hb ok.hn m he w, hk, After.refl hw⟩
theorem ext_marked {f : FuncId} {fn : Func} (ok : ExtOk P f fn) (m : Addr → Mark) (he : Extern.find fn = some (Extern.Race.marked m)) {a : Addr} {h : Heap} {k : Value → Heap → Prop} (hk : k (.tuple #[]) h) :
    SemX (fun _ => P) (fun _ => extS f [.pointer (some a)]) h k :=
  SemX.ext fun w hw => ⟨_, w, h, run_call_marked ok.hf ok.hname ok.hb ok.hn m he a w, hk, After.refl hw⟩
theorem ext_load {f : FuncId} {fn : Func} (ok : ExtOk P f fn) {j : IntKind} (he : Extern.find fn = some (Extern.Atomic.loadT (.int j))) {a : Addr} {h : Heap} {x : Int} (hc : Cel h a (.int j x)) {k : Value → Heap → Prop} (hk : k (.int j x) h) :
    SemX (fun _ => P) (fun _ => extS f [.pointer (some a)]) h k :=
  SemX.ext fun w hw => ⟨_, w, h, run_call_load ok.hf ok.hname ok.hb ok.hn j he (hc.cell hw).1, hk, After.refl hw⟩
theorem ext_cas {f : FuncId} {fn : Func} (ok : ExtOk P f fn) {j : IntKind} (he : Extern.find fn = some (Extern.Atomic.casT (.int j))) {a : Addr} {h : Heap} {x y : Int} (hc : Cel h a (.int j x)) {k : Value → Heap → Prop}
    (hk : ∀ c e h', h a.block = some (.cells c e (0, 0)) → h' = hset h a.block (.cells (c.setIfInBounds a.off (.int j y)) e (0, 0)) → k (.bool true) h') :
    SemX (fun _ => P) (fun _ => extS f [.pointer (some a), .int j x, .int j y]) h k :=
  SemX.ext fun w hw => by
    obtain ⟨h', h1, h2⟩ := hc.set (.int j y) (k := k (.bool true)) hk hw
    exact ⟨_, _, h', run_call_cas_hit ok.hf ok.hname ok.hb ok.hn j he (hc.cell hw).1 (hc.cell hw).2, h1, h2⟩
theorem ext_store {f : FuncId} {fn : Func} (ok : ExtOk P f fn) (he : Extern.find fn = some Extern.Atomic.storeT) {a : Addr} {h : Heap} {v : Value} {j : IntKind} {y : Int} (hc : Cel h a v) {k : Value → Heap → Prop}
    (hk : ∀ c e h', h a.block = some (.cells c e (0, 0)) → h' = hset h a.block (.cells (c.setIfInBounds a.off (.int j y)) e (0, 0)) → k (.tuple #[]) h') :
    SemX (fun _ => P) (fun _ => extS f [.pointer (some a), .int j y]) h k :=
  SemX.ext fun w hw => by
    obtain ⟨h', h1, h2⟩ := hc.set (.int j y) (k := k (.tuple #[])) hk hw
    exact ⟨_, _, h', run_call_store ok.hf ok.hname ok.hb ok.hn he (hc.cell hw).1 (hc.cell hw).2, h1, h2⟩
theorem ext_add {f : FuncId} {fn : Func} (ok : ExtOk P f fn) {j : IntKind} (he : Extern.find fn = some (Extern.Atomic.update (Op.intArith .add) j true)) {a : Addr} {h : Heap} {x y : Int} (hc : Cel h a (.int j x)) {k : Value → Heap → Prop}
    (hk : ∀ c e h', h a.block = some (.cells c e (0, 0)) → h' = hset h a.block (.cells (c.setIfInBounds a.off (.int j (j.wrap (x + y)))) e (0, 0)) → k (.int j (j.wrap (x + y))) h') :
    SemX (fun _ => P) (fun _ => extS f [.pointer (some a), .int j y]) h k :=
  SemX.ext fun w hw => by
    obtain ⟨h', h1, h2⟩ := hc.set (.int j (j.wrap (x + y))) (k := k (.int j (j.wrap (x + y)))) hk hw
    exact ⟨_, _, h', run_call_add ok.hf ok.hname ok.hb ok.hn j he (hc.cell hw).1 (hc.cell hw).2 (by simp [Op.intArith]), h1, h2⟩
theorem ext_cmp {f : FuncId} {fn : Func} (ok : ExtOk P f fn) (he : Extern.find fn = some Extern.BytealgCompare.compare) {a b : ByteArray} {h : Heap} {k : Value → Heap → Prop}
    (hk : k (.int .i64 (Lib.compareBytes a.data.toList b.data.toList)) h) : SemX (fun _ => P) (fun _ => extS f [.string a, .string b]) h k :=
  SemX.ext fun w hw => by
    refine ⟨_, w, h, ?_, hk, After.refl hw⟩
    rw [run_callFunc_extern ok.hf ok.hname ok.hb ok.hn he]
    rw [show [Value.string a, Value.string b].toArray = #[.string a, .string b] from rfl, Lib.run_compareString]
    rfl
theorem sem_unsafe {src dst t : TypeId} (hs : P.underlying src = some (.pointer t)) (hd : P.underlying dst = some .unsafePointer) (hsz : (P.info? t).map (fun i => decide (i.size = 0)) = some false)
    {a : Addr} {v : Value} {h : Heap} (hc : Cel h a v) {k : Value → Heap → Prop} (hk : k (.pointer (some a)) h) : SemX (fun _ => P) (fun _ => Go.convert src dst (.pointer (some a))) h k :=
  ⟨fun w hw => ⟨_, w, h, run_convert_to_unsafe hs hd hsz (hc.cell hw).1, hk, After.refl hw⟩⟩

end Go.Sx
namespace Go.Sx
/-! Numbers. -/
theorem IsN.mid {A : Ar} [hA : ArOk A] {z w : Int} {i j : Nat} (hz : IsN z i) (hw : IsN w j) (hi : i < 2 ^ 61) (hj : j < 2 ^ 61) :
    IsN (A .conv .i64 (A .ari .shr .u64 (A .conv .u64 (A .ari .add .i64 z w)) 1)) ((i + j) / 2) := by
  constructor
  have h1 := hz.eq
  have h2 := hw.eq
  simp only [hA.conv, hA.ari, ari]
  rw [IntWalk.i64_in (z + w) (by omega)]
  have e1 : IntKind.u64.wrap (z + w) = ((i + j : Nat) : Int) := by
    have : z + w = ((i + j : Nat) : Int) := by omega
    rw [this]
    simp only [IntKind.wrap, IntKind.bits]
    simp
    omega
  rw [e1]
  have e2 : (2 : Int) ^ (min (1 : Int).toNat IntKind.u64.bits) = 2 := by decide
  rw [e2, Int.fdiv_eq_ediv_of_nonneg _ (by omega)]
  rw [IntWalk.i64_in _ (by omega)]
  omega
theorem IsN.lt2 {A : Ar} [hA : ArOk A] {z w : Int} {i j : Nat} (hz : IsN z i) (hw : IsN w j) : A .icm .lss z w = decide (i < j) := by
  have h1 := hz.eq
  have h2 := hw.eq
  simp only [hA.icm, icm]
  rw [decide_eq_decide]
  omega

/-! Binary search, as it goes. -/
def bsAt (l : List Int) (i j : Nat) : Nat :=
  if i < j then
    if l.getD ((i + j) / 2) 0 < 0 then bsAt l ((i + j) / 2 + 1) j else bsAt l i ((i + j) / 2)
  else i
  termination_by j - i
  decreasing_by all_goals omega

theorem bsAt_le (l : List Int) (i j : Nat) (h : i ≤ j) : bsAt l i j ≤ j ∧ i ≤ bsAt l i j := by
  fun_induction bsAt l i j with
  | case1 i j h1 h2 ih => have := ih (by omega); omega
  | case2 i j h1 h2 ih => have := ih (by omega); omega
  | case3 i j h1 => omega

/-- Where the numbers are below nought up to a place, and not from there on, that is the place. -/
theorem bsAt_eq (l : List Int) (p : Nat) (hlt : ∀ k, k < p → l.getD k 0 < 0) (i j : Nat) (hge : ∀ k, p ≤ k → k < j → ¬ l.getD k 0 < 0) (hi : i ≤ p) (hj : p ≤ j) : bsAt l i j = p := by
  fun_induction bsAt l i j with
  | case1 i j h1 h2 ih =>
    refine ih hge ?_ hj
    rcases Nat.lt_or_ge ((i + j) / 2) p with h | h
    · omega
    · exact absurd h2 (hge _ h (by omega))
  | case2 i j h1 h2 ih =>
    refine ih (fun k h3 h4 => hge k h3 (by omega)) hi ?_
    rcases Nat.lt_or_ge ((i + j) / 2) p with h | h
    · exact absurd (hlt _ h) h2
    · omega
  | case3 i j h1 => omega
end Go.Sx
namespace Go.Sx
/-! Blocks whose cells are known. -/
theorem ldb {h : Heap} {b o n e : Nat} {c cs : List Value} {fr : Nat × Nat} {k : List Value → Prop} (g : h b = some (.cells (List.toArray c) e fr)) (hc : (c.drop o).take n = cs) (hn : cs.length = n) (hk : k cs) : LdX h ⟨b, o, none⟩ n k := by
  refine ⟨cs, ⟨rfl, hn, _, _, _, g, fun i hi => ?_⟩, hk⟩
  rw [← hc, List.getElem?_take, if_pos hi, List.getElem?_drop]
  simp
theorem stb {h : Heap} {b o e : Nat} {c cs : List Value} {k : Heap → Prop} (g : h b = some (.cells (List.toArray c) e (0, 0))) (hn : o + cs.length ≤ c.length) (hk : ∀ h', h' = hset h b (.cells (List.toArray (setN c o cs)) e (0, 0)) → k h') : StX h ⟨b, o, none⟩ cs k :=
  ⟨_, _, _, rfl, g, by simpa using hn, by simp, fun h' e => hk h' (by simpa using e)⟩
end Go.Sx

namespace Go.Sx
open Go.MapKept
variable {P : Program}

/-! Maps. -/

structure Mp (h : Heap) (m : Nat) (d : TypeDesc) (l : List (Value × Value)) : Prop where
  out : ∃ es clock, h m = some (.map es clock) ∧ es.toList.map (fun e => (e.key, e.val)) = l ∧ Stamped es clock ∧ ∀ x ∈ es.toList, IsKey d x.key

theorem Mp.new {h : Heap} {m : Nat} {d : TypeDesc} (g : h m = some (.map #[] 0)) : Mp h m d [] := ⟨#[], 0, g, rfl, stamped_empty 0, by simp⟩
theorem Mp.kp {h h' : Heap} {m : Nat} {d : TypeDesc} {l : List (Value × Value)} {bs : List Nat} (q : Mp h m d l) (hk : Kp bs h h') (hm : m ∉ bs) : Mp h' m d l := by
  obtain ⟨es, clock, g, h1, h2, h3⟩ := q.out
  exact ⟨es, clock, hk _ _ g hm, h1, h2, h3⟩

theorem LeT.mapSet {tys : List Nat} {h : Heap} {n : Nat} {es : Array MapEntry} {clock : Nat} {o : Obj} (hn : h n = some (.map es clock)) : LeT tys h (hset h n o) := fun b d e' fr' hm hb => by
  unfold hset
  split
  · rename_i q; rw [q, hn] at hb; cases hb
  · exact hb

theorem After.mapSet {h : Heap} {w : World} (hw : Agr h w) {n : Nat} {es : Array MapEntry} {clock : Nat} {o : Obj} (hn : h n = some (.map es clock)) : After h w (hset h n o) { w with heap := w.heap.setIfInBounds n o } := by
  have h1 := heap_set (o' := o) (hw _ _ hn)
  exact After.set hw hn h1.1 h1.2 (by simp) ⟨rfl, rfl, rfl⟩

theorem sem_put {mt kt et : TypeId} {d : TypeDesc} (hm : P.underlying mt = some (.map kt et)) (hd : P.underlying kt = some d) {h : Heap} {m : Nat} {l : List (Value × Value)} (q : Mp h m d l) {key v : Value} (hk : IsKey d key) (hnew : ∀ p ∈ l, p.1 ≠ key)
    {k : Value → Heap → Prop} (hK : ∀ h', Mp h' m d (l ++ [(key, v)]) → Kp [m] h h' → (∀ tys, LeT tys h h') → k undef h') :
    SemX (fun _ => P) (fun _ => do Instr.mapUpdate mt (.map (some m)) key v; pure undef) h k :=
  ⟨fun w hw => by
    obtain ⟨es, clock, g, h1, h2, h3⟩ := q.out
    have hb := hw _ _ g
    have hne : ∀ x ∈ es.toList, x.key ≠ key := fun x hx => by
      have : (x.key, x.val) ∈ l := by rw [← h1]; exact List.mem_map.2 ⟨x, hx, rfl⟩
      exact hnew _ this
    rcases findNow_spec hk es.toList 0 h3 with ⟨f1, _⟩ | ⟨j, e, f1, f2, f3⟩
    · refine ⟨undef, _, _, ?_, hK _ ⟨es.push { key := key, val := v, born := clock }, clock + 1, hset_self, ?_, stamped_push h2 hne, ?_⟩ (Kp.set (by simp)) (fun tys => LeT.mapSet g), After.mapSet hw g⟩
      · simp [Instr.mapUpdate, run_underlying hm, Go.MapKept.run_getObj_map hb, run_checkKey hd hk, run_findKey hd f1, Go.MapKept.run_setObj_map _ hb, Result.andThen]
      · simp [h1]
      · intro x hx
        simp only [Array.toList_push, List.mem_append, List.mem_singleton] at hx
        rcases hx with hx | rfl
        · exact h3 x hx
        · exact hk
    · exact absurd f3 (hne e (List.mem_of_getElem? f2))⟩

theorem sem_miss {mt kt et : TypeId} {d : TypeDesc} (hm : P.underlying mt = some (.map kt et)) (hd : P.underlying kt = some d) {z : Value} (hz : ∀ w, (zeroValue et).run P w = .ok z w) {h : Heap} {m : Nat} {l : List (Value × Value)} (q : Mp h m d l) {key : Value} (hk : IsKey d key) (hnew : ∀ p ∈ l, p.1 ≠ key)
    {k : Value → Heap → Prop} (hK : k z h) : SemX (fun _ => P) (fun _ => Instr.lookup mt (.map (some m)) key false) h k :=
  ⟨fun w hw => by
    obtain ⟨es, clock, g, h1, h2, h3⟩ := q.out
    have hb := hw _ _ g
    have hne : ∀ x ∈ es.toList, x.key ≠ key := fun x hx => by
      have : (x.key, x.val) ∈ l := by rw [← h1]; exact List.mem_map.2 ⟨x, hx, rfl⟩
      exact hnew _ this
    rcases findNow_spec hk es.toList 0 h3 with ⟨f1, _⟩ | ⟨j, e, f1, f2, f3⟩
    · refine ⟨z, w, h, ?_, hK, After.refl hw⟩
      simp [Instr.lookup, run_underlying hm, Go.MapKept.run_getObj_map hb, run_checkKey hd hk, run_findKey hd f1, hz, Result.andThen]
    · exact absurd f3 (hne e (List.mem_of_getElem? f2))⟩

theorem sem_hit {mt kt et : TypeId} {d : TypeDesc} (hm : P.underlying mt = some (.map kt et)) (hd : P.underlying kt = some d) {h : Heap} {m : Nat} {l : List (Value × Value)} (q : Mp h m d l) {key v : Value} (hk : IsKey d key) (hin : (key, v) ∈ l)
    {k : Value → Heap → Prop} (hK : k v h) : SemX (fun _ => P) (fun _ => Instr.lookup mt (.map (some m)) key false) h k :=
  ⟨fun w hw => by
    obtain ⟨es, clock, g, h1, h2, h3⟩ := q.out
    have hb := hw _ _ g
    rw [← h1] at hin
    obtain ⟨x, hx, he⟩ := List.mem_map.1 hin
    cases he
    rcases findNow_spec hk es.toList 0 h3 with ⟨f1, f2⟩ | ⟨j, e, f1, f2, f3⟩
    · exact absurd rfl (f2 x hx)
    · have hxe : e = x := by
        have hp := ((stamped_iff es clock).1 h2).2.2
        obtain ⟨i, hi⟩ := List.getElem?_of_mem hx
        rcases Nat.lt_trichotomy i j with hlt | rfl | hlt
        · exfalso
          have hj := (List.getElem?_eq_some_iff.1 f2)
          have hi' := (List.getElem?_eq_some_iff.1 hi)
          have := List.pairwise_iff_getElem.1 hp i j hi'.1 hj.1 hlt
          rw [hi'.2, hj.2] at this
          exact this f3.symm
        · rw [f2] at hi; exact Option.some.inj hi
        · exfalso
          have hj := (List.getElem?_eq_some_iff.1 f2)
          have hi' := (List.getElem?_eq_some_iff.1 hi)
          have := List.pairwise_iff_getElem.1 hp j i hj.1 hi'.1 hlt
          rw [hi'.2, hj.2] at this
          exact this f3
      subst hxe
      refine ⟨_, w, h, ?_, hK, After.refl hw⟩
      simp [Instr.lookup, run_underlying hm, Go.MapKept.run_getObj_map hb, run_checkKey hd hk, run_findKey hd f1, Result.andThen]⟩
end Go.Sx
namespace Go.Sx
theorem bytes_ext {a b : ByteArray} (h : a.toList = b.toList) : a = b := by
  rw [Go.ByteArray.toList_eq, Go.ByteArray.toList_eq] at h
  cases a; cases b
  simp only at h
  congr
  exact Array.toList_inj.1 h
theorem scm_eql (A : Ar) [hA : ArOk A] (a b : ByteArray) : A .scm .eql a b = decide (a = b) := by
  rw [hA.scm]
  simp only [scm]
  by_cases h : a = b
  · simp [h]
  · rw [decide_eq_false h]
    simp only [beq_eq_false_iff_ne, ne_eq]
    exact fun e => h (bytes_ext e)
theorem icm_eql (A : Ar) [hA : ArOk A] (a b : Int) : A .icm .eql a b = decide (a = b) := by
  rw [hA.icm]; simp only [icm]
  by_cases h : a = b
  · simp [h]
  · simp [h]
theorem icm_neq (A : Ar) [hA : ArOk A] (a b : Int) : A .icm .neq a b = decide (a ≠ b) := by
  rw [hA.icm]; simp only [icm]
  by_cases h : a = b
  · simp [h]
  · simp [h]
theorem icm_lss (A : Ar) [hA : ArOk A] (a b : Int) : A .icm .lss a b = decide (a < b) := by rw [hA.icm]; rfl
theorem icm_geq (A : Ar) [hA : ArOk A] (a b : Int) : A .icm .geq a b = decide (a ≥ b) := by rw [hA.icm]; rfl
theorem icm_gtr (A : Ar) [hA : ArOk A] (a b : Int) : A .icm .gtr a b = decide (a > b) := by rw [hA.icm]; rfl
/-- What 'slices.IndexFunc' gives. -/
structure IdxR {α : Type} (xs : List α) (p : α → Bool) (z : Int) : Prop where
  out : (z = -1 ∧ ∀ x ∈ xs, p x = false) ∨ ∃ i x, IsN z i ∧ xs[i]? = some x ∧ p x = true ∧ ∀ j, j < i → ∀ y, xs[j]? = some y → p y = false
end Go.Sx
namespace Go.Sx
theorem key_in (A : Ar) [hA : ArOk A] {key : Int} {n : Nat} (e1 : A .icm .lss key 0 = false) (e2 : A .icm .geq key (A .nat n) = false) : IsN key key.toNat ∧ key.toNat < n := by
  rw [icm_lss A] at e1
  rw [icm_geq A, hA.nat] at e2
  have g1 := of_decide_eq_false e1
  have g2 := of_decide_eq_false e2
  simp only [Int.ofNat_eq_natCast] at g2
  exact ⟨⟨by omega⟩, by omega⟩

/-- A part of an element is read. -/
theorem Sl.loadF {α : Type} {A : Ar} [ArOk A] {e : Nat} {s : Sh α} {h : Heap} {b : Option Addr} {len cap : Nat} {xs : List α} (q : Sl e s h (.slice b len cap) xs) {i : Nat} {x : α} (hx : xs[i]? = some x) {n : Int} (hn : n = (i : Int)) {o m : Nat} (ho : o + m ≤ s.n)
    {k : List Value → Prop} (hk : ∀ cs, s.R h cs x → k ((cs.drop o).take m)) : LdX h (A .off (A .elt b n s.n) o) m k := by
  obtain ⟨b', cap', h1, h2, h3, h4⟩ := q.out
  cases h1
  rcases h4 with rfl | ⟨blk, off, c, fr, rfl, g2, g3⟩
  · simp at hx
  · subst hn
    have hr := rdc_of_rows g2 g3 hx
    have hR := g3.2 i x hx
    refine ⟨_, ?_, hk _ hR⟩
    rw [ArOk.elt (A := A), ArOk.off (A := A)]
    simp only [elt, Option.getD_some, Int.toNat_natCast, add_none]
    obtain ⟨-, hl, c', e', fr', g', hc'⟩ := hr
    refine ⟨rfl, by rw [List.length_take, List.length_drop, hl]; omega, c', e', fr', g', fun j hj => ?_⟩
    have := hc' (o + j) (by omega)
    simp only at this ⊢
    rw [List.getElem?_take, if_pos hj, List.getElem?_drop, ← this]
    congr 1
    omega
end Go.Sx

namespace Go.Sx

/-! Elements that are written into a block of its own, appended, copied. -/

/-- The cells of some elements. -/
theorem Rows.at {α : Type} {s : Sh α} {h : Heap} {cs : List Value} {ys : List α} (r : Rows s h cs 0 ys) {j : Nat} {y : α} (hj : ys[j]? = some y) : s.R h ((cs.drop (j * s.n)).take s.n) y := by
  have := r.2 j y hj
  simpa using this

theorem Own.write {α : Type} {e : Nat} {s : Sh α} {h : Heap} {nb cap : Nat} {xs ys : List α} (o : Own e s h nb cap xs) (he : e ∉ s.tys) {i : Nat} (hi : i ≤ xs.length) (hc : i + ys.length ≤ cap) (hb : i + ys.length ≤ 2 ^ 40)
    {cs : List Value} (hl : cs.length = ys.length * s.n) (hr : Rows s h cs 0 ys) {k : Heap → Prop}
    (hk : ∀ h', Kp [nb] h h' → (∀ tys, e ∉ tys → LeT tys h h') → Own e s h' nb cap (xs.take i ++ ys ++ xs.drop (i + ys.length)) → k h') : StX h ⟨nb, i * s.n, none⟩ cs k := by
  obtain ⟨c, h1, h2, h3⟩ := o.out
  have hle := o.le
  have hbd := o.bd
  have hb1 : i * s.n + cs.length ≤ c.length := by
    rw [h3, hl, ← Nat.add_mul]
    exact Nat.mul_le_mul_right _ hc
  refine ⟨c.toArray, e, (0, 0), rfl, h1, by simpa using hb1, by simp, fun h' eh => ?_⟩
  have ht : ∀ tys, e ∉ tys → LeT tys h h' := fun tys hne => by rw [eh]; exact LeT.set h1 hne
  have hm := ht s.tys he
  have hlen : (xs.take i ++ ys ++ xs.drop (i + ys.length)).length = max xs.length (i + ys.length) := by
    simp only [List.length_append, List.length_take, List.length_drop]; omega
  refine hk h' (by rw [eh]; exact Kp.set (by simp)) ht ⟨⟨setN c (i * s.n) cs, by rw [eh]; simp [hset_self], ⟨?_, fun j y hj => ?_⟩, by rw [setN_length, h3]⟩, by rw [hlen]; omega, by rw [hlen]; omega⟩
  · rw [setN_length, h3, hlen]
    simp only [Nat.zero_add]
    exact Nat.mul_le_mul_right _ (by omega)
  · simp only [Nat.zero_add]
    have e1 : ∀ a b : Nat, a < b → a * s.n + s.n ≤ b * s.n := fun a b hab => by rw [← Nat.succ_mul]; exact Nat.mul_le_mul_right _ hab
    have old : ∀ y, xs[j]? = some y → (j < i ∨ i + ys.length ≤ j) → s.R h' (((setN c (i * s.n) cs).drop (j * s.n)).take s.n) y := fun y hy hd => by
      rw [setN_other hb1]
      · have := h2.2 j y hy
        simp only [Nat.zero_add] at this
        exact s.mono hm this
      · rcases hd with hd | hd
        · exact .inl (e1 j i hd)
        · right
          rw [hl, ← Nat.add_mul]
          exact Nat.mul_le_mul_right _ hd
    rw [List.getElem?_append] at hj
    split at hj
    · rename_i hjl
      rw [List.getElem?_append] at hj
      split at hj
      · rename_i hji
        simp only [List.length_take] at hji
        rw [List.getElem?_take, if_pos (by omega)] at hj
        exact old y hj (.inl (by omega))
      · rename_i hji
        simp only [List.length_take, List.length_append] at hji hjl
        rw [List.length_take, Nat.min_eq_left hi] at hj
        have hR := hr.at hj
        have hjy : j - i < ys.length := (List.getElem?_eq_some_iff.1 hj).1
        have : ((setN c (i * s.n) cs).drop (j * s.n)).take s.n = (cs.drop ((j - i) * s.n)).take s.n := by
          apply List.ext_getElem?
          intro m
          rw [List.getElem?_take, List.getElem?_take]
          split
          · rename_i hm'
            have e2 := e1 (j - i) ys.length hjy
            have e3 : j * s.n = i * s.n + (j - i) * s.n := by rw [← Nat.add_mul]; congr 1; omega
            rw [List.getElem?_drop, List.getElem?_drop, setN_get cs c _ _ hb1, if_pos (by omega)]
            congr 1; omega
          · rfl
        rw [this]
        exact s.mono hm hR
    · rename_i hjl
      simp only [List.length_append, List.length_take, Nat.min_eq_left hi] at hjl hj
      rw [List.getElem?_drop] at hj
      have : i + ys.length + (j - (i + ys.length)) = j := by omega
      rw [this] at hj
      exact old y hj (.inr (by omega))

theorem Own.shrink {α : Type} {e : Nat} {s : Sh α} {h : Heap} {nb cap : Nat} {xs : List α} (o : Own e s h nb cap xs) (k : Nat) : Own e s h nb cap (xs.take k) := by
  obtain ⟨c, h1, h2, h3⟩ := o.out
  have hle := o.le
  have hbd := o.bd
  refine ⟨⟨c, h1, ⟨?_, fun i x hx => ?_⟩, h3⟩, by rw [List.length_take]; omega, by rw [List.length_take]; omega⟩
  · have := h2.1
    refine Nat.le_trans ?_ this
    exact Nat.add_le_add_left (Nat.mul_le_mul_right _ (by rw [List.length_take]; omega)) _
  · rw [List.getElem?_take] at hx
    split at hx
    · exact h2.2 i x hx
    · cases hx

/-- Cells behind the last element are written. -/
theorem Own.scratch {α : Type} {e : Nat} {s : Sh α} {h : Heap} {nb cap : Nat} {xs : List α} (o : Own e s h nb cap xs) (he : e ∉ s.tys) {p : Nat} {cs : List Value} (hp : xs.length * s.n ≤ p) (hc : p + cs.length ≤ cap * s.n) {k : Heap → Prop}
    (hk : ∀ h', Kp [nb] h h' → (∀ tys, e ∉ tys → LeT tys h h') → Own e s h' nb cap xs → k h') : StX h ⟨nb, p, none⟩ cs k := by
  obtain ⟨c, h1, h2, h3⟩ := o.out
  refine ⟨c.toArray, e, (0, 0), rfl, h1, by simp; omega, by simp, fun h' eh => ?_⟩
  have ht : ∀ tys, e ∉ tys → LeT tys h h' := fun tys hne => by rw [eh]; exact LeT.set h1 hne
  refine hk h' (by rw [eh]; exact Kp.set (by simp)) ht ⟨⟨setN c p cs, by rw [eh]; simp [hset_self], ⟨by rw [setN_length]; exact h2.1, fun j y hj => ?_⟩, by rw [setN_length, h3]⟩, o.le, o.bd⟩
  have hjl : j < xs.length := (List.getElem?_eq_some_iff.1 hj).1
  have : j * s.n + s.n ≤ xs.length * s.n := by rw [← Nat.succ_mul]; exact Nat.mul_le_mul_right _ hjl
  simp only [Nat.zero_add]
  rw [setN_other (by omega) (.inl (by omega))]
  have := h2.2 j y hj
  simp only [Nat.zero_add] at this
  exact s.mono (ht s.tys he) this

/-- An append that outgrows: the block is a new one; of what was appended the elements 'ys' are known. -/
theorem grow_own {α : Type} {e : Nat} {s : Sh α} {h : Heap} {b : Option Addr} {len cap n : Nat} {xs ys : List α} (q : Sl e s h (.slice b len cap) xs) (hg : cap < len + n) {size bytes : Nat} (hsz : size = s.n) (hby : bytes ≤ 128) (hn : len + n ≤ 2 ^ 39)
    {new : List Value} (h1 : ones new = true) (hl : new.length = n * s.n) (hys : ys.length ≤ n) (hr : ∀ h', Le h h' → Rows s h' new 0 ys)
    {k : Value → Heap → Prop} (hk : ∀ nb c h', h nb = none → Le h h' → len + n ≤ c → Own e s h' nb c (xs ++ ys) → k (.slice (some ⟨nb, 0, none⟩) (len + n) c) h') :
    AppX h b len cap n size bytes e new k := by
  subst hsz
  obtain ⟨cs, c1, c2, c3, c4⟩ := q.allCells
  have hlen := q.len
  have h39 : (2 : Nat) ^ 39 = 549755813888 := rfl
  have h40 : (2 : Nat) ^ 40 = 1099511627776 := rfl
  have h48 : (2 : Nat) ^ 48 = 281474976710656 := rfl
  refine ⟨h1, fun hf => by omega, fun _ => ⟨?_, by omega, cs, c1, fun nb c h' rest e1 e2 e3 e4 => ?_⟩⟩
  · have : 2 * (len + n) * bytes ≤ 2 * (len + n) * 128 := Nat.mul_le_mul_left _ hby
    omega
  · have hle : Le h h' := by rw [e4]; exact Le.set e1
    refine hk nb c h' e1 hle e2 ⟨⟨cs ++ new ++ rest, by rw [e4, hset_self], ?_, ?_⟩, by rw [List.length_append]; omega, by rw [List.length_append]; omega⟩
    · have hx := c4 h' (hle.t _) [] (new ++ rest)
      have hy := hr h' hle
      refine ⟨?_, fun j y hj => ?_⟩
      · simp only [List.length_append, c2, hl, hlen, Nat.zero_add]
        rw [← Nat.add_mul]
        have : (xs.length + ys.length) * s.n ≤ (xs.length + n) * s.n := Nat.mul_le_mul_right _ (by omega)
        omega
      · rw [List.getElem?_append] at hj
        split at hj
        · have := hx.2 j y hj
          simpa using this
        · rename_i hge
          have hR := hy.at hj
          have hjy : j - xs.length < ys.length := (List.getElem?_eq_some_iff.1 hj).1
          simp only [Nat.zero_add]
          have e5 : ((cs ++ new ++ rest).drop (j * s.n)).take s.n = (new.drop ((j - xs.length) * s.n)).take s.n := by
            apply List.ext_getElem?
            intro m
            rw [List.getElem?_take, List.getElem?_take]
            split
            · rename_i hm
              have e6 : (j - xs.length) * s.n + s.n ≤ n * s.n := by rw [← Nat.succ_mul]; exact Nat.mul_le_mul_right _ (by omega)
              have e7 : j * s.n = xs.length * s.n + (j - xs.length) * s.n := by rw [← Nat.add_mul]; congr 1; omega
              rw [List.getElem?_drop, List.getElem?_drop, List.append_assoc, List.getElem?_append_right (by rw [c2, hlen]; omega), List.getElem?_append_left (by rw [c2, hl, hlen]; omega)]
              congr 1
              rw [c2, hlen]; omega
            · rfl
          rw [e5]; exact hR
    · simp only [List.length_append, c2, hl, e3]
      rw [← Nat.add_mul, ← Nat.add_mul]
      congr 1; omega

end Go.Sx

namespace Go.Sx

theorem dif_nz {A : Ar} [hA : ArOk A] {z : Int} {i n : Nat} (hz : IsN z i) : A .dif (A .nat n) z = n - i := by
  have := hz.eq
  simp only [hA.dif, hA.nat, Int.ofNat_eq_natCast]; omega
theorem dif_z0 {A : Ar} [hA : ArOk A] {z : Int} {i : Nat} (hz : IsN z i) : A .dif z 0 = i := by
  have := hz.eq
  simp only [hA.dif]; omega
theorem dif_zz {A : Ar} [hA : ArOk A] {z w : Int} {i j : Nat} (hz : IsN z i) (hw : IsN w j) : A .dif z w = i - j := by
  have := hz.eq
  have := hw.eq
  simp only [hA.dif]; omega
theorem cut_own {A : Ar} [hA : ArOk A] {z : Int} {i c sz nb : Nat} (hz : IsN z i) (hi : i < c) : A .cut (some ⟨nb, 0, none⟩) z (A .nat c) sz = some ⟨nb, i * sz, none⟩ := by
  have := hz.eq
  simp only [hA.cut, hA.nat, Int.ofNat_eq_natCast]
  rw [if_neg (by omega)]
  simp [add_none, this]

theorem Rows.drop {α : Type} {s : Sh α} {h : Heap} {c : List Value} {off : Nat} {xs : List α} (r : Rows s h c off xs) {i : Nat} (hi : i ≤ xs.length) : Rows s h c (off + i * s.n) (xs.drop i) := by
  refine ⟨?_, fun j x hj => ?_⟩
  · have := r.1
    rw [List.length_drop]
    have : i * s.n + (xs.length - i) * s.n = xs.length * s.n := by rw [← Nat.add_mul]; congr 1; omega
    omega
  · rw [List.getElem?_drop] at hj
    have := r.2 _ x hj
    rw [Nat.add_mul] at this
    rw [Nat.add_assoc]; exact this
theorem Rows.take {α : Type} {s : Sh α} {h : Heap} {c : List Value} {off : Nat} {xs : List α} (r : Rows s h c off xs) (i : Nat) : Rows s h c off (xs.take i) := by
  refine ⟨?_, fun j x hj => ?_⟩
  · have := r.1
    refine Nat.le_trans (Nat.add_le_add_left (Nat.mul_le_mul_right _ ?_) _) this
    rw [List.length_take]; omega
  · rw [List.getElem?_take] at hj
    split at hj
    · exact r.2 _ x hj
    · cases hj

/-- 's[i:]'. -/
theorem Sl.dropX {α : Type} {A : Ar} [hA : ArOk A] {e : Nat} {s : Sh α} {h : Heap} {b : Option Addr} {n c : Nat} {xs : List α} (q : Sl e s h (.slice b n c) xs) {z : Int} {i : Nat} (hz : IsN z i) (hi : i ≤ n) {m : Nat} (hm : m = n - i) {c' : Nat} (hc : c' = c - i) :
    Sl e s h (.slice (A .cut b z (A .nat c) s.n) m c') (xs.drop i) := by
  obtain ⟨b', cap, h1, h2, h3, h4⟩ := q.out
  cases h1
  subst hm hc
  have hze := hz.eq
  refine ⟨_, _, by rw [List.length_drop], by rw [List.length_drop]; omega, by rw [List.length_drop]; omega, ?_⟩
  rcases h4 with rfl | ⟨blk, off, cc, fr, rfl, g2, g3⟩
  · simp
  · simp only [hA.cut, hA.nat, Int.ofNat_eq_natCast]
    by_cases hcc : (c : Int) = z
    · left
      have : i = xs.length := by omega
      rw [this]; simp
    · right
      rw [if_neg hcc]
      exact ⟨blk, off + i * s.n, cc, fr, by simp [add_none, hze], g2, g3.drop hi⟩
/-- 's[:i]'. -/
theorem Sl.takeX {α : Type} {A : Ar} [hA : ArOk A] {e : Nat} {s : Sh α} {h : Heap} {b : Option Addr} {n c : Nat} {xs : List α} (q : Sl e s h (.slice b n c) xs) {i : Nat} (hi : i ≤ n) :
    Sl e s h (.slice (A .cut b 0 (A .nat c) s.n) i c) (xs.take i) := by
  obtain ⟨b', cap, h1, h2, h3, h4⟩ := q.out
  cases h1
  have hl : (xs.take i).length = i := by rw [List.length_take]; omega
  refine ⟨_, _, by rw [hl], by rw [hl]; omega, by rw [hl]; omega, ?_⟩
  rcases h4 with rfl | ⟨blk, off, cc, fr, rfl, g2, g3⟩
  · simp
  · right
    refine ⟨blk, off, cc, fr, ?_, g2, g3.take i⟩
    simp only [hA.cut]
    split
    · rfl
    · simp [add_none]

/-- Elements are copied into an own block. -/
theorem copy_own {α : Type} {e : Nat} {s : Sh α} {h : Heap} {nb cap : Nat} {xs ys : List α} (o : Own e s h nb cap xs) (he : e ∉ s.tys) {i : Nat} (hi : i ≤ xs.length) {x : Option Addr} {n cx len : Nat} (q : Sl e s h (.slice x n cx) ys) (hn : n ≤ len) (hc : i + n ≤ cap) (hb : i + n ≤ 2 ^ 40) {size : Nat} (hsz : size = s.n)
    {k : Value → Heap → Prop} (hk : ∀ h', Kp [nb] h h' → (∀ tys, e ∉ tys → LeT tys h h') → Own e s h' nb cap (xs.take i ++ ys ++ xs.drop (i + n)) → k (.int .i64 ((min n len : Nat) : Int)) h') :
    CopyX h (some ⟨nb, i * s.n, none⟩) len x n size k := by
  subst hsz
  obtain ⟨cs, c1, c2, c3, c4⟩ := q.allCells
  have hlen := q.len
  have hmin : min n len = n := by omega
  refine ⟨cs, by rw [hmin]; exact c1, c3, .inr ⟨_, rfl, ?_⟩⟩
  refine o.write (ys := ys) he hi (by omega) (by omega) (by rw [c2, hlen]) ?_ (fun h' k1 k2 o' => hk h' k1 k2 (by rw [hlen]; exact o'))
  have := c4 h (LeT.refl _ _) [] []
  simpa using this

end Go.Sx
namespace Go.Sx
/-- 'append(s, v...)' that outgrows its block. -/
theorem appendX_own {α : Type} {e : Nat} {s : Sh α} {h : Heap} {b x : Option Addr} {len cap n cx : Nat} {xs ys : List α} (q : Sl e s h (.slice b len cap) xs) (qv : Sl e s h (.slice x n cx) ys) (hg : cap < len + n) {size bytes : Nat} (hsz : size = s.n) (hby : bytes ≤ 128) (hn : len + n ≤ 2 ^ 39)
    {k : Value → Heap → Prop} (hk : ∀ nb c h', h nb = none → Le h h' → len + n ≤ c → Own e s h' nb c (xs ++ ys) → k (.slice (some ⟨nb, 0, none⟩) (len + n) c) h') :
    AppendX h b len cap x n size bytes e k := by
  subst hsz
  obtain ⟨cs, c1, c2, c3, c4⟩ := qv.allCells
  refine ⟨cs, c1, grow_own q hg rfl hby hn c3 c2 (by rw [qv.len]; exact Nat.le_refl _) (fun h' hl => ?_) hk⟩
  have := c4 h' (hl.t _) [] []
  simpa using this
end Go.Sx
namespace Go.Sx
theorem IsN.add {A : Ar} [hA : ArOk A] {z w : Int} {i j : Nat} (hz : IsN z i) (hw : IsN w j) (hi : i + j < 2 ^ 62) : IsN (A .ari .add .i64 z w) (i + j) := by
  constructor
  have h1 := hz.eq
  have h2 := hw.eq
  rw [hA.ari]; simp only [ari]
  rw [IntWalk.i64_in _ (by omega)]
  omega
theorem IsN.sub {A : Ar} [hA : ArOk A] {z w : Int} {i j : Nat} (hz : IsN z i) (hw : IsN w j) (hi : i < 2 ^ 62) (hj : j ≤ i) : IsN (A .ari .sub .i64 z w) (i - j) := by
  constructor
  have h1 := hz.eq
  have h2 := hw.eq
  rw [hA.ari]; simp only [ari]
  rw [IntWalk.i64_in _ (by omega)]
  omega
theorem chk_make {w : Int} {m bytes : Nat} (hw : IsN w m) (hm : m ≤ 2 ^ 39) (hb : bytes ≤ 128) : 0 ≤ w ∧ w ≤ 2 ^ 48 ∧ w * (bytes : Int) ≤ 2 ^ 48 := by
  have h1 := hw.eq
  have h48 : (2 : Int) ^ 48 = 281474976710656 := rfl
  have h39 : (2 : Nat) ^ 39 = 549755813888 := rfl
  have h2 : m * bytes ≤ 549755813888 * 128 := Nat.mul_le_mul (by omega) hb
  have h3 : w * (bytes : Int) = ((m * bytes : Nat) : Int) := by rw [h1]; simp
  rw [h48, h3]
  omega
end Go.Sx
namespace Go.Sx
/-- 'append(s[:i], make(S, n)...)' that outgrows its block: nothing is in the new part yet. -/
theorem appendZ_own {α : Type} {e : Nat} {s : Sh α} {h : Heap} {b : Option Addr} {len cap n : Nat} {xs : List α} (q : Sl e s h (.slice b len cap) xs) (hg : cap < len + n) {size bytes : Nat} (hsz : size = s.n) (hby : bytes ≤ 128) (hn : len + n ≤ 2 ^ 39) {z : List Value} (hz1 : ones z = true) (hzl : z.length = s.n)
    {k : Value → Heap → Prop} (hk : ∀ nb c h', h nb = none → Le h h' → len + n ≤ c → Own e s h' nb c xs → k (.slice (some ⟨nb, 0, none⟩) (len + n) c) h') :
    AppZX h b len cap n size bytes e z k :=
  ⟨grow_own q hg hsz hby hn (ones_zeros hz1 n) (by rw [zeros_length, hzl]) (ys := []) (by simp) (fun h' _ => rows_nil) (by simpa using hk)⟩
end Go.Sx

namespace Go.Sx

/-! A list that is built up by 'append', in a block of its own. -/

structure Buf {α : Type} (e : Nat) (s : Sh α) (h0 h : Heap) (v : Value) (xs : List α) : Prop where
  out : (∃ b, v = .slice b 0 0 ∧ xs = []) ∨ ∃ nb cap, v = .slice (some ⟨nb, 0, none⟩) xs.length cap ∧ h0 nb = none ∧ Own e s h nb cap xs

theorem Buf.nil {α : Type} {e : Nat} {s : Sh α} {h0 h : Heap} {b : Option Addr} : Buf e s h0 h (.slice b 0 0) ([] : List α) := ⟨.inl ⟨b, rfl, rfl⟩⟩
theorem Buf.sl {α : Type} {e : Nat} {s : Sh α} {h0 h : Heap} {v : Value} {xs : List α} (q : Buf e s h0 h v xs) : Sl e s h v xs := by
  rcases q.out with ⟨b, rfl, rfl⟩ | ⟨nb, cap, rfl, -, o⟩
  · exact Sl.nil
  · exact o.sl rfl
theorem Buf.mono {α : Type} {e : Nat} {s : Sh α} {h0 h h' : Heap} {v : Value} {xs : List α} (q : Buf e s h0 h v xs) (hl : LeT (e :: s.tys) h h') : Buf e s h0 h' v xs := by
  rcases q.out with h1 | ⟨nb, cap, h1, h2, o⟩
  · exact ⟨.inl h1⟩
  · exact ⟨.inr ⟨nb, cap, h1, h2, o.mono hl⟩⟩
theorem Buf.base {α : Type} {e : Nat} {s : Sh α} {h0 h1 h : Heap} {v : Value} {xs : List α} (q : Buf e s h1 h v xs) (hl : Le h0 h1) : Buf e s h0 h v xs := by
  rcases q.out with g | ⟨nb, cap, g1, g2, o⟩
  · exact ⟨.inl g⟩
  · exact ⟨.inr ⟨nb, cap, g1, hl.none g2, o⟩⟩
theorem Own.buf {α : Type} {e : Nat} {s : Sh α} {h0 h : Heap} {nb cap n : Nat} {xs : List α} (o : Own e s h nb cap xs) (h0n : h0 nb = none) (hn : n = xs.length) : Buf e s h0 h (.slice (some ⟨nb, 0, none⟩) n cap) xs := by
  subst hn; exact ⟨.inr ⟨nb, cap, rfl, h0n, o⟩⟩
/-- 'append(out, x...)'. -/
theorem Buf.append {α : Type} {e : Nat} {s : Sh α} {h0 h : Heap} {b x : Option Addr} {len cap n cx : Nat} {xs ys : List α} (q : Buf e s h0 h (.slice b len cap) xs) (qv : Sl e s h (.slice x n cx) ys) (he : e ∉ s.tys) {size bytes : Nat} (hsz : size = s.n) (hby : bytes ≤ 128) (hn : len + n ≤ 2 ^ 39)
    {k : Value → Heap → Prop} (hl0 : Le h0 h) (hk : ∀ m b' c' h', m = len + n → Le h0 h' → (∀ tys, e ∉ tys → LeT tys h h') → (∀ j o, h j = some o → (∀ c fr, o ≠ .cells c e fr) → h' j = some o) → Buf e s h0 h' (.slice b' m c') (xs ++ ys) → k (.slice b' m c') h') :
    AppendX h b len cap x n size bytes e k := by
  subst hsz
  obtain ⟨cs, c1, c2, c3, c4⟩ := qv.allCells
  have hlen := q.sl.len
  have hlv := qv.len
  have grow : cap < len + n → AppX h b len cap n s.n bytes e cs k := fun hg => by
    refine grow_own q.sl hg rfl hby hn c3 c2 (ys := ys) (by rw [hlv]; exact Nat.le_refl _) (fun h' hl => ?_) (fun nb c h' e1 e2 e3 o => ?_)
    · have := c4 h' (hl.t _) [] []
      simpa using this
    · exact hk _ _ _ h' rfl (hl0.trans e2) (fun tys _ => e2.t tys) (fun j o hj _ => e2 j o hj) (o.buf (hl0.none e1) (by rw [List.length_append, hlen, hlv]))
  refine ⟨cs, c1, ?_⟩
  by_cases hfit : len + n ≤ cap
  · refine ⟨c3, fun _ => ?_, fun hg => by omega⟩
    by_cases hn0 : n = 0
    · have hcs : cs = [] := List.eq_nil_of_length_eq_zero (by rw [c2, hn0]; simp)
      have hys : ys = [] := List.eq_nil_of_length_eq_zero (by omega)
      refine .inl ⟨hcs, hk _ _ _ h rfl hl0 (fun _ _ => LeT.refl _ _) (fun _ _ hj _ => hj) ?_⟩
      rw [hys, List.append_nil, hn0]; exact q
    · rcases q.out with ⟨b', g1, g2⟩ | ⟨nb, cap', g1, g2, o⟩
      · cases g1; omega
      · cases g1
        refine .inr ⟨⟨nb, xs.length * s.n, none⟩, by simp [add_none], ?_⟩
        have hr : Rows s h cs 0 ys := by
          have := c4 h (LeT.refl _ _) [] []
          simpa using this
        refine o.write (ys := ys) he (i := xs.length) (by omega) (by omega) (by omega) (by rw [c2, hlv]) hr (fun h' k1 k2 o' => ?_)
        rw [List.take_length, List.drop_eq_nil_of_le (by omega), List.append_nil] at o'
        refine hk _ _ _ h' rfl (hl0.kpNew (by simpa using g2) k1) k2 (fun j oo hj hne => ?_) (o'.buf g2 (by rw [List.length_append, hlv]))
        refine k1 j oo hj ?_
        intro hm
        simp at hm
        obtain ⟨c, hc, -⟩ := o.out
        rw [hm, hc] at hj
        cases hj
        exact hne _ _ rfl
  · exact grow (by omega)

/-- One value in a new block, read as a list. -/
theorem one_sl {α : Type} {e : Nat} {s : Sh α} {h : Heap} {n : Nat} {cs : List Value} {x : α} (hb : h n = some (.cells (List.toArray cs) e (0, 0))) (r : s.R h cs x) : Sl e s h (.slice (some ⟨n, 0, none⟩) 1 1) [x] := by
  have hlen := s.len r
  refine Sl.fresh (xs := [x]) hb ⟨by simp [hlen], fun j y hj => ?_⟩ (by simp) (by simp)
  have hj0 : j = 0 := by
    have := (List.getElem?_eq_some_iff.1 hj).1
    simp at this; exact this
  subst hj0
  simp at hj
  subst hj
  simp
  rw [List.take_of_length_le (by omega)]
  exact r
end Go.Sx
namespace Go.Sx
theorem cut0_own {A : Ar} [hA : ArOk A] {m : Int} {sz nb : Nat} : A .cut (some ⟨nb, 0, none⟩) 0 m sz = some ⟨nb, 0, none⟩ := by
  simp only [hA.cut]
  split
  · rfl
  · simp [add_none]
theorem IsN.nat {A : Ar} [hA : ArOk A] (n : Nat) : IsN (A .nat n) n := ⟨by rw [hA.nat]; rfl⟩
theorem IsN.nlt0 {A : Ar} [hA : ArOk A] {z : Int} {i : Nat} (hz : IsN z i) : A .icm .lss z 0 = false := by
  have := hz.eq
  rw [icm_lss A]; exact decide_eq_false (by omega)
/-- Two values in a new block. -/
theorem two_sl {α : Type} {e : Nat} {s : Sh α} {h : Heap} {n : Nat} {c1 c2 : Value} {x y : α} (hs : s.n = 1) (hb : h n = some (.cells (List.toArray [c1, c2]) e (0, 0))) (r1 : s.R h [c1] x) (r2 : s.R h [c2] y) : Sl e s h (.slice (some ⟨n, 0, none⟩) 2 2) [x, y] := by
  refine Sl.fresh (xs := [x, y]) hb ⟨by simp [hs], fun j z hj => ?_⟩ (by simp) (by simp)
  match j, hj with
  | 0, hj => simp at hj; subst hj; simpa [hs] using r1
  | 1, hj => simp at hj; subst hj; simpa [hs] using r2
  | j + 2, hj => simp at hj
theorem three_sl {α : Type} {e : Nat} {s : Sh α} {h : Heap} {n : Nat} {c1 c2 c3 : Value} {x y w : α} (hs : s.n = 1) (hb : h n = some (.cells (List.toArray [c1, c2, c3]) e (0, 0))) (r1 : s.R h [c1] x) (r2 : s.R h [c2] y) (r3 : s.R h [c3] w) : Sl e s h (.slice (some ⟨n, 0, none⟩) 3 3) [x, y, w] := by
  refine Sl.fresh (xs := [x, y, w]) hb ⟨by simp [hs], fun j z hj => ?_⟩ (by simp) (by simp)
  match j, hj with
  | 0, hj => simp at hj; subst hj; simpa [hs] using r1
  | 1, hj => simp at hj; subst hj; simpa [hs] using r2
  | 2, hj => simp at hj; subst hj; simpa [hs] using r3
  | j + 3, hj => simp at hj
theorem flat_take {α : Type} {L : List (List α)} {i : Nat} {x : List α} (h : L[i]? = some x) : (L.take (i + 1)).flatten = (L.take i).flatten ++ x := by
  rw [List.take_add_one, h]; simp
theorem flat_le {α : Type} (L : List (List α)) (i : Nat) : (L.take i).flatten.length ≤ L.flatten.length := by
  have := congrArg List.length (congrArg List.flatten (List.take_append_drop i L))
  rw [List.flatten_append, List.length_append] at this
  omega
end Go.Sx
namespace Go.Sx
def bsI (l : List Int) : Nat := bsAt l 0 l.length
def bsB (l : List Int) : Bool := decide (bsI l < l.length ∧ l.getD (bsI l) 0 = 0)
theorem bsB_lt {l : List Int} (h : bsB l = true) : bsI l < l.length := (of_decide_eq_true h).1
/-- 's[:i:i]'. -/
theorem Sl.takeM {α : Type} {A : Ar} [hA : ArOk A] {e : Nat} {s : Sh α} {h : Heap} {b : Option Addr} {n c : Nat} {xs : List α} (q : Sl e s h (.slice b n c) xs) {z : Int} {i : Nat} (hi : i ≤ n) {m c' : Nat} (hm : m = i) (hc : c' = i) :
    Sl e s h (.slice (A .cut b 0 z s.n) m c') (xs.take i) := by
  obtain ⟨b', cap, h1, h2, h3, h4⟩ := q.out
  cases h1
  subst hm hc
  have hl : (xs.take c').length = c' := by rw [List.length_take]; omega
  refine ⟨_, _, by rw [hl], by rw [hl]; exact Nat.le_refl _, by rw [hl]; omega, ?_⟩
  rcases h4 with rfl | ⟨blk, off, cc, fr, rfl, g2, g3⟩
  · simp
  · right
    refine ⟨blk, off, cc, fr, ?_, g2, g3.take _⟩
    simp only [hA.cut]
    split
    · rfl
    · simp [add_none]
end Go.Sx
namespace Go.Sx
theorem rdc.le {h h' : Heap} {a : Addr} {n : Nat} {cs : List Value} (q : rdc h a n cs) (l : Le h h') : rdc h' a n cs := by
  obtain ⟨h1, h2, c, e, fr, h3, h4⟩ := q
  exact ⟨h1, h2, c, e, fr, l _ _ h3, h4⟩
end Go.Sx
namespace Go.Sx
theorem set_split {α : Type} {xs : List α} {i : Nat} (x : α) (hi : i < xs.length) : xs.take i ++ [x] ++ xs.drop (i + 1) = xs.set i x := by
  rw [List.set_eq_take_append_cons_drop, if_pos hi]; simp
/-- An element of an own block is written anew. -/
theorem Own.setAt {α : Type} {A : Ar} [ArOk A] {e : Nat} {s : Sh α} {h : Heap} {nb cap : Nat} {xs : List α} (o : Own e s h nb cap xs) (he : e ∉ s.tys) {i : Nat} (hi : i < xs.length) {n : Int} (hn : n = (i : Int)) {sz : Nat} (hsz : sz = s.n)
    {cs : List Value} {x : α} (hx : s.R h cs x) {k : Heap → Prop}
    (hk : ∀ h', Kp [nb] h h' → (∀ tys, e ∉ tys → LeT tys h h') → Own e s h' nb cap (xs.set i x) → k h') : StX h (A.elt (some ⟨nb, 0, none⟩) n sz) cs k := by
  subst hn hsz
  have hlen := s.len hx
  have hle := o.le
  have hbd := o.bd
  rw [A.elt_eq]
  simp only [elt, Option.getD_some, Int.toNat_natCast, add_none, Nat.zero_add]
  refine o.write (ys := [x]) he (i := i) (by omega) (by simp; omega) (by simp; omega) (by simp [hlen]) ⟨by simp [hlen], fun j y hj => ?_⟩ (fun h' k1 k2 o' => hk h' k1 k2 ?_)
  · have hj0 : j = 0 := by
      have := (List.getElem?_eq_some_iff.1 hj).1
      simp at this; exact this
    subst hj0
    simp at hj
    subst hj
    simp
    rw [List.take_of_length_le (by omega)]
    exact hx
  · rw [← set_split x hi]; exact o'
end Go.Sx
namespace Go.Sx
theorem Own.kp {α : Type} {e : Nat} {s : Sh α} {h h' : Heap} {nb cap : Nat} {xs : List α} (o : Own e s h nb cap xs) {bs : List Nat} (k : Kp bs h h') (hn : nb ∉ bs) (ht : LeT s.tys h h') : Own e s h' nb cap xs := by
  obtain ⟨c, h1, h2, h3⟩ := o.out
  exact ⟨⟨c, k _ _ h1 hn, h2.mono ht, h3⟩, o.le, o.bd⟩
theorem Own.has {α : Type} {e : Nat} {s : Sh α} {h : Heap} {nb cap : Nat} {xs : List α} (o : Own e s h nb cap xs) : h nb ≠ none := by
  obtain ⟨c, h1, -⟩ := o.out
  rw [h1]; simp
end Go.Sx
namespace Go.Sx
end Go.Sx
namespace Go.Sx
end Go.Sx
namespace Go.Sx
/-- A part of an element is read, and read again. -/
theorem Sl.loadFP {α : Type} {A : Ar} [ArOk A] {e : Nat} {s : Sh α} {h : Heap} {b : Option Addr} {len cap : Nat} {xs : List α} (q : Sl e s h (.slice b len cap) xs) {i : Nat} {x : α} (hx : xs[i]? = some x) {n : Int} (hn : n = (i : Int)) {o m : Nat} (ho : o + m ≤ s.n)
    {k : List Value → Prop} (hk : ∀ cs, s.R h cs x → (∀ h' k', Le h h' → k' ((cs.drop o).take m) → LdX h' (A .off (A .elt b n s.n) o) m k') → k ((cs.drop o).take m)) : LdX h (A .off (A .elt b n s.n) o) m k := by
  obtain ⟨b', cap', h1, h2, h3, h4⟩ := q.out
  cases h1
  rcases h4 with rfl | ⟨blk, off, c, fr, rfl, g2, g3⟩
  · simp at hx
  · subst hn
    have hr := rdc_of_rows g2 g3 hx
    have hR := g3.2 i x hx
    have hr2 : rdc h (A .off (A .elt (some ⟨blk, off, none⟩) (i : Int) s.n) o) m ((((c.toList.drop (off + i * s.n)).take s.n).drop o).take m) := by
      rw [ArOk.elt (A := A), ArOk.off (A := A)]
      simp only [elt, Option.getD_some, Int.toNat_natCast, add_none]
      obtain ⟨-, hl, c', e', fr', g', hc'⟩ := hr
      refine ⟨rfl, by rw [List.length_take, List.length_drop, hl]; omega, c', e', fr', g', fun j hj => ?_⟩
      have := hc' (o + j) (by omega)
      simp only at this ⊢
      rw [List.getElem?_take, if_pos hj, List.getElem?_drop, ← this]
      congr 1
      omega
    exact ⟨_, hr2, hk _ hR (fun h' k' l hk' => ⟨_, hr2.le l, hk'⟩)⟩
end Go.Sx

namespace Go.Sx
open Go.MapKept
open Go.ChangeMaps (setBlock)
variable {P : Program}

/-! Maps: an entry that is there is written anew; a map is walked. -/

/-- An iterator over a map; what it has yet to hand out; what it has handed out last. -/
structure It (h : Heap) (r m : Nat) (left : List (Value × Value)) (last : Option (Value × Value)) : Prop where
  out : ∃ es clock since seen c0, h m = some (.map es clock) ∧ h r = some (.mapIter (some m) since seen c0) ∧ (∀ x ∈ es.toList, x.born < since) ∧ since ≤ c0 ∧ since ≤ clock ∧ (es.toList.map (·.born)).Nodup ∧
    left = (leftOf es seen).toList.map (fun e => (e.key, e.val)) ∧ ∀ p, last = some p → ∃ e ∈ es.toList, (e.key, e.val) = p ∧ ∃ seen' : Array Nat, seen = seen'.push e.born ∧ c0 = clock

end Go.Sx
namespace Go.Sx
/-! A list that grows at its end and shrinks at its head. -/
structure BufT {α : Type} (e : Nat) (s : Sh α) (h0 h : Heap) (v : Value) (xs : List α) (p : Nat) : Prop where
  out : (∃ b, v = .slice b 0 0 ∧ xs = []) ∨ ∃ nb cap pre, v = .slice (some ⟨nb, pre.length * s.n, none⟩) xs.length (cap - pre.length) ∧ h0 nb = none ∧ Own e s h nb cap (pre ++ xs) ∧ (pre ++ xs).length ≤ p

end Go.Sx

namespace Go.Sx
/-- A slice that is only read; it may be long. -/
structure SlB {α : Type} (s : Sh α) (h : Heap) (v : Value) (xs : List α) : Prop where
  out : ∃ b cap, v = .slice b xs.length cap ∧ xs.length ≤ 2 ^ 50 ∧ (xs = [] ∨ ∃ blk off c e fr, b = some ⟨blk, off, none⟩ ∧ h blk = some (.cells c e fr) ∧ Rows s h c.toList off xs)
theorem SlB.mono {α : Type} {s : Sh α} {h h' : Heap} {v : Value} {xs : List α} (hl : Le h h') (q : SlB s h v xs) : SlB s h' v xs := by
  obtain ⟨b, cap, h1, h3, h4⟩ := q.out
  refine ⟨b, cap, h1, h3, ?_⟩
  rcases h4 with h4 | ⟨blk, off, c, e, fr, g1, g2, g3⟩
  · exact .inl h4
  · exact .inr ⟨blk, off, c, e, fr, g1, hl _ _ g2, g3.mono (hl.t _)⟩
theorem SlB.load {α : Type} {A : Ar} [ArOk A] {s : Sh α} {h : Heap} {b : Option Addr} {len cap : Nat} {xs : List α} (q : SlB s h (.slice b len cap) xs) {i : Nat} {x : α} (hx : xs[i]? = some x) {n : Int} (hn : n = (i : Int))
    {k : List Value → Prop} (hk : ∀ cs, s.R h cs x → k cs) : LdX h (A.elt b n s.n) s.n k := by
  obtain ⟨b', cap', h1, h3, h4⟩ := q.out
  cases h1
  rcases h4 with rfl | ⟨blk, off, c, e, fr, rfl, g2, g3⟩
  · simp at hx
  · subst hn
    refine ⟨_, ?_, hk _ (g3.2 i x hx)⟩
    rw [A.elt_eq]
    simp only [elt, Option.getD_some, Int.toNat_natCast, add_none]
    exact rdc_of_rows g2 g3 hx
theorem SlB.len {α : Type} {s : Sh α} {h : Heap} {b : Option Addr} {len cap : Nat} {xs : List α} (q : SlB s h (.slice b len cap) xs) : len = xs.length := by
  obtain ⟨b', cap', h1, -⟩ := q.out
  cases h1; rfl
theorem SlB.bound {α : Type} {s : Sh α} {h : Heap} {b : Option Addr} {len cap : Nat} {xs : List α} (q : SlB s h (.slice b len cap) xs) : len ≤ 2 ^ 50 := by
  obtain ⟨b', cap', h1, h3, -⟩ := q.out
  cases h1; exact h3
theorem SlB.isSm {α : Type} {s : Sh α} {h : Heap} {b : Option Addr} {len cap : Nat} {xs : List α} (q : SlB s h (.slice b len cap) xs) (hl : 0 < len) : b.isSome = true := by
  obtain ⟨b', cap', h1, h3, h4⟩ := q.out
  cases h1
  rcases h4 with rfl | ⟨blk, off, c, e, fr, rfl, -⟩
  · simp at hl
  · rfl
theorem SlB.form {α : Type} {s : Sh α} {h : Heap} {v : Value} {xs : List α} (q : SlB s h v xs) : ∃ b l c, v = .slice b l c := by
  obtain ⟨b, cap, h1, -⟩ := q.out
  exact ⟨b, _, cap, h1⟩
end Go.Sx
namespace Go.Sx
/-- A part of a part of an element is read. -/
theorem Sl.loadFF {α : Type} {A : Ar} [ArOk A] {e : Nat} {s : Sh α} {h : Heap} {b : Option Addr} {len cap : Nat} {xs : List α} (q : Sl e s h (.slice b len cap) xs) {i : Nat} {x : α} (hx : xs[i]? = some x) {n : Int} (hn : n = (i : Int)) {o1 o2 m : Nat} (ho : o1 + o2 + m ≤ s.n)
    {k : List Value → Prop} (hk : ∀ cs, s.R h cs x → k ((cs.drop (o1 + o2)).take m)) : LdX h (A .off (A .off (A .elt b n s.n) o1) o2) m k := by
  have := (q.loadF (A := A) hx hn (o := o1 + o2) (m := m) ho hk).out
  obtain ⟨b', cap', h1, h2, h3, h4⟩ := q.out
  cases h1
  rcases h4 with rfl | ⟨blk, off, c, fr, rfl, g2, g3⟩
  · simp at hx
  · obtain ⟨cs, g4, g5⟩ := this
    refine ⟨cs, ?_, g5⟩
    rw [ArOk.elt (A := A), ArOk.off (A := A)] at g4 ⊢
    simp only [elt, Option.getD_some, add_none] at g4 ⊢
    simpa [Nat.add_assoc] using g4
end Go.Sx

namespace Go.Sx

/-- 'append(s[:i], ys...)' in a block that is its own, where there is room. -/
theorem Own.appendIn {α : Type} {e : Nat} {s : Sh α} {h : Heap} {nb cap : Nat} {xs ys : List α} (o : Own e s h nb cap xs) (he : e ∉ s.tys) {i : Nat} (hi : i ≤ xs.length) {x : Option Addr} {n cx : Nat} (qv : Sl e s h (.slice x n cx) ys) (hc : i + n ≤ cap) (hb : i + n ≤ 2 ^ 40)
    {size bytes : Nat} (hsz : size = s.n) {k : Value → Heap → Prop}
    (hk : ∀ h' m, m = i + n → Kp [nb] h h' → (∀ tys, e ∉ tys → LeT tys h h') → Own e s h' nb cap (xs.take i ++ ys ++ xs.drop (i + n)) → k (.slice (some ⟨nb, 0, none⟩) m cap) h') :
    AppendX h (some ⟨nb, 0, none⟩) i cap x n size bytes e k := by
  subst hsz
  obtain ⟨cs, c1, c2, c3, c4⟩ := qv.allCells
  have hlv := qv.len
  refine ⟨cs, c1, c3, fun _ => ?_, fun hg => by omega⟩
  by_cases hn0 : n = 0
  · have hcs : cs = [] := List.eq_nil_of_length_eq_zero (by rw [c2, hn0]; simp)
    have hys : ys = [] := List.eq_nil_of_length_eq_zero (by omega)
    refine .inl ⟨hcs, hk h _ rfl (Kp.refl _ _) (fun _ _ => LeT.refl _ _) ?_⟩
    rw [hys, List.append_nil, hn0, Nat.add_zero, List.take_append_drop]
    exact o
  · refine .inr ⟨⟨nb, i * s.n, none⟩, by simp [add_none], ?_⟩
    have hr : Rows s h cs 0 ys := by
      have := c4 h (LeT.refl _ _) [] []
      simpa using this
    refine o.write (ys := ys) he (i := i) hi (by omega) (by omega) (by rw [c2, hlv]) hr (fun h' k1 k2 o' => ?_)
    rw [← hlv] at o'
    exact hk h' _ rfl k1 k2 o'

/-- 'clear' of cells behind the last element. -/
theorem Own.clearX {α : Type} {e : Nat} {s : Sh α} {h : Heap} {nb cap : Nat} {xs : List α} (o : Own e s h nb cap xs) (he : e ∉ s.tys) {p n : Nat} {z : List Value} (h1 : ones z = true) (hz : z.length = s.n) (hp : xs.length ≤ p) (hc : p + n ≤ cap) {k : Heap → Prop}
    (hk : ∀ h', Kp [nb] h h' → (∀ tys, e ∉ tys → LeT tys h h') → Own e s h' nb cap xs → k h') : ClearX h (some ⟨nb, p * s.n, none⟩) n z k := by
  refine ⟨h1, .inr ⟨_, rfl, ?_⟩⟩
  refine o.scratch he (Nat.mul_le_mul_right _ hp) ?_ hk
  rw [zeros_length, hz, ← Nat.add_mul]
  exact Nat.mul_le_mul_right _ hc
theorem erase_eq {α : Type} {xs : List α} {i : Nat} (hi : i < xs.length) : (xs.take i ++ xs.drop (i + 1) ++ xs.drop (i + (xs.length - (i + 1)))).take (xs.length - 1) = xs.eraseIdx i := by
  rw [List.take_append_of_le_length (by simp; omega), List.eraseIdx_eq_take_drop_succ, List.take_of_length_le (by simp; omega)]
end Go.Sx

namespace Go.Sx
end Go.Sx

namespace Go.Sx
/-- The heap without a block. -/
def hdel (h : Heap) (n : Nat) : Heap := fun b => if b = n then none else h b
theorem hdel_le (h : Heap) (n : Nat) : Le (hdel h n) h := fun b o hb => by
  unfold hdel at hb
  split at hb
  · cases hb
  · exact hb
theorem hdel_self (h : Heap) (n : Nat) : hdel h n n = none := by unfold hdel; rw [if_pos rfl]
theorem hdel_ne {h : Heap} {n b : Nat} (hb : b ≠ n) : hdel h n b = h b := by unfold hdel; rw [if_neg hb]
end Go.Sx

