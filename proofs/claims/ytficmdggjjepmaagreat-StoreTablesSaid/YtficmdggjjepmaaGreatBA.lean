import Derived.Test.YtficmdggjjepmaaGreatEA
import Derived.Test.YtficmdggjjepmaaGreatDA
import Derived.Test.YtficmdggjjepmaaGreatGA
import Derived.Laws.BytesArg
import Derived.Laws.IdiomStrings
set_option linter.all false
set_option maxRecDepth 100000
set_option maxHeartbeats 8000000
namespace Go.Sx
/-- 'append(S{}, xs...)', the values of a block of any element type. -/
theorem append_new2 {α : Type} {e e1 : Nat} {s : Sh α} {h : Heap} {x : Option Addr} {n cx : Nat} {xs : List α} (q : Sl e1 s h (.slice x n cx) xs) {b0 : Option Addr} {size bytes : Nat} (hsz : size = s.n) (hby : bytes ≤ 128)
    {k : Value → Heap → Prop} (hk0 : n = 0 → k (.slice b0 0 0) h)
    (hk1 : ∀ nb cap h', h nb = none → 0 < n → Le h h' → Own e s h' nb cap xs → k (.slice (some ⟨nb, 0, none⟩) n cap) h') : AppendX h b0 0 0 x n size bytes e k := by
  subst hsz
  obtain ⟨cs, h1, h2, h3, h4⟩ := q.allCells
  have hlen := q.len
  obtain ⟨hb1, hb2⟩ := q.bound
  refine ⟨cs, h1, h3, fun hf => ?_, fun hg => ?_⟩
  · have hn : n = 0 := by omega
    have hcs : cs = [] := List.eq_nil_of_length_eq_zero (by rw [h2, hn]; simp)
    subst hn
    exact .inl ⟨hcs, hk0 rfl⟩
  · refine ⟨?_, ?_, [], .inl ⟨by simp, rfl⟩, fun nb c h' rest e1 e2 e3 e4 => ?_⟩
    · have h40 : (2 : Nat) ^ 40 = 1099511627776 := rfl
      have h48 : (2 : Nat) ^ 48 = 281474976710656 := rfl
      have : 2 * (0 + n) * bytes ≤ 2 * (0 + n) * 128 := Nat.mul_le_mul_left _ hby
      omega
    · have h40 : (2 : Nat) ^ 40 = 1099511627776 := rfl
      have h48 : (2 : Nat) ^ 48 = 281474976710656 := rfl
      omega
    · have hle : Le h h' := by rw [e4]; exact Le.set e1
      have := hk1 nb c h' e1 (by omega) hle ⟨⟨cs ++ rest, ?_, ?_, ?_⟩, by omega, by omega⟩
      · simpa using this
      · rw [e4, hset_self]; simp
      · have := h4 h' (hle.t _) [] rest
        simpa using this
      · simp only [List.length_append, h2, e3]
        rw [← Nat.add_mul]; congr 1; omega
theorem Buf.app {α : Type} {e e1 : Nat} {s : Sh α} {h0 h : Heap} {b x : Option Addr} {len cap n cx : Nat} {xs ys : List α} (q : Buf e s h0 h (.slice b len cap) xs) (qv : Sl e1 s h (.slice x n cx) ys) (he : e ∉ s.tys) {size bytes : Nat} (hsz : size = s.n) (hby : bytes ≤ 128) (hn : len + n ≤ 2 ^ 39)
    {k : Value → Heap → Prop} (hl0 : Le h0 h) (hk : ∀ m b' c' h', m = len + n → Le h0 h' → (∀ tys, e ∉ tys → LeT tys h h') → (∀ j o, h j = some o → (cap = 0 ∨ b ≠ some ⟨j, 0, none⟩ ∨ ∀ c fr, o ≠ .cells c e fr) → h' j = some o) → Buf e s h0 h' (.slice b' m c') (xs ++ ys) → k (.slice b' m c') h') :
    AppendX h b len cap x n size bytes e k := by
  subst hsz
  obtain ⟨cs, c1, c2, c3, c4⟩ := qv.allCells
  have hlen := q.sl.len
  have hlv := qv.len
  have grow : cap < len + n → AppX h b len cap n s.n bytes e cs k := fun hg => by
    refine grow_own q.sl hg rfl hby hn c3 c2 (ys := ys) (by rw [hlv]; exact Nat.le_refl _) (fun h' hl => ?_) (fun nb c h' e1 e2 e3 o => ?_)
    · have := c4 h' (hl.t _) [] []
      simpa using this
    · exact hk _ _ _ h' rfl (hl0.trans e2) (fun tys _ => e2.t tys) (fun j o hj _ => e2 j o hj) (o.buf (hl0.none e1) (by rw [List.length_append, hlen, hlv]))
  refine ⟨cs, c1, ?_⟩
  by_cases hfit : len + n ≤ cap
  · refine ⟨c3, fun _ => ?_, fun hg => by omega⟩
    by_cases hn0 : n = 0
    · have hcs : cs = [] := List.eq_nil_of_length_eq_zero (by rw [c2, hn0]; simp)
      have hys : ys = [] := List.eq_nil_of_length_eq_zero (by omega)
      refine .inl ⟨hcs, hk _ _ _ h rfl hl0 (fun _ _ => LeT.refl _ _) (fun _ _ hj _ => hj) ?_⟩
      rw [hys, List.append_nil, hn0]; exact q
    · rcases q.out with ⟨b', g1, g2⟩ | ⟨nb, cap', g1, g2, o⟩
      · cases g1; omega
      · cases g1
        refine .inr ⟨⟨nb, xs.length * s.n, none⟩, by simp [add_none], ?_⟩
        have hr : Rows s h cs 0 ys := by
          have := c4 h (LeT.refl _ _) [] []
          simpa using this
        refine o.write (ys := ys) he (i := xs.length) (by omega) (by omega) (by omega) (by rw [c2, hlv]) hr (fun h' k1 k2 o' => ?_)
        rw [List.take_length, List.drop_eq_nil_of_le (by omega), List.append_nil] at o'
        refine hk _ _ _ h' rfl (hl0.kpNew (by simpa using g2) k1) k2 (fun j oo hj hne => ?_) (o'.buf g2 (by rw [List.length_append, hlv]))
        refine k1 j oo hj ?_
        intro hm
        simp at hm
        rcases hne with hne | hne | hne
        · omega
        · exact hne (by rw [hm])
        · obtain ⟨c, hc, -⟩ := o.out
          rw [hm, hc] at hj
          cases hj
          exact hne _ _ rfl
  · exact grow (by omega)
end Go.Sx
namespace Go.S
open Go.Sx Go.Proofs
/-- A byte as a cell. -/
def shB : Sh UInt8 where
  n := 1
  R _ cs x := cs = [.int .u8 (x.toNat : Int)]
  len := by rintro h cs x rfl; rfl
  one := by rintro h cs x rfl; rfl
  tys := []
  mono := fun _ q => q
abbrev Bs := List UInt8
theorem cloneY {e1 : Nat} {xs : Bs} {h : Heap} {b : Option Addr} {len cap : Nat} (q : Sl e1 shB h (.slice b len cap) xs) {k : Value → Heap → Prop}
    (hk : ∀ h' b' c', Le h h' → Buf 5 shB h h' (.slice b' len c') xs → k (.slice b' len c') h') :
    Ct 196 [.slice b len cap] h k := by
  obtain ⟨A, hA⟩ := Ar.ex
  refine fn_of_sx A (tabOk T196.plan T196.pub) Tryz.func196 rfl (by kernel_rfl) ?_
  cbv
  refine bsel_mk (fun hc => ?_) (fun hc => ?_)
  · rw [hA.isn] at hc
    cbv
    have hb : b = none := by cases b <;> simp at hc ⊢
    subst hb
    have hl : len = 0 := by
      rcases Nat.eq_zero_or_pos len with e | e
      · exact e
      · have := q.isSm e; cases this
    have := q.len
    have hx : xs = [] := List.eq_nil_of_length_eq_zero (by omega)
    subst hx hl
    exact hk _ _ _ (Le.refl _) Buf.nil
  · cbv
    intro n0 h1 hn0 hh1
    have hle : Le h h1 := by rw [hh1]; exact Le.set hn0
    cbv
    refine append_new2 (q.mono (hle.t _)) rfl (by decide) (fun hn => ?_) (fun nb c h2 e1 e2 e3 e4 => ?_)
    · cbv
      have := q.len
      have hx : xs = [] := List.eq_nil_of_length_eq_zero (by omega)
      subst hx hn
      exact hk _ _ _ hle Buf.nil
    · cbv
      exact hk _ _ _ (hle.trans e3) (e4.buf (hle.none e1) q.len)
theorem fnx_as {pr : Unit → Program} {f : FuncId} {u bs : List Value} {h : Heap} {k : Value → Heap → Prop} (e : u = bs) (q : FnX pr f u h k) : FnX pr f bs h k := e ▸ q
/-- Once.Do of any closure, the first time; and again. -/
theorem slowG {f : FuncId} {fl cl : List Value} {h : Heap} {b o : Nat} {Q : Heap → Prop} (q0 : Cel h ⟨b, o, none⟩ (.int .u32 0)) (q1 : Cel h ⟨b, o + 1, none⟩ (.int .i32 0))
    (clo : ∀ h1, Up h b (o + 1) (.int .i32 1) h1 → Ct f (fl ++ cl) h1 (fun v h2 => v = .tuple #[] ∧ Cel h2 ⟨b, o, none⟩ (.int .u32 0) ∧ Cel h2 ⟨b, o + 1, none⟩ (.int .i32 1) ∧ Q h2)) (hf : fnOk f = true := by kernel_rfl) :
    Ct 117 [.pointer (some ⟨b, o, none⟩), .func (.func f) fl.toArray cl.toArray] h (fun v h' => v = .tuple #[] ∧ ∃ h2 h3, Q h2 ∧ Up h2 b o (.int .u32 1) h3 ∧ Up h3 b (o + 1) (.int .i32 0) h') := by
  obtain ⟨A, hA⟩ := Ar.ex
  obtain ⟨fnV, hfn⟩ : ∃ g, g = fnOk := ⟨_, rfl⟩
  have tk : TabOk Tryz.prog ⟨ty, fnV, T117.plan, T117.pub, fun _ => false, [], fun _ _ _ => False⟩ := by rw [hfn]; exact tabOk _ _
  have hfs : fnV f = true := by rw [hfn]; exact hf
  have hf1 : fnV 207 = true := by rw [hfn]; kernel_rfl
  have hf2 : fnV 116 = true := by rw [hfn]; kernel_rfl
  have hf3 : fnV 209 = true := by rw [hfn]; kernel_rfl
  have hf4 : fnV 208 = true := by rw [hfn]; kernel_rfl
  clear hfn hf
  refine fn_of_sxD A tk Tryz.func117 rfl (by kernel_rfl) ?_
  cbv
  rw [offm A, hf1]
  cbv
  refine (lock175 q1).mono (fun v h1 hR => ?_)
  obtain ⟨rfl, hu⟩ := hR
  have q0' := hu.other (by omega) q0
  cbv
  rw [offm A]
  rw [offm A, hf2]
  cbv
  refine (load140 q0').mono (fun v h2 hR => ?_)
  obtain ⟨t, rfl, ht, rfl⟩ := hR
  have ht : t = false := by rw [ht]; rfl
  subst ht
  cbv
  rw [hA.not]
  cbv
  rw [offm A, hfs]
  cbv
  refine fnx_as (by cases fl with | nil => cases cl <;> rfl | cons a t => exact (show a :: (t ++ cl) = a :: ((t ++ []) ++ cl) by rw [List.append_nil])) ((clo _ hu).mono (fun v h2 hR => ?_))
  obtain ⟨rfl, c0, c1, hQ⟩ := hR
  cbv
  rw [hf3]
  cbv
  refine (store177D c0).mono (fun v h3 hR => ?_)
  obtain ⟨-, hu3⟩ := hR
  have c1' := hu3.other (by omega) c1
  cbv
  rw [hf4]
  cbv
  refine (unlock176D c1').mono (fun v h4 hR => ?_)
  obtain ⟨-, hu4⟩ := hR
  cbv
  exact ⟨rfl, h2, h3, hQ, hu3, hu4⟩
theorem doG {f : FuncId} {fl cl : List Value} {h : Heap} {b o : Nat} {Q : Heap → Prop} (q0 : Cel h ⟨b, o, none⟩ (.int .u32 0)) (q1 : Cel h ⟨b, o + 1, none⟩ (.int .i32 0))
    (clo : ∀ h1, Up h b (o + 1) (.int .i32 1) h1 → Ct f (fl ++ cl) h1 (fun v h2 => v = .tuple #[] ∧ Cel h2 ⟨b, o, none⟩ (.int .u32 0) ∧ Cel h2 ⟨b, o + 1, none⟩ (.int .i32 1) ∧ Q h2)) (hf : fnOk f = true := by kernel_rfl) :
    Ct 43 [.pointer (some ⟨b, o, none⟩), .func (.func f) fl.toArray cl.toArray] h (fun v h' => v = .tuple #[] ∧ ∃ h2 h3, Q h2 ∧ Up h2 b o (.int .u32 1) h3 ∧ Up h3 b (o + 1) (.int .i32 0) h') := by
  have sl := slowG q0 q1 clo hf
  clear clo hf
  generalize hcv : (Value.func (.func f) fl.toArray cl.toArray) = cv at sl ⊢
  obtain ⟨A, hA⟩ := Ar.ex
  refine fn_of_sx A (tabOk T43.plan T43.pub) Tryz.func43 rfl (by kernel_rfl) ?_
  clear hcv
  cbv
  rw [offm A]
  refine (load140 q0).mono (fun v h2 hR => ?_)
  obtain ⟨t, rfl, ht, rfl⟩ := hR
  have ht : t = false := by rw [ht]; rfl
  subst ht
  cbv
  rw [hA.not]
  cbv
  refine sl.mono (fun v h2 hR => ?_)
  obtain ⟨rfl, hR⟩ := hR
  cbv
  exact ⟨rfl, hR⟩
theorem didG {cv : Value} {h : Heap} {b o : Nat} (q0 : Cel h ⟨b, o, none⟩ (.int .u32 1)) :
    Ct 43 [.pointer (some ⟨b, o, none⟩), cv] h (fun v h' => v = .tuple #[] ∧ h' = h) := by
  obtain ⟨A, hA⟩ := Ar.ex
  refine fn_of_sx A (tabOk T43.plan T43.pub) Tryz.func43 rfl (by kernel_rfl) ?_
  cbv
  rw [offm A]
  refine (load140 q0).mono (fun v h2 hR => ?_)
  obtain ⟨t, rfl, ht, rfl⟩ := hR
  have ht : t = true := by rw [ht]; rfl
  subst ht
  cbv
  rw [hA.not]
  cbv
  exact ⟨rfl, True.intro⟩
end Go.S

set_option maxRecDepth 100000
set_option maxHeartbeats 8000000
namespace Go.S
open Go.Sx Go.Proofs
/-- Once.Do the first time, where the whole block is known. -/
theorem doB {f : FuncId} {fl cl : List Value} {h : Heap} {p ty o : Nat} {c : List Value} {k : Value → Heap → Prop} (g : h p = some (.cells (List.toArray c) ty (0, 0))) (g0 : c[o]? = some (.int .u32 0)) (g1 : c[o + 1]? = some (.int .i32 0))
    (clo : ∀ h1, h1 = hset h p (.cells (List.toArray (c.set (o + 1) (.int .i32 1))) ty (0, 0)) → Ct f (fl ++ cl) h1 (fun v h2 => v = .tuple #[] ∧ ∃ c' : List Value, h2 p = some (.cells (List.toArray c') ty (0, 0)) ∧ c'[o]? = some (.int .u32 0) ∧ c'[o + 1]? = some (.int .i32 1) ∧
      k (.tuple #[]) (hset h2 p (.cells (List.toArray ((c'.set o (.int .u32 1)).set (o + 1) (.int .i32 0))) ty (0, 0))))) (hf : fnOk f = true := by kernel_rfl) :
    Ct 43 [.pointer (some ⟨p, o, none⟩), .func (.func f) fl.toArray cl.toArray] h k := by
  refine (doG (f := f) (fl := fl) (cl := cl) (Q := fun h2 => ∃ c' : List Value, h2 p = some (.cells (List.toArray c') ty (0, 0)) ∧ k (.tuple #[]) (hset h2 p (.cells (List.toArray ((c'.set o (.int .u32 1)).set (o + 1) (.int .i32 0))) ty (0, 0)))) (cel_exp g g0) (cel_exp g g1) (fun h1 hu => ?_) hf).mono (fun v h4 hR => ?_)
  · refine (clo h1 (hu.exp g)).mono (fun v h2 hR => ?_)
    obtain ⟨e, c', g2, e0, e1, hk⟩ := hR
    exact ⟨e, cel_exp g2 e0, cel_exp g2 e1, c', g2, hk⟩
  · obtain ⟨rfl, h2, h3, ⟨c', g2, hk⟩, u2, u3⟩ := hR
    have e3 := u2.exp g2
    have g3 := (congrFun e3 p).trans hset_self
    have e4 := u3.exp g3
    rw [e3, hset_twice] at e4
    rw [e4]; exact hk
structure Rdr where
  b : Bs
  e : Int
structure RdO (h : Heap) (p : Nat) (r : Rdr) : Prop where
  out : ∃ bb n c d, h p = some (.cells (List.toArray [.slice bb n c, .int .i64 r.e, .int .u32 d, .int .i32 0, .int .u32 0]) 361 (0, 0)) ∧ Sl 5 shB h (.slice bb n c) r.b ∧ ((r.e = 0 ∧ d = 0) ∨ (r.e ≠ 0 ∧ d = 1))
theorem RdO.le {h h' : Heap} {p : Nat} {r : Rdr} (q : RdO h p r) (l : Le h h') : RdO h' p r := by
  obtain ⟨bb, n, c, d, g, s, hd⟩ := q.out
  exact ⟨bb, n, c, d, l _ _ g, s.mono (l.t _), hd⟩
/-- Only one block is another. -/
structure Only (p : Nat) (h h' : Heap) : Prop where
  kp : Kp [p] h h'
  ty : ∃ c e fr, h p = some (.cells c e fr) ∧ ∃ c' fr', h' p = some (.cells c' e fr')
theorem kp_lt {p : Nat} {h h' : Heap} (k : Kp [p] h h') {c : Array Value} {e : Nat} {fr : Nat × Nat} (g : h p = some (.cells c e fr)) {tys : List Nat} (he : e ∉ tys) : LeT tys h h' := fun b d e' fr' hm hb =>
  k b _ hb (by intro hb2; simp at hb2; rw [hb2, g] at hb; cases hb; exact he hm)
theorem RdO.lt {h h' : Heap} {p : Nat} {r : Rdr} (q : RdO h p r) (k : Kp [p] h h') {tys : List Nat} (he : 361 ∉ tys) : LeT tys h h' := by
  obtain ⟨bb, n, c, d, g, -, -⟩ := q.out
  exact kp_lt k g he
def failP (e : Int) (r : Rdr) : Rdr := if e ≠ 0 ∧ r.e = 0 then ⟨r.b, e⟩ else r
theorem failD {h : Heap} {b3 b2 c : Nat} {x : Int} {t1 t2 : Nat} {s1 s2 s3 s4 y : Value} (g3 : h b3 = some (.cells #[.int .i64 x] t1 (0, 0))) (g2 : h b2 = some (.cells #[.pointer (some ⟨c, 0, none⟩)] t2 (0, 0)))
    (gc : h c = some (.cells (List.toArray [s1, y, s2, s3, s4]) 361 (0, 0))) {k : Value → Heap → Prop} (hk : k (.tuple #[]) (hset h c (.cells (List.toArray [s1, .int .i64 x, s2, s3, s4]) 361 (0, 0)))) :
    Ct 203 [.pointer (some ⟨b3, 0, none⟩), .pointer (some ⟨b2, 0, none⟩)] h k := by
  obtain ⟨A, hA⟩ := Ar.ex
  refine fn_of_sx A (tabOk T203.plan T203.pub) Tryz.func203 rfl (by kernel_rfl) ?_
  cbv
  refine ldb g2 rfl rfl ?_
  cbv
  refine ldb g3 rfl rfl ?_
  cbv
  rw [offm A]
  refine stb gc (by simp) (fun h' hh => ?_)
  subst hh
  cbv
  exact hk
theorem FailC {h : Heap} {p : Nat} {r : Rdr} (q : RdO h p r) (x : Int) {k : Value → Heap → Prop} (hk : ∀ h', Kp [p] h h' → RdO h' p (failP x r) → k (.tuple #[]) h') :
    Ct 112 [.pointer (some ⟨p, 0, none⟩), .int .i64 x] h k := by
  obtain ⟨A, hA⟩ := Ar.ex
  obtain ⟨bb, n, c, d, g, s, hd⟩ := q.out
  have hbd := s.bound
  refine fn_of_sx A (tabOk T112.plan T112.pub) Tryz.func112 rfl (by kernel_rfl) ?_
  cbv
  intro p2 h1 hp2 e1
  cbv
  intro p3 h2 hp3 e2
  have l1 : Le h h1 := by rw [e1]; exact Le.set hp2
  have l2 : Le h1 h2 := by rw [e2]; exact Le.set hp3
  have l12 := l1.trans l2
  have g3 : h2 p3 = some (.cells #[.int .i64 x] 26 (0, 0)) := by rw [e2]; exact hset_self
  have g2 : h2 p2 = some (.cells #[.pointer (some ⟨p, 0, none⟩)] 267 (0, 0)) := l2 _ _ (by rw [e1]; exact hset_self)
  have gp := l12 _ _ g
  have n2 : p2 ≠ p := fun e => by rw [e, g] at hp2; cases hp2
  have n3 : p3 ≠ p := fun e => by rw [e, l1 _ _ g] at hp3; cases hp3
  have fx : A .icm .neq x 0 = decide (x ≠ 0) := icm_neq A ..
  clear e1 e2
  cbv
  refine ldb g3 rfl rfl ?_
  cbv
  rw [fx]
  by_cases hx : x ≠ 0
  · rw [decide_eq_true hx]
    cbv
    refine ldb g2 rfl rfl ?_
    cbv
    rw [offm A]
    rcases hd with ⟨he, rfl⟩ | ⟨he, rfl⟩
    · refine doB (f := 203) (fl := []) (cl := [.pointer (some ⟨p3, 0, none⟩), .pointer (some ⟨p2, 0, none⟩)]) gp rfl rfl (fun h3 hu => ?_)
      have g3' : h3 p3 = some (.cells #[.int .i64 x] 26 (0, 0)) := by rw [hu, hset_ne n3]; exact g3
      have g2' : h3 p2 = some (.cells #[.pointer (some ⟨p, 0, none⟩)] 267 (0, 0)) := by rw [hu, hset_ne n2]; exact g2
      have gp3 := (congrFun hu p).trans hset_self
      refine failD g3' g2' gp3 ⟨rfl, _, hset_self, rfl, rfl, ?_⟩
      rw [hu, hset_twice, hset_twice]
      have hP : failP x r = ⟨r.b, x⟩ := if_pos ⟨hx, he⟩
      have kp : Kp [p] h2 (hset h2 p (.cells (List.toArray [.slice bb n c, .int .i64 x, .int .u32 1, .int .i32 0, .int .u32 0]) 361 (0, 0))) := Kp.set (by simp)
      have := hk _ ((l12.kp _).trans kp) (by rw [hP]; exact ⟨bb, n, c, 1, hset_self, (s.mono (l12.t _)).mono (kp_lt kp gp (by decide)), .inr ⟨hx, rfl⟩⟩)
      cbv
      exact this
    · refine (didG (cel_exp gp rfl)).mono (fun v h4 hR => ?_)
      obtain ⟨rfl, rfl⟩ := hR
      cbv
      exact hk _ (l12.kp _) (by rw [show failP x r = r from if_neg (fun g => he g.2)]; exact q.le l12)
  · rw [decide_eq_false hx]
    cbv
    exact hk _ (l12.kp _) (by rw [show failP x r = r from if_neg (fun g => hx g.1)]; exact q.le l12)
theorem NewC {e1 : Nat} {xs : Bs} {h : Heap} {b : Option Addr} {len cap : Nat} (q : Sl e1 shB h (.slice b len cap) xs) {k : Value → Heap → Prop}
    (hk : ∀ h' p, h p = none → Le h h' → RdO h' p ⟨xs, 0⟩ → k (.pointer (some ⟨p, 0, none⟩)) h') :
    Ct 106 [.slice b len cap] h k := by
  obtain ⟨A, hA⟩ := Ar.ex
  refine fn_of_sx A (tabOk T106.plan T106.pub) Tryz.func106 rfl (by kernel_rfl) ?_
  cbv
  refine cloneY q (fun h1 b1 c1 l1 q1 => ?_)
  cbv
  intro p h2 hp e2
  have l2 : Le h1 h2 := by rw [e2]; exact Le.set hp
  have g2 := (congrFun e2 p).trans hset_self
  cbv
  exact hk _ p (l1.none hp) (l1.trans l2) ⟨b1, len, c1, 0, g2, q1.sl.mono (l2.t _), .inl ⟨rfl, rfl⟩⟩
end Go.S

set_option maxRecDepth 100000
set_option maxHeartbeats 8000000
namespace Go.S
open Go.Sx Go.Proofs
theorem _root_.Go.Sx.Sl.take2 {α : Type} {A : Ar} [hA : ArOk A] {e : Nat} {s : Sh α} {h : Heap} {b : Option Addr} {n c : Nat} {xs : List α} (q : Sl e s h (.slice b n c) xs) {z : Int} {i : Nat} (hi : i ≤ n) {m : Nat} (hm : m = i) :
    Sl e s h (.slice (A .cut b 0 z s.n) m c) (xs.take i) := by
  have h1 := (q.takeM (A := A) (z := z) hi (m := i) (c' := i) rfl rfl).out
  obtain ⟨b', cap, e1, h2, h3, h4⟩ := h1
  subst hm
  have hb := q.bound
  have hl : (xs.take m).length = m := by rw [List.length_take, ← q.len]; omega
  refine ⟨A .cut b 0 z s.n, c, by rw [hl], by rw [hl]; omega, h3, ?_⟩
  simp only [Value.slice.injEq] at e1
  rw [e1.1]; exact h4
def takeP (n : Nat) (r : Rdr) : Bs × Rdr := if n > r.b.length then ([], failP 8 r) else if r.e ≠ 0 then ([], r) else (r.b.take n, ⟨r.b.drop n, 0⟩)
theorem takeC {h : Heap} {p : Nat} {r : Rdr} (q : RdO h p r) {z : Int} {n : Nat} (hz : IsN z n) {k : Value → Heap → Prop}
    (hk : ∀ h' b m c, Kp [p] h h' → Sl 5 shB h' (.slice b m c) (takeP n r).1 → RdO h' p (takeP n r).2 → k (.slice b m c) h') :
    Ct 202 [.pointer (some ⟨p, 0, none⟩), .int .i64 z] h k := by
  obtain ⟨A, hA⟩ := Ar.ex
  obtain ⟨bb, m, c, d, g, s, hd⟩ := q.out
  have hbd := s.bound
  have hlen := s.len
  have fn : A .icm .gtr z (A .nat m) = decide (n > m) := by rw [icm_gtr A, hA.nat, hz.eq]; exact decide_eq_decide.2 (by rw [Int.ofNat_eq_natCast]; omega)
  have hck1 : n ≤ m → 0 ≤ z ∧ z ≤ (c : Int) := fun hh => by have := hz.eq; omega
  have hck2 : n ≤ m → 0 ≤ z ∧ z ≤ (m : Int) := fun hh => by have := hz.eq; omega
  have d1 := dif_z0 (A := A) hz
  have d3 := dif_nz (A := A) (n := m) hz
  have d4 := dif_nz (A := A) (n := c) hz
  refine fn_of_sx A (tabOk T202.plan T202.pub) Tryz.func202 rfl (by kernel_rfl) ?_
  cbv
  rw [offm A]
  refine ldb g rfl rfl ?_
  cbv
  rw [fn]
  by_cases hn : n > m
  · have hP : takeP n r = ([], failP 8 r) := if_pos (by omega)
    rw [hP] at hk
    rw [decide_eq_true hn]
    cbv
    refine FailC q 8 (fun h1 k1 q1 => ?_)
    have hne : (failP 8 r).e ≠ 0 := by
      unfold failP
      split
      · exact (by decide : (8 : Int) ≠ 0)
      · rename_i hh; intro e; exact hh ⟨by decide, e⟩
    obtain ⟨r1, hr1⟩ : ∃ r1, r1 = failP 8 r := ⟨_, rfl⟩
    rw [← hr1] at q1 hne hk
    obtain ⟨bb1, m1, c1, d1, g1, s1, hd1⟩ := q1.out
    have fe : A .icm .neq r1.e 0 = decide (r1.e ≠ 0) := icm_neq A ..
    cbv
    rw [offm A]
    refine ldb g1 rfl rfl ?_
    cbv
    rw [fe, decide_eq_true hne]
    cbv
    exact hk _ _ _ _ k1 Sl.nil q1
  · have fe : A .icm .neq r.e 0 = decide (r.e ≠ 0) := icm_neq A ..
    rw [decide_eq_false hn]
    cbv
    rw [offm A]
    refine ldb g rfl rfl ?_
    cbv
    rw [fe]
    by_cases he : r.e ≠ 0
    · have hP : takeP n r = ([], r) := by unfold takeP; rw [if_neg (by omega), if_pos he]
      rw [hP] at hk
      rw [decide_eq_true he]
      cbv
      exact hk _ _ _ _ (Kp.refl _ _) Sl.nil q
    · have he0 : r.e = 0 := by omega
      have hP : takeP n r = (r.b.take n, ⟨r.b.drop n, 0⟩) := by unfold takeP; rw [if_neg (by omega), if_neg he]
      rw [hP] at hk
      rw [decide_eq_false he]
      cbv
      rw [offm A]
      refine ldb g rfl rfl ?_
      cbv
      refine ⟨hck1 (by omega), ?_⟩
      cbv
      rw [offm A]
      refine ldb g rfl rfl ?_
      cbv
      refine ⟨hck2 (by omega), ?_⟩
      cbv
      rw [offm A]
      refine stb g (by simp) (fun h1 e1 => ?_)
      have k1 : Kp [p] h h1 := by rw [e1]; exact Kp.set (by simp)
      have lt : LeT [5] h h1 := kp_lt k1 g (by decide)
      have g1 := (congrFun e1 p).trans hset_self
      have t1 : Sl 5 shB h1 (.slice (A .cut bb 0 (A .nat c) 1) n c) (r.b.take n) := (s.mono lt).take2 (by omega) rfl
      have t2 : Sl 5 shB h1 (.slice (A .cut bb z (A .nat c) 1) (m - n) (c - n)) (r.b.drop n) := (s.mono lt).dropX hz (by omega) rfl rfl
      clear e1
      cbv
      rw [d1]
      refine hk _ _ _ _ k1 t1 ⟨_, _, _, d, ?_, t2, .inl ⟨rfl, by rcases hd with ⟨_, e⟩ | ⟨e, _⟩ <;> simp_all⟩⟩
      rw [g1, he0]
      show some (Obj.cells (List.toArray [_, _, _, _, _]) _ _) = _
      rw [d3, d4]
end Go.S

set_option maxRecDepth 100000
set_option maxHeartbeats 8000000
namespace Go.S
open Go.Sx Go.Proofs
def leN : Bs → Nat
  | [] => 0
  | b :: r => b.toNat + 256 * leN r
theorem leN_lt : ∀ l : Bs, leN l < 256 ^ l.length
  | [] => by simp [leN]
  | b :: r => by
    have h1 := leN_lt r
    have h2 := b.toNat_lt
    simp only [leN, List.length_cons, Nat.pow_succ]
    omega
theorem leN_app : ∀ (l : Bs) (b : UInt8), leN (l ++ [b]) = leN l + b.toNat * 256 ^ l.length
  | [], b => by simp [leN]
  | a :: r, b => by
    simp only [List.cons_append, leN, leN_app r b, List.length_cons, Nat.pow_succ]
    rw [Nat.mul_add, Nat.mul_comm (256 ^ r.length) 256, ← Nat.mul_assoc, ← Nat.mul_assoc, Nat.mul_comm 256 b.toNat]; omega
theorem p256 (i : Nat) : 256 ^ i = 2 ^ (8 * i) := by rw [Nat.pow_mul]
theorem u64_wrap {x : Nat} (h : x < 2 ^ 64) : IntKind.u64.wrap (x : Int) = (x : Int) := by
  have : (2 : Nat) ^ 64 = 18446744073709551616 := rfl
  exact IntWalk.u64_in _ (by omega)
theorem shl_step {b i : Nat} (hi : i < 8) (hb : b < 256) : ari .shl .u64 (b : Int) ((8 * i : Nat) : Int) = ((b * 256 ^ i : Nat) : Int) := by
  have h1 : b * 256 ^ i < 2 ^ 64 := by
    have h2 : (256 : Nat) ^ i ≤ 256 ^ 7 := Nat.pow_le_pow_right (by omega) (by omega)
    have : b * 256 ^ i ≤ 255 * 256 ^ 7 := Nat.mul_le_mul (by omega) h2
    have h3 : (255 : Nat) * 256 ^ 7 < 2 ^ 64 := by decide
    omega
  show IntKind.u64.wrap ((b : Int) * 2 ^ (min ((8 * i : Nat) : Int).toNat 64)) = _
  have h4 : min ((8 * i : Nat) : Int).toNat 64 = 8 * i := by omega
  rw [h4]
  have h5 : (b : Int) * 2 ^ (8 * i) = ((b * 256 ^ i : Nat) : Int) := by rw [p256]; push_cast; rfl
  rw [h5, u64_wrap h1]
theorem or_step {a b i : Nat} (hi : i < 8) (ha : a < 256 ^ i) (hb : b < 256) : ari .or .u64 (a : Int) ((b * 256 ^ i : Nat) : Int) = ((a + b * 256 ^ i : Nat) : Int) := by
  have h2 : (256 : Nat) ^ i ≤ 256 ^ 7 := Nat.pow_le_pow_right (by omega) (by omega)
  have h0 : b * 256 ^ i ≤ 255 * 256 ^ i := Nat.mul_le_mul (by omega) (Nat.le_refl _)
  have h3 : (256 : Nat) * 256 ^ 7 = 2 ^ 64 := by decide
  have h1 : a + b * 256 ^ i < 2 ^ 64 := by omega
  show IntKind.u64.wrap (((BitVec.ofInt 64 (a : Int) ||| BitVec.ofInt 64 ((b * 256 ^ i : Nat) : Int)).toNat : Nat) : Int) = _
  have h5 : (BitVec.ofInt 64 (a : Int) ||| BitVec.ofInt 64 ((b * 256 ^ i : Nat) : Int)).toNat = a + b * 256 ^ i := by
    rw [BitVec.toNat_or, BitVec.toNat_ofInt, BitVec.toNat_ofInt]
    have e1 : (((a : Int) % ((2 ^ 64 : Nat) : Int)).toNat) = a := by
      rw [← Int.natCast_emod, Int.toNat_natCast, Nat.mod_eq_of_lt (by omega)]
    have e2 : ((((b * 256 ^ i : Nat) : Int) % ((2 ^ 64 : Nat) : Int)).toNat) = b * 256 ^ i := by
      rw [← Int.natCast_emod, Int.toNat_natCast, Nat.mod_eq_of_lt (by omega)]
    rw [e1, e2, Nat.or_comm]
    have := Nat.two_pow_add_eq_or_of_lt (i := 8 * i) (b := a) (by rw [← p256]; exact ha) b
    rw [← p256] at this
    rw [Nat.mul_comm b, ← this, Nat.add_comm]
  rw [h5, u64_wrap h1]
theorem shB_form {h : Heap} {cs : List Value} {x : UInt8} (q : shB.R h cs x) : ∃ z, cs = [.int .u8 z] ∧ shB.R h [.int .u8 z] x := ⟨_, q, rfl⟩
def numP (n : Nat) (r : Rdr) : Int × Rdr := (IntKind.i64.wrap (leN (takeP n r).1 : Int), (takeP n r).2)
theorem takeP_len (n : Nat) (r : Rdr) : (takeP n r).1.length ≤ n := by
  unfold takeP
  split
  · simp
  · split
    · simp
    · simp only [List.length_take]; omega
theorem numberC {h : Heap} {p : Nat} {r : Rdr} (q : RdO h p r) {z : Int} {n : Nat} (hz : IsN z n) (hn : n ≤ 8) {k : Value → Heap → Prop}
    (hk : ∀ h', Kp [p] h h' → RdO h' p (numP n r).2 → k (.int .i64 (numP n r).1) h') :
    Ct 198 [.pointer (some ⟨p, 0, none⟩), .int .i64 z] h k := by
  obtain ⟨A, hA⟩ := Ar.ex
  refine fn_of_sx A (tabOk T198.plan T198.pub) Tryz.func198 rfl (by kernel_rfl) ?_
  cbv
  refine takeC q hz (fun h1 b m c k1 s1 q1 => ?_)
  have hl := takeP_len n r
  have hm := s1.len
  have hP : numP n r = (IntKind.i64.wrap (leN (takeP n r).1 : Int), (takeP n r).2) := rfl
  rw [hP] at hk
  clear hP
  generalize takeP n r = D at *
  obtain ⟨l, r1⟩ := D
  have hl : l.length ≤ n := hl
  have hm : m = l.length := hm
  have s1 : Sl 5 shB h1 (.slice b m c) l := s1
  have hfin : ∀ z : Int, z = ((leN l : Nat) : Int) → k (.int .i64 (A .conv .i64 z)) h1 := fun z hz => by
    have := hk h1 k1 q1
    rw [hA.conv, hz]; exact this
  obtain ⟨J, hJ0⟩ : ∃ J : Nat → (Int × Int) → Heap → Prop, ∀ w g h', J w g h' = (h' = h1 ∧ ∃ i, IsN g.1 i ∧ i ≤ m ∧ w = m - i ∧ g.2 = ((leN (l.take i) : Nat) : Int)) := ⟨_, fun _ _ _ => rfl⟩
  have hJ : J m (0, 0) h1 := by rw [hJ0]; exact ⟨rfl, 0, ⟨rfl⟩, Nat.zero_le _, rfl, rfl⟩
  clear hk
  cbv
  refine LoopX.go (G := Int × Int) (fun g => [(12, .v (.int .i64 g.1)), (5, .v (.int .u64 g.2))]) (fun _ => []) (fun w g h' => J w g h') m (0, 0) ⟨?_, ?_, ?_⟩ hJ ?_
  · cbv
  · cbv
  · cbv
  · intro w g h2 hI
    rw [hJ0] at hI
    cbv
    obtain ⟨z1, u⟩ := g
    obtain ⟨he2, i, hi, him, hw, hu⟩ := hI
    subst he2
    have hi : IsN z1 i := hi
    have hu : u = ((leN (l.take i) : Nat) : Int) := hu
    have f1 : A .icm .lss z1 (A .nat m) = decide (i < m) := hi.lt2 (IsN.nat m)
    have hck : i < m → b.isSome = true ∧ 0 ≤ z1 ∧ z1 < (m : Int) := fun hh => ⟨s1.isSm (by omega), hi.ix hh⟩
    have hnx := fun hh => hi.succ (A := A) hh
    have hck2 : 0 ≤ A .ari .mul .i64 8 z1 := by
      rw [hA.ari, hi.eq]
      show 0 ≤ IntKind.i64.wrap (8 * (i : Int))
      rw [IntWalk.i64_in _ (by omega)]; omega
    have hstep : ∀ (x : UInt8) (xv : Int), l[i]? = some x → shB.R h2 [.int .u8 xv] x → A .ari .or .u64 u (A .ari .shl .u64 (A .conv .u64 xv) (A .ari .mul .i64 8 z1)) = ((leN (l.take (i + 1)) : Nat) : Int) := fun x xv hx hxv => by
      have hxv : xv = (x.toNat : Int) := by cases hxv; rfl
      subst hxv
      have hil : i < l.length := (List.getElem?_eq_some_iff.1 hx).1
      have e1 : A .ari .mul .i64 8 z1 = ((8 * i : Nat) : Int) := by
        rw [hA.ari, hi.eq]
        show IntKind.i64.wrap (8 * (i : Int)) = _
        rw [IntWalk.i64_in _ (by omega)]; omega
      have hxl := x.toNat_lt
      have e2 : A .conv .u64 (x.toNat : Int) = (x.toNat : Int) := by rw [hA.conv]; exact u64_wrap (by omega)
      have hlt : leN (l.take i) < 256 ^ i := by
        have := leN_lt (l.take i)
        rwa [List.length_take, Nat.min_eq_left (by omega)] at this
      rw [e1, e2, hA.ari, shl_step (by omega) (by omega), hu, or_step (by omega) hlt (by omega), List.take_add_one, hx]
      show _ = ((leN (l.take i ++ [x]) : Nat) : Int)
      rw [leN_app, List.length_take, Nat.min_eq_left (by omega)]
    have hJ2 : ∀ u', u' = ((leN (l.take (i + 1)) : Nat) : Int) → i < m → J (m - (i + 1)) (A .ari .add .i64 z1 1, u') h2 := fun u' e hh => by rw [hJ0]; exact ⟨rfl, i + 1, hnx (by omega), hh, rfl, e⟩
    have hze := hi.eq
    have hfin2 := hfin u
    clear hfin
    cbv
    rw [f1]
    by_cases hlt : i < m
    · obtain ⟨x, hx⟩ := get_ex (xs := l) (i := i) (by omega)
      rw [decide_eq_true hlt]
      clear hJ0 hJ hnx hfin2
      cbv
      refine ⟨hck hlt, ?_⟩
      cbv
      refine s1.load hx hze (fun cs hcs => ?_)
      obtain ⟨xv, hxv, hR⟩ := shB_form hcs
      subst hxv
      have hJ3 := hJ2 _ (hstep x xv hx hR) hlt
      clear hJ2 hstep hR hcs
      cbv
      refine ⟨hck2, ?_⟩
      cbv
      refine ⟨m - (i + 1), (A .ari .add .i64 z1 1, _), by omega, ⟨?_, ?_, ?_⟩, hJ3⟩
      · cbv
      · cbv
      · cbv
    · have : i = l.length := by omega
      have hfin3 := hfin2 (by rw [hu, this, List.take_length])
      clear hJ0 hJ2 hstep hJ hnx hfin2
      rw [decide_eq_false hlt]
      cbv
      exact hfin3
end Go.S

set_option maxRecDepth 100000
set_option maxHeartbeats 8000000
namespace Go.S
open Go.Sx Go.Proofs
def strOf (l : Bs) : ByteArray := ⟨l.toArray⟩
def bsOf (s : ByteArray) : Bs := s.data.toList
theorem u8_under : Tryz.prog.underlying 5 = some (.int .u8) := by kernel_rfl
theorem bys_under : Tryz.prog.underlying 35 = some (.slice 5) := by kernel_rfl
theorem str_under : Tryz.prog.underlying 9 = some .string := by kernel_rfl
theorem sem_b2s {e1 : Nat} {h : Heap} {b : Option Addr} {n c : Nat} {l : Bs} (q : Sl e1 shB h (.slice b n c) l) {k : Value → Heap → Prop} (hk : k (.string (strOf l)) h) :
    SemX (fun _ => Tryz.prog) (fun _ => Go.convert 35 9 (.slice b n c)) h k := by
  have hn := q.len
  subst hn
  refine ⟨fun w hw => ⟨_, w, h, ?_, hk, After.refl hw⟩⟩
  obtain ⟨b', cap, e1, h2, h3, h4⟩ := q.out
  cases e1
  rcases h4 with rfl | ⟨blk, off, cc, fr, rfl, g2, g3⟩
  · cases b with
    | none => exact run_convert_bytes_nil w _ _ bys_under u8_under _ _ _ str_under
    | some a => exact run_convert_bytes_back w _ _ _ a c [] bys_under u8_under str_under (fun j hj => absurd hj (by simp))
  · refine run_convert_bytes_back w _ _ _ ⟨blk, off, none⟩ c l bys_under u8_under str_under (fun j hj => ?_)
    have hx := g3.2 j l[j] (by simp [hj])
    have hx : ((cc.toList.drop (off + j * 1)).take 1) = [.int .u8 (l[j].toNat : Int)] := hx
    have hc : cc[off + j]? = some (.int .u8 (l[j].toNat : Int)) := by
      have := congrArg (fun z => z[0]?) hx
      simpa [List.getElem?_take, List.getElem?_drop] using this
    have e5 : (⟨blk, off, none⟩ : Addr).add j = ⟨blk, off + j, none⟩ := by simp [Addr.add]
    rw [e5]
    simp [World.cell?, hw _ _ g2, hc]
theorem sem_s2b {h : Heap} {s : ByteArray} (hs : s.size ≤ 2 ^ 40) {k : Value → Heap → Prop} (hk : ∀ nb c m h', m = s.size → h nb = none → Le h h' → Sl 5 shB h' (.slice (some ⟨nb, 0, none⟩) m c) (bsOf s) → k (.slice (some ⟨nb, 0, none⟩) m c) h') :
    SemX (fun _ => Tryz.prog) (fun _ => Go.convert 9 35 (.string s)) h k := by
  refine ⟨fun w hw => ?_⟩
  have hrun := run_bytes_of_string (P := Tryz.prog) w 9 35 5 s str_under bys_under u8_under
  have hcap : s.size ≤ grownCap w s.size 0 5 := grownCap_ge w _ _ _
  generalize grownCap w s.size 0 5 = cap at hrun hcap
  have hfresh : h w.heap.size = none := hw.none_ge (Nat.le_refl _)
  have hsl : s.size = (bsOf s).length := (Array.length_toList (xs := s.data)).symm
  refine ⟨_, _, hset h w.heap.size (.cells (bytesRow s cap) 5 ((bytesRow s cap).size, (bytesRow s cap).size + 1)), hrun, hk _ _ _ _ rfl hfresh (Le.set hfresh) ?_, ?_⟩
  · refine ⟨_, cap, by rw [hsl], by rw [← hsl]; exact hcap, by rw [← hsl]; exact hs, .inr ⟨_, 0, _, _, rfl, hset_self, ?_, fun i x hx => ?_⟩⟩
    · show 0 + (bsOf s).length * 1 ≤ _
      rw [← hsl]
      unfold bytesRow
      rw [Array.toList_append, List.length_append, Array.length_toList, Array.size_map]
      show 0 + s.data.size * 1 ≤ _
      omega
    · have hil : i < (bsOf s).length := (List.getElem?_eq_some_iff.1 hx).1
      show (((bytesRow s cap).toList.drop (0 + i * 1)).take 1) = _
      unfold bytesRow
      apply List.ext_getElem?
      intro j
      rw [List.getElem?_take, List.getElem?_drop]
      by_cases hj : j < 1
      · rw [if_pos hj]
        have hj0 : j = 0 := by omega
        subst hj0
        rw [Array.toList_append, List.getElem?_append_left (by rw [Array.length_toList, Array.size_map]; have : i < s.data.toList.length := hil; rw [Array.length_toList] at this; omega)]
        have hx' : s.data.toList[i]? = some x := hx
        simp only [Array.toList_map, List.getElem?_map, Nat.zero_add, Nat.add_zero, Nat.mul_one, hx', Option.map_some]
        rfl
      · rw [if_neg hj]
        rw [List.getElem?_eq_none (by simp; omega)]
  · have := After.new (h := h) (w := w.drew) hw (.cells (bytesRow s cap) 5 ((bytesRow s cap).size, (bytesRow s cap).size + 1))
    exact ⟨this.os, this.tape, this.output, this.size, this.agr, this.frame⟩
theorem IntC {h : Heap} {p : Nat} {r : Rdr} (q : RdO h p r) {k : Value → Heap → Prop} (hk : ∀ h', Kp [p] h h' → RdO h' p (numP 8 r).2 → k (.int .i64 (numP 8 r).1) h') :
    Ct 107 [.pointer (some ⟨p, 0, none⟩)] h k := by
  obtain ⟨A, hA⟩ := Ar.ex
  refine fn_of_sx A (tabOk T107.plan T107.pub) Tryz.func107 rfl (by kernel_rfl) ?_
  cbv
  refine numberC (n := 8) q ⟨rfl⟩ (by decide) (fun h1 k1 q1 => ?_)
  have := hk h1 k1 q1
  generalize numP 8 r = D at *
  cbv
  exact this
theorem ByteC {h : Heap} {p : Nat} {r : Rdr} (q : RdO h p r) {k : Value → Heap → Prop} (hk : ∀ h', Kp [p] h h' → RdO h' p (numP 1 r).2 → k (.int .i64 (numP 1 r).1) h') :
    Ct 109 [.pointer (some ⟨p, 0, none⟩)] h k := by
  obtain ⟨A, hA⟩ := Ar.ex
  refine fn_of_sx A (tabOk T109.plan T109.pub) Tryz.func109 rfl (by kernel_rfl) ?_
  cbv
  refine numberC (n := 1) q ⟨rfl⟩ (by decide) (fun h1 k1 q1 => ?_)
  have := hk h1 k1 q1
  generalize numP 1 r = D at *
  cbv
  exact this
def textP (r : Rdr) : Bs × Rdr := takeP (numP 2 r).1.toNat (numP 2 r).2
theorem num2_nat (r : Rdr) : IsN (numP 2 r).1 (numP 2 r).1.toNat ∧ (numP 2 r).1.toNat < 65536 := by
  have h1 := leN_lt (takeP 2 r).1
  have h2 := takeP_len 2 r
  have h3 : 256 ^ (takeP 2 r).1.length ≤ 256 ^ 2 := Nat.pow_le_pow_right (by omega) h2
  have h4 : (numP 2 r).1 = (leN (takeP 2 r).1 : Int) := by
    show IntKind.i64.wrap _ = _
    rw [IntWalk.i64_in _ (by omega)]
  rw [h4]
  exact ⟨⟨by omega⟩, by omega⟩
theorem TextC {h : Heap} {p : Nat} {r : Rdr} (q : RdO h p r) {k : Value → Heap → Prop} (hk : ∀ h', Kp [p] h h' → RdO h' p (textP r).2 → k (.string (strOf (textP r).1)) h') :
    Ct 111 [.pointer (some ⟨p, 0, none⟩)] h k := by
  obtain ⟨A, hA⟩ := Ar.ex
  refine fn_of_sx A (tabOk T111.plan T111.pub) Tryz.func111 rfl (by kernel_rfl) ?_
  cbv
  refine numberC (n := 2) q ⟨rfl⟩ (by decide) (fun h1 k1 q1 => ?_)
  have hz := (num2_nat r).1
  have hk : ∀ h', Kp [p] h h' → RdO h' p (takeP (numP 2 r).1.toNat (numP 2 r).2).2 → k (.string (strOf (takeP (numP 2 r).1.toNat (numP 2 r).2).1)) h' := hk
  generalize numP 2 r = D at *
  obtain ⟨z, r1⟩ := D
  generalize z.toNat = n at *
  cbv
  refine takeC q1 hz (fun h2 b m c k2 s2 q2 => ?_)
  have hk2 := hk h2 (k1.trans k2) q2
  generalize takeP n r1 = D at *
  obtain ⟨l, r2⟩ := D
  generalize hs : strOf l = t at *
  cbv
  refine sem_b2s s2 ?_
  rw [hs]
  cbv
  exact hk2
def endP (r : Rdr) : Int := if r.e = 0 ∧ r.b ≠ [] then 9 else r.e
theorem EndC {h : Heap} {p : Nat} {r : Rdr} (q : RdO h p r) {k : Value → Heap → Prop} (hk : k (.int .i64 (endP r)) h) :
    Ct 115 [.pointer (some ⟨p, 0, none⟩)] h k := by
  obtain ⟨A, hA⟩ := Ar.ex
  obtain ⟨bb, m, c, d, g, s, hd⟩ := q.out
  have hlen := s.len
  have fe : A .icm .eql r.e 0 = decide (r.e = 0) := icm_eql A ..
  have fm : A .icm .gtr (A .nat m) 0 = decide (r.b ≠ []) := by
    rw [icm_gtr A, hA.nat]
    refine decide_eq_decide.2 ?_
    rw [Int.ofNat_eq_natCast, hlen]
    constructor
    · intro h e; rw [e] at h; simp at h
    · intro h; have := List.length_pos_iff.2 h; omega
  refine fn_of_sx A (tabOk T115.plan T115.pub) Tryz.func115 rfl (by kernel_rfl) ?_
  cbv
  rw [offm A]
  refine ldb g rfl rfl ?_
  cbv
  rw [fe]
  by_cases he : r.e = 0
  · rw [decide_eq_true he]
    cbv
    rw [offm A]
    refine ldb g rfl rfl ?_
    cbv
    rw [fm]
    by_cases hb : r.b ≠ []
    · rw [show endP r = 9 from if_pos ⟨he, hb⟩] at hk
      rw [decide_eq_true hb]
      cbv
      exact hk
    · rw [show endP r = r.e from if_neg (fun g => hb g.2)] at hk
      rw [decide_eq_false hb]
      cbv
      rw [offm A]
      refine ldb g rfl rfl ?_
      cbv
      exact hk
  · rw [show endP r = r.e from if_neg (fun g => he g.1)] at hk
    rw [decide_eq_false he]
    cbv
    rw [offm A]
    refine ldb g rfl rfl ?_
    cbv
    exact hk
end Go.S

set_option maxRecDepth 100000
set_option maxHeartbeats 8000000
namespace Go.S
open Go.Sx Go.Proofs
/-- The element types of blocks that hold bytes. -/
def byT : List Nat := [5, 104, 135, 134]
/-- Bytes as a cell, in a block of bytes, or of arrays of bytes. -/
def shBs : Sh Bs where
  n := 1
  R h cs xs := ∃ v, cs = [v] ∧ ∃ e ∈ byT, Sl e shB h v xs
  len := by rintro h cs x ⟨v, rfl, -⟩; rfl
  one := by rintro h cs x ⟨v, rfl, e, -, q⟩; obtain ⟨b, cap, rfl, -⟩ := q.out; rfl
  tys := byT
  mono := by rintro h h' cs x hl ⟨v, rfl, e, he, q⟩; exact ⟨v, rfl, e, he, q.mono (hl.sub fun t ht => by simp [shB] at ht; rw [ht]; exact he)⟩
theorem shBs_of {e : Nat} {h : Heap} {v : Value} {xs : Bs} (q : Sl e shB h v xs) (he : e ∈ byT := by decide) : shBs.R h [v] xs := ⟨v, rfl, e, he, q⟩
theorem growY {h : Heap} {z : Int} {m : Nat} (hz : IsN z m) (hm : m ≤ 2 ^ 38) :
    Ct 307 [.slice none 0 0, .int .i64 z] h (fun v h' => Le h h' ∧ ∃ b' c', v = .slice b' 0 c' ∧ Buf 5 shB h h' (.slice b' 0 c') ([] : Bs)) := by
  obtain ⟨A, hA⟩ := Ar.ex
  have h0 : IsN (A .nat 0) 0 := IsN.nat 0
  have hw := hz.sub (A := A) (h0.sub (A := A) h0 (by omega) (by omega)) (by omega) (by omega)
  simp only [Nat.sub_zero, Nat.sub_self] at hw
  refine fn_of_sx A (tabOk T307.plan T307.pub) Tryz.func307 rfl (by kernel_rfl) ?_
  cbv
  rw [hz.nlt0 (A := A)]
  cbv
  generalize eg : A .icm .gtr (A .ari .sub .i64 z (A .ari .sub .i64 (A .nat 0) (A .nat 0))) 0 = u
  generalize ew : A .ari .sub .i64 z (A .ari .sub .i64 (A .nat 0) (A .nat 0)) = w at hw eg
  rw [icm_gtr A] at eg
  cases u with
  | true =>
    have hp := of_decide_eq_true eg
    have hm0 : 0 < m := by have := hw.eq; omega
    cbv
    have hz0 : (0 : Int) ≤ A .nat 0 ∧ A .nat 0 ≤ ((0 : Nat) : Int) := by have := h0.eq; omega
    refine ⟨hz0, ?_⟩
    cbv
    refine ⟨chk_make hw (by omega) (by decide), ?_⟩
    cbv
    rw [dif_z0 (A := A) hw, dif_z0 (A := A) h0]
    refine appendZ_own (s := shB) (xs := ([] : Bs)) Sl.nil (by omega) rfl (by decide) (by omega) rfl rfl (fun nb c h1 hnb l1 hc ho => ?_)
    rw [Nat.zero_add]
    have hck : (0 : Int) ≤ A .nat 0 ∧ A .nat 0 ≤ ((c : Nat) : Int) := by have := h0.eq; omega
    cbv
    refine ⟨hck, ?_⟩
    cbv
    rw [dif_z0 (A := A) h0, cut0_own (A := A)]
    exact ⟨l1, _, _, rfl, ho.buf hnb rfl⟩
  | false =>
    cbv
    exact ⟨Le.refl _, _, _, rfl, Buf.nil⟩

theorem concatY {L : List (Bs)} {h : Heap} {b : Option Addr} {n c : Nat} (q : Sl 35 shBs h (.slice b n c) L) (hn : L.flatten.length ≤ 2 ^ 38) {k : Value → Heap → Prop} (hk : ∀ h' b' n' c', Le h h' → Buf 5 shB h h' (.slice b' n' c') L.flatten → k (.slice b' n' c') h') :
    Ct 245 [.slice b n c] h k := by
  obtain ⟨kk, hkk0⟩ : ∃ kk, kk = k := ⟨_, rfl⟩
  rw [← hkk0]
  have hkk := hk
  rw [← hkk0] at hkk
  clear hk
  obtain ⟨A, hA⟩ := Ar.ex
  have hlen := q.len
  obtain ⟨hb1, hb2⟩ := q.bound
  refine fn_of_sx A (tabOk T245.plan T245.pub) Tryz.func245 rfl (by kernel_rfl) ?_
  cbv
  refine LoopX.go (G := Int × Int) (fun g => [(11, .v (.int .i64 g.1)), (3, .v (.int .i64 g.2))]) (fun _ => [])
    (fun k g h' => ∃ i : Nat, IsN g.1 i ∧ k = n - i ∧ i ≤ n ∧ h' = h ∧ IsN g.2 (L.take i).flatten.length) n (0, 0) ⟨?_, ?_, ?_⟩ ⟨0, ⟨rfl⟩, by omega, by omega, rfl, ⟨rfl⟩⟩ ?_
  · cbv
  · cbv
  · cbv
  · intro k g h' hI
    cbv
    obtain ⟨i, hz, hk, hi, rfl, hw⟩ := hI
    refine bsel_mk (fun hc => ?_) (fun hc => ?_)
    · have hlt := hz.lt hc
      clear hc
      cbv
      obtain ⟨x, hx⟩ := get_ex (xs := L) (i := i) (by omega)
      refine ⟨⟨q.isSm (by omega), hz.ix hlt⟩, ?_⟩
      cbv
      refine q.load hx hz.eq (fun cs hcs => ?_)
      obtain ⟨v, rfl, e1, he1, hv⟩ := hcs
      obtain ⟨b1, l1, c1, rfl⟩ := hv.form
      have hl1 := hv.len
      have hle := flat_le L (i + 1)
      rw [flat_take hx, List.length_append, ← hl1] at hle
      have hw2 := hw.add (A := A) (IsN.nat (A := A) l1) (by omega)
      have hft := flat_take hx
      cbv
      rw [hw2.nlt0 (A := A)]
      cbv
      refine ⟨n - (i + 1), (_, A .ari .add .i64 g.2 (A .nat l1)), by omega, ⟨?_, ?_, ?_⟩, i + 1, hz.succ (A := A) (by omega), rfl, by omega, rfl, ?_⟩
      · cbv
      · cbv
      · cbv
      · rw [hft, List.length_append, ← hl1]; exact hw2
    · have hge := hz.ge hc
      have hin : i = n := by omega
      rw [List.take_of_length_le (by omega)] at hw
      obtain ⟨z, w⟩ := g
      have hw : IsN w L.flatten.length := hw
      cbv
      refine (growY hw hn).mono (fun v h1 hR => ?_)
      obtain ⟨l1, b1, c1, rfl, hb⟩ := hR
      cbv
      refine LoopX.go (G := Int × Option Addr × Nat × Nat) (fun g => [(27, .v (.int .i64 g.1)), (6, .v (.slice g.2.1 g.2.2.1 g.2.2.2))]) (fun _ => [])
        (fun k g h2 => ∃ i : Nat, IsN g.1 i ∧ k = n - i ∧ i ≤ n ∧ Le h' h2 ∧ Buf 5 shB h' h2 (.slice g.2.1 g.2.2.1 g.2.2.2) (L.take i).flatten) n (0, b1, 0, c1) ⟨?_, ?_, ?_⟩ ⟨0, ⟨rfl⟩, by omega, by omega, l1, hb⟩ ?_
      · cbv
      · cbv
      · cbv
      · intro k g h2 hI
        cbv
        obtain ⟨i, hz, hk, hi, hle, hb⟩ := hI
        obtain ⟨z, gb, gl, gc⟩ := g
        have hz : IsN z i := hz
        have hb : Buf 5 shB h' h2 (.slice gb gl gc) (L.take i).flatten := hb
        refine bsel_mk (fun hc => ?_) (fun hc => ?_)
        · have hlt := hz.lt hc
          clear hc
          cbv
          obtain ⟨x, hx⟩ := get_ex (xs := L) (i := i) (by omega)
          refine ⟨⟨q.isSm (by omega), hz.ix hlt⟩, ?_⟩
          cbv
          refine (q.mono (hle.t _)).load hx hz.eq (fun cs hcs => ?_)
          obtain ⟨v, rfl, e1, he1, hv⟩ := hcs
          obtain ⟨b2, l2, c2, rfl⟩ := hv.form
          have hl2 := hv.len
          have hgl : gl = (L.take i).flatten.length := hb.sl.len
          have hle2 := flat_le L (i + 1)
          have hft := flat_take hx
          rw [hft, List.length_append, ← hl2, ← hgl] at hle2
          cbv
          refine hb.app hv (by decide) rfl (by decide) (by omega) hle (fun m b' c' h3 hm l3 t3 k3 hb3 => ?_)
          cbv
          refine ⟨n - (i + 1), (_, b', m, c'), by omega, ⟨?_, ?_, ?_⟩, i + 1, hz.succ (A := A) (by omega), rfl, by omega, l3, ?_⟩
          · cbv
          · cbv
          · cbv
          · rw [hft]; exact hb3
        · have hge := hz.ge hc
          cbv
          rw [List.take_of_length_le (by omega)] at hb
          exact hkk _ _ _ _ hle hb

/-- A number's byte. -/
def u8 (n : Int) : UInt8 := UInt8.ofNat (n % 256).toNat
theorem u8_conv {A : Ar} [hA : ArOk A] {h : Heap} (n : Int) : shB.R h [.int .u8 (A .conv .u8 n)] (u8 n) := by
  show [Value.int .u8 (A .conv .u8 n)] = [.int .u8 ((u8 n).toNat : Int)]
  rw [hA.conv]
  have h1 : IntKind.u8.wrap n = n % 256 := IntKind.wrap_u8 n
  have h2 : ((u8 n).toNat : Int) = n % 256 := by
    unfold u8
    rw [UInt8.toNat_ofNat']
    omega
  show [Value.int .u8 (IntKind.u8.wrap n)] = _
  rw [h1, h2]
theorem ByteW {h : Heap} {b : Option Addr} {m c : Nat} {l : Bs} (q : Sl 5 shB h (.slice b m c) l) (hm : m ≤ 2 ^ 37) (z : Int) {k : Value → Heap → Prop} (hk : ∀ h' b' n' c', Le h h' → Buf 5 shB h h' (.slice b' n' c') (l ++ [u8 z]) → k (.slice b' n' c') h') :
    Ct 147 [.slice b m c, .int .i64 z] h k := by
  obtain ⟨A, hA⟩ := Ar.ex
  have hlen := q.len
  have hu := u8_conv (A := A) (h := h) z
  refine fn_of_sx A (tabOk T147.plan T147.pub) Tryz.func147 rfl (by kernel_rfl) ?_
  cbv
  intro n1 h1 hn1 e1
  have l1 : Le h h1 := by rw [e1]; exact Le.set hn1
  have g1 := (congrFun e1 n1).trans hset_self
  cbv
  intro n2 h2 hn2 e2
  have l2 : Le h1 h2 := by rw [e2]; exact Le.set hn2
  have g2 := (congrFun e2 n2).trans hset_self
  have ha : ([l, [u8 z]] : List Bs).flatten = l ++ [u8 z] := by simp
  cbv
  refine concatY (L := [l, [u8 z]]) (two_sl (s := shBs) rfl g2 (shBs_of (q.mono ((l1.trans l2).t _))) (shBs_of (one_sl (s := shB) (l2 _ _ g1) hu))) (by rw [ha, List.length_append, ← hlen, List.length_singleton]; omega) (fun h3 b' n' c' l3 q3 => ?_)
  rw [ha] at q3
  cbv
  exact hk _ _ _ _ ((l1.trans l2).trans l3) (q3.base (l1.trans l2))
end Go.S

set_option maxRecDepth 100000
set_option maxHeartbeats 8000000
namespace Go.S
open Go.Sx Go.Proofs
/-- A number's k-th byte, as it is written; its eight bytes. -/
def nByte (n : Int) (k : Nat) : UInt8 := u8 (n % 18446744073709551616 / (2 ^ (8 * k)))
def le8 (n : Int) : Bs := (List.range 8).map (nByte n)
theorem le8_len (n : Int) : (le8 n).length = 8 := rfl
theorem range_take {α : Type} (f : Nat → α) {n i : Nat} (hi : i < n) : ((List.range n).map f).take (i + 1) = ((List.range n).map f).take i ++ [f i] := by
  rw [List.take_add_one]
  congr 1
  simp [hi]
theorem u64_mod (n : Int) : IntKind.u64.wrap n = n % 18446744073709551616 := by simp [IntKind.wrap, IntKind.bits, IntKind.signed]
theorem shr_byte {A : Ar} [hA : ArOk A] {h : Heap} (n : Int) {z : Int} {i : Nat} (hz : IsN z i) (hi : i < 8) : shB.R h [.int .u8 (A .conv .u8 (A .ari .shr .u64 (A .conv .u64 n) (A .ari .mul .i64 8 z)))] (nByte n i) := by
  have h1 : A .ari .mul .i64 8 z = ((8 * i : Nat) : Int) := by
    rw [hA.ari, hz.eq]
    show IntKind.i64.wrap (8 * (i : Int)) = _
    rw [IntWalk.i64_in _ (by omega)]; omega
  have h2 : A .conv .u64 n = n % 18446744073709551616 := by rw [hA.conv]; exact u64_mod n
  have h3 : A .ari .shr .u64 (A .conv .u64 n) (A .ari .mul .i64 8 z) = n % 18446744073709551616 / (2 ^ (8 * i)) := by
    rw [h1, h2, hA.ari]
    show (n % 18446744073709551616).fdiv (2 ^ (min ((8 * i : Nat) : Int).toNat 64)) = _
    rw [show min ((8 * i : Nat) : Int).toNat 64 = 8 * i by omega, Int.fdiv_eq_ediv_of_nonneg _ (Int.le_of_lt (Int.pow_pos (by decide)))]
  rw [h3]
  exact u8_conv _
theorem IntW {e1 : Nat} {h : Heap} {b : Option Addr} {m c : Nat} {l : Bs} (q : Sl e1 shB h (.slice b m c) l) (hm : m ≤ 2 ^ 37) (n : Int) {k : Value → Heap → Prop} (hk : ∀ h' b' n' c', Le h h' → Buf 5 shB h h' (.slice b' n' c') (l ++ le8 n) → k (.slice b' n' c') h') :
    Ct 185 [.slice b m c, .int .i64 n] h k := by
  obtain ⟨A, hA⟩ := Ar.ex
  have hlen := q.len
  obtain ⟨J, hJ0⟩ : ∃ J : Nat → (Int × Option Addr × Nat × Nat) → Heap → Prop, ∀ w g h', J w g h' = (∃ i, IsN g.1 i ∧ i ≤ 8 ∧ w = 8 - i ∧ Le h h' ∧ Buf 5 shB h h' (.slice g.2.1 g.2.2.1 g.2.2.2) (l ++ (le8 n).take i)) := ⟨_, fun _ _ _ => rfl⟩
  refine fn_of_sx A (tabOk T185.plan T185.pub) Tryz.func185 rfl (by kernel_rfl) ?_
  cbv
  refine cloneY q (fun h1 b1 c1 l1 q1 => ?_)
  have hJ : J 8 (0, b1, m, c1) h1 := by rw [hJ0]; exact ⟨0, ⟨rfl⟩, by omega, rfl, l1, by simpa using q1⟩
  cbv
  refine LoopX.go (G := Int × Option Addr × Nat × Nat) (fun g => [(9, .v (.int .i64 g.1)), (5, .v (.slice g.2.1 g.2.2.1 g.2.2.2))]) (fun _ => []) (fun w g h' => J w g h') 8 (0, b1, m, c1) ⟨?_, ?_, ?_⟩ hJ ?_
  · cbv
  · cbv
  · cbv
  · intro w g h2 hI
    rw [hJ0] at hI
    cbv
    obtain ⟨z, gb, gm, gc⟩ := g
    obtain ⟨i, hz, hi8, hw, l2, q2⟩ := hI
    have hz : IsN z i := hz
    have q2 : Buf 5 shB h h2 (.slice gb gm gc) (l ++ (le8 n).take i) := q2
    have hgm := q2.sl.len
    rw [List.length_append, List.length_take, le8_len, ← hlen] at hgm
    have f1 : A .icm .lss z 8 = decide (i < 8) := by rw [icm_lss A, hz.eq]; exact decide_eq_decide.2 (by omega)
    have hck : i < 8 → 0 ≤ A .ari .mul .i64 8 z := fun hh => by
      rw [hA.ari, hz.eq]
      show 0 ≤ IntKind.i64.wrap (8 * (i : Int))
      rw [IntWalk.i64_in _ (by omega)]; omega
    have hR := fun hh : i < 8 => shr_byte (A := A) (h := h2) n hz hh
    have hnx := hz.succ (A := A) (by omega)
    have hst := fun hh : i < 8 => range_take (nByte n) hh
    have hst : i < 8 → (le8 n).take (i + 1) = (le8 n).take i ++ [nByte n i] := hst
    have hJ2 : ∀ h' m' b' c', i < 8 → Le h h' → Buf 5 shB h h' (.slice b' m' c') (l ++ (le8 n).take i ++ [nByte n i]) → J (8 - (i + 1)) (A .ari .add .i64 z 1, b', m', c') h' := fun h' m' b' c' hh l' q' => by
      rw [hJ0]; exact ⟨i + 1, hnx, hh, rfl, l', by rw [hst hh, ← List.append_assoc]; exact q'⟩
    rw [f1]
    by_cases hlt : i < 8
    · have hR := hR hlt
      have hck := hck hlt
      generalize nByte n i = y at *
      rw [decide_eq_true hlt]
      clear hJ0 hst hJ hnx
      cbv
      refine ⟨hck, ?_⟩
      cbv
      intro n3 h3 hn3 e3
      have l3 : Le h2 h3 := by rw [e3]; exact Le.set hn3
      have q3 := one_sl (s := shB) ((congrFun e3 n3).trans hset_self) hR
      clear e3
      cbv
      refine (q2.mono (l3.t _)).app q3 (by decide) rfl (by decide) (by omega) (l2.trans l3) (fun m' b' c' h4 hm' l4 t4 k4 q4 => ?_)
      have hJ3 := hJ2 h4 m' b' c' hlt l4 q4
      clear hJ2
      cbv
      refine ⟨8 - (i + 1), (_, b', m', c'), by omega, ⟨?_, ?_, ?_⟩, hJ3⟩
      · cbv
      · cbv
      · cbv
    · rw [decide_eq_false hlt]
      have hi : i = 8 := by omega
      rw [List.take_of_length_le (by rw [le8_len]; omega)] at q2
      clear hJ0 hst hJ hnx hJ2 hR hck
      cbv
      refine cloneY q2.sl (fun h5 b5 c5 l5 q5 => ?_)
      cbv
      exact hk _ _ _ _ (l2.trans l5) (q5.base l2)
def textW (s : ByteArray) : Bs := (bsOf s).take 65535
def sizeW (s : ByteArray) : Bs := [u8 (min s.size 65535 : Nat), u8 ((min s.size 65535 : Nat) / 256 : Nat)]
theorem TextW {e1 : Nat} {h : Heap} {b : Option Addr} {m c : Nat} {l : Bs} (q : Sl 5 shB h (.slice b m c) l) (hm : m ≤ 2 ^ 37) (s : ByteArray) (hs : s.size ≤ 2 ^ 40) {k : Value → Heap → Prop} (hk : ∀ h' b' n' c', Le h h' → Buf 5 shB h h' (.slice b' n' c') (l ++ (sizeW s ++ textW s)) → k (.slice b' n' c') h') :
    Ct 146 [.slice b m c, .string s] h k := by
  obtain ⟨A, hA⟩ := Ar.ex
  have hlen := q.len
  obtain ⟨j, hj⟩ : ∃ j, j = min s.size 65535 := ⟨_, rfl⟩
  have hmin : A .imin (A .sln s) 65535 = (j : Int) := by
    have : A .imin (A .sln s) 65535 = min (s.size : Int) 65535 := by rw [hA.imin, hA.sln]
    omega
  obtain ⟨t, ht⟩ : ∃ t, t = A .sub s 0 (j : Int) := ⟨_, rfl⟩
  have ht2 : t = s.extract 0 j := by rw [ht, hA.sub]; rfl
  have hts : t.size = j := by rw [ht2, ByteArray.size_extract]; omega
  have htb : bsOf t = textW s := by
    rw [ht2]
    unfold textW bsOf
    simp only [ByteArray.data_extract, Array.toList_extract]
    rw [hj]
    simp only [List.extract, Nat.sub_zero, List.drop_zero]
    show List.take (min s.data.size 65535) _ = _
    rw [← Array.length_toList, Nat.min_comm, ← List.take_eq_take_min]
  have htl : A .sln t = (j : Int) := by rw [hA.sln]; show (t.size : Int) = _; rw [hts]
  have hck : 0 ≤ A .imin (A .sln s) 65535 ∧ A .imin (A .sln s) 65535 ≤ (s.size : Int) := by
    rw [hmin]; omega
  have hlt40 : t.size ≤ 2 ^ 40 := by omega
  have hsub : A .sub s 0 (A .imin (A .sln s) 65535) = t := by rw [hmin, ht]
  have hu1 := u8_conv (A := A) (h := h) (j : Int)
  have hu2 := u8_conv (A := A) (h := h) ((j / 256 : Nat) : Int)
  have hshr : A .ari .shr .i64 (j : Int) 8 = ((j / 256 : Nat) : Int) := by
    rw [hA.ari]
    show ((j : Int)).fdiv (2 ^ 8) = _
    rw [Int.fdiv_eq_ediv_of_nonneg _ (by decide)]
    omega
  have hsz : sizeW s = [u8 (j : Int), u8 ((j / 256 : Nat) : Int)] := by unfold sizeW; rw [← hj]
  rw [hsz] at hk
  clear ht2 ht hsz
  refine fn_of_sx A (tabOk T146.plan T146.pub) Tryz.func146 rfl (by kernel_rfl) ?_
  cbv
  refine ⟨hck, ?_⟩
  cbv
  rw [hsub]
  refine ⟨by decide, ?_⟩
  cbv
  rw [htl, hshr]
  intro n1 h1 hn1 e1
  have l1 : Le h h1 := by rw [e1]; exact Le.set hn1
  have g1 := (congrFun e1 n1).trans hset_self
  clear e1
  cbv
  refine sem_s2b hlt40 (fun n2 c2 m2 h2 hm2 hn2 l2 q2 => ?_)
  cbv
  intro n3 h3 hn3 e3
  have l3 : Le h2 h3 := by rw [e3]; exact Le.set hn3
  have g3 := (congrFun e3 n3).trans hset_self
  have q1 : Sl 5 shB h1 (.slice (some ⟨n1, 0, none⟩) 2 2) [u8 (j : Int), u8 ((j / 256 : Nat) : Int)] := two_sl (s := shB) rfl g1 hu1 hu2
  have l13 := (l1.trans l2).trans l3
  have ha : ([l, [u8 (j : Int), u8 ((j / 256 : Nat) : Int)], bsOf t] : List Bs).flatten = l ++ ([u8 (j : Int), u8 ((j / 256 : Nat) : Int)] ++ textW s) := by rw [htb]; simp
  have hb : (l ++ ([u8 (j : Int), u8 ((j / 256 : Nat) : Int)] ++ textW s)).length ≤ 2 ^ 38 := by
    have : (textW s).length ≤ 65535 := by unfold textW; rw [List.length_take]; omega
    simp only [List.length_append, List.length_cons, List.length_nil]
    omega
  clear e3
  cbv
  refine concatY (L := [l, [u8 (j : Int), u8 ((j / 256 : Nat) : Int)], bsOf t]) (three_sl (s := shBs) rfl g3 (shBs_of (q.mono (l13.t _))) (shBs_of (q1.mono ((l2.trans l3).t _))) (shBs_of (q2.mono (l3.t _)))) (by rw [ha]; exact hb) (fun h4 b' n' c' l4 q4 => ?_)
  rw [ha] at q4
  cbv
  exact hk _ _ _ _ (l13.trans l4) (q4.base l13)
end Go.S

set_option maxRecDepth 100000
set_option maxHeartbeats 8000000
namespace Go.S
open Go.Sx Go.Proofs
/-- What is left to read; none: something was wrong. -/
abbrev St := Option Bs
def stOf (r : Rdr) : St := if r.e = 0 then some r.b else none
def takeT (n : Nat) : St → Bs × St
  | none => ([], none)
  | some b => if n ≤ b.length then (b.take n, some (b.drop n)) else ([], none)
theorem stOf_take (n : Nat) (r : Rdr) : (takeP n r).1 = (takeT n (stOf r)).1 ∧ stOf (takeP n r).2 = (takeT n (stOf r)).2 := by
  unfold takeP stOf failP
  by_cases he : r.e = 0
  · rw [if_pos he]
    by_cases hn : n > r.b.length
    · rw [if_pos hn, if_pos ⟨by decide, he⟩]
      simp only [takeT]
      rw [if_neg (by omega)]
      exact ⟨rfl, rfl⟩
    · rw [if_neg hn, if_neg (fun g => g he)]
      simp only [takeT]
      rw [if_pos (by omega)]
      exact ⟨rfl, rfl⟩
  · rw [if_neg he]
    by_cases hn : n > r.b.length
    · rw [if_pos hn, if_neg (fun g => he g.2)]
      exact ⟨rfl, if_neg he⟩
    · rw [if_neg hn, if_pos he]
      exact ⟨rfl, if_neg he⟩
def numT (n : Nat) (s : St) : Nat × St := (leN (takeT n s).1, (takeT n s).2)
def textT (s : St) : Bs × St := takeT (numT 2 s).1 (numT 2 s).2
def failT (e : Int) (s : St) : St := if e = 0 then s else none
theorem takeT_len (n : Nat) (s : St) : (takeT n s).1.length ≤ n := by
  cases s with
  | none => simp [takeT]
  | some b =>
    simp only [takeT]
    split
    · simp only [List.length_take]; omega
    · simp
theorem numT_lt (n : Nat) (s : St) : (numT n s).1 < 256 ^ n := by
  have h1 := leN_lt (takeT n s).1
  exact Nat.lt_of_lt_of_le h1 (Nat.pow_le_pow_right (by omega) (takeT_len n s))
theorem stOf_fail (x : Int) (r : Rdr) : stOf (failP x r) = failT x (stOf r) := by
  by_cases hx : x = 0
  · have : failP x r = r := if_neg (fun g => g.1 hx)
    rw [this]; exact (if_pos hx).symm
  · have h2 : failT x (stOf r) = none := if_neg hx
    rw [h2]
    by_cases he : r.e = 0
    · have : failP x r = ⟨r.b, x⟩ := if_pos ⟨hx, he⟩
      rw [this]; exact if_neg hx
    · have : failP x r = r := if_neg (fun g => he g.2)
      rw [this]; exact if_neg he
structure RdS (h : Heap) (p : Nat) (s : St) : Prop where
  out : ∃ r, RdO h p r ∧ stOf r = s
theorem RdS.le {h h' : Heap} {p : Nat} {s : St} (q : RdS h p s) (l : Le h h') : RdS h' p s := by
  obtain ⟨r, q1, q2⟩ := q.out
  exact ⟨r, q1.le l, q2⟩
theorem RdS.lt {h h' : Heap} {p : Nat} {s : St} (q : RdS h p s) (k : Kp [p] h h') {tys : List Nat} (he : 361 ∉ tys) : LeT tys h h' := by
  obtain ⟨r, q1, q2⟩ := q.out
  exact q1.lt k he
theorem NewS {e1 : Nat} {xs : Bs} {h : Heap} {b : Option Addr} {len cap : Nat} (q : Sl e1 shB h (.slice b len cap) xs) {k : Value → Heap → Prop}
    (hk : ∀ h' p, h p = none → Le h h' → RdS h' p (some xs) → k (.pointer (some ⟨p, 0, none⟩)) h') :
    Ct 106 [.slice b len cap] h k :=
  NewC q fun h' p h0 l q1 => hk h' p h0 l ⟨_, q1, rfl⟩
theorem FailS {h : Heap} {p : Nat} {s : St} (q : RdS h p s) (x : Int) {k : Value → Heap → Prop} (hk : ∀ h', Kp [p] h h' → RdS h' p (failT x s) → k (.tuple #[]) h') :
    Ct 112 [.pointer (some ⟨p, 0, none⟩), .int .i64 x] h k := by
  obtain ⟨r, q1, rfl⟩ := q.out
  exact FailC q1 x fun h' k1 q2 => hk h' k1 ⟨_, q2, stOf_fail x r⟩
theorem numT_wrap {n : Nat} (r : Rdr) : (numP n r).1 = IntKind.i64.wrap ((numT n (stOf r)).1 : Int) ∧ stOf (numP n r).2 = (numT n (stOf r)).2 := by
  have := stOf_take n r
  exact ⟨by unfold numP numT; rw [this.1], this.2⟩
theorem IntS {h : Heap} {p : Nat} {s : St} (q : RdS h p s) {k : Value → Heap → Prop} (hk : ∀ h', Kp [p] h h' → RdS h' p (numT 8 s).2 → k (.int .i64 (IntKind.i64.wrap ((numT 8 s).1 : Int))) h') :
    Ct 107 [.pointer (some ⟨p, 0, none⟩)] h k := by
  obtain ⟨r, q1, rfl⟩ := q.out
  have := numT_wrap (n := 8) r
  exact IntC q1 fun h' k1 q2 => this.1 ▸ hk h' k1 ⟨_, q2, this.2⟩
theorem ByteS {h : Heap} {p : Nat} {s : St} (q : RdS h p s) {k : Value → Heap → Prop} (hk : ∀ h', Kp [p] h h' → RdS h' p (numT 1 s).2 → k (.int .i64 ((numT 1 s).1 : Int)) h') :
    Ct 109 [.pointer (some ⟨p, 0, none⟩)] h k := by
  obtain ⟨r, q1, rfl⟩ := q.out
  have h1 := numT_wrap (n := 1) r
  have h2 := numT_lt 1 (stOf r)
  have h3 : (numP 1 r).1 = ((numT 1 (stOf r)).1 : Int) := by rw [h1.1, IntWalk.i64_in _ (by omega)]
  exact ByteC q1 fun h' k1 q2 => h3 ▸ hk h' k1 ⟨_, q2, h1.2⟩
theorem TextS {h : Heap} {p : Nat} {s : St} (q : RdS h p s) {k : Value → Heap → Prop} (hk : ∀ h', Kp [p] h h' → RdS h' p (textT s).2 → k (.string (strOf (textT s).1)) h') :
    Ct 111 [.pointer (some ⟨p, 0, none⟩)] h k := by
  obtain ⟨r, q1, rfl⟩ := q.out
  have h1 := numT_wrap (n := 2) r
  have h2 := numT_lt 2 (stOf r)
  have h3 : (numP 2 r).1.toNat = (numT 2 (stOf r)).1 := by rw [h1.1, IntWalk.i64_in _ (by omega)]; omega
  have h4 := stOf_take (numP 2 r).1.toNat (numP 2 r).2
  rw [h3, h1.2] at h4
  have e1 : (textP r).1 = (textT (stOf r)).1 := by unfold textP; rw [h3]; exact h4.1
  have e2 : stOf (textP r).2 = (textT (stOf r)).2 := by unfold textP; rw [h3]; exact h4.2
  exact TextC q1 fun h' k1 q2 => e1 ▸ hk h' k1 ⟨_, q2, e2⟩
theorem EndS {h : Heap} {p : Nat} {s : St} (q : RdS h p s) {k : Value → Heap → Prop} (hk : ∀ e : Int, (e = 0 ↔ s = some []) → k (.int .i64 e) h) :
    Ct 115 [.pointer (some ⟨p, 0, none⟩)] h k := by
  obtain ⟨r, q1, rfl⟩ := q.out
  refine EndC q1 (hk _ ?_)
  unfold endP stOf
  by_cases he : r.e = 0
  · by_cases hb : r.b = []
    · rw [if_neg (fun g => g.2 hb), if_pos he]; simp [he, hb]
    · rw [if_pos ⟨he, hb⟩, if_pos he]; simp [hb]
  · rw [if_neg (fun g => he g.1), if_neg he]; simp [he]
end Go.S

set_option maxRecDepth 100000
set_option maxHeartbeats 8000000
namespace Go.Sx
/-- All blocks but those of some types are as they were. -/
def LeX (ex : List Nat) (h h' : Heap) : Prop := ∀ b o, h b = some o → (∀ c e fr, o = .cells c e fr → e ∉ ex) → h' b = some o
theorem Le.x {h h' : Heap} (l : Le h h') (ex : List Nat) : LeX ex h h' := fun b o hb _ => l b o hb
theorem LeX.trans {ex : List Nat} {a b c : Heap} (x : LeX ex a b) (y : LeX ex b c) : LeX ex a c := fun k o q n => y k o (x k o q n) n
theorem LeX.refl (ex : List Nat) (h : Heap) : LeX ex h h := fun _ _ x _ => x
theorem LeX.t {ex : List Nat} {h h' : Heap} (x : LeX ex h h') {tys : List Nat} (hd : ∀ t ∈ tys, t ∉ ex) : LeT tys h h' := fun b c e fr hm hb => x b _ hb (fun c' e' fr' he => by cases he; exact hd _ hm)
theorem Kp.x {ex : List Nat} {bs : List Nat} {h h' : Heap} (k : Kp bs h h') (hb : ∀ b ∈ bs, ∀ o, h b = some o → ∃ c e fr, o = .cells c e fr ∧ e ∈ ex) : LeX ex h h' := fun b o hbo hne => by
  by_cases hm : b ∈ bs
  · obtain ⟨c, e, fr, rfl, he⟩ := hb b hm o hbo
    exact absurd he (hne _ _ _ rfl)
  · exact k b o hbo hm
/-- 'make' of elements that are noughts. -/
theorem make_z {α : Type} {e : Nat} {s : Sh α} {h : Heap} {l : Nat} {A : Ar} [ArOk A] {bytes : Nat} {z : List Value} {x : α} {k : Value → Heap → Prop} (hx : ∀ h, s.R h z x) (hl : l ≤ 2 ^ 40) (hb : bytes ≤ 128)
    (hk : ∀ nb h', h nb = none → Le h h' → Own e s h' nb l (List.replicate l x) → k (.slice (some ⟨nb, 0, none⟩) l l) h') :
    MakeX h e (A .nat l) (A .nat l) bytes z k := by
  have hz := s.len (hx h)
  have h40 : (2 : Nat) ^ 40 = 1099511627776 := rfl
  have h48 : (2 : Int) ^ 48 = 281474976710656 := rfl
  rw [ArOk.nat (A := A)]
  refine ⟨by simp only [Int.ofNat_eq_natCast]; omega, ⟨by rw [h48]; simp only [Int.ofNat_eq_natCast]; omega, ?_⟩, fun nb h' e1 e2 => ?_⟩
  · rw [h48]
    simp only [Int.ofNat_eq_natCast]
    have : bytes * l ≤ 128 * l := Nat.mul_le_mul_right _ hb
    have h2 : ((bytes * l : Nat) : Int) ≤ ((128 * l : Nat) : Int) := Int.ofNat_le.2 this
    simp only [Int.natCast_mul] at h2
    omega
  · simp only [Int.ofNat_eq_natCast, Int.toNat_natCast] at e2 ⊢
    have hzl : (zeros l z).length = l * s.n := by rw [zeros_length, hz]
    refine hk nb h' e1 (by rw [e2]; exact Le.set e1) ⟨⟨zeros l z, by rw [e2, hset_self], ⟨by rw [hzl]; simp, fun i y hy => ?_⟩, hzl⟩, by simp, by simpa using hl⟩
    have hi : i < l := by have := (List.getElem?_eq_some_iff.1 hy).1; simpa using this
    have hyx : y = x := by
      obtain ⟨h1, h2⟩ := List.getElem?_eq_some_iff.1 hy
      rw [← h2]; simp
    subst hyx
    have key : ((zeros l z).drop (0 + i * s.n)).take s.n = z := by
      clear e2 hk hzl hy
      rw [Nat.zero_add, ← hz]
      induction i generalizing l with
      | zero =>
        obtain ⟨m, rfl⟩ : ∃ m, l = m + 1 := ⟨l - 1, by omega⟩
        rw [Nat.zero_mul, List.drop_zero]
        show (z ++ zeros m z).take z.length = z
        simp
      | succ i ih =>
        obtain ⟨m, rfl⟩ : ∃ m, l = m + 1 := ⟨l - 1, by omega⟩
        show ((z ++ zeros m z).drop ((i + 1) * z.length)).take z.length = z
        rw [Nat.succ_mul, Nat.add_comm, ← List.drop_drop, List.drop_left]
        exact ih (by omega) (by omega)
    rw [key]
    exact hx h'
end Go.Sx
namespace Go.S
open Go.Sx Go.Proofs
def cellsB (b : Bs) : List Value := b.map fun x => .int .u8 (x.toNat : Int)
theorem ones_cellsB : ∀ b : Bs, ones (cellsB b) = true
  | [] => rfl
  | x :: r => by show ones (_ :: cellsB r) = true; unfold ones; exact ones_cellsB r
/-- A page. -/
def shPg : Sh Bs where
  n := 64
  R _ cs b := cs = cellsB b ∧ b.length = 64
  len := by rintro h cs b ⟨rfl, hl⟩; simpa [cellsB] using hl
  one := by rintro h cs b ⟨rfl, -⟩; exact ones_cellsB b
  tys := []
  mono := fun _ q => q
def pg0 : Bs := List.replicate 64 0
/-- A Write that was not synced. -/
def shWr : Sh (Int × Bs) where
  n := 65
  R _ cs w := cs = .int .i64 w.1 :: cellsB w.2 ∧ w.2.length = 64
  len := by rintro h cs b ⟨rfl, hl⟩; simpa [cellsB] using hl
  one := by rintro h cs b ⟨rfl, -⟩; unfold ones; exact ones_cellsB _
  tys := []
  mono := fun _ q => q
structure Dk where
  left : Int
  dead : Bool
  kept : List Bs
  now : List Bs
  ws : List (Int × Bs)
abbrev dT : List Nat := [120, 135, 455]
structure DkO (h : Heap) (p : Nat) (D : Dk) : Prop where
  out : ∃ kb nb wb wn wc d, h p = some (.cells (List.toArray [.int .i64 D.left, .int .u32 d, .slice (some ⟨kb, 0, none⟩) D.now.length D.now.length, .slice (some ⟨nb, 0, none⟩) D.now.length D.now.length, .slice wb wn wc]) 120 (0, 0)) ∧
    Own 135 shPg h kb D.now.length D.kept ∧ Own 135 shPg h nb D.now.length D.now ∧ D.kept.length = D.now.length ∧ kb ≠ nb ∧ d = (if D.dead then 1 else 0) ∧
    Buf 455 shWr (fun _ => none) h (.slice wb wn wc) D.ws ∧ D.now.length ≤ 4096
theorem DkO.lt {h h' : Heap} {p : Nat} {D : Dk} (q : DkO h p D) (l : LeT dT h h') : DkO h' p D := by
  obtain ⟨kb, nb, wb, wn, wc, d, g, o1, o2, e1, e2, e3, w, e4⟩ := q.out
  exact ⟨kb, nb, wb, wn, wc, d, l _ _ _ _ (by decide) g, o1.mono (l.sub (by decide)), o2.mono (l.sub (by decide)), e1, e2, e3, w.mono (l.sub (by decide)), e4⟩
theorem DkO.le {h h' : Heap} {p : Nat} {D : Dk} (q : DkO h p D) (l : Le h h') : DkO h' p D := q.lt (l.t _)
theorem PagesC {h : Heap} {p : Nat} {D : Dk} (q : DkO h p D) {k : Value → Heap → Prop} (hk : ∀ z, IsN z D.now.length → k (.int .i64 z) h) : Ct 242 [.pointer (some ⟨p, 0, none⟩)] h k := by
  obtain ⟨A, hA⟩ := Ar.ex
  obtain ⟨kb, nb, wb, wn, wc, d, g, o1, o2, e1, e2, e3, w, e4⟩ := q.out
  have hz := IsN.nat (A := A) D.now.length
  generalize D.now.length = m at *
  refine fn_of_sx A (tabOk T242.plan T242.pub) Tryz.func242 rfl (by kernel_rfl) ?_
  cbv
  rw [offm A]
  refine ldb g rfl rfl ?_
  cbv
  exact hk _ hz
theorem DeadC {h : Heap} {p : Nat} {D : Dk} (q : DkO h p D) {k : Value → Heap → Prop} (hk : k (.bool D.dead) h) : Ct 280 [.pointer (some ⟨p, 0, none⟩)] h k := by
  obtain ⟨A, hA⟩ := Ar.ex
  obtain ⟨kb, nb, wb, wn, wc, d, g, o1, o2, e1, e2, e3, w, e4⟩ := q.out
  have hd : decide (d ≠ 0) = D.dead := by rw [e3]; cases D.dead <;> rfl
  generalize D.dead = t at *
  refine fn_of_sx A (tabOk T280.plan T280.pub) Tryz.func280 rfl (by kernel_rfl) ?_
  cbv
  rw [offm A]
  refine (load140 (cel_exp g rfl)).mono (fun v h1 hR => ?_)
  obtain ⟨t', rfl, ht, rfl⟩ := hR
  rw [hd] at ht
  subst ht
  cbv
  exact hk
def chkD (D : Dk) (n : Int) (size : Int) : Int := if D.dead then 15 else if n < 0 ∨ n ≥ D.now.length ∨ size > 64 then 1 else 0
theorem checkedC {h : Heap} {p : Nat} {D : Dk} (q : DkO h p D) (n size : Int) {k : Value → Heap → Prop} (hk : k (.int .i64 (chkD D n size)) h) : Ct 195 [.pointer (some ⟨p, 0, none⟩), .int .i64 n, .int .i64 size] h k := by
  obtain ⟨A, hA⟩ := Ar.ex
  obtain ⟨kb, nb, wb, wn, wc, d, g, o1, o2, e1, e2, e3, w, e4⟩ := q.out
  have f1 : A .icm .lss n 0 = decide (n < 0) := icm_lss A ..
  have f2 : A .icm .geq n (A .nat D.now.length) = decide (n ≥ D.now.length) := by rw [icm_geq A, hA.nat]; rfl
  have f3 : A .icm .gtr size 64 = decide (size > 64) := icm_gtr A ..
  have hP : chkD D n size = if D.dead then 15 else if n < 0 ∨ n ≥ D.now.length ∨ size > 64 then 1 else 0 := rfl
  generalize chkD D n size = r at *
  generalize hm : D.now.length = m at *
  generalize hD : D.dead = t at *
  refine fn_of_sx A (tabOk T195.plan T195.pub) Tryz.func195 rfl (by kernel_rfl) ?_
  cbv
  rw [offm A]
  refine DeadC q ?_
  rw [hD]
  cbv
  cases t with
  | true =>
    have hP : r = 15 := hP
    subst hP
    cbv
    exact hk
  | false =>
    have hP : r = if n < 0 ∨ n ≥ (m : Int) ∨ size > 64 then 1 else 0 := hP
    by_cases c1 : n < 0
    · rw [if_pos (.inl c1)] at hP
      subst hP
      cbv
      rw [f1, decide_eq_true c1]
      cbv
      exact hk
    · by_cases c2 : n ≥ (m : Int)
      · rw [if_pos (.inr (.inl c2))] at hP
        subst hP
        rw [decide_eq_true c2] at f2
        cbv
        rw [f1, decide_eq_false c1]
        cbv
        rw [offm A]
        refine ldb g rfl rfl ?_
        cbv
        rw [f2]
        cbv
        exact hk
      · rw [decide_eq_false c2] at f2
        by_cases c3 : size > 64
        · rw [if_pos (.inr (.inr c3))] at hP
          subst hP
          cbv
          rw [f1, decide_eq_false c1]
          cbv
          rw [offm A]
          refine ldb g rfl rfl ?_
          cbv
          rw [f2]
          cbv
          rw [f3, decide_eq_true c3]
          cbv
          exact hk
        · rw [if_neg (fun h => h.elim c1 (fun h => h.elim c2 c3))] at hP
          subst hP
          cbv
          rw [f1, decide_eq_false c1]
          cbv
          rw [offm A]
          refine ldb g rfl rfl ?_
          cbv
          rw [f2]
          cbv
          rw [f3, decide_eq_false c3]
          cbv
          exact hk
end Go.S

set_option maxRecDepth 100000
set_option maxHeartbeats 8000000
namespace Go.S
open Go.Sx Go.Proofs
/-- An element that is bytes, as a slice. -/
theorem Own.elem {A : Ar} [hA : ArOk A] {h : Heap} {e nb cap : Nat} {xs : List Bs} (o : Own e shPg h nb cap xs) {i : Nat} {b : Bs} (hx : xs[i]? = some b) {n : Int} (hn : n = (i : Int)) : Sl e shB h (.slice (some (A .elt (some ⟨nb, 0, none⟩) n 64)) 64 64) b := by
  obtain ⟨c, g, r, hc⟩ := o.out
  have h1 := r.2 i b hx
  obtain ⟨h2, h3⟩ := h1
  have he : A .elt (some ⟨nb, 0, none⟩) n 64 = ⟨nb, i * 64, none⟩ := by
    have : A .elt = Sx.elt := hA.elt
    rw [this, hn]
    simp [elt, add_none]
  rw [he]
  have hb := r.1
  have hi : i < xs.length := (List.getElem?_eq_some_iff.1 hx).1
  have hlen : i * 64 + 64 ≤ c.length := by
    have : (i + 1) * 64 ≤ xs.length * 64 := Nat.mul_le_mul_right _ hi
    have hb : 0 + xs.length * 64 ≤ c.length := hb
    omega
  refine ⟨_, 64, by rw [h3], by rw [h3]; exact Nat.le_refl _, by rw [h3]; omega, .inr ⟨nb, i * 64, _, _, rfl, g, ?_, fun j x hj => ?_⟩⟩
  · show i * 64 + b.length * 1 ≤ c.length
    omega
  · have hj64 : j < 64 := by have := (List.getElem?_eq_some_iff.1 hj).1; omega
    show ((c.drop (i * 64 + j * 1)).take 1) = _
    have h2 : (c.drop (0 + i * 64)).take 64 = cellsB b := h2
    rw [Nat.zero_add] at h2
    apply List.ext_getElem?
    intro m
    rw [List.getElem?_take, List.getElem?_drop]
    by_cases hm : m < 1
    · have hm0 : m = 0 := by omega
      subst hm0
      rw [if_pos hm]
      have := congrArg (fun z => z[j]?) h2
      simp only [List.getElem?_take, List.getElem?_drop, if_pos hj64, cellsB, List.getElem?_map, hj, Option.map_some] at this
      rw [show i * 64 + j * 1 + 0 = i * 64 + j by omega, this]
      rfl
    · rw [if_neg hm]
      rw [List.getElem?_eq_none (by simp; omega)]
def pgAt (D : Dk) (n : Int) : Bs := (D.now[n.toNat]?).getD []
theorem ReadC {h : Heap} {p : Nat} {D : Dk} (q : DkO h p D) (n : Int) {k : Value → Heap → Prop}
    (hk0 : chkD D n 0 ≠ 0 → k (.tuple #[.slice none 0 0, .int .i64 (chkD D n 0)]) h)
    (hk1 : chkD D n 0 = 0 → ∀ h' b c, Le h h' → (pgAt D n).length = 64 → Buf 5 shB h h' (.slice b 64 c) (pgAt D n) → k (.tuple #[.slice b 64 c, .int .i64 0]) h') :
    Ct 104 [.pointer (some ⟨p, 0, none⟩), .int .i64 n] h k := by
  obtain ⟨A, hA⟩ := Ar.ex
  obtain ⟨kb, nb, wb, wn, wc, d, g, o1, o2, e1, e2, e3, w, e4⟩ := q.out
  have f1 : A .icm .neq (chkD D n 0) 0 = decide (chkD D n 0 ≠ 0) := icm_neq A ..
  have hin : chkD D n 0 = 0 → IsN n n.toNat ∧ n.toNat < D.now.length := fun hc => by
    unfold chkD at hc
    split at hc
    · cases hc
    · split at hc
      · cases hc
      · rename_i hn
        have h1 : ¬ n < 0 := fun g => hn (.inl g)
        have h2 : ¬ n ≥ (D.now.length : Int) := fun g => hn (.inr (.inl g))
        exact ⟨⟨by omega⟩, by omega⟩
  have hel : chkD D n 0 = 0 → Sl 135 shB h (.slice (some (A .elt (some ⟨nb, 0, none⟩) n 64)) 64 64) (pgAt D n) := fun hc => by
    obtain ⟨h1, h2⟩ := hin hc
    obtain ⟨x, hx⟩ := get_ex (xs := D.now) (i := n.toNat) h2
    have : pgAt D n = x := by unfold pgAt; rw [hx]; rfl
    rw [this]
    exact Own.elem o2 hx h1.eq
  have hck : chkD D n 0 = 0 → True ∧ 0 ≤ n ∧ n < (D.now.length : Int) := fun hc => ⟨trivial, (hin hc).1.ix (hin hc).2⟩
  have hck : chkD D n 0 = 0 → (some (⟨nb, 0, none⟩ : Addr)).isSome = true ∧ 0 ≤ n ∧ n < (D.now.length : Int) := fun hc => ⟨rfl, (hck hc).2⟩
  clear hin
  generalize D.now.length = m at *
  refine fn_of_sx A (tabOk T104.plan T104.pub) Tryz.func104 rfl (by kernel_rfl) ?_
  cbv
  refine checkedC q n 0 ?_
  generalize chkD D n 0 = r at *
  cbv
  rw [f1]
  by_cases hr : r ≠ 0
  · rw [decide_eq_true hr]
    have hk := hk0 hr
    cbv
    exact hk
  · have hr0 : r = 0 := by omega
    have hel := hel hr0
    have hk1 := hk1 hr0
    generalize pgAt D n = b at *
    rw [decide_eq_false hr]
    cbv
    rw [offm A]
    refine ldb g rfl rfl ?_
    cbv
    refine ⟨hck hr0, ?_⟩
    cbv
    refine cloneY hel (fun h1 b1 c1 l1 q1 => ?_)
    have := hk1 h1 b1 c1 l1 hel.len.symm q1
    cbv
    exact this
end Go.S

