import Derived.Test.YtnfijhlegoagjaaGreatK4
import Derived.Test.YtnfijhlegoagjaaGreatEC
import Derived.Test.YtnfijhlegoagjaaGreatP1
set_option linter.unusedVariables false
set_option linter.unusedSimpArgs false
set_option linter.unusedSectionVars false
set_option maxRecDepth 100000
set_option maxHeartbeats 8000000
set_option linter.unusedVariables false
set_option linter.unusedSimpArgs false
namespace Go.S
open Go.Sx Go.Proofs

/-! The document's own functions: the small ones. -/
theorem order168 (a b : Int) {h : Heap} {k : Value → Heap → Prop} (hk : k (.int .i64 (cmpI a b)) h) : Ct 168 [.int .i64 a, .int .i64 b] h k := by
  obtain ⟨A, hA⟩ := Ar.ex
  obtain ⟨c, hc⟩ : ∃ c, c = cmpI a b := ⟨_, rfl⟩
  rw [← hc] at hk
  generalize e1 : A .icm .lss a b = u1
  generalize e2 : A .icm .gtr a b = u2
  have f1 := e1
  have f2 := e2
  rw [icm_lss A] at f1
  rw [icm_gtr A] at f2
  unfold cmpI at hc
  rw [f1, f2] at hc
  refine fn_of_sx A (tabOk T168.plan T168.pub) Tryz.func168 rfl (by kernel_rfl) ?_
  cbv
  rw [e1]
  cases u1 with
  | true =>
    have hc : c = -1 := hc
    subst hc
    cbv
    exact hk
  | false =>
    cbv
    rw [e2]
    cases u2 with
    | true =>
      have hc : c = 1 := hc
      subst hc
      cbv
      exact hk
    | false =>
      have hc : c = 0 := hc
      subst hc
      cbv
      exact hk
/-- Two keys that are numbers. -/
theorem compare129 (a b : Int) (s t : ByteArray) {h : Heap} {k : Value → Heap → Prop} (hk : ∀ z, z = cmpI a b → k (.int .i64 z) h) : Ct 129 [.agg #[.int .i64 2, .int .i64 a, .string s], .agg #[.int .i64 2, .int .i64 b, .string t]] h k := by
  obtain ⟨A, hA⟩ := Ar.ex
  have n22 : A .icm .neq 2 2 = false := by rw [icm_neq A]; rfl
  have n23 : A .icm .neq 2 3 = true := by rw [icm_neq A]; rfl
  have hk := hk _ rfl
  generalize hc : cmpI a b = c at hk
  refine fn_of_sx A (tabOk T129.plan T129.pub) Tryz.func129 rfl (by kernel_rfl) ?_
  cbv
  rw [n22]
  cbv
  rw [n23]
  cbv
  refine order168 a b ?_
  rw [hc]
  cbv
  exact hk
theorem in167 {xs : List Int} {h : Heap} {b : Option Addr} {n c : Nat} (q : Sl 3 shInt h (.slice b n c) xs) (x : Int) {k : Value → Heap → Prop} (hk : ∀ t, t = decide (x ∈ xs) → k (.bool t) h) : Ct 167 [.slice b n c, .int .i64 x] h k := by
  obtain ⟨A, hA⟩ := Ar.ex
  have hlen := q.len
  have hbd := q.bound
  refine fn_of_sx A (tabOk T167.plan T167.pub) Tryz.func167 rfl (by kernel_rfl) ?_
  cbv
  refine LoopX.go (G := Int) (fun g => [(5, .v (.int .i64 g))]) (fun _ => []) (fun m g h' => h' = h ∧ ∃ i, IsN g i ∧ m = n - i ∧ i ≤ n ∧ ∀ j, j < i → ∀ y, xs[j]? = some y → y ≠ x) n 0 ⟨?_, ?_, ?_⟩ ⟨rfl, 0, ⟨rfl⟩, by omega, by omega, fun j hj => absurd hj (by omega)⟩ ?_
  · cbv
  · cbv
  · cbv
  · intro m g h' hI
    cbv
    obtain ⟨rfl, i, hz, hm, hi, hall⟩ := hI
    refine bsel_mk (fun hc => ?_) (fun hc => ?_)
    · have hlt := hz.lt hc
      clear hc
      obtain ⟨y, hy⟩ := get_ex (xs := xs) (i := i) (by omega)
      have ck1 : b.isSome = true ∧ 0 ≤ g ∧ g < (n : Int) := ⟨q.isSm (by omega), hz.ix hlt⟩
      have hze := hz.eq
      have hnx := hz.succ (A := A) (by omega)
      have eu : A .icm .eql y x = decide (y = x) := by rw [icm_eql A]
      cbv
      refine ⟨ck1, ?_⟩
      cbv
      refine q.load hy hze (fun cs hcs => ?_)
      have hcs : cs = [.int .i64 y] := hcs
      subst hcs
      cbv
      rw [eu]
      by_cases hyx : y = x
      · have hfin := hk true (by rw [eq_comm]; exact decide_eq_true (by rw [← hyx]; exact List.mem_of_getElem? hy))
        rw [decide_eq_true hyx]
        cbv
        exact hfin
      · rw [decide_eq_false hyx]
        cbv
        refine ⟨n - (i + 1), _, by omega, ⟨?_, ?_, ?_⟩, rfl, i + 1, hnx, rfl, by omega, fun j hj y' hy' => ?_⟩
        · cbv
        · cbv
        · cbv
        · rcases Nat.lt_or_ge j i with h1 | h1
          · exact hall j h1 y' hy'
          · have : j = i := by omega
            subst this
            rw [hy] at hy'; cases hy'; exact hyx
    · have hge := hz.ge hc
      have hfin := hk false (by
        rw [eq_comm]
        refine decide_eq_false (fun hmem => ?_)
        obtain ⟨j, hj⟩ := List.getElem?_of_mem hmem
        have := (List.getElem?_eq_some_iff.1 hj).1
        exact hall j (by omega) x hj rfl)
      cbv
      exact hfin
theorem against164 (s1 s2 : Int) (t1 t2 : ByteArray) (x1 x2 : Bool) {h : Heap} {k : Value → Heap → Prop} (hk : ∀ t, t = agst ⟨s1, t1, x1⟩ ⟨s2, t2, x2⟩ → k (.bool t) h) : Ct 164 [.agg #[.int .i64 s1, .string t1, .bool x1], .agg #[.int .i64 s2, .string t2, .bool x2]] h k := by
  obtain ⟨A, hA⟩ := Ar.ex
  have f1 : A .icm .neq s1 s2 = decide (s1 ≠ s2) := icm_neq A ..
  have f2 : A .scm .eql t1 t2 = decide (t1 = t2) := scm_eql A ..
  unfold agst at hk
  simp only at hk
  refine fn_of_sx A (tabOk T164.plan T164.pub) Tryz.func164 rfl (by kernel_rfl) ?_
  cbv
  rw [f1]
  generalize decide (s1 ≠ s2) = u1 at *
  generalize decide (t1 = t2) = u2 at *
  cases u1 with
  | false =>
    have hfin := hk false rfl
    cbv
    exact hfin
  | true =>
    cbv
    rw [f2]
    cases u2 with
    | false =>
      have hfin := hk false rfl
      cbv
      exact hfin
    | true =>
      cbv
      cases x1 with
      | true =>
        have hfin := hk true rfl
        cbv
        exact hfin
      | false =>
        have hfin := hk x2 (by simp)
        cbv
        exact hfin
theorem who39 {d : DB} {h : Heap} {b1 b2 b3 b4 : Option Addr} {n1 c1 n2 c2 n3 c3 n4 c4 : Nat} (q : RP h b1 n1 c1 b2 n2 c2 b3 n3 c3 b4 n4 c4 d) (s : Int) {k : Value → Heap → Prop} (hk : ∀ z, IdxR d.works (fun w => decide (w.s = s)) z → k (.int .i64 z) h) :
    Ct 39 [.agg #[.slice b1 n1 c1, .slice b2 n2 c2, .slice b3 n3 c3, .slice b4 n4 c4], .int .i64 s] h k := by
  obtain ⟨A, hA⟩ := Ar.ex
  have hlen := q.works.len
  have hbd := q.works.bound
  refine fn_of_sx A (tabOk T39.plan T39.pub) Tryz.func39 rfl (by kernel_rfl) ?_
  cbv
  refine LoopX.go (G := Int) (fun z => [(5, .v (.int .i64 z))]) (fun _ => [(2, [.slice b1 n1 c1, .slice b2 n2 c2, .slice b3 n3 c3, .slice b4 n4 c4])]) (fun m z h' => ∃ i : Nat, IsN z i ∧ m = n2 - i ∧ i ≤ n2 ∧ h' = h ∧ ∀ j, j < i → ∀ y, d.works[j]? = some y → decide (y.s = s) = false) n2 0 ⟨?_, ?_, ?_⟩ ⟨0, ⟨rfl⟩, by omega, by omega, rfl, fun j hj => absurd hj (by omega)⟩ ?_
  · cbv
  · cbv
  · cbv
  · intro m z h' hI
    cbv
    obtain ⟨i, hz, hm, hi, rfl, hall⟩ := hI
    refine bsel_mk (fun hc => ?_) (fun hc => ?_)
    · have hlt := hz.lt hc
      clear hc
      cbv
      obtain ⟨x, hx⟩ := get_ex (xs := d.works) (i := i) (by omega)
      refine ⟨⟨q.works.isSm (by omega), hz.ix hlt⟩, ?_⟩
      cbv
      refine q.works.loadF hx hz.eq (o := 0) (m := 1) (by decide) (fun cs hcs => ?_)
      obtain ⟨_, _, _, _, _, _, rfl, -, -⟩ := hcs
      cbv
      rw [icm_eql A]
      by_cases hxs : x.s = s
      · rw [decide_eq_true hxs]
        have hR := hk z ⟨.inr ⟨i, x, hz, hx, by simpa using hxs, hall⟩⟩
        cbv
        exact hR
      · rw [decide_eq_false hxs]
        cbv
        refine ⟨n2 - (i + 1), _, by omega, ⟨?_, ?_, ?_⟩, i + 1, hz.succ (A := A) (by omega), rfl, by omega, rfl, ?_⟩
        · cbv
        · cbv
        · cbv
        · intro j hj y hy
          rcases Nat.lt_or_ge j i with hji | hji
          · exact hall j hji y hy
          · have : j = i := by omega
            subst this
            rw [hx] at hy; cases hy
            exact decide_eq_false hxs
    · have hge := hz.ge hc
      have hR := hk (-1) ⟨.inl ⟨rfl, fun x hx => by
        obtain ⟨j, hj⟩ := List.getElem?_of_mem hx
        have := (List.getElem?_eq_some_iff.1 hj).1
        exact hall j (by omega) x hj⟩⟩
      cbv
      exact hR
end Go.S

set_option maxRecDepth 100000
set_option maxHeartbeats 8000000
set_option linter.unusedVariables false
set_option linter.unusedSimpArgs false
namespace Go.S
open Go.Sx Go.Proofs
theorem wout_hit {H : List Hld} {s : Int} {i : Nat} {x : Hld} (hx : H[i]? = some x) (h : decide (x.s ≠ s) = true) : wout (H.take (i + 1)) s = wout (H.take i) s ++ [x] := by
  rw [List.take_add_one, hx]
  unfold wout
  rw [List.filter_append]
  have : x.s ≠ s := of_decide_eq_true h
  simp [this]
theorem wout_miss {H : List Hld} {s : Int} {i : Nat} {x : Hld} (hx : H[i]? = some x) (h : decide (x.s ≠ s) = false) : wout (H.take (i + 1)) s = wout (H.take i) s := by
  rw [List.take_add_one, hx]
  unfold wout
  rw [List.filter_append]
  have : x.s = s := by simpa using h
  simp [this]
theorem without165 {H : List Hld} {h : Heap} {b : Option Addr} {n c : Nat} (q : Sl 209 shHld h (.slice b n c) H) (hn : n ≤ 2 ^ 38) (s : Int) {k : Value → Heap → Prop} (hk : ∀ h' b' n' c', Le h h' → Buf 209 shHld h h' (.slice b' n' c') (wout H s) → k (.slice b' n' c') h') :
    Ct 165 [.slice b n c, .int .i64 s] h k := by
  obtain ⟨A, hA⟩ := Ar.ex
  have hlen := q.len
  refine fn_of_sx A (tabOk T165.plan T165.pub) Tryz.func165 rfl (by kernel_rfl) ?_
  cbv
  refine LoopX.go (G := Int × Option Addr × Nat × Nat) (fun g => [(6, .v (.int .i64 g.1)), (5, .v (.slice g.2.1 g.2.2.1 g.2.2.2))]) (fun _ => [])
    (fun k g h' => ∃ i : Nat, IsN g.1 i ∧ k = n - i ∧ i ≤ n ∧ Le h h' ∧ Buf 209 shHld h h' (.slice g.2.1 g.2.2.1 g.2.2.2) (wout (H.take i) s)) n (0, none, 0, 0) ⟨?_, ?_, ?_⟩ ⟨0, ⟨rfl⟩, by omega, by omega, Le.refl _, Buf.nil⟩ ?_
  · cbv
  · cbv
  · cbv
  · intro k g h' hI
    cbv
    obtain ⟨i, hz, hk', hi, hle, hb⟩ := hI
    obtain ⟨z, gb, gl, gc⟩ := g
    have hz : IsN z i := hz
    have hb : Buf 209 shHld h h' (.slice gb gl gc) (wout (H.take i) s) := hb
    refine bsel_mk (fun hc => ?_) (fun hc => ?_)
    · have hlt := hz.lt hc
      clear hc
      obtain ⟨⟨xs, xt, xx⟩, hx⟩ := get_ex (xs := H) (i := i) (by omega)
      have hck : b.isSome = true ∧ 0 ≤ z ∧ z < (n : Int) := ⟨q.isSm (by omega), hz.ix hlt⟩
      have q1 : A .icm .neq xs s = decide (xs ≠ s) := by rw [icm_neq A]
      have w1 := wout_hit (s := s) hx
      have w0 := wout_miss (s := s) hx
      have hgl : gl ≤ i := by
        have := hb.sl.len
        rw [this]
        refine Nat.le_trans (List.length_filter_le _ _) ?_
        rw [List.length_take]; omega
      have hze := hz.eq
      have hnx := hz.succ (A := A) (by omega)
      cbv
      refine ⟨hck, ?_⟩
      cbv
      refine (q.mono (hle.t _)).loadF hx hze (o := 0) (m := 1) (by decide) (fun cs hcs => ?_)
      have hcs : cs = [.int .i64 xs, .string xt, .bool xx] := hcs
      subst hcs
      cbv
      rw [q1]
      cases e1 : decide (xs ≠ s) with
      | true =>
        have w1 := w1 e1
        cbv
        refine ⟨hck, ?_⟩
        cbv
        refine (q.mono (hle.t _)).load hx hze (fun cs hcs => ?_)
        have hcs : cs = [.int .i64 xs, .string xt, .bool xx] := hcs
        subst hcs
        cbv
        intro nb h2 hnb e2
        have l2 : Le h' h2 := by rw [e2]; exact Le.set hnb
        have g2 := (congrFun e2 nb).trans hset_self
        cbv
        refine (hb.mono (l2.t _)).append (one_sl (s := shHld) g2 (x := ⟨xs, xt, xx⟩) rfl) (by decide) rfl (by decide) (by omega) (hle.trans l2) (fun m b' c' h3 hm l3 t3 k3 hb3 => ?_)
        have hb3' : Buf 209 shHld h h3 (.slice b' m c') (wout (H.take (i + 1)) s) := by rw [w1]; exact hb3
        cbv
        refine ⟨n - (i + 1), (_, b', m, c'), by omega, ⟨?_, ?_, ?_⟩, i + 1, hnx, rfl, by omega, l3, hb3'⟩
        · cbv
        · cbv
        · cbv
      | false =>
        have w0 := w0 e1
        have hb3' : Buf 209 shHld h h' (.slice gb gl gc) (wout (H.take (i + 1)) s) := by rw [w0]; exact hb
        cbv
        refine ⟨n - (i + 1), (_, gb, gl, gc), by omega, ⟨?_, ?_, ?_⟩, i + 1, hnx, rfl, by omega, hle, hb3'⟩
        · cbv
        · cbv
        · cbv
    · have hge := hz.ge hc
      have hfin := hk h' gb gl gc hle (by rw [List.take_of_length_le (by omega)] at hb; exact hb)
      cbv
      exact hfin

/-- Where a key stands, told by the document. -/
theorem at171 {nm : ByteArray} {only : Bool} {R : List Row} {h : Heap} {sb b : Option Addr} {sn sc n c : Nat} (q : Sl 63 shRow h (.slice b n c) R) (hR : SR R) (a : Int) (s : ByteArray) {k : Value → Heap → Prop}
    (hk : ∀ z p, IsN z p → At R a p → k (.int .i64 z) h) : Ct 171 [.agg #[.string nm, .slice sb sn sc, .int .i64 0, .bool only, .slice b n c], .agg #[.int .i64 2, .int .i64 a, .string s]] h k := by
  obtain ⟨A, hA⟩ := Ar.ex
  have hlen := q.len
  have hbd := q.bound
  refine fn_of_sx A (tabOk T171.plan T171.pub) Tryz.func171 rfl (by kernel_rfl) ?_
  cbv
  refine LoopX.go (G := Int) (fun z => [(5, .v (.int .i64 z))]) (fun _ => [(2, [.string nm, .slice sb sn sc, .int .i64 0, .bool only, .slice b n c]), (3, [.int .i64 2, .int .i64 a, .string s])]) (fun m z h' => ∃ i : Nat, IsN z i ∧ m = n - i ∧ i ≤ n ∧ h' = h ∧ ∀ j row, j < i → R[j]? = some row → kN row < a) n 0 ⟨?_, ?_, ?_⟩ ⟨0, ⟨rfl⟩, by omega, by omega, rfl, fun j row hj => absurd hj (by omega)⟩ ?_
  · cbv
  · cbv
  · cbv
  · intro m z h' hI
    cbv
    obtain ⟨i, hz, hm, hi, rfl, hall⟩ := hI
    have f1 : A .icm .lss z (A .nat n) = decide (i < n) := hz.lt2 (IsN.nat n)
    rw [f1]
    by_cases hlt : i < n
    · obtain ⟨row, hrow⟩ := get_ex (xs := R) (i := i) (by omega)
      obtain ⟨ra, rv, hre⟩ := hR.form row (List.mem_of_getElem? hrow)
      have hkn : kN row = ra := by rw [hre]; rfl
      have hrl : row.length = 2 := by rw [hre]; rfl
      have hr0 : row[0]? = some ⟨2, ra, noS⟩ := by rw [hre]; rfl
      have hck : b.isSome = true ∧ 0 ≤ z ∧ z < (n : Int) := ⟨q.isSm (by omega), hz.ix hlt⟩
      have hze := hz.eq
      have hnx := hz.succ (A := A) (by omega)
      have f2 : ∀ c, A .icm .lss c 0 = decide (c < 0) := fun c => icm_lss A ..
      rw [decide_eq_true hlt]
      cbv
      refine ⟨hck, ?_⟩
      cbv
      refine q.load hrow hze (fun cs hcs => ?_)
      obtain ⟨rv1, rfl, hrs⟩ := hcs
      obtain ⟨r1, r2, r3, rfl⟩ := hrs.form
      have hr2 : r2 = 2 := by rw [hrs.len, hrl]
      have hckr : r1.isSome = true ∧ (0 : Int) ≤ 0 ∧ (0 : Int) < (r2 : Int) := ⟨hrs.isSm (by omega), by omega, by omega⟩
      cbv
      refine ⟨hckr, ?_⟩
      cbv
      refine hrs.load hr0 (n := 0) rfl (fun cs hcs => ?_)
      have hcs : cs = [.int .i64 2, .int .i64 ra, .string noS] := hcs
      subst hcs
      cbv
      refine compare129 ra a _ s (fun z2 hz2 => ?_)
      have hcmp : decide (z2 < 0) = decide (ra < a) := by rw [hz2, decide_eq_decide]; exact cmpI_neg ra a
      clear hz2
      cbv
      rw [f2, hcmp]
      by_cases hra : ra < a
      · rw [decide_eq_true hra]
        cbv
        refine ⟨n - (i + 1), _, by omega, ⟨?_, ?_, ?_⟩, i + 1, hnx, rfl, by omega, rfl, fun j row' hj hr' => ?_⟩
        · cbv
        · cbv
        · cbv
        · rcases Nat.lt_or_ge j i with hji | hji
          · exact hall j row' hji hr'
          · have : j = i := by omega
            subst this
            rw [hrow] at hr'; cases hr'
            rw [hkn]; exact hra
      · have hfin := hk z i hz ⟨by omega, fun j row' hj hr' => hall j row' hj hr', fun j row' hj hr' => by
          rcases Nat.eq_or_lt_of_le hj with h1 | h1
          · subst h1; rw [hrow] at hr'; cases hr'; rw [hkn]; omega
          · have h4 := List.pairwise_iff_getElem.1 hR.srt i j (by omega) (List.getElem?_eq_some_iff.1 hr').1 h1
            rw [(List.getElem?_eq_some_iff.1 hrow).2, (List.getElem?_eq_some_iff.1 hr').2] at h4
            omega⟩
        rw [decide_eq_false hra]
        cbv
        exact hfin
    · have hfin := hk z i hz ⟨by omega, fun j row' hj hr' => hall j row' hj hr', fun j row' hj hr' => by
        have := (List.getElem?_eq_some_iff.1 hr').1
        omega⟩
      rw [decide_eq_false hlt]
      cbv
      exact hfin
end Go.S

set_option maxRecDepth 100000
set_option maxHeartbeats 8000000
set_option linter.unusedVariables false
set_option linter.unusedSimpArgs false
namespace Go.S
open Go.Sx Go.Proofs
/-- A key, a value: each is one. -/
theorem check190k (a : Int) {h : Heap} {k : Value → Heap → Prop} (hk : k (.int .i64 0) h) : Ct 190 [.agg #[.int .i64 2, .int .i64 a, .string noS]] h k := by
  obtain ⟨A, hA⟩ := Ar.ex
  have e1 : A .icm .lss 2 0 = false := by rw [icm_lss A]; rfl
  have e2 : A .icm .gtr 2 3 = false := by rw [icm_gtr A]; rfl
  have e3 : A .icm .eql 2 0 = false := by rw [icm_eql A]; rfl
  have e4 : A .icm .eql 2 1 = false := by rw [icm_eql A]; rfl
  have e5 : A .icm .eql 2 2 = true := by rw [icm_eql A]; rfl
  have e6 : A .icm .eql 2 3 = false := by rw [icm_eql A]; rfl
  have e7 : A .scm .neq ⟨#[]⟩ ⟨#[]⟩ = false := by rw [hA.scm]; simp [Go.Sx.scm]
  have e8 : A .icm .gtr (A .sln ⟨#[]⟩) 60 = false := by rw [hA.sln, icm_gtr A]; rfl
  refine fn_of_sx A (tabOk T190.plan T190.pub) Tryz.func190 rfl (by kernel_rfl) ?_
  cbv
  rw [e1]
  cbv
  rw [e2]
  cbv
  rw [e3]
  cbv
  rw [e4]
  cbv
  rw [e5]
  cbv
  rw [e7]
  cbv
  rw [e6]
  cbv
  rw [e8]
  cbv
  exact hk
theorem check190n {h : Heap} {k : Value → Heap → Prop} (hk : k (.int .i64 0) h) : Ct 190 [.agg #[.int .i64 0, .int .i64 0, .string noS]] h k := by
  obtain ⟨A, hA⟩ := Ar.ex
  have e1 : A .icm .lss 0 0 = false := by rw [icm_lss A]; rfl
  have e2 : A .icm .gtr 0 3 = false := by rw [icm_gtr A]; rfl
  have e3 : A .icm .eql 0 0 = true := by rw [icm_eql A]; rfl
  have e3n : A .icm .neq 0 0 = false := by rw [icm_neq A]; rfl
  have e4 : A .icm .eql 0 1 = false := by rw [icm_eql A]; rfl
  have e5 : A .icm .eql 0 2 = false := by rw [icm_eql A]; rfl
  have e6 : A .icm .eql 0 3 = false := by rw [icm_eql A]; rfl
  have e7 : A .scm .neq ⟨#[]⟩ ⟨#[]⟩ = false := by rw [hA.scm]; simp [Go.Sx.scm]
  have e8 : A .icm .gtr (A .sln ⟨#[]⟩) 60 = false := by rw [hA.sln, icm_gtr A]; rfl
  refine fn_of_sx A (tabOk T190.plan T190.pub) Tryz.func190 rfl (by kernel_rfl) ?_
  cbv
  rw [e1]
  cbv
  rw [e2]
  cbv
  rw [e3]
  cbv
  rw [e3n]
  cbv
  rw [e7]
  cbv
  rw [e4]
  cbv
  rw [e5]
  cbv
  rw [e6]
  cbv
  rw [e8]
  cbv
  exact hk
theorem check190t (s : ByteArray) (hs : s.size ≤ 60) {h : Heap} {k : Value → Heap → Prop} (hk : k (.int .i64 0) h) : Ct 190 [.agg #[.int .i64 3, .int .i64 0, .string s]] h k := by
  obtain ⟨A, hA⟩ := Ar.ex
  have e1 : A .icm .lss 3 0 = false := by rw [icm_lss A]; rfl
  have e2 : A .icm .gtr 3 3 = false := by rw [icm_gtr A]; rfl
  have e3 : A .icm .eql 3 0 = false := by rw [icm_eql A]; rfl
  have e3n : A .icm .neq 0 0 = false := by rw [icm_neq A]; rfl
  have e4 : A .icm .eql 3 1 = false := by rw [icm_eql A]; rfl
  have e5 : A .icm .eql 3 2 = false := by rw [icm_eql A]; rfl
  have e6 : A .icm .eql 3 3 = true := by rw [icm_eql A]; rfl
  have e8 : A .icm .gtr (A .sln s) 60 = false := by rw [hA.sln, icm_gtr A]; exact decide_eq_false (by show ¬ ((s.size : Int) > 60); omega)
  refine fn_of_sx A (tabOk T190.plan T190.pub) Tryz.func190 rfl (by kernel_rfl) ?_
  cbv
  rw [e1]
  cbv
  rw [e2]
  cbv
  rw [e3]
  cbv
  rw [e4]
  cbv
  rw [e5]
  cbv
  rw [e6]
  cbv
  rw [e3n]
  cbv
  rw [e8]
  cbv
  exact hk
/-- A row of another length. -/
theorem fits169s {nm : ByteArray} {key : Int} {only : Bool} {cols : List Col} {h : Heap} {sb b : Option Addr} {sn sc n c : Nat} (qs : Sl 104 shCol h (.slice sb sn sc) cols) {r : Row} (q : Sl 68 shVal h (.slice b n c) r) (hne : r.length ≠ cols.length) {k : Value → Heap → Prop} (hk : k (.int .i64 1) h) :
    Ct 169 [.agg #[.string nm, .slice sb sn sc, .int .i64 key, .bool only], .slice b n c] h k := by
  obtain ⟨A, hA⟩ := Ar.ex
  have e1 : A .icm .neq (A .nat n) (A .nat sn) = true := by
    have h1 := q.len
    have h2 := qs.len
    rw [hA.nat, icm_neq A]; exact decide_eq_true (by simp only [Int.ofNat_eq_natCast]; omega)
  refine fn_of_sx A (tabOk T169.plan T169.pub) Tryz.func169 rfl (by kernel_rfl) ?_
  cbv
  rw [e1]
  cbv
  exact hk
theorem fits169 {nm : ByteArray} {key : Int} {only : Bool} {h : Heap} {sb b : Option Addr} {sn sc n c : Nat} (qs : Sl 104 shCol h (.slice sb sn sc) shColsE) {r : Row} (q : Sl 68 shVal h (.slice b n c) r) (hr : RowOk r) {k : Value → Heap → Prop} (hk : k (.int .i64 0) h) :
    Ct 169 [.agg #[.string nm, .slice sb sn sc, .int .i64 key, .bool only], .slice b n c] h k := by
  obtain ⟨A, hA⟩ := Ar.ex
  obtain ⟨a, v, rfl, hv⟩ := hr
  have hn : n = 2 := q.len
  have hsn : sn = 2 := qs.len
  subst hn hsn
  have e1 : A .icm .neq (A .nat 2) (A .nat 2) = false := by rw [icm_neq A]; simp
  have l0 : A .icm .lss 0 (A .nat 2) = true := by rw [hA.nat, icm_lss A]; rfl
  have l1 : A .icm .lss 1 (A .nat 2) = true := by rw [hA.nat, icm_lss A]; rfl
  have l2 : A .icm .lss 2 (A .nat 2) = false := by rw [hA.nat, icm_lss A]; rfl
  have a1 : A .ari .add .i64 0 1 = 1 := by rw [hA.ari]; rfl
  have a2 : A .ari .add .i64 1 1 = 2 := by rw [hA.ari]; rfl
  have n00 : A .icm .neq 0 0 = false := by rw [icm_neq A]; rfl
  have e20 : A .icm .eql 2 0 = false := by rw [icm_eql A]; rfl
  have e00 : A .icm .eql 0 0 = true := by rw [icm_eql A]; rfl
  have e30 : A .icm .eql 3 0 = false := by rw [icm_eql A]; rfl
  have n22 : A .icm .neq 2 2 = false := by rw [icm_neq A]; rfl
  have n33 : A .icm .neq 3 3 = false := by rw [icm_neq A]; rfl
  have ntt : A .not true = false := by rw [hA.not]; rfl
  have g0 : ([⟨2, a, noS⟩, v] : Row)[0]? = some ⟨2, a, noS⟩ := rfl
  have g1 : ([⟨2, a, noS⟩, v] : Row)[1]? = some v := rfl
  obtain ⟨r, hr⟩ : ∃ r : Row, r = [⟨2, a, noS⟩, v] := ⟨_, rfl⟩
  rw [← hr] at q g0 g1
  have k0 : shColsE[0]? = some ⟨nA, 2, false⟩ := rfl
  have k1 : shColsE[1]? = some ⟨⟨#[98]⟩, 3, true⟩ := rfl
  obtain ⟨cE, hcE⟩ : ∃ c, c = shColsE := ⟨_, rfl⟩
  rw [← hcE] at qs k0 k1
  have hck0 : b.isSome = true ∧ (0 : Int) ≤ 0 ∧ (0 : Int) < ((2 : Nat) : Int) := ⟨q.isSm (by omega), by omega, by omega⟩
  have hck1 : b.isSome = true ∧ (0 : Int) ≤ 1 ∧ (1 : Int) < ((2 : Nat) : Int) := ⟨q.isSm (by omega), by omega, by omega⟩
  have hcs0 : sb.isSome = true ∧ (0 : Int) ≤ 0 ∧ (0 : Int) < ((2 : Nat) : Int) := ⟨qs.isSm (by omega), by omega, by omega⟩
  have hcs1 : sb.isSome = true ∧ (0 : Int) ≤ 1 ∧ (1 : Int) < ((2 : Nat) : Int) := ⟨qs.isSm (by omega), by omega, by omega⟩
  clear hr hcE
  refine fn_of_sx A (tabOk T169.plan T169.pub) Tryz.func169 rfl (by kernel_rfl) ?_
  cbv
  rw [e1]
  cbv
  refine LoopX.go (G := Int) (fun g => [(5, .v (.int .i64 g))]) (fun _ => [(2, [.string nm, .slice sb 2 sc, .int .i64 key, .bool only])]) (fun m g h' => h' = h ∧ ((g = 0 ∧ m = 2) ∨ (g = 1 ∧ m = 1) ∨ (g = 2 ∧ m = 0))) 2 0 ⟨?_, ?_, ?_⟩ ⟨rfl, .inl ⟨rfl, rfl⟩⟩ ?_
  · cbv
  · cbv
  · cbv
  · intro m g h' hI
    cbv
    obtain ⟨rfl, hg⟩ := hI
    rcases hg with ⟨rfl, rfl⟩ | ⟨rfl, rfl⟩ | ⟨rfl, rfl⟩
    · rw [l0]
      cbv
      refine ⟨hck0, ?_⟩
      cbv
      refine q.load g0 (n := 0) rfl (fun cs hcs => ?_)
      have hcs : cs = [.int .i64 2, .int .i64 a, .string noS] := hcs
      subst hcs
      cbv
      refine check190k a ?_
      cbv
      rw [n00]
      cbv
      refine ⟨hck0, ?_⟩
      cbv
      refine q.loadF g0 (n := 0) rfl (o := 0) (m := 1) (by decide) (fun cs hcs => ?_)
      have hcs : cs = [.int .i64 2, .int .i64 a, .string noS] := hcs
      subst hcs
      cbv
      rw [e20]
      cbv
      refine ⟨hck0, ?_⟩
      cbv
      refine q.loadF g0 (n := 0) rfl (o := 0) (m := 1) (by decide) (fun cs hcs => ?_)
      have hcs : cs = [.int .i64 2, .int .i64 a, .string noS] := hcs
      subst hcs
      cbv
      refine ⟨hcs0, ?_⟩
      cbv
      refine qs.loadF k0 (n := 0) rfl (o := 1) (m := 1) (by decide) (fun cs hcs => ?_)
      have hcs : cs = [.string nA, .int .i64 2, .bool false] := hcs
      subst hcs
      cbv
      rw [n22]
      cbv
      rw [a1]
      refine ⟨1, 1, by omega, ⟨?_, ?_, ?_⟩, rfl, .inr (.inl ⟨rfl, rfl⟩)⟩
      · cbv
      · cbv
      · cbv
    · rw [l1]
      cbv
      rcases hv with rfl | ⟨s, rfl, hs⟩
      · refine ⟨hck1, ?_⟩
        cbv
        refine q.load g1 (n := 1) rfl (fun cs hcs => ?_)
        have hcs : cs = [.int .i64 0, .int .i64 0, .string noS] := hcs
        subst hcs
        cbv
        refine check190n ?_
        cbv
        rw [n00]
        cbv
        refine ⟨hck1, ?_⟩
        cbv
        refine q.loadF g1 (n := 1) rfl (o := 0) (m := 1) (by decide) (fun cs hcs => ?_)
        have hcs : cs = [.int .i64 0, .int .i64 0, .string noS] := hcs
        subst hcs
        cbv
        rw [e00]
        cbv
        refine ⟨hcs1, ?_⟩
        cbv
        refine qs.loadF k1 (n := 1) rfl (o := 2) (m := 1) (by decide) (fun cs hcs => ?_)
        have hcs : cs = [.string ⟨#[98]⟩, .int .i64 3, .bool true] := hcs
        subst hcs
        cbv
        rw [ntt]
        cbv
        rw [a2]
        refine ⟨0, 2, by omega, ⟨?_, ?_, ?_⟩, rfl, .inr (.inr ⟨rfl, rfl⟩)⟩
        · cbv
        · cbv
        · cbv
      · refine ⟨hck1, ?_⟩
        cbv
        refine q.load g1 (n := 1) rfl (fun cs hcs => ?_)
        have hcs : cs = [.int .i64 3, .int .i64 0, .string s] := hcs
        subst hcs
        cbv
        refine check190t s hs ?_
        cbv
        rw [n00]
        cbv
        refine ⟨hck1, ?_⟩
        cbv
        refine q.loadF g1 (n := 1) rfl (o := 0) (m := 1) (by decide) (fun cs hcs => ?_)
        have hcs : cs = [.int .i64 3, .int .i64 0, .string s] := hcs
        subst hcs
        cbv
        rw [e30]
        cbv
        refine ⟨hck1, ?_⟩
        cbv
        refine q.loadF g1 (n := 1) rfl (o := 0) (m := 1) (by decide) (fun cs hcs => ?_)
        have hcs : cs = [.int .i64 3, .int .i64 0, .string s] := hcs
        subst hcs
        cbv
        refine ⟨hcs1, ?_⟩
        cbv
        refine qs.loadF k1 (n := 1) rfl (o := 1) (m := 1) (by decide) (fun cs hcs => ?_)
        have hcs : cs = [.string ⟨#[98]⟩, .int .i64 3, .bool true] := hcs
        subst hcs
        cbv
        rw [n33]
        cbv
        rw [a2]
        refine ⟨0, 2, by omega, ⟨?_, ?_, ?_⟩, rfl, .inr (.inr ⟨rfl, rfl⟩)⟩
        · cbv
        · cbv
        · cbv
    · rw [l2]
      cbv
      exact hk
end Go.S

set_option maxRecDepth 100000
set_option maxHeartbeats 8000000
set_option linter.unusedVariables false
set_option linter.unusedSimpArgs false
namespace Go.S
open Go.Sx Go.Proofs
theorem At.uniq {R : List Row} {a : Int} {p p' : Nat} (q : At R a p) (q' : At R a p') : p = p' := by
  rcases Nat.lt_trichotomy p p' with h | h | h
  · obtain ⟨row, hr⟩ := get_ex (xs := R) (i := p) (by have := q'.le; omega)
    have h1 := q.hi p row (Nat.le_refl _) hr
    have h2 := q'.lo p row h hr
    omega
  · exact h
  · obtain ⟨row, hr⟩ := get_ex (xs := R) (i := p') (by have := q.le; omega)
    have h1 := q'.hi p' row (Nat.le_refl _) hr
    have h2 := q.lo p' row h hr
    omega
/-- A row, looked for by the document. -/
theorem get170 {nm : ByteArray} {only : Bool} {R : List Row} {h : Heap} {sb b : Option Addr} {sn sc n c : Nat} (q : Sl 63 shRow h (.slice b n c) R) (hR : SR R) (a : Int) (s : ByteArray) {k : Value → Heap → Prop}
    (hk : ∀ h' b' n' c' p t row, Le h h' → At R a p → t = hasK R a p → row = (R[p]?).getD [] → (t = true → Sl 68 shVal h' (.slice b' n' c') row) → k (.tuple #[.slice b' n' c', .bool t]) h') :
    Ct 170 [.agg #[.string nm, .slice sb sn sc, .int .i64 0, .bool only, .slice b n c], .agg #[.int .i64 2, .int .i64 a, .string s]] h k := by
  obtain ⟨A, hA⟩ := Ar.ex
  have hlen := q.len
  have hbd := q.bound
  refine fn_of_sx A (tabOk T170.plan T170.pub) Tryz.func170 rfl (by kernel_rfl) ?_
  cbv
  refine at171 q hR a s (fun z p hz hp => ?_)
  have hple := hp.le
  have f1 : A .icm .eql z (A .nat n) = decide (p = n) := by
    have := hz.eq
    rw [icm_eql A, hA.nat, decide_eq_decide]; simp only [Int.ofNat_eq_natCast]; omega
  cbv
  rw [f1]
  by_cases hpn : p = n
  · have ht : hasK R a p = false := by
      unfold hasK
      rw [List.getElem?_eq_none (by omega)]
    have hfin := hk h none 0 0 p false _ (Le.refl _) hp ht.symm rfl (fun h => by cases h)
    rw [decide_eq_true hpn]
    cbv
    exact hfin
  · obtain ⟨row, hrow⟩ := get_ex (xs := R) (i := p) (by omega)
    obtain ⟨ra, rv, hre⟩ := hR.form row (List.mem_of_getElem? hrow)
    have hkn : kN row = ra := by rw [hre]; rfl
    have hrl : row.length = 2 := by rw [hre]; rfl
    have hr0 : row[0]? = some ⟨2, ra, noS⟩ := by rw [hre]; rfl
    have hck : b.isSome = true ∧ 0 ≤ z ∧ z < (n : Int) := ⟨q.isSm (by omega), hz.ix (by omega)⟩
    have hze := hz.eq
    have f2 : ∀ c, A .icm .neq c 0 = decide (c ≠ 0) := fun c => icm_neq A ..
    rw [decide_eq_false hpn]
    cbv
    refine ⟨hck, ?_⟩
    cbv
    refine q.load hrow hze (fun cs hcs => ?_)
    obtain ⟨rv1, rfl, hrs⟩ := hcs
    obtain ⟨r1, r2, r3, rfl⟩ := hrs.form
    have hr2 : r2 = 2 := by rw [hrs.len, hrl]
    have hckr : r1.isSome = true ∧ (0 : Int) ≤ 0 ∧ (0 : Int) < (r2 : Int) := ⟨hrs.isSm (by omega), by omega, by omega⟩
    cbv
    refine ⟨hckr, ?_⟩
    cbv
    refine hrs.load hr0 (n := 0) rfl (fun cs hcs => ?_)
    have hcs : cs = [.int .i64 2, .int .i64 ra, .string noS] := hcs
    subst hcs
    cbv
    refine compare129 ra a _ s (fun z2 hz2 => ?_)
    have hcmp : decide (z2 ≠ 0) = decide (ra ≠ a) := by rw [hz2, decide_eq_decide]; exact not_congr (cmpI_zero ra a)
    clear hz2
    cbv
    rw [f2, hcmp]
    by_cases hra : ra = a
    · have ht : hasK R a p = true := by
        unfold hasK
        rw [hrow]; exact decide_eq_true (by rw [hkn]; exact hra)
      rw [decide_eq_false (by simp [hra])]
      cbv
      intro n6 h6 g6 e6
      have l6 : Le h h6 := by rw [e6]; exact Le.set g6
      have q6 := q.mono (l6.t _)
      cbv
      refine ⟨hck, ?_⟩
      cbv
      refine q6.load hrow hze (fun cs hcs => ?_)
      obtain ⟨rv2, rfl, hrs2⟩ := hcs
      obtain ⟨u1, u2, u3, rfl⟩ := hrs2.form
      have hu2 : u2 = 2 := by rw [hrs2.len, hrl]
      have hnil : Buf 68 shVal h h6 (.slice (some ⟨n6, 0, none⟩) 0 0) ([] : Row) := Buf.nil
      cbv
      refine hnil.append hrs2 (by decide) rfl (by decide) (by omega) l6 (fun m7 b7 c7 h7 em7 l7 t7 k7 hb7 => ?_)
      have hs7 := hb7.sl
      rw [List.nil_append] at hs7
      have hfin := hk h7 b7 m7 c7 p true row l7 hp ht.symm (by rw [hrow]; rfl) (fun _ => hs7)
      cbv
      exact hfin
    · have ht : hasK R a p = false := by
        unfold hasK
        rw [hrow]; exact decide_eq_false (by rw [hkn]; exact hra)
      have hfin := hk h none 0 0 p false _ (Le.refl _) hp ht.symm rfl (fun h => by cases h)
      rw [decide_eq_true (by simpa using hra)]
      cbv
      exact hfin
theorem put130 {nm : ByteArray} {only : Bool} {R : List Row} {r : Row} {h : Heap} {sb b b2 : Option Addr} {sn sc n c n2 c2 : Nat} (qs : Sl 104 shCol h (.slice sb sn sc) shColsE) (q : Sl 63 shRow h (.slice b n c) R) (hR : SO R) (qr : Sl 68 shVal h (.slice b2 n2 c2) r) (hr : RowOk r ∨ r.length ≠ 2)
    {D : Tbl × Int} (hD : tblPut ⟨⟨nm, shColsE, 0, only⟩, R⟩ r = D) {k : Value → Heap → Prop}
    (hk : ∀ h' b3 n3 c3, Le h h' → Sl 63 shRow h' (.slice b3 n3 c3) D.1.rows → k (.tuple #[.agg #[.string nm, .slice sb sn sc, .int .i64 0, .bool only, .slice b3 n3 c3], .int .i64 D.2]) h') :
    Ct 130 [.agg #[.string nm, .slice sb sn sc, .int .i64 0, .bool only, .slice b n c], .slice b2 n2 c2] h k := by
  obtain ⟨A, hA⟩ := Ar.ex
  have n10 : A .icm .neq 1 0 = true := by rw [icm_neq A]; rfl
  have n00 : A .icm .neq 0 0 = false := by rw [icm_neq A]; rfl
  have hlen := q.len
  have hbd := q.bound
  have hRl := hR.le
  rcases hr with hr | hr
  · have hf := hr.fits
    have hr' := hr
    obtain ⟨a, v, hre, -⟩ := hr'
    have hrl : r.length = 2 := by rw [hre]; rfl
    have hr0 : r[0]? = some ⟨2, a, noS⟩ := by rw [hre]; rfl
    have hn2 : n2 = 2 := by rw [qr.len, hrl]
    have hckr : b2.isSome = true ∧ (0 : Int) ≤ 0 ∧ (0 : Int) < (n2 : Int) := ⟨qr.isSm (by omega), by omega, by omega⟩
    have hDp : ∀ p, At R a p → (if hasK R a p = true then ((⟨⟨nm, shColsE, 0, only⟩, R⟩, 7) : Tbl × Int) else if decide ((R.length : Int) ≥ 200) = true then (⟨⟨nm, shColsE, 0, only⟩, R⟩, 4) else (⟨⟨nm, shColsE, 0, only⟩, R.take p ++ [r] ++ R.drop p⟩, 0)) = D := fun p hp => by
      rw [← hD, hre]
      rw [hre] at hf
      exact (tblPut_SR (S := ⟨nm, shColsE, 0, only⟩) rfl hR.sr hf hp).symm
    have f8 : A .icm .geq (A .nat n) 200 = decide ((R.length : Int) ≥ 200) := by rw [icm_geq A, hA.nat, hlen]; rfl
    clear hD
    obtain ⟨cE, hcE⟩ : ∃ c, c = shColsE := ⟨_, rfl⟩
    rw [← hcE] at hDp
    refine fn_of_sx A (tabOk T130.plan T130.pub) Tryz.func130 rfl (by kernel_rfl) ?_
    cbv
    refine fits169 qs qr hr ?_
    clear qs hcE
    cbv
    rw [n00]
    cbv
    refine ⟨hckr, ?_⟩
    cbv
    refine qr.load hr0 (n := 0) rfl (fun cs hcs => ?_)
    have hcs : cs = [.int .i64 2, .int .i64 a, .string noS] := hcs
    subst hcs
    cbv
    refine get170 q hR.sr a _ (fun h1 b' n' c' p t row l1 hp ht _ _ => ?_)
    have hDp := hDp p hp
    rw [← ht] at hDp
    cbv
    cases t with
    | true =>
      have hDp : ((⟨⟨nm, cE, 0, only⟩, R⟩, 7) : Tbl × Int) = D := hDp
      subst hDp
      have hfin := hk h1 b n c l1 (q.mono (l1.t _))
      cbv
      exact hfin
    | false =>
      have hDp : (if decide ((R.length : Int) ≥ 200) = true then ((⟨⟨nm, cE, 0, only⟩, R⟩, 4) : Tbl × Int) else (⟨⟨nm, cE, 0, only⟩, R.take p ++ [r] ++ R.drop p⟩, 0)) = D := hDp
      cbv
      rw [f8]
      generalize decide ((R.length : Int) ≥ 200) = u8 at hDp
      cases u8 with
      | true =>
        have hDp : ((⟨⟨nm, cE, 0, only⟩, R⟩, 4) : Tbl × Int) = D := hDp
        subst hDp
        have hfin := hk h1 b n c l1 (q.mono (l1.t _))
        cbv
        exact hfin
      | false =>
        have hDp : ((⟨⟨nm, cE, 0, only⟩, R.take p ++ [r] ++ R.drop p⟩, 0) : Tbl × Int) = D := hDp
        have hRs := congrArg (fun d : Tbl × Int => d.1.rows) hDp
        have hRs : R.take p ++ [r] ++ R.drop p = D.1.rows := hRs
        have hD2 := congrArg (fun d : Tbl × Int => d.2) hDp
        have hD2 : 0 = D.2 := hD2
        rw [← hRs, ← hD2] at hk
        clear hRs hD2 hDp
        have q1 := q.mono (l1.t _)
        have qr1 := qr.mono (l1.t _)
        cbv
        refine ⟨hckr, ?_⟩
        cbv
        refine qr1.load hr0 (n := 0) rfl (fun cs hcs => ?_)
        have hcs : cs = [.int .i64 2, .int .i64 a, .string noS] := hcs
        subst hcs
        cbv
        refine at171 q1 hR.sr a _ (fun z p' hz hp' => ?_)
        obtain rfl : p' = p := hp'.uniq hp
        have hple := hp.le
        have hdz : A .dif z 0 = p' := dif_z0 (A := A) hz
        have hdn := dif_nz (A := A) hz (n := n)
        obtain ⟨hcb1, hcb2⟩ := hbd
        have hzi : 0 ≤ z ∧ z ≤ (c : Int) := by have := hz.eq; omega
        have hzn : 0 ≤ z ∧ z ≤ (n : Int) := by have := hz.eq; omega
        have hpn : p' ≤ n := by omega
        cbv
        intro n6 h6 g6 e6
        have l6 : Le h1 h6 := by rw [e6]; exact Le.set g6
        have q6 := q1.mono (l6.t _)
        have hnil : Buf 63 shRow h1 h6 (.slice (some ⟨n6, 0, none⟩) 0 0) ([] : List Row) := Buf.nil
        cbv
        refine ⟨hzi, ?_⟩
        cbv
        refine hnil.append (q6.takeM (A := A) (s := shRow) (z := A .nat c) hpn hdz hdz) (by decide) rfl (by decide) (by rw [hdz]; omega) l6 (fun m7 b7 c7 h7 em7 l7 t7 k7 hb7 => ?_)
        rw [List.nil_append] at hb7
        cbv
        intro n8 h8 g8 e8
        have l8 : Le h7 h8 := by rw [e8]; exact Le.set g8
        have qr8 := qr1.mono ((l7.trans l8).t _)
        cbv
        refine append_new qr8 (by decide) rfl (by decide) (fun h0 => absurd h0 (by omega)) (fun n9 c9 h9 hn9 _ l9 ho9 => ?_)
        have hs9 : Sl 68 shVal h9 (.slice (some ⟨n9, 0, none⟩) n2 c9) r := ho9.sl qr.len
        cbv
        intro n10 h10 g10 e10
        have l10 : Le h9 h10 := by rw [e10]; exact Le.set g10
        have f10 := (congrFun e10 n10).trans hset_self
        have v10 : Sl 63 shRow h10 (.slice (some ⟨n10, 0, none⟩) 1 1) [r] := one_sl (s := shRow) f10 ⟨_, rfl, hs9.mono (l10.t _)⟩
        have l710 := (l8.trans l9).trans l10
        cbv
        refine (hb7.mono (l710.t _)).append v10 (by decide) rfl (by decide) (by omega) (l7.trans l710) (fun m11 b11 c11 h11 em11 l11 t11 k11 hb11 => ?_)
        have q11 := q1.mono (l11.t _)
        cbv
        refine ⟨hzn, ?_⟩
        cbv
        refine hb11.append (q11.dropX (A := A) (s := shRow) hz hpn hdn (c' := c - p') rfl) (by decide) rfl (by decide) (by rw [hdn]; omega) l11 (fun m12 b12 c12 h12 em12 l12 t12 k12 hb12 => ?_)
        have hfin := hk h12 b12 m12 c12 (l1.trans l12) hb12.sl
        cbv
        exact hfin
  · have hD : D = (⟨⟨nm, shColsE, 0, only⟩, R⟩, 1) := by
      rw [← hD]
      unfold tblPut
      have : fitsErr shColsE r = 1 := by
        unfold fitsErr
        have h2 : shColsE.length = 2 := rfl
        rw [if_pos (decide_eq_true (by rw [h2]; omega))]
      simp only
      rw [this]
      rfl
    subst hD
    have hfin := hk h b n c (Le.refl _) q
    obtain ⟨cE, hcE⟩ : ∃ c, c = shColsE := ⟨_, rfl⟩
    have hcl : cE.length = 2 := by rw [hcE]; rfl
    rw [← hcE] at qs
    clear hcE
    refine fn_of_sx A (tabOk T130.plan T130.pub) Tryz.func130 rfl (by kernel_rfl) ?_
    cbv
    refine fits169s qs qr (by omega) ?_
    cbv
    rw [n10]
    cbv
    exact hfin
end Go.S

set_option maxRecDepth 100000
set_option maxHeartbeats 8000000
set_option linter.unusedVariables false
set_option linter.unusedSimpArgs false
namespace Go.S
open Go.Sx Go.Proofs
theorem take133 {nm : ByteArray} {cols : List Col} {only : Bool} {R : List Row} {h : Heap} {sb b : Option Addr} {sn sc n c : Nat} (q : Sl 63 shRow h (.slice b n c) R) (hR : SR R) (hRl : R.length ≤ 200) (a : Int)
    {D : Tbl × Row × Int} (hD : tblTake ⟨⟨nm, cols, 0, only⟩, R⟩ ⟨2, a, noS⟩ = D) {k : Value → Heap → Prop}
    (hk : ∀ h' b3 n3 c3 b4 n4 c4, Le h h' → Sl 63 shRow h' (.slice b3 n3 c3) D.1.rows → Sl 68 shVal h' (.slice b4 n4 c4) D.2.1 → k (.tuple #[.agg #[.string nm, .slice sb sn sc, .int .i64 0, .bool only, .slice b3 n3 c3], .slice b4 n4 c4, .int .i64 D.2.2]) h') :
    Ct 133 [.agg #[.string nm, .slice sb sn sc, .int .i64 0, .bool only, .slice b n c], .agg #[.int .i64 2, .int .i64 a, .string noS]] h k := by
  obtain ⟨A, hA⟩ := Ar.ex
  have hnot1 : A .not true = false := by rw [hA.not]; rfl
  have hnot0 : A .not false = true := by rw [hA.not]; rfl
  have hlen := q.len
  have hbd := q.bound
  have hDp : ∀ p, At R a p → (if hasK R a p = true then ((⟨⟨nm, cols, 0, only⟩, R.take p ++ R.drop (p + 1)⟩, (R[p]?).getD [], 0) : Tbl × Row × Int) else (⟨⟨nm, cols, 0, only⟩, R⟩, [], 2)) = D := fun p hp => by
    rw [← hD]
    exact (tblTake_SR (S := ⟨nm, cols, 0, only⟩) rfl hR hp).symm
  clear hD
  refine fn_of_sx A (tabOk T133.plan T133.pub) Tryz.func133 rfl (by kernel_rfl) ?_
  cbv
  refine get170 q hR a _ (fun h1 b' n' c' p t row l1 hp ht hrow qrow => ?_)
  have hDp := hDp p hp
  rw [← ht, ← hrow] at hDp
  cbv
  cases t with
  | false =>
    have hDp : ((⟨⟨nm, cols, 0, only⟩, R⟩, [], 2) : Tbl × Row × Int) = D := hDp
    subst hDp
    have hfin := hk h1 b n c none 0 0 l1 (q.mono (l1.t _)) Sl.nil
    rw [hnot0]
    cbv
    exact hfin
  | true =>
    have hDp : ((⟨⟨nm, cols, 0, only⟩, R.take p ++ R.drop (p + 1)⟩, row, 0) : Tbl × Row × Int) = D := hDp
    have hRs := congrArg (fun d : Tbl × Row × Int => d.1.rows) hDp
    have hRs : R.take p ++ R.drop (p + 1) = D.1.rows := hRs
    have hD2 := congrArg (fun d : Tbl × Row × Int => d.2.2) hDp
    have hD2 : 0 = D.2.2 := hD2
    have hD3 := congrArg (fun d : Tbl × Row × Int => d.2.1) hDp
    have hD3 : row = D.2.1 := hD3
    rw [← hRs, ← hD2, ← hD3] at hk
    clear hRs hD2 hD3 hDp
    have hplt : p < R.length := by
      have ht := ht.symm
      unfold hasK at ht
      cases hr : R[p]? with
      | none => rw [hr] at ht; cases ht
      | some row => exact (List.getElem?_eq_some_iff.1 hr).1
    have qrow := qrow rfl
    have q1 := q.mono (l1.t _)
    rw [hnot1]
    cbv
    refine at171 q1 hR a _ (fun z p' hz hp' => ?_)
    obtain rfl : p' = p := hp'.uniq hp
    have hz1 := hz.succ (A := A) (by omega)
    have hdz : A .dif z 0 = p' := dif_z0 (A := A) hz
    have hdn := dif_nz (A := A) hz1 (n := n)
    obtain ⟨hcb1, hcb2⟩ := hbd
    have hzi : 0 ≤ z ∧ z ≤ (c : Int) := by have := hz.eq; omega
    have hzn : 0 ≤ A .ari .add .i64 z 1 ∧ A .ari .add .i64 z 1 ≤ (n : Int) := by have := hz1.eq; omega
    have hpn : p' ≤ n := by omega
    have hpn1 : p' + 1 ≤ n := by omega
    cbv
    intro n6 h6 g6 e6
    have l6 : Le h1 h6 := by rw [e6]; exact Le.set g6
    have q6 := q1.mono (l6.t _)
    have hnil : Buf 63 shRow h1 h6 (.slice (some ⟨n6, 0, none⟩) 0 0) ([] : List Row) := Buf.nil
    cbv
    refine ⟨hzi, ?_⟩
    cbv
    refine hnil.append (q6.takeM (A := A) (s := shRow) (z := A .nat c) hpn hdz hdz) (by decide) rfl (by decide) (by rw [hdz]; omega) l6 (fun m7 b7 c7 h7 em7 l7 t7 k7 hb7 => ?_)
    rw [List.nil_append] at hb7
    have q7 := q1.mono (l7.t _)
    cbv
    refine ⟨hzn, ?_⟩
    cbv
    refine hb7.append (q7.dropX (A := A) (s := shRow) hz1 hpn1 hdn (c' := c - (p' + 1)) rfl) (by decide) rfl (by decide) (by rw [hdn]; omega) l7 (fun m12 b12 c12 h12 em12 l12 t12 k12 hb12 => ?_)
    have hfin := hk h12 b12 m12 c12 b' n' c' (l1.trans l12) hb12.sl (qrow.mono (l12.t _))
    cbv
    exact hfin
/-- All rows, told anew. -/
theorem range80 {nm : ByteArray} {only : Bool} {R : List Row} {h : Heap} {sb b : Option Addr} {sn sc n c : Nat} (q : Sl 63 shRow h (.slice b n c) R) (hR : SR R) (hRl : R.length ≤ 200) {k : Value → Heap → Prop}
    (hk : ∀ h' b3 n3 c3, Le h h' → Sl 63 shRow h' (.slice b3 n3 c3) R → k (.slice b3 n3 c3) h') :
    Ct 80 [.agg #[.string nm, .slice sb sn sc, .int .i64 0, .bool only, .slice b n c], .agg #[.int .i64 0, .int .i64 0, .string noS], .agg #[.int .i64 0, .int .i64 0, .string noS]] h k := by
  obtain ⟨A, hA⟩ := Ar.ex
  have e00 : A .icm .eql 0 0 = true := by rw [icm_eql A]; rfl
  have hlen := q.len
  have hbd := q.bound
  refine fn_of_sx A (tabOk T80.plan T80.pub) Tryz.func80 rfl (by kernel_rfl) ?_
  cbv
  refine LoopX.go (G := Int × Option Addr × Nat × Nat) (fun g => [(8, .v (.int .i64 g.1)), (7, .v (.slice g.2.1 g.2.2.1 g.2.2.2))]) (fun _ => [(3, [.string nm, .slice sb sn sc, .int .i64 0, .bool only, .slice b n c]), (4, [.int .i64 0, .int .i64 0, .string noS]), (5, [.int .i64 0, .int .i64 0, .string noS])])
    (fun m g h' => ∃ i : Nat, IsN g.1 i ∧ m = n - i ∧ i ≤ n ∧ Le h h' ∧ Buf 63 shRow h h' (.slice g.2.1 g.2.2.1 g.2.2.2) (R.take i)) n (0, none, 0, 0) ⟨?_, ?_, ?_⟩ ⟨0, ⟨rfl⟩, by omega, by omega, Le.refl _, Buf.nil⟩ ?_
  · cbv
  · cbv
  · cbv
  · intro m g h' hI
    cbv
    obtain ⟨i, hz, hm, hi, hle, hb⟩ := hI
    obtain ⟨z, gb, gl, gc⟩ := g
    have hz : IsN z i := hz
    have hb : Buf 63 shRow h h' (.slice gb gl gc) (R.take i) := hb
    refine bsel_mk (fun hc => ?_) (fun hc => ?_)
    · have hlt := hz.lt hc
      clear hc
      obtain ⟨row, hrow⟩ := get_ex (xs := R) (i := i) (by omega)
      obtain ⟨ra, rv, hre⟩ := hR.form row (List.mem_of_getElem? hrow)
      have hrl : row.length = 2 := by rw [hre]; rfl
      have hr0 : row[0]? = some ⟨2, ra, noS⟩ := by rw [hre]; rfl
      have hck : b.isSome = true ∧ 0 ≤ z ∧ z < (n : Int) := ⟨q.isSm (by omega), hz.ix hlt⟩
      have hze := hz.eq
      have hnx := hz.succ (A := A) (by omega)
      have qh := q.mono (hle.t _)
      have hgl : gl = i := by have := hb.sl.len; rw [this, List.length_take]; omega
      have htk : R.take (i + 1) = R.take i ++ [row] := by rw [List.take_add_one, hrow]; rfl
      cbv
      refine ⟨hck, ?_⟩
      cbv
      refine qh.load hrow hze (fun cs hcs => ?_)
      obtain ⟨rv1, rfl, hrs⟩ := hcs
      obtain ⟨r1, r2, r3, rfl⟩ := hrs.form
      have hr2 : r2 = 2 := by rw [hrs.len, hrl]
      have hckr : r1.isSome = true ∧ (0 : Int) ≤ 0 ∧ (0 : Int) < (r2 : Int) := ⟨hrs.isSm (by omega), by omega, by omega⟩
      cbv
      refine ⟨hckr, ?_⟩
      cbv
      refine hrs.load hr0 (n := 0) rfl (fun cs hcs => ?_)
      have hcs : cs = [.int .i64 2, .int .i64 ra, .string noS] := hcs
      subst hcs
      cbv
      rw [e00]
      cbv
      rw [e00]
      cbv
      intro n6 h6 g6 e6
      have l6 : Le h' h6 := by rw [e6]; exact Le.set g6
      have q6 := qh.mono (l6.t _)
      cbv
      refine ⟨hck, ?_⟩
      cbv
      refine q6.load hrow hze (fun cs hcs => ?_)
      obtain ⟨rv2, rfl, hrs2⟩ := hcs
      obtain ⟨u1, u2, u3, rfl⟩ := hrs2.form
      have hu2 : u2 = 2 := by rw [hrs2.len, hrl]
      cbv
      refine append_new hrs2 (by decide) rfl (by decide) (fun h0 => absurd h0 (by omega)) (fun n9 c9 h9 hn9 _ l9 ho9 => ?_)
      have hs9 : Sl 68 shVal h9 (.slice (some ⟨n9, 0, none⟩) u2 c9) row := ho9.sl hrs2.len
      cbv
      intro n10 h10 g10 e10
      have l10 : Le h9 h10 := by rw [e10]; exact Le.set g10
      have f10 := (congrFun e10 n10).trans hset_self
      have v10 : Sl 63 shRow h10 (.slice (some ⟨n10, 0, none⟩) 1 1) [row] := one_sl (s := shRow) f10 ⟨_, rfl, hs9.mono (l10.t _)⟩
      have l610 := (l6.trans l9).trans l10
      cbv
      refine (hb.mono (l610.t _)).append v10 (by decide) rfl (by decide) (by omega) (hle.trans l610) (fun m11 b11 c11 h11 em11 l11 t11 k11 hb11 => ?_)
      rw [← htk] at hb11
      cbv
      refine ⟨n - (i + 1), (_, b11, m11, c11), by omega, ⟨?_, ?_, ?_⟩, i + 1, hnx, rfl, by omega, l11, hb11⟩
      · cbv
      · cbv
      · cbv
    · have hge := hz.ge hc
      have hfin := hk h' gb gl gc hle (by have := hb.sl; rw [List.take_of_length_le (by omega)] at this; exact this)
      cbv
      exact hfin
end Go.S

set_option maxRecDepth 100000
set_option maxHeartbeats 8000000
set_option linter.unusedVariables false
set_option linter.unusedSimpArgs false
namespace Go.S
open Go.Sx Go.Proofs
abbrev RDK (h : Heap) (d' : DB) (k : Value → Heap → Prop) : Prop :=
  ∀ h' b1 n1 c1 b2 n2 c2 b3 n3 c3 b4 n4 c4, Le h h' → RP h' b1 n1 c1 b2 n2 c2 b3 n3 c3 b4 n4 c4 d' → k (.agg #[.slice b1 n1 c1, .slice b2 n2 c2, .slice b3 n3 c3, .slice b4 n4 c4]) h'
theorem set132 {d : DB} {h : Heap} {b1 b2 b3 b4 : Option Addr} {n1 c1 n2 c2 n3 c3 n4 c4 : Nat} (q : RP h b1 n1 c1 b2 n2 c2 b3 n3 c3 b4 n4 c4 d) (hl : d.tabs.length ≤ 2 ^ 30) {z : Int} {i : Nat} (hz : IsN z i) (hi : i < d.tabs.length)
    {nm : ByteArray} {cols : List Col} {key : Int} {only : Bool} {R : List Row} {sb rb : Option Addr} {sn sc rn rc : Nat} (qs : Sl 104 shCol h (.slice sb sn sc) cols) (qr : Sl 63 shRow h (.slice rb rn rc) R) {k : Value → Heap → Prop} (hk : RDK h ⟨d.tabs.set i ⟨⟨nm, cols, key, only⟩, R⟩, d.works, d.holds, d.waits⟩ k) :
    Ct 132 [.agg #[.slice b1 n1 c1, .slice b2 n2 c2, .slice b3 n3 c3, .slice b4 n4 c4], .int .i64 z, .agg #[.string nm, .slice sb sn sc, .int .i64 key, .bool only, .slice rb rn rc]] h k := by
  obtain ⟨A, hA⟩ := Ar.ex
  have hn := q.tabs.len
  have hze := hz.eq
  refine fn_of_sx A (tabOk T132.plan T132.pub) Tryz.func132 rfl (by kernel_rfl) ?_
  cbv
  intro n5 h5 g5 e5
  have l5 : Le h h5 := by rw [e5]; exact Le.set g5
  have q5 := q.mono l5
  cbv
  refine append_new q5.tabs (by decide) rfl (by decide) (fun h0 => absurd h0 (by omega)) (fun nb cap h6 hnb _ l6 ho => ?_)
  have l56 := l5.trans l6
  have hck : (some (⟨nb, 0, none⟩ : Addr)).isSome = true ∧ 0 ≤ z ∧ z < (n1 : Int) := ⟨rfl, hz.ix (by omega)⟩
  cbv
  refine ⟨hck, ?_⟩
  cbv
  refine ho.setAt (by decide) hi hze rfl (x := ⟨⟨nm, cols, key, only⟩, R⟩) ⟨_, _, _, _, _, _, rfl, qs.mono (l56.t _), qr.mono (l56.t _)⟩ (fun h7 k7 t7 o7 => ?_)
  have l7 : Le h h7 := l56.kpNew (bs := [nb]) (by simpa using l5.none hnb) k7
  have q7 := q.mono l7
  have hfin := hk h7 (some ⟨nb, 0, none⟩) n1 cap b2 n2 c2 b3 n3 c3 b4 n4 c4 l7 ⟨o7.sl (by rw [List.length_set]; exact hn), q7.works, q7.holds, q7.waits⟩
  cbv
  exact hfin
theorem put135 {d : DB} {h : Heap} {b1 b2 b3 b4 : Option Addr} {n1 c1 n2 c2 n3 c3 n4 c4 : Nat} (q : RP h b1 n1 c1 b2 n2 c2 b3 n3 c3 b4 n4 c4 d) (hl : d.works.length ≤ 2 ^ 30) {z : Int} {i : Nat} (hz : IsN z i) (hi : i < d.works.length)
    {s : Int} {L : List Chg} {M : List Mrk} {sb rb : Option Addr} {sn sc rn rc : Nat} (qs : Sl 77 shChg h (.slice sb sn sc) L) (qr : Sl 146 shMrk h (.slice rb rn rc) M) {k : Value → Heap → Prop} (hk : RDK h ⟨d.tabs, d.works.set i ⟨s, L, M⟩, d.holds, d.waits⟩ k) :
    Ct 135 [.agg #[.slice b1 n1 c1, .slice b2 n2 c2, .slice b3 n3 c3, .slice b4 n4 c4], .int .i64 z, .agg #[.int .i64 s, .slice sb sn sc, .slice rb rn rc]] h k := by
  obtain ⟨A, hA⟩ := Ar.ex
  have hn := q.works.len
  have hze := hz.eq
  refine fn_of_sx A (tabOk T135.plan T135.pub) Tryz.func135 rfl (by kernel_rfl) ?_
  cbv
  intro n5 h5 g5 e5
  have l5 : Le h h5 := by rw [e5]; exact Le.set g5
  have q5 := q.mono l5
  cbv
  refine append_new q5.works (by decide) rfl (by decide) (fun h0 => absurd h0 (by omega)) (fun nb cap h6 hnb _ l6 ho => ?_)
  have l56 := l5.trans l6
  have hck : (some (⟨nb, 0, none⟩ : Addr)).isSome = true ∧ 0 ≤ z ∧ z < (n2 : Int) := ⟨rfl, hz.ix (by omega)⟩
  cbv
  refine ⟨hck, ?_⟩
  cbv
  refine ho.setAt (by decide) hi hze rfl (x := ⟨s, L, M⟩) ⟨_, _, _, _, _, _, rfl, qs.mono (l56.t _), qr.mono (l56.t _)⟩ (fun h7 k7 t7 o7 => ?_)
  have l7 : Le h h7 := l56.kpNew (bs := [nb]) (by simpa using l5.none hnb) k7
  have q7 := q.mono l7
  have hfin := hk h7 b1 n1 c1 (some ⟨nb, 0, none⟩) n2 cap b3 n3 c3 b4 n4 c4 l7 ⟨q7.tabs, o7.sl (by rw [List.length_set]; exact hn), q7.holds, q7.waits⟩
  cbv
  exact hfin
theorem free173 {H W : List Hld} {h : Heap} {b3 b4 : Option Addr} {n3 c3 n4 c4 : Nat} (q3 : Sl 209 shHld h (.slice b3 n3 c3) H) (q4 : Sl 209 shHld h (.slice b4 n4 c4) W) (h3 : n3 ≤ 2 ^ 38) (h4 : n4 ≤ 2 ^ 38) (s : Int) {k : Value → Heap → Prop}
    (hk : ∀ h' e3 m3 f3 e4 m4 f4, Le h h' → Sl 209 shHld h' (.slice e3 m3 f3) (wout H s) → Sl 209 shHld h' (.slice e4 m4 f4) (wout W s) → k (.agg #[.slice e3 m3 f3, .slice e4 m4 f4]) h') :
    Ct 173 [.agg #[.slice b3 n3 c3, .slice b4 n4 c4], .int .i64 s] h k := by
  obtain ⟨A, hA⟩ := Ar.ex
  refine fn_of_sx A (tabOk T173.plan T173.pub) Tryz.func173 rfl (by kernel_rfl) ?_
  cbv
  refine without165 q3 h3 s (fun h5 e3 m3 f3 l5 hb5 => ?_)
  cbv
  refine without165 (q4.mono (l5.t _)) h4 s (fun h6 e4 m4 f4 l6 hb6 => ?_)
  have hfin := hk h6 e3 m3 f3 e4 m4 f4 (l5.trans l6) (hb5.sl.mono (l6.t _)) hb6.sl
  cbv
  exact hfin
/-- A session is at work no more. -/
theorem end137 {d : DB} {h : Heap} {b1 b2 b3 b4 : Option Addr} {n1 c1 n2 c2 n3 c3 n4 c4 : Nat} (q : RP h b1 n1 c1 b2 n2 c2 b3 n3 c3 b4 n4 c4 d) (hl : d.works.length ≤ 2 ^ 30) (h3 : d.holds.length ≤ 2 ^ 30) (h4 : d.waits.length ≤ 2 ^ 30) {s : Int} {i : Nat} {w : Wrk} (hi : d.works[i]? = some w) (hw : w.s = s) (hu : ∀ j y, d.works[j]? = some y → y.s = s → j = i) {k : Value → Heap → Prop} (hk : RDK h ⟨d.tabs, d.works.take i ++ d.works.drop (i + 1), wout d.holds s, wout d.waits s⟩ k) :
    Ct 137 [.agg #[.slice b1 n1 c1, .slice b2 n2 c2, .slice b3 n3 c3, .slice b4 n4 c4], .int .i64 s] h k := by
  obtain ⟨A, hA⟩ := Ar.ex
  have hn := q.works.len
  have hn3 := q.holds.len
  have hn4 := q.waits.len
  have hbd := q.works.bound
  have hil := (List.getElem?_eq_some_iff.1 hi).1
  refine fn_of_sx A (tabOk T137.plan T137.pub) Tryz.func137 rfl (by kernel_rfl) ?_
  cbv
  refine who39 q s (fun z hidx => ?_)
  have hz : IsN z i := by
    rcases hidx.out with ⟨-, hall⟩ | ⟨j, y, hz, hy, hp, -⟩
    · have := hall w (List.mem_of_getElem? hi)
      rw [decide_eq_true hw] at this; cases this
    · have := hu j y hy (of_decide_eq_true hp)
      rw [← this]; exact hz
  clear hidx
  have hz1 := hz.succ (A := A) (by omega)
  have hdz : A .dif z 0 = i := dif_z0 (A := A) hz
  have hdn := dif_nz (A := A) hz1 (n := n2)
  obtain ⟨hcb1, hcb2⟩ := hbd
  have hzi : 0 ≤ z ∧ z ≤ (c2 : Int) := by have := hz.eq; omega
  have hzn : 0 ≤ A .ari .add .i64 z 1 ∧ A .ari .add .i64 z 1 ≤ (n2 : Int) := by have := hz1.eq; omega
  have hin : i ≤ n2 := by omega
  have hin1 : i + 1 ≤ n2 := by omega
  cbv
  intro n6 h6 g6 e6
  have l6 : Le h h6 := by rw [e6]; exact Le.set g6
  have q6 := q.mono l6
  have hnil : Buf 143 shWrkR h h6 (.slice (some ⟨n6, 0, none⟩) 0 0) ([] : List Wrk) := Buf.nil
  cbv
  refine ⟨hzi, ?_⟩
  cbv
  refine hnil.append (q6.works.takeM (A := A) (s := shWrkR) (z := A .nat c2) hin hdz hdz) (by decide) rfl (by decide) (by rw [hdz]; omega) l6 (fun m7 b7 c7 h7 em7 l7 t7 k7 hb7 => ?_)
  rw [List.nil_append] at hb7
  have q7 := q.mono l7
  cbv
  refine ⟨hzn, ?_⟩
  cbv
  refine hb7.append (q7.works.dropX (A := A) (s := shWrkR) hz1 hin1 hdn (c' := c2 - (i + 1)) rfl) (by decide) rfl (by decide) (by rw [hdn]; omega) l7 (fun m8 b8 c8 h8 em8 l8 t8 k8 hb8 => ?_)
  have q8 := q.mono l8
  cbv
  refine free173 q8.holds q8.waits (by omega) (by omega) s (fun h9 e3 m3 f3 e4 m4 f4 l9 p3 p4 => ?_)
  have q9 := q8.mono l9
  have hfin := hk h9 b1 n1 c1 b8 m8 c8 e3 m3 f3 e4 m4 f4 (l8.trans l9) ⟨q9.tabs, hb8.sl.mono (l9.t _), p3, p4⟩
  cbv
  exact hfin
/-- A change more of a session. -/
theorem note131 {d : DB} {h : Heap} {b1 b2 b3 b4 : Option Addr} {n1 c1 n2 c2 n3 c3 n4 c4 : Nat} (q : RP h b1 n1 c1 b2 n2 c2 b3 n3 c3 b4 n4 c4 d) (hl : d.works.length ≤ 2 ^ 30) {s : Int} {i : Nat} {w : Wrk} (hi : d.works[i]? = some w) (hw : w.s = s) (hu : ∀ j y, d.works[j]? = some y → y.s = s → j = i) (hwl : w.log.length ≤ 2 ^ 30) {x : Chg} {rb : Option Addr} {rn rc : Nat} (qr : Sl 68 shVal h (.slice rb rn rc) x.row) (hrl : x.row.length = 2) {k : Value → Heap → Prop} (hk : RDK h ⟨d.tabs, d.works.set i ⟨w.s, w.log ++ [x], w.marks⟩, d.holds, d.waits⟩ k) :
    Ct 131 [.agg #[.slice b1 n1 c1, .slice b2 n2 c2, .slice b3 n3 c3, .slice b4 n4 c4], .int .i64 s, .agg #[.string x.table, .int .i64 x.op, .slice rb rn rc]] h k := by
  obtain ⟨A, hA⟩ := Ar.ex
  have hn := q.works.len
  have hil := (List.getElem?_eq_some_iff.1 hi).1
  obtain ⟨ws, wl, wm⟩ := w
  obtain ⟨xt, xo, xr⟩ := x
  have qr : Sl 68 shVal h (.slice rb rn rc) xr := qr
  have hrl : xr.length = 2 := hrl
  have hwl : wl.length ≤ 2 ^ 30 := hwl
  have hrn := qr.len
  refine fn_of_sx A (tabOk T131.plan T131.pub) Tryz.func131 rfl (by kernel_rfl) ?_
  cbv
  refine who39 q s (fun z hidx => ?_)
  have hz : IsN z i := by
    rcases hidx.out with ⟨-, hall⟩ | ⟨j, y, hz, hy, hp, -⟩
    · have := hall _ (List.mem_of_getElem? hi)
      rw [decide_eq_true hw] at this; cases this
    · have := hu j y hy (of_decide_eq_true hp)
      rw [← this]; exact hz
  clear hidx
  have hck : b2.isSome = true ∧ 0 ≤ z ∧ z < (n2 : Int) := ⟨q.works.isSm (by omega), hz.ix (by omega)⟩
  have hze := hz.eq
  cbv
  refine ⟨hck, ?_⟩
  cbv
  refine q.works.load hi hze (fun cs hcs => ?_)
  obtain ⟨u1, v1, w1, u2, v2, w2, rfl, ql, qm⟩ := hcs
  have ql : Sl 77 shChg h (.slice u1 v1 w1) wl := ql
  have hv1 := ql.len
  cbv
  intro n5 h5 g5 e5
  have l5 : Le h h5 := by rw [e5]; exact Le.set g5
  cbv
  refine append_new (qr.mono (l5.t _)) (by decide) rfl (by decide) (fun h0 => absurd h0 (by omega)) (fun n6 c6 h6 hn6 _ l6 ho6 => ?_)
  have hs6 : Sl 68 shVal h6 (.slice (some ⟨n6, 0, none⟩) rn c6) xr := ho6.sl qr.len
  have l56 := l5.trans l6
  cbv
  refine ⟨?_, ?_⟩
  · intro n7 h7 g7 e7
    have l7 : Le h6 h7 := by rw [e7]; exact Le.set g7
    have l57 := l56.trans l7
    have hnil : Buf 77 shChg h h7 (.slice (some ⟨n7, 0, none⟩) 0 0) ([] : List Chg) := Buf.nil
    cbv
    refine ⟨?_, ?_⟩
    · cbv
      refine hnil.append (ql.mono (l57.t _)) (by decide) rfl (by decide) (by omega) l57 (fun m8 b8 c8 h8 em8 l8 t8 k8 hb8 => ?_)
      have hs8 := hs6.mono (l7.t _)
      cbv
      intro n9 h9 g9 e9
      have l9 : Le h8 h9 := by rw [e9]; exact Le.set g9
      have f9 := (congrFun e9 n9).trans hset_self
      have vX : Sl 77 shChg h9 (.slice (some ⟨n9, 0, none⟩) 1 1) [⟨xt, xo, xr⟩] := one_sl (s := shChg) f9 ⟨_, _, _, rfl, (hs8.mono (t8 _ (by decide))).mono (l9.t _)⟩
      have hb9 := hb8.mono (l9.t _)
      have lX := l8.trans l9
      cbv
      refine hb9.append vX (by decide) rfl (by decide) (by omega) lX (fun m10 b10 c10 h10 em10 l10 t10 k10 hb10 => ?_)
      rw [List.nil_append] at hb10
      cbv
      refine put135 (q.mono l10) hl hz hil hb10.sl (qm.mono (l10.t _)) (fun h11 b1 n1 c1 b2 n2 c2 b3 n3 c3 b4 n4 c4 l11 q11 => ?_)
      have hfin := hk h11 b1 n1 c1 b2 n2 c2 b3 n3 c3 b4 n4 c4 (l10.trans l11) q11
      cbv
      exact hfin
    · cbv
      intro n8 h8 g8 e8
      have l8 : Le h7 h8 := by rw [e8]; exact Le.set g8
      have f8 := (congrFun e8 n8).trans hset_self
      have v8 : Sl 77 shChg h8 (.slice (some ⟨n8, 0, none⟩) 1 1) [⟨xt, xo, xr⟩] := one_sl (s := shChg) f8 ⟨_, _, _, rfl, hs6.mono ((l7.trans l8).t _)⟩
      have l58 := l57.trans l8
      have hnil8 : Buf 77 shChg h h8 (.slice (some ⟨n7, 0, none⟩) 0 0) ([] : List Chg) := Buf.nil
      cbv
      refine append_new (ql.mono (l58.t _)) (by decide) rfl (by decide) (fun h0 => ?_) (fun n9 c9 h9 hn9 _ l9 ho9 => ?_)
      · have hwl0 : wl = [] := List.eq_nil_of_length_eq_zero (by omega)
        have hb9 : Buf 77 shChg h h8 (.slice (some ⟨n7, 0, none⟩) 0 0) wl := by rw [hwl0]; exact hnil8
        have vX := v8
        have lX := l58
        cbv
        refine hb9.append vX (by decide) rfl (by decide) (by omega) lX (fun m10 b10 c10 h10 em10 l10 t10 k10 hb10 => ?_)
        cbv
        refine put135 (q.mono l10) hl hz hil hb10.sl (qm.mono (l10.t _)) (fun h11 b1 n1 c1 b2 n2 c2 b3 n3 c3 b4 n4 c4 l11 q11 => ?_)
        have hfin := hk h11 b1 n1 c1 b2 n2 c2 b3 n3 c3 b4 n4 c4 (l10.trans l11) q11
        cbv
        exact hfin
      · have hb9 : Buf 77 shChg h h9 (.slice (some ⟨n9, 0, none⟩) v1 c9) wl := ho9.buf (l58.none hn9) hv1
        have vX := v8.mono (l9.t _)
        have lX := l58.trans l9
        cbv
        refine hb9.append vX (by decide) rfl (by decide) (by omega) lX (fun m10 b10 c10 h10 em10 l10 t10 k10 hb10 => ?_)
        cbv
        refine put135 (q.mono l10) hl hz hil hb10.sl (qm.mono (l10.t _)) (fun h11 b1 n1 c1 b2 n2 c2 b3 n3 c3 b4 n4 c4 l11 q11 => ?_)
        have hfin := hk h11 b1 n1 c1 b2 n2 c2 b3 n3 c3 b4 n4 c4 (l10.trans l11) q11
        cbv
        exact hfin
  · intro n8 h8 g8 e8
    have l8 : Le h6 h8 := by rw [e8]; exact Le.set g8
    have f8 := (congrFun e8 n8).trans hset_self
    cbv
    intro n7 h7 g7 e7
    have l7 : Le h8 h7 := by rw [e7]; exact Le.set g7
    have v8 : Sl 77 shChg h7 (.slice (some ⟨n8, 0, none⟩) 1 1) [⟨xt, xo, xr⟩] := (one_sl (s := shChg) (x := ⟨xt, xo, xr⟩) f8 ⟨_, _, _, rfl, hs6.mono (l8.t _)⟩).mono (l7.t _)
    have l58 := (l56.trans l8).trans l7
    have hnil8 : Buf 77 shChg h h7 (.slice (some ⟨n7, 0, none⟩) 0 0) ([] : List Chg) := Buf.nil
    cbv
    refine append_new (ql.mono (l58.t _)) (by decide) rfl (by decide) (fun h0 => ?_) (fun n9 c9 h9 hn9 _ l9 ho9 => ?_)
    · have hwl0 : wl = [] := List.eq_nil_of_length_eq_zero (by omega)
      have hb9 : Buf 77 shChg h h7 (.slice (some ⟨n7, 0, none⟩) 0 0) wl := by rw [hwl0]; exact hnil8
      have vX := v8
      have lX := l58
      cbv
      refine hb9.append vX (by decide) rfl (by decide) (by omega) lX (fun m10 b10 c10 h10 em10 l10 t10 k10 hb10 => ?_)
      cbv
      refine put135 (q.mono l10) hl hz hil hb10.sl (qm.mono (l10.t _)) (fun h11 b1 n1 c1 b2 n2 c2 b3 n3 c3 b4 n4 c4 l11 q11 => ?_)
      have hfin := hk h11 b1 n1 c1 b2 n2 c2 b3 n3 c3 b4 n4 c4 (l10.trans l11) q11
      cbv
      exact hfin
    · have hb9 : Buf 77 shChg h h9 (.slice (some ⟨n9, 0, none⟩) v1 c9) wl := ho9.buf (l58.none hn9) hv1
      have vX := v8.mono (l9.t _)
      have lX := l58.trans l9
      cbv
      refine hb9.append vX (by decide) rfl (by decide) (by omega) lX (fun m10 b10 c10 h10 em10 l10 t10 k10 hb10 => ?_)
      cbv
      refine put135 (q.mono l10) hl hz hil hb10.sl (qm.mono (l10.t _)) (fun h11 b1 n1 c1 b2 n2 c2 b3 n3 c3 b4 n4 c4 l11 q11 => ?_)
      have hfin := hk h11 b1 n1 c1 b2 n2 c2 b3 n3 c3 b4 n4 c4 (l10.trans l11) q11
      cbv
      exact hfin
end Go.S

set_option maxRecDepth 100000
set_option maxHeartbeats 8000000
set_option linter.unusedVariables false
set_option linter.unusedSimpArgs false
namespace Go.S
open Go.Sx Go.Proofs

/-! Names in their order. -/
theorem cmpL_zero : ∀ a b : List UInt8, Lib.compareBytes a b = 0 ↔ a = b
  | [], [] => by simp [Lib.compareBytes]
  | [], y :: b => by simp [Lib.compareBytes]
  | x :: a, [] => by simp [Lib.compareBytes]
  | x :: a, y :: b => by
    unfold Lib.compareBytes
    by_cases h : x < y
    · simp [h]; intro e; subst e; exact absurd h (UInt8.lt_irrefl x)
    · by_cases h2 : y < x
      · simp [h, h2]; intro e; subst e; exact absurd h2 (UInt8.lt_irrefl x)
      · have : x = y := by
          rw [UInt8.lt_iff_toNat_lt] at h h2
          exact UInt8.toNat_inj.1 (by omega)
        subst this
        simp [h, cmpL_zero a b]
theorem cmpL_neg : ∀ a b : List UInt8, Lib.compareBytes a b = - Lib.compareBytes b a
  | [], [] => by simp [Lib.compareBytes]
  | [], y :: b => by simp [Lib.compareBytes]
  | x :: a, [] => by simp [Lib.compareBytes]
  | x :: a, y :: b => by
    unfold Lib.compareBytes
    by_cases h : x < y
    · have h2 : ¬ y < x := by rw [UInt8.lt_iff_toNat_lt] at h ⊢; omega
      simp [h, h2]
    · by_cases h2 : y < x
      · simp [h, h2]
      · simp [h, h2, cmpL_neg a b]
theorem cmpB_zero {a b : ByteArray} (h : cmpB a b = 0) : a = b := by
  unfold cmpB at h
  have := (cmpL_zero _ _).1 h
  cases a with
  | mk a =>
    cases b with
    | mk b =>
      congr 1
      exact Array.ext' this
theorem cmpB_neg (a b : ByteArray) : cmpB a b = - cmpB b a := by unfold cmpB; exact cmpL_neg _ _

/-- Tables as they stand. -/
structure TW (T : List Tbl) : Prop where
  srt : T.Pairwise (fun a b => cmpB a.S.name b.S.name < 0)
  ok : ∀ t ∈ T, t.S.cols = shColsE ∧ t.S.key = 0 ∧ SO t.rows ∧ t.S.name.size ≤ 12
  le : T.length ≤ 8
theorem tab_at {T : List Tbl} (h : T.Pairwise (fun a b => cmpB a.S.name b.S.name < 0)) {i : Nat} {t : Tbl} (hi : T[i]? = some t) : bsI (tabCmps T t.S.name) = i ∧ bsB (tabCmps T t.S.name) = true := by
  have hil := (List.getElem?_eq_some_iff.1 hi).1
  have hl : (tabCmps T t.S.name).length = T.length := by simp [tabCmps]
  have get : ∀ j x, T[j]? = some x → (tabCmps T t.S.name).getD j 0 = cmpB x.S.name t.S.name := fun j x hx => by
    rw [List.getD_eq_getElem?_getD]; unfold tabCmps; rw [List.getElem?_map, hx]; rfl
  refine bs_at _ i (by omega) (by rw [get i t hi]; exact cmpB_self _) (fun j hj => ?_) (fun j hj hj2 => ?_)
  · obtain ⟨x, hx⟩ := get_ex (xs := T) (i := j) (by omega)
    rw [get j x hx]
    have := List.pairwise_iff_getElem.1 h j i (List.getElem?_eq_some_iff.1 hx).1 hil hj
    rw [(List.getElem?_eq_some_iff.1 hx).2, (List.getElem?_eq_some_iff.1 hi).2] at this
    exact this
  · obtain ⟨x, hx⟩ := get_ex (xs := T) (i := j) (by omega)
    rw [get j x hx]
    have := List.pairwise_iff_getElem.1 h i j hil (List.getElem?_eq_some_iff.1 hx).1 hj
    rw [(List.getElem?_eq_some_iff.1 hx).2, (List.getElem?_eq_some_iff.1 hi).2] at this
    rw [cmpB_neg] at this
    omega
theorem tab_none {T : List Tbl} {nm : ByteArray} (h : ∀ t ∈ T, t.S.name ≠ nm) : bsB (tabCmps T nm) = false := by
  cases hb : bsB (tabCmps T nm) with
  | false => rfl
  | true =>
    unfold bsB at hb
    obtain ⟨h1, h2⟩ := of_decide_eq_true hb
    obtain ⟨t, ht⟩ := get_ex (xs := T) (i := bsI (tabCmps T nm)) (by simpa [tabCmps] using h1)
    have : (tabCmps T nm).getD (bsI (tabCmps T nm)) 0 = cmpB t.S.name nm := by
      conv => lhs; unfold tabCmps
      rw [List.getD_eq_getElem?_getD, List.getElem?_map]
      rw [show T.map (fun x => cmpB x.S.name nm) = tabCmps T nm from rfl, ht]; rfl
    rw [this] at h2
    exact absurd (cmpB_zero h2) (h t (List.mem_of_getElem? ht))
/-- The document's search and the program's meet. -/
theorem tab_idx {T : List Tbl} (h : T.Pairwise (fun a b => cmpB a.S.name b.S.name < 0)) {nm : ByteArray} {z : Int} (q : IdxR T (fun t => decide (t.S.name = nm)) z) :
    (z = -1 ∧ bsB (tabCmps T nm) = false ∧ ∀ t ∈ T, t.S.name ≠ nm) ∨ ∃ i t, IsN z i ∧ T[i]? = some t ∧ t.S.name = nm ∧ bsI (tabCmps T nm) = i ∧ bsB (tabCmps T nm) = true := by
  rcases q.out with ⟨rfl, hall⟩ | ⟨i, t, hz, ht, hp, -⟩
  · refine .inl ⟨rfl, tab_none (fun t ht => ?_), fun t ht => ?_⟩
    · exact of_decide_eq_false (hall t ht)
    · exact of_decide_eq_false (hall t ht)
  · have hn : t.S.name = nm := of_decide_eq_true hp
    obtain ⟨h1, h2⟩ := tab_at h ht
    rw [hn] at h1 h2
    exact .inr ⟨i, t, hz, ht, hn, h1, h2⟩

theorem tput_so {S : Sch} (h1 : S.cols = shColsE) (h2 : S.key = 0) {R : List Row} {r : Row} (h : SO R) (hr : RowOk r ∨ r.length ≠ 2) : SO (tblPut ⟨S, R⟩ r).1.rows := by
  rcases hr with hr | hr
  · have hf := hr.fits
    have hr' := hr
    obtain ⟨a, v, rfl, -⟩ := hr'
    obtain ⟨p, q⟩ := h.sr.at_ a
    rw [tblPut_SR (S := S) h2 h.sr (by rw [h1]; exact hf) q]
    by_cases h3 : hasK R a p = true
    · rw [if_pos h3]; exact h
    · rw [if_neg h3]
      by_cases h4 : decide ((R.length : Int) ≥ 200) = true
      · rw [if_pos h4]; exact h
      · rw [if_neg h4]
        have h4 : R.length < 200 := by simp at h4; omega
        refine ⟨h.sr.ins (v := v) q (by simpa using h3), fun row hrow => ?_, ?_⟩
        · rcases List.mem_append.1 hrow with hrow | hrow
          · rcases List.mem_append.1 hrow with hrow | hrow
            · exact h.ok row (List.mem_of_mem_take hrow)
            · simp at hrow; rw [hrow]; exact hr
          · exact h.ok row (List.mem_of_mem_drop hrow)
        · have := q.le
          simp; omega
  · have : fitsErr S.cols r = 1 := by
      unfold fitsErr
      have h2 : S.cols.length = 2 := by rw [h1]; rfl
      rw [if_pos (decide_eq_true (by rw [h2]; omega))]
    unfold tblPut
    simp only
    rw [this]
    exact h
theorem ttake_so {S : Sch} (h2 : S.key = 0) {R : List Row} (h : SO R) (a : Int) : SO (tblTake ⟨S, R⟩ ⟨2, a, noS⟩).1.rows := by
  obtain ⟨p, q⟩ := h.sr.at_ a
  rw [tblTake_SR (S := S) h2 h.sr q]
  by_cases h1 : hasK R a p = true
  · rw [if_pos h1]
    have hsub := take_drop_sub R p
    exact ⟨h.sr.sub hsub, fun row hrow => h.ok row (hsub.subset hrow), Nat.le_trans hsub.length_le h.le⟩
  · rw [if_neg h1]; exact h
theorem TW.set {T : List Tbl} (h : TW T) {i : Nat} {t t' : Tbl} (hi : T[i]? = some t) (hS : t'.S = t.S) (hr : SO t'.rows) : TW (T.set i t') := by
  have hil := (List.getElem?_eq_some_iff.1 hi).1
  refine ⟨?_, fun x hx => ?_, by rw [List.length_set]; exact h.le⟩
  · rw [List.pairwise_iff_getElem]
    have e : ∀ j (hj : j < (T.set i t').length), (T.set i t')[j].S = (T[j]'(by simpa using hj)).S := fun j hj => by
      rw [List.getElem_set]
      split
      · rename_i e
        subst e
        rw [hS, ← (List.getElem?_eq_some_iff.1 hi).2]
      · rfl
    intro a b ha hb hab
    rw [e a ha, e b hb]
    exact List.pairwise_iff_getElem.1 h.srt a b _ _ hab
  · rcases List.mem_or_eq_of_mem_set hx with h1 | h1
    · exact h.ok x h1
    · have := h.ok t (List.mem_of_getElem? hi)
      rw [h1, hS]
      exact ⟨this.1, this.2.1, hr, this.2.2.2⟩
/-- A change that can be taken back. -/
structure ChOk (T : List Tbl) (x : Chg) : Prop where
  row : RowOk x.row
  op : x.op = 1 ∨ x.op = 2
  at_ : ∃ t ∈ T, t.S.name = x.table
theorem ChOk.map {T T' : List Tbl} {x : Chg} (h : ChOk T x) (e : T'.map (·.S) = T.map (·.S)) : ChOk T' x := by
  refine ⟨h.row, h.op, ?_⟩
  obtain ⟨t, ht, hn⟩ := h.at_
  have : t.S ∈ T'.map (·.S) := by rw [e]; exact List.mem_map_of_mem ht
  obtain ⟨t', ht', he⟩ := List.mem_map.1 this
  exact ⟨t', ht', by rw [he]; exact hn⟩
theorem undo1_at {T : List Tbl} (h : TW T) {x : Chg} (hx : ChOk T x) {i : Nat} {t : Tbl} (hi : T[i]? = some t) (hn : t.S.name = x.table) :
    undo1 T x = T.set i (if x.op = 2 then (tblPut t x.row).1 else (tblTake t (valAt x.row 0)).1) ∧ TW (undo1 T x) := by
  obtain ⟨h1, h2⟩ := tab_at h.srt hi
  rw [hn] at h1 h2
  obtain ⟨c1, c2, c3, -⟩ := h.ok t (List.mem_of_getElem? hi)
  have e : undo1 T x = T.set i (if x.op = 2 then (tblPut t x.row).1 else (tblTake t (valAt x.row 0)).1) := by
    unfold undo1
    rw [h1, h2, hi]
    simp only [if_true]
    by_cases ho : x.op = 2
    · rw [if_pos (decide_eq_true ho), if_pos ho]
    · rw [if_neg (by simpa using ho), if_neg ho, if_pos (by
        obtain ⟨a, v, hr, -⟩ := hx.row
        rw [c2, hr]; rfl), c2]
  refine ⟨e, ?_⟩
  rw [e]
  obtain ⟨S, R⟩ := t
  by_cases ho : x.op = 2
  · rw [if_pos ho]
    exact h.set hi (tblPut_S _ _) (tput_so c1 c2 c3 (.inl hx.row))
  · rw [if_neg ho]
    obtain ⟨a, v, hr, -⟩ := hx.row
    rw [hr]
    exact h.set hi (tblTake_S _ _) (ttake_so c2 c3 a)
theorem undo1_TW {T : List Tbl} (h : TW T) {x : Chg} (hx : ChOk T x) : TW (undo1 T x) := by
  obtain ⟨t, ht, hn⟩ := hx.at_
  obtain ⟨i, hi⟩ := List.getElem?_of_mem ht
  exact (undo1_at h hx hi hn).2
theorem undoL_TW {T : List Tbl} (h : TW T) : ∀ {l : List Chg}, (∀ x ∈ l, ChOk T x) → TW (undoL T l)
  | [], _ => h
  | x :: r, hl => undo1_TW (undoL_TW h (fun y hy => hl y (List.mem_cons_of_mem _ hy))) ((hl x (by simp)).map (undoL_S T r))
end Go.S

set_option maxRecDepth 100000
set_option maxHeartbeats 8000000
set_option linter.unusedVariables false
set_option linter.unusedSimpArgs false
namespace Go.S
open Go.Sx Go.Proofs
structure W15 where
  w : W12
  lb : Option Addr
  ln : Nat
  lc : Nat
theorem undo136 {d : DB} {h : Heap} {b1 b2 b3 b4 : Option Addr} {n1 c1 n2 c2 n3 c3 n4 c4 : Nat} (q : RP h b1 n1 c1 b2 n2 c2 b3 n3 c3 b4 n4 c4 d) (hT : TW d.tabs) (hl : d.works.length ≤ 2 ^ 30) {i : Nat} {w : Wrk} (hi : d.works[i]? = some w) (hlog : ∀ x ∈ w.log, ChOk d.tabs x) (hlen : w.log.length ≤ 2 ^ 30)
    {z : Int} (hz : IsN z i) {zn : Int} {n : Nat} (hzn : IsN zn n) {k : Value → Heap → Prop} (hk : RDK h ⟨undoL d.tabs (w.log.drop (min n w.log.length)), d.works.set i ⟨w.s, w.log.take (min n w.log.length), w.marks⟩, d.holds, d.waits⟩ k) :
    Ct 136 [.agg #[.slice b1 n1 c1, .slice b2 n2 c2, .slice b3 n3 c3, .slice b4 n4 c4], .int .i64 z, .int .i64 zn] h k := by
  obtain ⟨A, hA⟩ := Ar.ex
  have hn2 := q.works.len
  have hil := (List.getElem?_eq_some_iff.1 hi).1
  have hck : b2.isSome = true ∧ 0 ≤ z ∧ z < (n2 : Int) := ⟨q.works.isSm (by omega), hz.ix (by omega)⟩
  have hze := hz.eq
  obtain ⟨ws, wl, wm⟩ := w
  have hlog : ∀ x ∈ wl, ChOk d.tabs x := hlog
  have hlen : wl.length ≤ 2 ^ 30 := hlen
  have hk : RDK h ⟨undoL d.tabs (wl.drop (min n wl.length)), d.works.set i ⟨ws, wl.take (min n wl.length), wm⟩, d.holds, d.waits⟩ k := hk
  refine fn_of_sx A (tabOk T136.plan T136.pub) Tryz.func136 rfl (by kernel_rfl) ?_
  cbv
  refine ⟨hck, ?_⟩
  cbv
  refine q.works.load hi hze (fun cs hcs => ?_)
  obtain ⟨u1, v1, w1, u2, v2, w2, rfl, ql, qm⟩ := hcs
  have ql : Sl 77 shChg h (.slice u1 v1 w1) wl := ql
  have qm : Sl 146 shMrk h (.slice u2 v2 w2) wm := qm
  have hv1 := ql.len
  obtain ⟨I, hI0⟩ : ∃ I : Nat → W15 → Heap → Prop, ∀ m g h', I m g h' = (m ≤ wl.length ∧ min n wl.length ≤ m ∧ Le h h' ∧ RP h' g.w.b1 g.w.n1 g.w.c1 g.w.b2 g.w.n2 g.w.c2 g.w.b3 g.w.n3 g.w.c3 g.w.b4 g.w.n4 g.w.c4 ⟨undoL d.tabs (wl.drop m), d.works, d.holds, d.waits⟩ ∧ Sl 77 shChg h' (.slice g.lb g.ln g.lc) (wl.take m)) := ⟨_, fun _ _ _ => rfl⟩
  cbv
  refine LoopX.go (G := W15) (fun g => []) (fun g => [(3, [.slice g.w.b1 g.w.n1 g.w.c1, .slice g.w.b2 g.w.n2 g.w.c2, .slice g.w.b3 g.w.n3 g.w.c3, .slice g.w.b4 g.w.n4 g.w.c4]), (6, [.slice none 0 0, .slice none 0 0, .slice none 0 0, .slice none 0 0]), (7, [.int .i64 ws, .slice g.lb g.ln g.lc, .slice u2 v2 w2])])
    (fun m g h' => I m g h') wl.length ⟨⟨b1, n1, c1, b2, n2, c2, b3, n3, c3, b4, n4, c4⟩, u1, v1, w1⟩ ⟨?_, ?_, ?_⟩ (by rw [hI0]; exact ⟨Nat.le_refl _, Nat.min_le_right _ _, Le.refl _, by rw [List.drop_length]; exact q, by rw [List.take_length]; exact ql⟩) ?_
  · cbv
  · cbv
  · cbv
  · intro m g h' hI
    rw [hI0] at hI
    cbv
    obtain ⟨hml, hnm, hle, hq, qL⟩ := hI
    obtain ⟨⟨b1, n1, c1, b2, n2, c2, b3, n3, c3, b4, n4, c4⟩, y1, y2, y3⟩ := g
    have hq : RP h' b1 n1 c1 b2 n2 c2 b3 n3 c3 b4 n4 c4 ⟨undoL d.tabs (wl.drop m), d.works, d.holds, d.waits⟩ := hq
    have qL : Sl 77 shChg h' (.slice y1 y2 y3) (wl.take m) := qL
    have hy2 : y2 = m := by rw [qL.len, List.length_take]; omega
    have hyb := qL.bound
    have f1 : A .icm .gtr (A .nat y2) zn = decide (n < m) := by
      have := hzn.eq
      rw [icm_gtr A, hA.nat, decide_eq_decide]; simp only [Int.ofNat_eq_natCast]; omega
    have hTW : TW (undoL d.tabs (wl.drop m)) := undoL_TW hT (fun x hx => hlog x (List.mem_of_mem_drop hx))
    have hS := undoL_S d.tabs (wl.drop m)
    rw [f1]
    by_cases hgt : n < m
    · obtain ⟨x, hx⟩ := get_ex (xs := wl) (i := m - 1) (by omega)
      have hxo := (hlog x (List.mem_of_getElem? hx)).map hS
      have hstep := undoL_drop (T := d.tabs) hx
      rw [show m - 1 + 1 = m by omega] at hstep
      have hxt : (wl.take m)[m - 1]? = some x := by rw [List.getElem?_take, if_pos (by omega)]; exact hx
      obtain ⟨TT, hTT⟩ : ∃ T, T = undoL d.tabs (wl.drop m) := ⟨_, rfl⟩
      rw [← hTT] at hTW hxo hstep hq
      clear hTT hS
      obtain ⟨xt, xo, xr⟩ := x
      have hxr : RowOk xr := hxo.row
      have hxr' := hxr
      obtain ⟨ra, rv, hre, -⟩ := hxr'
      have hrl : xr.length = 2 := by rw [hre]; rfl
      have hr0 : xr[0]? = some ⟨2, ra, noS⟩ := by rw [hre]; rfl
      have hsub : IsN (A .ari .sub .i64 (A .nat y2) 1) (m - 1) := by
        have := (IsN.nat (A := A) y2).sub (A := A) (w := 1) (j := 1) ⟨rfl⟩ (by omega) (by omega)
        rw [hy2] at this ⊢; exact this
      have hsube := hsub.eq
      have hck2 : y1.isSome = true ∧ 0 ≤ A .ari .sub .i64 (A .nat y2) 1 ∧ A .ari .sub .i64 (A .nat y2) 1 < (y2 : Int) := ⟨qL.isSm (by omega), hsub.ix (by omega)⟩
      have hck3 : 0 ≤ A .ari .sub .i64 (A .nat y2) 1 ∧ A .ari .sub .i64 (A .nat y2) 1 ≤ (y3 : Int) := by omega
      have hdz : A .dif (A .ari .sub .i64 (A .nat y2) 1) 0 = m - 1 := dif_z0 (A := A) hsub
      have htk := qL.takeX (A := A) (i := m - 1) (by omega)
      rw [List.take_take, Nat.min_eq_left (by omega)] at htk
      have e1 : A .icm .eql xo 1 = decide (xo = 1) := icm_eql A ..
      rw [decide_eq_true hgt]
      cbv
      refine ⟨hck2, ?_⟩
      cbv
      refine qL.load hxt hsube (fun cs hcs => ?_)
      obtain ⟨x1, x2, x3, rfl, sx⟩ := hcs
      have sx : Sl 68 shVal h' (.slice x1 x2 x3) xr := sx
      have hx2 : x2 = 2 := by rw [sx.len, hrl]
      have hckx : x1.isSome = true ∧ (0 : Int) ≤ 0 ∧ (0 : Int) < (x2 : Int) := ⟨sx.isSm (by omega), by omega, by omega⟩
      cbv
      refine ⟨hck3, ?_⟩
      cbv
      rw [hdz]
      refine (find25 hq).mono (fun v h5 hR => ?_)
      obtain ⟨l5, zf, rfl, hidx⟩ := hR
      have hq5 := hq.mono l5
      rcases tab_idx hTW.srt hidx with ⟨-, -, hno⟩ | ⟨kt, t, hzk, ht, hnn, -, -⟩
      · obtain ⟨t, ht, hnn⟩ := hxo.at_
        exact absurd hnn (hno t ht)
      have ht : TT[kt]? = some t := ht
      have hnn : t.S.name = xt := hnn
      have hun := (undo1_at hTW hxo ht hnn).1
      obtain ⟨p1, p2, p3, -⟩ := hTW.ok t (List.mem_of_getElem? ht)
      obtain ⟨⟨tn, tc, tk, to⟩, tR⟩ := t
      have pc : tc = shColsE := p1
      have p2 : tk = 0 := p2
      have p3 : SO tR := p3
      subst p2
      have hun : undo1 TT ⟨xt, xo, xr⟩ = TT.set kt (if xo = 2 then (tblPut ⟨⟨tn, tc, 0, to⟩, tR⟩ xr).1 else (tblTake ⟨⟨tn, tc, 0, to⟩, tR⟩ (valAt xr 0)).1) := hun
      rw [show valAt xr 0 = ⟨2, ra, noS⟩ by rw [hre]; rfl] at hun
      have hkl := (List.getElem?_eq_some_iff.1 ht).1
      have hn1 : n1 = TT.length := hq5.tabs.len
      have hckt : b1.isSome = true ∧ 0 ≤ zf ∧ zf < (n1 : Int) := ⟨hq5.tabs.isSm (by omega), hzk.ix (by omega)⟩
      have hzfe := hzk.eq
      have hTle := hTW.le
      have sx5 := sx.mono (l5.t _)
      clear hidx
      cbv
      refine ⟨hckt, ?_⟩
      cbv
      refine hq5.tabs.load ht hzfe (fun cs hcs => ?_)
      obtain ⟨x4, x5, x6, x7, x8, x9, rfl, s1, s2⟩ := hcs
      have s1 : Sl 104 shCol h5 (.slice x4 x5 x6) tc := s1
      have s2 : Sl 63 shRow h5 (.slice x7 x8 x9) tR := s2
      cbv
      rw [e1]
      by_cases hop : xo = 1
      · rw [decide_eq_true hop]
        obtain ⟨D, hD⟩ : ∃ D, tblTake ⟨⟨tn, tc, 0, to⟩, tR⟩ ⟨2, ra, noS⟩ = D := ⟨_, rfl⟩
        have hDS : D.1 = ⟨⟨tn, tc, 0, to⟩, D.1.rows⟩ := tbl_eta (by rw [← hD]; exact tblTake_S _ _)
        rw [if_neg (by omega), hD, hDS] at hun
        cbv
        refine ⟨hckx, ?_⟩
        cbv
        refine sx5.load hr0 (n := 0) rfl (fun cs hcs => ?_)
        have hcs : cs = [.int .i64 2, .int .i64 ra, .string noS] := hcs
        subst hcs
        cbv
        refine take133 s2 p3.sr p3.le ra hD (fun h6 r1 r2 r3 r4 r5 r6 l6 qr1 _ => ?_)
        have hq6 := hq5.mono l6
        cbv
        refine set132 hq6 (by show TT.length ≤ 2 ^ 30; omega) hzk hkl (s1.mono (l6.t _)) qr1 (fun h7 b1 n1 c1 b2 n2 c2 b3 n3 c3 b4 n4 c4 l7 q7' => ?_)
        have q7 : RP h7 b1 n1 c1 b2 n2 c2 b3 n3 c3 b4 n4 c4 ⟨undoL d.tabs (wl.drop (m - 1)), d.works, d.holds, d.waits⟩ := by rw [hstep, hun]; exact q7'
        clear q7'
        have l57 := (l5.trans l6).trans l7
        have hI2 : I (m - 1) ⟨⟨b1, n1, c1, b2, n2, c2, b3, n3, c3, b4, n4, c4⟩, A .cut y1 0 (A .nat y3) 3, m - 1, y3⟩ h7 := by
          rw [hI0]
          exact ⟨by omega, by omega, hle.trans l57, q7, htk.mono (l57.t _)⟩
        cbv
        refine ⟨m - 1, ⟨⟨b1, n1, c1, b2, n2, c2, b3, n3, c3, b4, n4, c4⟩, A .cut y1 0 (A .nat y3) 3, m - 1, y3⟩, by omega, ⟨?_, ?_, ?_⟩, hI2⟩
        · cbv
        · cbv
        · cbv
      · rw [decide_eq_false hop]
        have hop2 : xo = 2 := by
          rcases hxo.op with h1 | h1
          · exact absurd h1 hop
          · exact h1
        obtain ⟨D, hD⟩ : ∃ D, tblPut ⟨⟨tn, shColsE, 0, to⟩, tR⟩ xr = D := ⟨_, rfl⟩
        have hDS : D.1 = ⟨⟨tn, tc, 0, to⟩, D.1.rows⟩ := by rw [pc]; exact tbl_eta (by rw [← hD]; exact tblPut_S _ _)
        rw [if_pos hop2] at hun
        rw [show tblPut ⟨⟨tn, tc, 0, to⟩, tR⟩ xr = D by rw [pc]; exact hD, hDS] at hun
        cbv
        refine put130 (by rw [← pc]; exact s1) s2 p3 sx5 (.inl hxr) hD (fun h6 r1 r2 r3 l6 qr1 => ?_)
        have hq6 := hq5.mono l6
        cbv
        refine set132 hq6 (by show TT.length ≤ 2 ^ 30; omega) hzk hkl (s1.mono (l6.t _)) qr1 (fun h7 b1 n1 c1 b2 n2 c2 b3 n3 c3 b4 n4 c4 l7 q7' => ?_)
        have q7 : RP h7 b1 n1 c1 b2 n2 c2 b3 n3 c3 b4 n4 c4 ⟨undoL d.tabs (wl.drop (m - 1)), d.works, d.holds, d.waits⟩ := by rw [hstep, hun]; exact q7'
        clear q7'
        have l57 := (l5.trans l6).trans l7
        have hI2 : I (m - 1) ⟨⟨b1, n1, c1, b2, n2, c2, b3, n3, c3, b4, n4, c4⟩, A .cut y1 0 (A .nat y3) 3, m - 1, y3⟩ h7 := by
          rw [hI0]
          exact ⟨by omega, by omega, hle.trans l57, q7, htk.mono (l57.t _)⟩
        cbv
        refine ⟨m - 1, ⟨⟨b1, n1, c1, b2, n2, c2, b3, n3, c3, b4, n4, c4⟩, A .cut y1 0 (A .nat y3) 3, m - 1, y3⟩, by omega, ⟨?_, ?_, ?_⟩, hI2⟩
        · cbv
        · cbv
        · cbv
    · have hmm : m = min n wl.length := by omega
      rw [decide_eq_false hgt]
      subst hmm
      cbv
      intro n5 h5 g5 e5
      have l5 : Le h' h5 := by rw [e5]; exact Le.set g5
      have hnil : Buf 77 shChg h' h5 (.slice (some ⟨n5, 0, none⟩) 0 0) ([] : List Chg) := Buf.nil
      cbv
      refine hnil.append (qL.mono (l5.t _)) (by decide) rfl (by decide) (by omega) l5 (fun m6 b6 c6 h6 em6 l6 t6 k6 hb6 => ?_)
      rw [List.nil_append] at hb6
      have hq6 := hq.mono l6
      cbv
      refine put135 hq6 hl hz hil hb6.sl (qm.mono ((hle.trans l6).t _)) (fun h7 b1 n1 c1 b2 n2 c2 b3 n3 c3 b4 n4 c4 l7 q7 => ?_)
      have hfin := hk h7 b1 n1 c1 b2 n2 c2 b3 n3 c3 b4 n4 c4 ((hle.trans l6).trans l7) q7
      cbv
      exact hfin
end Go.S

set_option maxRecDepth 100000
set_option maxHeartbeats 8000000
set_option linter.unusedVariables false
set_option linter.unusedSimpArgs false
namespace Go.S
open Go.Sx Go.Proofs
/-- A state as sessions make it. -/
structure SI (d : DB) : Prop where
  tw : TW d.tabs
  srt : d.works.Pairwise (fun a b => a.s < b.s)
  rng : ∀ w ∈ d.works, 0 ≤ w.s ∧ w.s < 8
  log : ∀ w ∈ d.works, (∀ x ∈ w.log, ChOk d.tabs x) ∧ w.log.length ≤ 60
  holds : d.holds.length ≤ 2 ^ 17
  waits : d.waits.length ≤ 2 ^ 17
theorem works_len {l : List Wrk} (h : l.Pairwise (fun a b => a.s < b.s)) (hr : ∀ w ∈ l, 0 ≤ w.s ∧ w.s < 8) : l.length ≤ 8 := by
  have := sorted_len h hr
  omega
theorem work_uniq {l : List Wrk} (h : l.Pairwise (fun a b => a.s < b.s)) {i : Nat} {w : Wrk} (hi : l[i]? = some w) : ∀ (j : Nat) (y : Wrk), l[j]? = some y → y.s = w.s → j = i := by
  intro j y hy he
  have hj := List.getElem?_eq_some_iff.1 hy
  have hi' := List.getElem?_eq_some_iff.1 hi
  rcases Nat.lt_trichotomy j i with h1 | h1 | h1
  · have := List.pairwise_iff_getElem.1 h j i hj.1 hi'.1 h1
    rw [hj.2, hi'.2] at this; omega
  · exact h1
  · have := List.pairwise_iff_getElem.1 h i j hi'.1 hj.1 h1
    rw [hj.2, hi'.2] at this; omega
/-- The document's search of a session and the program's meet. -/
theorem work_idx {d : DB} (h : SI d) {s : Int} (hs : -2 ^ 63 ≤ s ∧ s < 2 ^ 63) {z : Int} (q : IdxR d.works (fun w => decide (w.s = s)) z) :
    (z = -1 ∧ bsB (wrkC d.works s) = false) ∨ ∃ i w, IsN z i ∧ d.works[i]? = some w ∧ w.s = s ∧ bsI (wrkC d.works s) = i ∧ bsB (wrkC d.works s) = true := by
  rcases q.out with ⟨rfl, hall⟩ | ⟨i, w, hz, hw, hp, -⟩
  · refine .inl ⟨rfl, ?_⟩
    cases hb : bsB (wrkC d.works s) with
    | false => rfl
    | true =>
      obtain ⟨w, hw, he⟩ := (work_iff h.srt h.rng hs).1 hb
      have := hall w hw
      rw [decide_eq_true he] at this; cases this
  · have hn : w.s = s := of_decide_eq_true hp
    obtain ⟨h1, h2⟩ := work_at h.srt h.rng hw
    rw [hn] at h1 h2
    exact .inr ⟨i, w, hz, hw, hn, h1, h2⟩
theorem rollback86 {d : DB} {h : Heap} {b1 b2 b3 b4 : Option Addr} {n1 c1 n2 c2 n3 c3 n4 c4 : Nat} (q : RP h b1 n1 c1 b2 n2 c2 b3 n3 c3 b4 n4 c4 d) (hI : SI d) (s : Int) (hs : -2 ^ 63 ≤ s ∧ s < 2 ^ 63) {D : DB × Int} (hD : rollbackD d s = D) {k : Value → Heap → Prop} (hk : RK h D.1 D.2 k) :
    Ct 86 [.agg #[.slice b1 n1 c1, .slice b2 n2 c2, .slice b3 n3 c3, .slice b4 n4 c4], .int .i64 s] h k := by
  obtain ⟨A, hA⟩ := Ar.ex
  have hwl := works_len hI.srt hI.rng
  have lm1 : A .icm .lss (-1) 0 = true := by rw [icm_lss A]; rfl
  refine fn_of_sx A (tabOk T86.plan T86.pub) Tryz.func86 rfl (by kernel_rfl) ?_
  cbv
  refine who39 q s (fun z hidx => ?_)
  rcases work_idx hI hs hidx with ⟨rfl, hb⟩ | ⟨i, w, hz, hw, hws, e1, e2⟩
  · have hDe : D = (d, 2) := by rw [← hD]; unfold rollbackD; rw [hb]; rfl
    subst hDe
    have hfin := hk h b1 n1 c1 b2 n2 c2 b3 n3 c3 b4 n4 c4 (Le.refl _) q
    cbv
    rw [lm1]
    cbv
    exact hfin
  · have hil := (List.getElem?_eq_some_iff.1 hw).1
    have hlog := hI.log w (List.mem_of_getElem? hw)
    have hun := work_uniq hI.srt hw
    have hDe : D = (⟨undoL d.tabs w.log, d.works.take i ++ d.works.drop (i + 1), wout d.holds s, wout d.waits s⟩, 0) := by
      rw [← hD]
      unfold rollbackD backD backK endK
      rw [e2, e1, hw]
      simp only [if_true]
      rw [List.eraseIdx_eq_take_drop_succ]
    clear hD hidx
    subst hDe
    have hlt : A .icm .lss z 0 = false := hz.nlt0 (A := A)
    have hset : ∀ j y, (d.works.set i ⟨w.s, w.log.take (min 0 w.log.length), w.marks⟩)[j]? = some y → y.s = s → j = i := by
      intro j y hy he
      rw [List.getElem?_set] at hy
      split at hy
      · rename_i h1; exact h1.symm
      · exact hun j y hy (by rw [he, hws])
    have hgi : (d.works.set i ⟨w.s, w.log.take (min 0 w.log.length), w.marks⟩)[i]? = some ⟨w.s, w.log.take (min 0 w.log.length), w.marks⟩ := List.getElem?_set_self (by omega)
    have et : (d.works.set i ⟨w.s, w.log.take (min 0 w.log.length), w.marks⟩).take i = d.works.take i := by rw [List.take_set_of_le (Nat.le_refl _)]
    have ed : (d.works.set i ⟨w.s, w.log.take (min 0 w.log.length), w.marks⟩).drop (i + 1) = d.works.drop (i + 1) := by rw [List.drop_set_of_lt (by omega)]
    have h30 := hI.holds
    have h31 := hI.waits
    cbv
    rw [hlt]
    cbv
    refine undo136 q hI.tw (by omega) hw hlog.1 (by omega) hz (zn := 0) (n := 0) ⟨rfl⟩ (fun h5 f1 p1 g1 f2 p2 g2 f3 p3 g3 f4 p4 g4 l5 q5 => ?_)
    cbv
    refine end137 q5 (by show (d.works.set i _).length ≤ _; rw [List.length_set]; omega) (by show d.holds.length ≤ _; omega) (by show d.waits.length ≤ _; omega) hgi hws hset (fun h6 b1 n1 c1 b2 n2 c2 b3 n3 c3 b4 n4 c4 l6 q6 => ?_)
    have q6' : RP h6 b1 n1 c1 b2 n2 c2 b3 n3 c3 b4 n4 c4 ⟨undoL d.tabs w.log, d.works.take i ++ d.works.drop (i + 1), wout d.holds s, wout d.waits s⟩ := by
      rw [← et, ← ed]
      have : w.log.drop (min 0 w.log.length) = w.log := by rw [Nat.zero_min]; rfl
      rw [this] at q6
      exact q6
    have hfin := hk h6 b1 n1 c1 b2 n2 c2 b3 n3 c3 b4 n4 c4 (l5.trans l6) q6'
    cbv
    exact hfin
end Go.S

