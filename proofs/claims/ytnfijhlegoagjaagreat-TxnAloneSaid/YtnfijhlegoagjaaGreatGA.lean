import Derived.Test.YtnfijhlegoagjaaGreatEC
import Derived.Test.YtnfijhlegoagjaaGreatRd
set_option linter.unusedVariables false
set_option linter.unusedSimpArgs false
set_option linter.unusedSectionVars false
set_option maxRecDepth 100000
set_option maxHeartbeats 8000000
set_option linter.unusedVariables false
set_option linter.unusedSimpArgs false
namespace Go.S
open Go.Sx Go.Proofs

theorem delete123 {xs : List (Wrk × Bool)} {h : Heap} {nb n cap : Nat} (o : Own 60 shWrkG h nb cap xs) (hn : n = xs.length) {z w : Int} {i : Nat} (hz : IsN z i) (hw : IsN w (i + 1)) (hi : i < n) {k : Value → Heap → Prop}
    (hk : ∀ h' m, m = n - 1 → Kp [nb] h h' → (∀ tys, 60 ∉ tys → LeT tys h h') → Own 60 shWrkG h' nb cap (xs.eraseIdx i) → k (.slice (some ⟨nb, 0, none⟩) m cap) h') :
    Ct 123 [.slice (some ⟨nb, 0, none⟩) n cap, .int .i64 z, .int .i64 w] h k := by
  obtain ⟨A, hA⟩ := Ar.ex
  have hle := o.le
  have hbd := o.bd
  have hze := hz.eq
  have hwe := hw.eq
  have hnN : A .nat n = (n : Int) := by rw [hA.nat]; rfl
  have e1 : A .icm .eql z w = false := by rw [icm_eql A]; exact decide_eq_false (by omega)
  have q : Sl 60 shWrkG h (.slice (some ⟨nb, 0, none⟩) n cap) xs := o.sl hn
  have hck1 : 0 ≤ A .nat n ∧ A .nat n ≤ (cap : Int) ∧ 0 ≤ w ∧ w ≤ A .nat n ∧ 0 ≤ z ∧ z ≤ w := by rw [hnN]; omega
  have hck2 : 0 ≤ z ∧ z ≤ (cap : Int) := by omega
  have hck3 : 0 ≤ w ∧ w ≤ (n : Int) := by omega
  have hck4 : ∀ m, m = n - 1 → 0 ≤ A .nat n ∧ A .nat n ≤ (cap : Int) ∧ 0 ≤ A .nat m ∧ A .nat m ≤ A .nat n := fun m hm => by
    have hnm : A .nat m = (m : Int) := by rw [hA.nat]; rfl
    rw [hnN, hnm]; omega
  have hdr := q.dropX (A := A) hw (by omega) rfl rfl
  have hd1 := dif_z0 (A := A) hz
  have hd2 := dif_nz (A := A) (n := n) hw
  have hd3 := dif_nz (A := A) (n := cap) hw
  refine fn_of_sx A (tabOk T123.plan T123.pub) Tryz.func123 rfl (by kernel_rfl) ?_
  cbv
  refine ⟨hck1, ?_⟩
  cbv
  rw [e1]
  cbv
  refine ⟨hck2, ?_⟩
  cbv
  refine ⟨hck3, ?_⟩
  cbv
  rw [cut0_own (A := A), hd1, hd2]
  refine o.appendIn (by decide) (i := i) (by omega) hdr (by omega) (by omega) rfl (fun h1 m hm k1 t1 o1 => ?_)
  have hmn : m = n - 1 := by omega
  have o2 := o1.shrink (n - 1)
  have heq : (xs.take i ++ xs.drop (i + 1) ++ xs.drop (i + (n - (i + 1)))).take (n - 1) = xs.eraseIdx i := by rw [hn]; exact erase_eq (by omega)
  rw [heq] at o2
  clear o1 heq hm
  have hel : (xs.eraseIdx i).length = n - 1 := by rw [List.length_eraseIdx_of_lt (by omega)]; omega
  have hck4 := hck4 m hmn
  have hd4 : A .dif (A .nat n) (A .nat m) = 1 := by rw [dif_nz (A := A) (IsN.nat m)]; omega
  cbv
  refine ⟨hck4, ?_⟩
  cbv
  rw [cut_own (A := A) (IsN.nat m) (by omega), hd4]
  refine o2.clearX (by decide) rfl rfl (p := m) (by omega) (by omega) (fun h2 k2 t2 o3 => ?_)
  have hfin := hk h2 m hmn (k1.trans k2) (fun tys hh => (t1 tys hh).trans (t2 tys hh)) o3
  cbv
  exact hfin

theorem delete67 {xs : List Tbl} {h : Heap} {nb n cap : Nat} (o : Own 43 shTbl h nb cap xs) (hn : n = xs.length) {z w : Int} {i : Nat} (hz : IsN z i) (hw : IsN w (i + 1)) (hi : i < n) {k : Value → Heap → Prop}
    (hk : ∀ h' m, m = n - 1 → Kp [nb] h h' → (∀ tys, 43 ∉ tys → LeT tys h h') → Own 43 shTbl h' nb cap (xs.eraseIdx i) → k (.slice (some ⟨nb, 0, none⟩) m cap) h') :
    Ct 67 [.slice (some ⟨nb, 0, none⟩) n cap, .int .i64 z, .int .i64 w] h k := by
  obtain ⟨A, hA⟩ := Ar.ex
  have hle := o.le
  have hbd := o.bd
  have hze := hz.eq
  have hwe := hw.eq
  have hnN : A .nat n = (n : Int) := by rw [hA.nat]; rfl
  have e1 : A .icm .eql z w = false := by rw [icm_eql A]; exact decide_eq_false (by omega)
  have q : Sl 43 shTbl h (.slice (some ⟨nb, 0, none⟩) n cap) xs := o.sl hn
  have hck1 : 0 ≤ A .nat n ∧ A .nat n ≤ (cap : Int) ∧ 0 ≤ w ∧ w ≤ A .nat n ∧ 0 ≤ z ∧ z ≤ w := by rw [hnN]; omega
  have hck2 : 0 ≤ z ∧ z ≤ (cap : Int) := by omega
  have hck3 : 0 ≤ w ∧ w ≤ (n : Int) := by omega
  have hck4 : ∀ m, m = n - 1 → 0 ≤ A .nat n ∧ A .nat n ≤ (cap : Int) ∧ 0 ≤ A .nat m ∧ A .nat m ≤ A .nat n := fun m hm => by
    have hnm : A .nat m = (m : Int) := by rw [hA.nat]; rfl
    rw [hnN, hnm]; omega
  have hdr := q.dropX (A := A) hw (by omega) rfl rfl
  have hd1 := dif_z0 (A := A) hz
  have hd2 := dif_nz (A := A) (n := n) hw
  have hd3 := dif_nz (A := A) (n := cap) hw
  refine fn_of_sx A (tabOk T67.plan T67.pub) Tryz.func67 rfl (by kernel_rfl) ?_
  cbv
  refine ⟨hck1, ?_⟩
  cbv
  rw [e1]
  cbv
  refine ⟨hck2, ?_⟩
  cbv
  refine ⟨hck3, ?_⟩
  cbv
  rw [cut0_own (A := A), hd1, hd2]
  refine o.appendIn (by decide) (i := i) (by omega) hdr (by omega) (by omega) rfl (fun h1 m hm k1 t1 o1 => ?_)
  have hmn : m = n - 1 := by omega
  have o2 := o1.shrink (n - 1)
  have heq : (xs.take i ++ xs.drop (i + 1) ++ xs.drop (i + (n - (i + 1)))).take (n - 1) = xs.eraseIdx i := by rw [hn]; exact erase_eq (by omega)
  rw [heq] at o2
  clear o1 heq hm
  have hel : (xs.eraseIdx i).length = n - 1 := by rw [List.length_eraseIdx_of_lt (by omega)]; omega
  have hck4 := hck4 m hmn
  have hd4 : A .dif (A .nat n) (A .nat m) = 1 := by rw [dif_nz (A := A) (IsN.nat m)]; omega
  cbv
  refine ⟨hck4, ?_⟩
  cbv
  rw [cut_own (A := A) (IsN.nat m) (by omega), hd4]
  refine o2.clearX (by decide) rfl rfl (p := m) (by omega) (by omega) (fun h2 k2 t2 o3 => ?_)
  have hfin := hk h2 m hmn (k1.trans k2) (fun tys hh => (t1 tys hh).trans (t2 tys hh)) o3
  cbv
  exact hfin
end Go.S

set_option maxRecDepth 100000
set_option maxHeartbeats 8000000
set_option linter.unusedVariables false
set_option linter.unusedSimpArgs false
namespace Go.S
open Go.Sx Go.Proofs

theorem work50K {h : Heap} {c tb wb ct cw : Nat} {T : List Tbl} {W : List (Wrk × Bool)} {H Wt : List Hld} {e : Int} (q : Cst h c tb wb ct cw T W H Wt e) (sid : Int) {k : Value → Heap → Prop}
    (hk : ∀ h' z t, Le h h' → IsN z (bsI (wrkCmps W sid)) → t = bsB (wrkCmps W sid) → k (.tuple #[.int .i64 z, .bool t]) h') : Ct 50 [.pointer (some ⟨c, 0, none⟩), .int .i64 sid] h k :=
  (work50 q sid).mono (fun v h' hR => by
    obtain ⟨l, z, t, hv, hb⟩ := hR
    obtain ⟨h1, h2⟩ := hb.at_
    rw [hv]
    exact hk h' z t l h1 h2)
theorem table46K {h : Heap} {c tb wb ct cw : Nat} {T : List Tbl} {W : List (Wrk × Bool)} {H Wt : List Hld} {e : Int} (q : Cst h c tb wb ct cw T W H Wt e) (name : ByteArray) {k : Value → Heap → Prop}
    (hk : ∀ h' z t, Le h h' → IsN z (bsI (tabCmps T name)) → t = bsB (tabCmps T name) → k (.tuple #[.int .i64 z, .bool t]) h') : Ct 46 [.pointer (some ⟨c, 0, none⟩), .string name] h k :=
  (table46 q name).mono (fun v h' hR => by
    obtain ⟨l, z, t, hv, hb⟩ := hR
    obtain ⟨h1, h2⟩ := hb.at_
    rw [hv]
    exact hk h' z t l h1 h2)
theorem put56K {nm : ByteArray} {cols : List Col} {key : Int} {only : Bool} {rows : List Row} {r : Row} {h : Heap} {sb b4 b : Option Addr} {sn sc n4 c4 n c : Nat} (qs : Sl 104 shCol h (.slice sb sn sc) cols) (q4 : Sl 63 shRow h (.slice b4 n4 c4) rows) (q : Sl 68 shVal h (.slice b n c) r) (hn : n4 ≤ 2 ^ 37) {k : Value → Heap → Prop}
    (hk : ∀ h' b1 n1 k1 b2 n2 k2 T e, Le h h' → Sl 104 shCol h' (.slice b1 n1 k1) cols → Sl 63 shRow h' (.slice b2 n2 k2) T → (⟨⟨⟨nm, cols, key, only⟩, T⟩, e⟩ : Tbl × Int) = tblPut ⟨⟨nm, cols, key, only⟩, rows⟩ r → k (.tuple #[.agg #[.string nm, .slice b1 n1 k1, .int .i64 key, .bool only, .slice b2 n2 k2], .int .i64 e]) h') :
    Ct 56 [.agg #[.string nm, .slice sb sn sc, .int .i64 key, .bool only, .slice b4 n4 c4], .slice b n c] h k :=
  (put56 (nm := nm) (key := key) (only := only) qs q4 q hn).mono (fun v h' hR => by
    obtain ⟨l, b1, n1, k1, b2, n2, k2, e, T, hv, r1, r2, r3⟩ := hR
    rw [hv]
    exact hk h' b1 n1 k1 b2 n2 k2 T e l r1 r2 r3)
theorem take60K {nm : ByteArray} {cols : List Col} {key : Int} {only : Bool} {rows : List Row} {h : Heap} {sb b4 : Option Addr} {sn sc n4 c4 : Nat} (qs : Sl 104 shCol h (.slice sb sn sc) cols) (q4 : Sl 63 shRow h (.slice b4 n4 c4) rows) (hn : n4 ≤ 2 ^ 37) (kv : Val) {k : Value → Heap → Prop}
    (hk : ∀ h' b1 n1 k1 b2 n2 k2 b3 n3 k3 T R e, Le h h' → Sl 104 shCol h' (.slice b1 n1 k1) cols → Sl 63 shRow h' (.slice b2 n2 k2) T → Sl 68 shVal h' (.slice b3 n3 k3) R → (⟨⟨⟨nm, cols, key, only⟩, T⟩, R, e⟩ : Tbl × Row × Int) = tblTake ⟨⟨nm, cols, key, only⟩, rows⟩ kv → k (.tuple #[.agg #[.string nm, .slice b1 n1 k1, .int .i64 key, .bool only, .slice b2 n2 k2], .slice b3 n3 k3, .int .i64 e]) h') :
    Ct 60 [.agg #[.string nm, .slice sb sn sc, .int .i64 key, .bool only, .slice b4 n4 c4], .agg #[.int .i64 kv.k, .int .i64 kv.n, .string kv.s]] h k :=
  (take60 (nm := nm) (key := key) (only := only) qs q4 hn kv).mono (fun v h' hR => by
    obtain ⟨l, b1, n1, k1, b2, n2, k2, b3, n3, k3, e, T, R, hv, r1, r2, r3, r4⟩ := hR
    rw [hv]
    exact hk h' b1 n1 k1 b2 n2 k2 b3 n3 k3 T R e l r1 r2 r3 r4)
theorem free124K {H W : List Hld} {h : Heap} {b1 b2 : Option Addr} {n1 c1 n2 c2 : Nat} (q1 : Sl 188 shHld h (.slice b1 n1 c1) H) (q2 : Sl 188 shHld h (.slice b2 n2 c2) W) (s : Int) (hn1 : H.length ≤ 2 ^ 38) (hn2 : W.length ≤ 2 ^ 38) {k : Value → Heap → Prop}
    (hk : ∀ h' b1 n1 c1 b2 n2 c2, Le h h' → Sl 188 shHld h' (.slice b1 n1 c1) (wout H s) → Sl 188 shHld h' (.slice b2 n2 c2) (wout W s) → k (.agg #[.slice b1 n1 c1, .slice b2 n2 c2]) h') : Ct 124 [.agg #[.slice b1 n1 c1, .slice b2 n2 c2], .int .i64 s] h k :=
  (free124 q1 q2 (by rw [q1.len]; exact hn1) (by rw [q2.len]; exact hn2) s).mono (fun v h' hR => by
    obtain ⟨l, b1, n1, c1, b2, n2, c2, hv, r1, r2⟩ := hR
    rw [hv]
    exact hk h' b1 n1 c1 b2 n2 c2 l r1 r2)

/-- A call's state whose works are others. -/
theorem Cst.works {h h1 h' : Heap} {c tb wb ct cw : Nat} {T : List Tbl} {W' : List (Wrk × Bool)} {H Wt : List Hld} {e : Int} {n1 n2 m2 : Nat} {b3 b4 : Option Addr} {n3 c3 n4 c4 : Nat} {o : Int}
    (g0 : h c = some (.cells #[.slice (some ⟨tb, 0, none⟩) n1 ct, .slice (some ⟨wb, 0, none⟩) n2 cw, .slice b3 n3 c3, .slice b4 n4 c4, .int .u32 o, .int .i32 0, .int .u32 0, .int .i64 e] 124 (0, 0)))
    (ho : (o = 0 ∧ e = 0) ∨ (o = 1 ∧ e ≠ 0)) (g1 : n1 = T.length) (g2 : Own 43 shTbl h tb ct T) (g6 : Sl 188 shHld h (.slice b3 n3 c3) H) (g7 : Sl 188 shHld h (.slice b4 n4 c4) Wt) (hm : m2 = W'.length)
    (l1 : ∀ tys, 60 ∉ tys → LeT tys h h1) (k1 : h1 c = h c) (gw : Own 60 shWrkG h1 wb cw W')
    (hh : h' = hset h1 c (.cells #[.slice (some ⟨tb, 0, none⟩) n1 ct, .slice (some ⟨wb, 0, none⟩) m2 cw, .slice b3 n3 c3, .slice b4 n4 c4, .int .u32 o, .int .i32 0, .int .u32 0, .int .i64 e] 124 (0, 0))) :
    Kp [c] h1 h' ∧ Cst h' c tb wb ct cw T W' H Wt e := by
  have g0' := k1.trans g0
  have lt : ∀ tys, 124 ∉ tys → LeT tys h1 h' := fun tys hn => by rw [hh]; exact LeT.set g0' hn
  have l2 : ∀ tys, 60 ∉ tys → 124 ∉ tys → LeT tys h h' := fun tys a b => (l1 tys a).trans (lt tys b)
  refine ⟨by rw [hh]; exact Kp.set (by simp), n1, m2, b3, n3, c3, b4, n4, c4, o, by rw [hh]; exact hset_self, ho, g1, g2.mono (l2 _ (by decide) (by decide)), hm, gw.mono (lt _ (by decide)), g6.mono (l2 _ (by decide) (by decide)), g7.mono (l2 _ (by decide) (by decide))⟩

def endW (W : List (Wrk × Bool)) (s : Int) : List (Wrk × Bool) := if bsB (wrkCmps W s) = true then W.eraseIdx (bsI (wrkCmps W s)) else W

theorem end65 {h : Heap} {c tb wb ct cw : Nat} {T : List Tbl} {W : List (Wrk × Bool)} {H Wt : List Hld} {e : Int} (q : Cst h c tb wb ct cw T W H Wt e) (hcw : c ≠ wb) (s : Int) (hn1 : H.length ≤ 2 ^ 38) (hn2 : Wt.length ≤ 2 ^ 38) {k : Value → Heap → Prop}
    (hk : ∀ h', Kp [c, wb] h h' → Cst h' c tb wb ct cw T (endW W s) (wout H s) (wout Wt s) e → k (.tuple #[]) h') : Ct 65 [.pointer (some ⟨c, 0, none⟩), .int .i64 s] h k := by
  obtain ⟨A, hA⟩ := Ar.ex
  obtain ⟨V, hV⟩ : ∃ V, V = endW W s := ⟨_, rfl⟩
  rw [← hV] at hk
  have fin : ∀ (h1 : Heap), Kp [c, wb] h h1 → Cst h1 c tb wb ct cw T V H Wt e → ∀ (n1 n2 : Nat) (b3 : Option Addr) (n3 c3 : Nat) (b4 : Option Addr) (n4 c4 : Nat) (o : Int), h1 c = some (.cells #[.slice (some ⟨tb, 0, none⟩) n1 ct, .slice (some ⟨wb, 0, none⟩) n2 cw, .slice b3 n3 c3, .slice b4 n4 c4, .int .u32 o, .int .i32 0, .int .u32 0, .int .i64 e] 124 (0, 0)) →
      ((o = 0 ∧ e = 0) ∨ (o = 1 ∧ e ≠ 0)) → n1 = T.length → Own 43 shTbl h1 tb ct T → n2 = V.length → Own 60 shWrkG h1 wb cw V →
      ∀ (h2 : Heap) (x3 : Option Addr) (m3 k3 : Nat) (x4 : Option Addr) (m4 k4 : Nat), Le h1 h2 → Sl 188 shHld h2 (.slice x3 m3 k3) (wout H s) → Sl 188 shHld h2 (.slice x4 m4 k4) (wout Wt s) →
      ∀ h3, h3 = hset h2 c (.cells #[.slice (some ⟨tb, 0, none⟩) n1 ct, .slice (some ⟨wb, 0, none⟩) n2 cw, .slice x3 m3 k3, .slice x4 m4 k4, .int .u32 o, .int .i32 0, .int .u32 0, .int .i64 e] 124 (0, 0)) → k (.tuple #[]) h3 :=
    fun h1 k1 _ n1 n2 b3 n3 c3 b4 n4 c4 o g0 ho g1 g2 g3 g4 h2 x3 m3 k3 x4 m4 k4 l2 r3 r4 h3 e3 => by
      have hl := Cst.locks (l2 _ _ g0) ho g1 (g2.mono (l2.t _)) g3 (g4.mono (l2.t _)) r3 r4 e3
      exact hk h3 ((k1.trans (l2.kp _)).trans (hl.1.sub (by simp))) hl.2
  refine fn_of_sx A (tabOk T65.plan T65.pub) Tryz.func65 rfl (by kernel_rfl) ?_
  cbv
  refine work50K q s (fun h1 z t l1 hz ht => ?_)
  have q1 := q.mono l1
  cases t with
  | false =>
    have hVW : V = W := by rw [hV]; unfold endW; rw [← ht]; rfl
    clear hV
    subst hVW
    refine q1.elim (fun n1 n2 b3 n3 c3 b4 n4 c4 o g0 ho g1 g2 g3 g4 g6 g7 _ => ?_)
    have fin := fin h1 (l1.kp _) q1 n1 n2 b3 n3 c3 b4 n4 c4 o g0 ho g1 g2 g3 g4
    cbv
    rw [offm A]
    rw [offm A]
    refine ldb g0 rfl rfl ?_
    cbv
    refine free124K g6 g7 s hn1 hn2 (fun h2 x3 m3 k3 x4 m4 k4 l2 r3 r4 => ?_)
    cbv
    rw [offm A]
    rw [offm A]
    refine stb (l2 _ _ g0) (by simp) (fun h3 e3 => ?_)
    have hfin := fin h2 x3 m3 k3 x4 m4 k4 l2 r3 r4 h3 e3
    cbv
    exact hfin
  | true =>
    have hVW : V = W.eraseIdx (bsI (wrkCmps W s)) := by rw [hV]; unfold endW; rw [← ht]; rfl
    have hlt : bsI (wrkCmps W s) < W.length := by
      have := bsB_lt ht.symm
      simpa [wrkCmps] using this
    generalize bsI (wrkCmps W s) = i at *
    clear hV
    refine q1.elim (fun n1 n2 b3 n3 c3 b4 n4 c4 o g0 ho g1 g2 g3 g4 g6 g7 _ => ?_)
    have hbd := g4.bd
    have hz1 := hz.succ (A := A) (by omega)
    have hin : i < n2 := by omega
    have hlV : V.length = n2 - 1 := by rw [hVW, List.length_eraseIdx_of_lt hlt]; omega
    cbv
    rw [offm A]
    rw [offm A]
    refine ldb g0 rfl rfl ?_
    cbv
    refine delete123 g4 g3 hz hz1 hin (fun h2 m hm k2 t2 o2 => ?_)
    have gc2 : h2 c = h1 c := (k2 _ _ g0 (by simpa using hcw)).trans g0.symm
    rw [← hVW] at o2
    have hcs := fun h3 hh => Cst.works (h' := h3) g0 ho g1 g2 g6 g7 (hm.trans hlV.symm) t2 gc2 o2 hh
    have gc2' := gc2.trans g0
    cbv
    rw [offm A]
    rw [offm A]
    refine stb gc2' (by simp) (fun h3 e3 => ?_)
    obtain ⟨k3, q3⟩ := hcs h3 e3
    have k03 : Kp [c, wb] h h3 := ((l1.kp _).trans (k2.sub (by simp))).trans (k3.sub (by simp))
    clear hcs e3
    refine q3.elim (fun n1 n2 b3 n3 c3 b4 n4 c4 o g0 ho g1 g2 g3 g4 g6 g7 _ => ?_)
    have fin := fin h3 k03 q3 n1 n2 b3 n3 c3 b4 n4 c4 o g0 ho g1 g2 g3 g4
    cbv
    rw [offm A]
    rw [offm A]
    refine ldb g0 rfl rfl ?_
    cbv
    refine free124K g6 g7 s hn1 hn2 (fun h4 x3 m3 k3 x4 m4 k4 l4 r3 r4 => ?_)
    cbv
    rw [offm A]
    rw [offm A]
    refine stb (l4 _ _ g0) (by simp) (fun h5 e5 => ?_)
    have hfin := fin h4 x3 m3 k3 x4 m4 k4 l4 r3 r4 h5 e5
    cbv
    exact hfin

theorem end65D {h : Heap} {c tb wb ct cw : Nat} {T : List Tbl} {W : List (Wrk × Bool)} {H Wt : List Hld} {e : Int} (q : Cst h c tb wb ct cw T W H Wt e) (hcw : c ≠ wb) (s : Int) (hn1 : H.length ≤ 2 ^ 38) (hn2 : Wt.length ≤ 2 ^ 38) {k : Value → Heap → Prop}
    (hk : ∀ h', Kp [c, wb] h h' → Cst h' c tb wb ct cw T (endW W s) (wout H s) (wout Wt s) e → k (.tuple #[]) h') : CtD 65 [.pointer (some ⟨c, 0, none⟩), .int .i64 s] h k := by
  obtain ⟨A, hA⟩ := Ar.ex
  obtain ⟨V, hV⟩ : ∃ V, V = endW W s := ⟨_, rfl⟩
  rw [← hV] at hk
  have fin : ∀ (h1 : Heap), Kp [c, wb] h h1 → Cst h1 c tb wb ct cw T V H Wt e → ∀ (n1 n2 : Nat) (b3 : Option Addr) (n3 c3 : Nat) (b4 : Option Addr) (n4 c4 : Nat) (o : Int), h1 c = some (.cells #[.slice (some ⟨tb, 0, none⟩) n1 ct, .slice (some ⟨wb, 0, none⟩) n2 cw, .slice b3 n3 c3, .slice b4 n4 c4, .int .u32 o, .int .i32 0, .int .u32 0, .int .i64 e] 124 (0, 0)) →
      ((o = 0 ∧ e = 0) ∨ (o = 1 ∧ e ≠ 0)) → n1 = T.length → Own 43 shTbl h1 tb ct T → n2 = V.length → Own 60 shWrkG h1 wb cw V →
      ∀ (h2 : Heap) (x3 : Option Addr) (m3 k3 : Nat) (x4 : Option Addr) (m4 k4 : Nat), Le h1 h2 → Sl 188 shHld h2 (.slice x3 m3 k3) (wout H s) → Sl 188 shHld h2 (.slice x4 m4 k4) (wout Wt s) →
      ∀ h3, h3 = hset h2 c (.cells #[.slice (some ⟨tb, 0, none⟩) n1 ct, .slice (some ⟨wb, 0, none⟩) n2 cw, .slice x3 m3 k3, .slice x4 m4 k4, .int .u32 o, .int .i32 0, .int .u32 0, .int .i64 e] 124 (0, 0)) → k (.tuple #[]) h3 :=
    fun h1 k1 _ n1 n2 b3 n3 c3 b4 n4 c4 o g0 ho g1 g2 g3 g4 h2 x3 m3 k3 x4 m4 k4 l2 r3 r4 h3 e3 => by
      have hl := Cst.locks (l2 _ _ g0) ho g1 (g2.mono (l2.t _)) g3 (g4.mono (l2.t _)) r3 r4 e3
      exact hk h3 ((k1.trans (l2.kp _)).trans (hl.1.sub (by simp))) hl.2
  refine fnd_of_sx A (tabOk T65.plan T65.pub) Tryz.func65 rfl (by kernel_rfl) ?_
  cbv
  refine work50K q s (fun h1 z t l1 hz ht => ?_)
  have q1 := q.mono l1
  cases t with
  | false =>
    have hVW : V = W := by rw [hV]; unfold endW; rw [← ht]; rfl
    clear hV
    subst hVW
    refine q1.elim (fun n1 n2 b3 n3 c3 b4 n4 c4 o g0 ho g1 g2 g3 g4 g6 g7 _ => ?_)
    have fin := fin h1 (l1.kp _) q1 n1 n2 b3 n3 c3 b4 n4 c4 o g0 ho g1 g2 g3 g4
    cbv
    rw [offm A]
    rw [offm A]
    refine ldb g0 rfl rfl ?_
    cbv
    refine free124K g6 g7 s hn1 hn2 (fun h2 x3 m3 k3 x4 m4 k4 l2 r3 r4 => ?_)
    cbv
    rw [offm A]
    rw [offm A]
    refine stb (l2 _ _ g0) (by simp) (fun h3 e3 => ?_)
    have hfin := fin h2 x3 m3 k3 x4 m4 k4 l2 r3 r4 h3 e3
    cbv
    exact hfin
  | true =>
    have hVW : V = W.eraseIdx (bsI (wrkCmps W s)) := by rw [hV]; unfold endW; rw [← ht]; rfl
    have hlt : bsI (wrkCmps W s) < W.length := by
      have := bsB_lt ht.symm
      simpa [wrkCmps] using this
    generalize bsI (wrkCmps W s) = i at *
    clear hV
    refine q1.elim (fun n1 n2 b3 n3 c3 b4 n4 c4 o g0 ho g1 g2 g3 g4 g6 g7 _ => ?_)
    have hbd := g4.bd
    have hz1 := hz.succ (A := A) (by omega)
    have hin : i < n2 := by omega
    have hlV : V.length = n2 - 1 := by rw [hVW, List.length_eraseIdx_of_lt hlt]; omega
    cbv
    rw [offm A]
    rw [offm A]
    refine ldb g0 rfl rfl ?_
    cbv
    refine delete123 g4 g3 hz hz1 hin (fun h2 m hm k2 t2 o2 => ?_)
    have gc2 : h2 c = h1 c := (k2 _ _ g0 (by simpa using hcw)).trans g0.symm
    rw [← hVW] at o2
    have hcs := fun h3 hh => Cst.works (h' := h3) g0 ho g1 g2 g6 g7 (hm.trans hlV.symm) t2 gc2 o2 hh
    have gc2' := gc2.trans g0
    cbv
    rw [offm A]
    rw [offm A]
    refine stb gc2' (by simp) (fun h3 e3 => ?_)
    obtain ⟨k3, q3⟩ := hcs h3 e3
    have k03 : Kp [c, wb] h h3 := ((l1.kp _).trans (k2.sub (by simp))).trans (k3.sub (by simp))
    clear hcs e3
    refine q3.elim (fun n1 n2 b3 n3 c3 b4 n4 c4 o g0 ho g1 g2 g3 g4 g6 g7 _ => ?_)
    have fin := fin h3 k03 q3 n1 n2 b3 n3 c3 b4 n4 c4 o g0 ho g1 g2 g3 g4
    cbv
    rw [offm A]
    rw [offm A]
    refine ldb g0 rfl rfl ?_
    cbv
    refine free124K g6 g7 s hn1 hn2 (fun h4 x3 m3 k3 x4 m4 k4 l4 r3 r4 => ?_)
    cbv
    rw [offm A]
    rw [offm A]
    refine stb (l4 _ _ g0) (by simp) (fun h5 e5 => ?_)
    have hfin := fin h4 x3 m3 k3 x4 m4 k4 l4 r3 r4 h5 e5
    cbv
    exact hfin
end Go.S

set_option maxRecDepth 100000
set_option maxHeartbeats 8000000
set_option linter.unusedVariables false
set_option linter.unusedSimpArgs false
namespace Go.S
open Go.Sx Go.Proofs

/-- One less. -/
structure IsM (z : Int) (i : Nat) : Prop where
  eq : z = (i : Int) - 1
theorem IsM.isn {z : Int} {i : Nat} (h : IsM z (i + 1)) : IsN z i := ⟨by have := h.eq; omega⟩
theorem IsM.ge {A : Ar} [hA : ArOk A] {z : Int} {i : Nat} (h : IsM z i) : A .icm .geq z 0 = decide (1 ≤ i) := by
  have := h.eq
  rw [icm_geq A, decide_eq_decide]; omega
theorem _root_.Go.Sx.IsN.pred {A : Ar} [hA : ArOk A] {z : Int} {i : Nat} (h : IsN z i) (hi : i < 2 ^ 62) : IsM (A .ari .sub .i64 z 1) i := ⟨by
  have := h.eq
  rw [hA.ari]; simp only [ari]
  rw [IntWalk.i64_in _ (by omega)]; omega⟩
abbrev Yd (l : Nat) (args : List Value) (h : Heap) (R : Value → Heap → Prop) : Prop := YdX (fun _ => Tryz.prog) l args h R

theorem back163 {xs : List Chg} {bb l : Nat} {b : Option Addr} {n c : Nat} (J : Nat → Heap → Prop) (hJ : ∀ i hh, J i hh → hh bb = some (.cells #[.slice b n c] 57 (0, 0)) ∧ Sl 77 shChg hh (.slice b n c) xs)
    (hY : ∀ i x hh z cs, J (i + 1) hh → xs[i]? = some x → IsN z i → shChg.R hh cs x → Yd l [.int .i64 z, .agg cs.toArray] hh (fun v h' => v = .bool true ∧ J i h')) {h : Heap} (h0 : J n h) {k : Value → Heap → Prop}
    (hk : ∀ h', J 0 h' → k (.tuple #[]) h') : Ct 163 [.func (.yield l) #[] #[], .pointer (some ⟨bb, 0, none⟩)] h k := by
  obtain ⟨A, hA⟩ := Ar.ex
  obtain ⟨g0, q0⟩ := hJ n h h0
  have hlen := q0.len
  have hbd := q0.bound.1
  have hnot1 : A .not true = false := by rw [hA.not]; rfl
  have hzn : IsM (A .ari .sub .i64 (A .nat n) 1) n := (IsN.nat n).pred (by omega)
  refine fn_of_sx A (tabOk T163.plan T163.pub) Tryz.func163 rfl (by kernel_rfl) ?_
  cbv
  refine ldb g0 rfl rfl ?_
  cbv
  refine LoopX.go (G := Int) (fun g => [(3, .v (.int .i64 g))]) (fun _ => []) (fun m g h' => ∃ i : Nat, IsM g i ∧ m = i ∧ i ≤ n ∧ J i h') n (A .ari .sub .i64 (A .nat n) 1) ⟨?_, ?_, ?_⟩ ⟨n, hzn, rfl, Nat.le_refl _, h0⟩ ?_
  · cbv
  · cbv
  · cbv
  · intro m g h' hI
    cbv
    obtain ⟨i, hg, hm, hin, hj⟩ := hI
    rw [hg.ge (A := A)]
    cases i with
    | zero =>
      have hfin := hk h' hj
      rw [show decide (1 ≤ 0) = false from rfl]
      cbv
      exact hfin
    | succ i =>
      obtain ⟨g1, q1⟩ := hJ _ _ hj
      have hgN : IsN g i := hg.isn
      obtain ⟨x, hx⟩ := get_ex (xs := xs) (i := i) (by omega)
      have hck : b.isSome = true ∧ 0 ≤ g ∧ g < (n : Int) := ⟨q1.isSm (by omega), hgN.ix (by omega)⟩
      have hnext : IsM (A .ari .sub .i64 g 1) i := hgN.pred (by omega)
      rw [show decide (1 ≤ i + 1) = true from decide_eq_true (by omega)]
      cbv
      refine ldb g1 rfl rfl ?_
      cbv
      refine ⟨hck, ?_⟩
      cbv
      refine q1.load hx hgN.eq (fun cs hcs => ?_)
      have hyd := hY i x h' g cs hj hx hgN hcs
      obtain ⟨b1, n1, c1, rfl, -⟩ := hcs
      cbv
      refine hyd.mono (fun v h2 hR => ?_)
      obtain ⟨rfl, hj2⟩ := hR
      cbv
      rw [hnot1]
      cbv
      refine ⟨i, _, by omega, ⟨?_, ?_, ?_⟩, i, hnext, rfl, by omega, hj2⟩
      · cbv
      · cbv
      · cbv

theorem backward125 {h : Heap} {b : Option Addr} {n c : Nat} {k : Value → Heap → Prop} (hk : ∀ h' bb, h bb = none → Le h h' → h' bb = some (.cells #[.slice b n c] 57 (0, 0)) → k (.func (.func 163) #[] #[.pointer (some ⟨bb, 0, none⟩)]) h') :
    Ct 125 [.slice b n c] h k := by
  obtain ⟨A, hA⟩ := Ar.ex
  refine fn_of_sx A (tabOk T125.plan T125.pub) Tryz.func125 rfl (by kernel_rfl) ?_
  cbv
  intro bb h1 hbb e1
  have hfin := hk h1 bb hbb (by rw [e1]; exact Le.set hbb) ((congrFun e1 bb).trans hset_self)
  cbv
  exact hfin
end Go.S

set_option maxRecDepth 100000
set_option maxHeartbeats 8000000
set_option linter.unusedVariables false
set_option linter.unusedSimpArgs false
namespace Go.S
open Go.Sx Go.Proofs

def valAt (r : Row) (key : Int) : Val := (r[key.toNat]?).getD ⟨0, 0, noName⟩
/-- One change taken back. -/
def undo1 (T : List Tbl) (x : Chg) : List Tbl :=
  if bsB (tabCmps T x.table) = true then
    match T[bsI (tabCmps T x.table)]? with
    | some t => if decide (x.op = 2) = true then T.set (bsI (tabCmps T x.table)) (tblPut t x.row).1
      else if (decide (t.S.key ≥ 0) && decide (t.S.key < (x.row.length : Int))) = true then T.set (bsI (tabCmps T x.table)) (tblTake t (valAt x.row t.S.key)).1 else T
    | none => T
  else T
def undoL (T : List Tbl) (l : List Chg) : List Tbl := l.foldr (fun x T => undo1 T x) T
def undoN (n : Int) (len : Nat) : Nat := min n.toNat len
def RowsB (T : List Tbl) : Prop := ∀ t ∈ T, t.rows.length ≤ 2 ^ 36

theorem tblPut_rows (t : Tbl) (r : Row) (h : t.rows.length ≤ 2 ^ 36) : (tblPut t r).1.rows.length ≤ 2 ^ 36 := by
  unfold tblPut
  split
  · exact h
  · split
    · exact h
    · split
      · exact h
      · rename_i h3
        have h3 : ¬ ((t.rows.length : Int) ≥ 200) := by simpa using h3
        simp [tblIns]
        omega
theorem tblTake_rows (t : Tbl) (k : Val) (h : t.rows.length ≤ 2 ^ 36) : (tblTake t k).1.rows.length ≤ 2 ^ 36 := by
  unfold tblTake
  split
  · simp [tblDel]
    omega
  · exact h
theorem RowsB.set {T : List Tbl} (h : RowsB T) {t : Tbl} (ht : t.rows.length ≤ 2 ^ 36) (i : Nat) : RowsB (T.set i t) := fun x hx => by
  rcases List.mem_or_eq_of_mem_set hx with h1 | h1
  · exact h x h1
  · rw [h1]; exact ht
theorem undo1_rows {T : List Tbl} (h : RowsB T) (x : Chg) : RowsB (undo1 T x) := by
  unfold undo1
  split
  · split
    · rename_i t ht
      have := h t (List.mem_of_getElem? ht)
      split
      · exact h.set (tblPut_rows _ _ this) _
      · split
        · exact h.set (tblTake_rows _ _ this) _
        · exact h
    · exact h
  · exact h
theorem undoL_rows {T : List Tbl} (h : RowsB T) : ∀ l, RowsB (undoL T l)
  | [] => h
  | x :: r => undo1_rows (undoL_rows h r) x
theorem undoL_drop {T : List Tbl} {l : List Chg} {i : Nat} {x : Chg} (hx : l[i]? = some x) : undoL T (l.drop i) = undo1 (undoL T (l.drop (i + 1))) x := by
  obtain ⟨h1, h2⟩ := List.getElem?_eq_some_iff.1 hx
  rw [List.drop_eq_getElem_cons h1, h2]
  rfl
theorem _root_.Go.Sx.Kp.letyp {h h' : Heap} {nb e : Nat} {c : Array Value} {fr : Nat × Nat} (k : Kp [nb] h h') (hn : h nb = some (.cells c e fr)) {tys : List Nat} (he : e ∉ tys) : LeT tys h h' := fun b d e' fr' hm hb =>
  k b _ hb (by
    intro hb2
    simp at hb2
    rw [hb2, hn] at hb
    cases hb
    exact he hm)

/-- A call's state whose tables are others, in their place. -/
theorem Cst.tabsIn {h h' : Heap} {c tb wb ct cw : Nat} {T T' : List Tbl} {W : List (Wrk × Bool)} {H Wt : List Hld} {e : Int} (q : Cst h c tb wb ct cw T W H Wt e) (hl : T'.length = T.length) (k : Kp [tb] h h') (t : ∀ tys, 43 ∉ tys → LeT tys h h') (o : Own 43 shTbl h' tb ct T') (hct : c ≠ tb) : Cst h' c tb wb ct cw T' W H Wt e := by
  obtain ⟨n1, n2, b3, n3, c3, b4, n4, c4, o1, g0, ho, g1, g2, g3, g4, g6, g7⟩ := q.out
  exact ⟨n1, n2, b3, n3, c3, b4, n4, c4, o1, k _ _ g0 (by simpa using hct), ho, by rw [hl]; exact g1, o, g3, g4.mono (t _ (by decide)), g6.mono (t _ (by decide)), g7.mono (t _ (by decide))⟩

theorem Cst.lt {h h' : Heap} {c tb wb ct cw : Nat} {T : List Tbl} {W : List (Wrk × Bool)} {H Wt : List Hld} {e : Int} (q : Cst h c tb wb ct cw T W H Wt e) (hl : ∀ tys, LeT tys h h') : Cst h' c tb wb ct cw T W H Wt e := by
  obtain ⟨n1, n2, b3, n3, c3, b4, n4, c4, o, g0, g1, g2, g3, g4, g5, g6, g7⟩ := q.out
  exact ⟨n1, n2, b3, n3, c3, b4, n4, c4, o, hl [124] _ _ _ _ (by simp) g0, g1, g2, g3.mono (hl _), g4, g5.mono (hl _), g6.mono (hl _), g7.mono (hl _)⟩
theorem LeT.oset {tys : List Nat} {h : Heap} {n : Nat} {o : Obj} (hn : ∀ c e fr, h n ≠ some (.cells c e fr)) : LeT tys h (hset h n o) := fun b c e fr _ hb => by
  rw [hset_ne (fun e' => hn c e fr (by rw [← e']; exact hb))]; exact hb
theorem undoN_is {A : Ar} [hA : ArOk A] (n : Int) (m : Nat) : IsN (A .imin (A .imax n 0) (A .nat m)) (undoN n m) := ⟨by
  rw [hA.imin, hA.imax, hA.nat]; unfold undoN
  simp only [Int.ofNat_eq_natCast]; omega⟩
theorem undoN_le (n : Int) (m : Nat) : undoN n m ≤ m := by unfold undoN; omega
theorem undo68 {h : Heap} {c tb wb ct cw : Nat} {T : List Tbl} {W : List (Wrk × Bool)} {H Wt : List Hld} {e : Int} (q : Cst h c tb wb ct cw T W H Wt e) (hct : c ≠ tb) (hcw : c ≠ wb) (hrw : RowsB T) {z : Int} {i : Nat} (hz : IsN z i) {w : Wrk × Bool} (hw : W[i]? = some w) (n : Int) {k : Value → Heap → Prop}
    (hk : ∀ h', Kp [tb, wb] h h' → Cst h' c tb wb ct cw (undoL T (w.1.log.drop (undoN n w.1.log.length))) (W.set i (⟨w.1.s, w.1.log.take (undoN n w.1.log.length), w.1.marks⟩, false)) H Wt e → k (.tuple #[]) h') :
    Ct 68 [.pointer (some ⟨c, 0, none⟩), .int .i64 z, .int .i64 n] h k := by
  obtain ⟨A, hA⟩ := Ar.ex
  obtain ⟨⟨ws, wl, wm⟩, wg⟩ := w
  refine q.elim (fun n1 n2 b3 n3 c3 b4 n4 c4 o g0 ho g1 g2 g3 g4 g6 g7 _ => ?_)
  have hil : i < W.length := (List.getElem?_eq_some_iff.1 hw).1
  have hckw : (some (⟨wb, 0, none⟩ : Addr)).isSome = true ∧ 0 ≤ z ∧ z < (n2 : Int) := ⟨rfl, hz.ix (by omega)⟩
  refine fn_of_sxD A (tabOk T68.plan (fun s => s == 3)) Tryz.func68 rfl (by kernel_rfl) ?_
  cbv
  intro p3 h1 hp3 e1
  have l1 : Le h h1 := by rw [e1]; exact Le.set hp3
  have f3 : h1 p3 = some (.cells #[.pointer (some ⟨c, 0, none⟩)] 105 (0, 0)) := (congrFun e1 p3).trans hset_self
  have q1 := q.mono l1
  have g01 := l1 _ _ g0
  have g41 := (g4.sl g3).mono (l1.t [60, 77, 68, 145])
  cbv
  refine ldb f3 rfl rfl ?_
  cbv
  rw [offm A]
  rw [offm A]
  refine ldb g01 rfl rfl ?_
  cbv
  refine ⟨hckw, ?_⟩
  cbv
  refine ld_log g41 hw hz.eq (fun b1 m1 c1 q1l _ again => ?_)
  cbv
  refine again _ _ (Le.refl _) ?_
  have hml := q1l.len
  have hml : m1 = wl.length := hml
  have hlo := undoN_is (A := A) n m1
  have hloL := undoN_le n m1
  rw [hml] at hlo hloL
  obtain ⟨lo, elo⟩ : ∃ lo, lo = undoN n wl.length := ⟨_, rfl⟩
  rw [← elo] at hlo hloL
  have hck2 : 0 ≤ A .imin (A .imax n 0) (A .nat m1) ∧ A .imin (A .imax n 0) (A .nat m1) ≤ (m1 : Int) := by
    rw [hml]
    have := hlo.eq
    omega
  rw [← hml] at hlo
  have hdr := q1l.dropX (A := A) hlo (by omega) rfl rfl
  have hdr : Sl 77 shChg h1 _ (wl.drop lo) := hdr
  have hd2 := dif_nz (A := A) (n := m1) hlo
  have hd3 := dif_nz (A := A) (n := c1) hlo
  cbv
  refine ⟨hck2, ?_⟩
  cbv
  rw [hd2, hd3]
  refine backward125 (fun h2 bb hbb l2 fb => ?_)
  cbv
  refine ⟨fun m l o1 o2 hm hl hml2 ho1 ho2 hY => ?_⟩
  obtain ⟨xs, hxs⟩ : ∃ xs, xs = wl.drop lo := ⟨_, rfl⟩
  rw [← hxs] at hdr
  obtain ⟨hb, ehb⟩ : ∃ hb, hb = hset (hset h2 m (.deferred (some []))) l o1 := ⟨_, rfl⟩
  have l2b : Le h2 hb := by rw [ehb]; exact (Le.set hm).trans (Le.set (by rw [hset_ne (Ne.symm hml2)]; exact hl))
  have fl : hb l = some o1 := by rw [ehb]; exact hset_self
  have fm : hb m = some (.deferred (some [])) := by rw [ehb, hset_ne hml2]; exact hset_self
  have fbb := l2b _ _ fb
  have f3b := l2b _ _ (l2 _ _ f3)
  have qb := (q1.mono l2).mono l2b
  have hdrb := hdr.mono ((l2.trans l2b).t _)
  have hle1b := l2.trans l2b
  rw [← ehb]
  obtain ⟨ctb, htb, -⟩ := g2.out
  have htbb := hle1b _ _ (l1 _ _ htb)
  have nbb : bb ≠ tb := fun e => by rw [e, l1 _ _ htb] at hbb; cases hbb
  have n3 : p3 ≠ tb := fun e => by rw [e, htb] at hp3; cases hp3
  have nl : l ≠ tb := fun e => by rw [e, l2 _ _ (l1 _ _ htb)] at hl; cases hl
  have nm : m ≠ tb := fun e => by rw [e, l2 _ _ (l1 _ _ htb)] at hm; cases hm
  have nlc : l ≠ c := fun e => by rw [e, l2 _ _ g01] at hl; cases hl
  have n3l : p3 ≠ l := fun e => by rw [← e, l2 _ _ f3] at hl; cases hl
  have hlt : ∀ tys hh, 43 ∉ tys → Kp [tb] hb hh → LeT tys hb hh := fun tys hh ht k => Kp.letyp k htbb ht
  obtain ⟨J, hJJ⟩ : ∃ J : Nat → Heap → Prop, ∀ i hh, J i hh = (hh l = some o1 ∧ Kp [tb] hb hh ∧ Cst hh c tb wb ct cw (undoL T (xs.drop i)) W H Wt e) := ⟨_, fun _ _ => rfl⟩
  refine back163 (n := m1 - lo) J (fun i hh hj => by rw [hJJ] at hj; exact ⟨hj.2.1 _ _ fbb (by simpa using nbb), hdrb.mono (hlt _ _ (by decide) hj.2.1)⟩) ?_ (by rw [hJJ]; exact ⟨fl, Kp.refl _ _, by rw [List.drop_eq_nil_of_le (by rw [← hdr.len]; exact Nat.le_refl _)]; exact qb⟩) ?_
  · intro j x hh zj cs hj hx hzj hcs
    have hj2 := hj
    rw [hJJ] at hj2
    obtain ⟨hhl, hk1, hq1⟩ := hj2
    clear hj
    refine hY [.int .i64 zj, .agg cs.toArray] hh _ rfl hhl ?_
    obtain ⟨bx, nx, cx, rfl, qx⟩ := hcs
    obtain ⟨xt, xo, xr⟩ := x
    have qx : Sl 68 shVal hh (.slice bx nx cx) xr := qx
    cbv
    refine ⟨hhl, ?_⟩
    obtain ⟨h3, e3⟩ : ∃ h3, h3 = hset hh l o2 := ⟨_, rfl⟩
    rw [← e3]
    obtain ⟨T1, hT1⟩ : ∃ T1, T1 = undoL T (xs.drop (j + 1)) := ⟨_, rfl⟩
    have hT1r : RowsB T1 := by rw [hT1]; exact undoL_rows hrw _
    have hT0 : undoL T (xs.drop j) = undo1 T1 ⟨xt, xo, xr⟩ := by rw [hT1]; exact undoL_drop hx
    obtain ⟨T0, hT0'⟩ : ∃ T0, T0 = undo1 T1 ⟨xt, xo, xr⟩ := ⟨_, rfl⟩
    have hl3 : h3 l = some o2 := by rw [e3]; exact hset_self
    have lt3 : ∀ tys, LeT tys hh h3 := fun tys => by rw [e3]; exact LeT.oset (fun c e fr he => by rw [hhl] at he; cases he; exact ho1 _ _ _ rfl)
    have fin : ∀ h', Kp [tb] h3 h' → Cst h' c tb wb ct cw T0 W H Wt e → h' l = some o2 ∧ J j (hset h' l o1) := fun h' k' q' => by
      have hl' := k' _ _ hl3 (by simpa using nl)
      rw [hJJ]
      refine ⟨hl', hset_self, fun b o hbo hbt => ?_, ?_⟩
      · by_cases hbl : b = l
        · rw [hbl, fl] at hbo; cases hbo; rw [hbl]; exact hset_self
        · rw [hset_ne hbl]
          refine k' _ _ ?_ hbt
          rw [e3, hset_ne hbl]
          exact hk1 _ _ hbo hbt
      · rw [hT0, ← hT0']
        exact q'.lt (fun tys => LeT.oset (fun c e fr he => by rw [hl'] at he; cases he; exact ho2 _ _ _ rfl))
    rw [← hT1] at hq1
    have q3 := hq1.lt lt3
    have qx3 := qx.mono (lt3 _)
    have f33 : h3 p3 = some (.cells #[.pointer (some ⟨c, 0, none⟩)] 105 (0, 0)) := by rw [e3, hset_ne n3l]; exact hk1 _ _ f3b (by simpa using n3)
    clear e3 lt3 hq1 qx hT1 hT0 hY hdr hdrb
    clear hxs
    refine ldb f33 rfl rfl ?_
    cbv
    refine table46K q3 xt (fun h4 zt t l4 hzt ht => ?_)
    have q4 := q3.mono l4
    cases t with
    | false =>
      have hU : T0 = T1 := by rw [hT0']; unfold undo1; rw [← ht]; rfl
      have hfin := fin h4 (l4.kp _) (by rw [hU]; exact q4)
      cbv
      rw [show A .not false = true by rw [hA.not]; rfl]
      cbv
      exact hfin
    | true =>
      have htl : bsI (tabCmps T1 xt) < T1.length := by
        have := bsB_lt ht.symm
        simpa [tabCmps] using this
      obtain ⟨⟨⟨tn, tc, tk, to⟩, tr⟩, hti⟩ := get_ex htl
      have hU : T0 = if decide (xo = 2) = true then T1.set (bsI (tabCmps T1 xt)) (tblPut ⟨⟨tn, tc, tk, to⟩, tr⟩ xr).1
          else if (decide (tk ≥ 0) && decide (tk < (xr.length : Int))) = true then T1.set (bsI (tabCmps T1 xt)) (tblTake ⟨⟨tn, tc, tk, to⟩, tr⟩ (valAt xr tk)).1 else T1 := by rw [hT0']; unfold undo1; rw [← ht, hti]; rfl
      have htr : tr.length ≤ 2 ^ 36 := hT1r ⟨⟨tn, tc, tk, to⟩, tr⟩ (List.mem_of_getElem? hti)
      generalize bsI (tabCmps T1 xt) = ti at *
      clear hT0' ht
      refine q4.elim (fun u1 u2 y3 v3 w3 y4 v4 w4 oo G0 Ho G1 G2 G3 G4 G6 G7 _ => ?_)
      have hckt : (some (⟨tb, 0, none⟩ : Addr)).isSome = true ∧ 0 ≤ zt ∧ zt < (u1 : Int) := ⟨rfl, hzt.ix (by omega)⟩
      have G2s := G2.sl G1
      have f34 := l4 _ _ f33
      have qx4 := qx3.mono (l4.t _)
      cbv
      rw [show A .not true = false by rw [hA.not]; rfl]
      cbv
      refine ldb f34 rfl rfl ?_
      cbv
      rw [offm A]
      rw [offm A]
      refine ldb G0 rfl rfl ?_
      cbv
      refine ⟨hckt, ?_⟩
      cbv
      generalize eu : A .icm .eql xo 2 = u
      rw [icm_eql A] at eu
      cases u with
      | true =>
        rw [if_pos eu] at hU
        cbv
        refine ld_tbl G2s hti hzt.eq (fun d1 p1 r1 d2 p2 r2 s1 s2 => ?_)
        cbv
        have hp2 := s2.len
        have hp2 : p2 = tr.length := hp2
        refine put56K (nm := tn) (key := tk) (only := to) s1 s2 qx4 (by omega) (fun h5 b1 n1 k1 b2 n2 k2 T' e' l5 r1 r2 r3 => ?_)
        have hset : (tblPut ⟨⟨tn, tc, tk, to⟩, tr⟩ xr).1 = ⟨⟨tn, tc, tk, to⟩, T'⟩ := by rw [← r3]
        rw [hset] at hU
        cbv
        refine (G2.mono (l5.t _)).setAt (by decide) htl hzt.eq rfl (x := ⟨⟨tn, tc, tk, to⟩, T'⟩) ⟨_, _, _, _, _, _, rfl, r1, r2⟩ (fun h6 k6 t6 o6 => ?_)
        rw [← hU] at o6
        have hfin := fin h6 (((l4.trans l5).kp _).trans k6) (Cst.tabsIn (q4.mono l5) (by rw [hU]; simp) k6 t6 o6 hct)
        cbv
        exact hfin
      | false =>
        rw [if_neg (by rw [eu]; simp)] at hU
        have hxr := qx4.len
        have hxr : nx = xr.length := hxr
        generalize eg : A .icm .geq tk 0 = ug
        have fg := eg
        rw [icm_geq A] at eg
        rw [eg] at hU
        generalize el : A .icm .lss tk (A .nat nx) = ul
        have fl2 := el
        rw [icm_lss A, hA.nat, hxr, show Int.ofNat xr.length = (xr.length : Int) from rfl] at el
        rw [el] at hU
        cbv
        refine G2s.loadFF hti hzt.eq (o1 := 0) (o2 := 2) (m := 1) (by decide) (fun cs hcs => ?_)
        obtain ⟨d1, p1, r1, d2, p2, r2, rfl, s1, s2⟩ := hcs
        have s1 : Sl 104 shCol h4 (.slice d1 p1 r1) tc := s1
        have s2 : Sl 63 shRow h4 (.slice d2 p2 r2) tr := s2
        have hp2 := s2.len
        have hp2 : p2 = tr.length := hp2
        cases ug with
        | false =>
          have hfin := fin h4 (l4.kp _) (by rw [hU]; exact q4)
          cbv
          rw [fg]
          cbv
          exact hfin
        | true =>
          have hk0 : tk ≥ 0 := of_decide_eq_true eg
          cbv
          rw [fg]
          cbv
          refine G2s.loadFF hti hzt.eq (o1 := 0) (o2 := 2) (m := 1) (by decide) (fun cs hcs => ?_)
          obtain ⟨d1, p1, r1, d2, p2, r2, rfl, -, -⟩ := hcs
          cbv
          cases ul with
          | false =>
            have hfin := fin h4 (l4.kp _) (by rw [hU]; exact q4)
            cbv
            rw [fl2]
            cbv
            exact hfin
          | true =>
            have hk1 : tk < (xr.length : Int) := of_decide_eq_true el
            have hktn : tk.toNat < xr.length := by omega
            have hkN : IsN tk tk.toNat := ⟨(Int.toNat_of_nonneg hk0).symm⟩
            obtain ⟨⟨vk, vn, vs⟩, hv⟩ := get_ex hktn
            have hvA : valAt xr tk = ⟨vk, vn, vs⟩ := by unfold valAt; rw [hv]; rfl
            have hckk : bx.isSome = true ∧ 0 ≤ tk ∧ tk < (nx : Int) := ⟨qx4.isSm (by omega), hkN.ix (by omega)⟩
            rw [hvA] at hU
            have hkk0 : tk = ((tk.toNat : Nat) : Int) := hkN.eq
            generalize tk.toNat = kk at *
            cbv
            rw [fl2]
            cbv
            refine ld_tbl G2s hti hzt.eq (fun d1 p1 r1 d2 p2 r2 s1 s2 => ?_)
            have hp2 := s2.len
            have hp2 : p2 = tr.length := hp2
            cbv
            refine G2s.loadFF hti hzt.eq (o1 := 0) (o2 := 2) (m := 1) (by decide) (fun cs hcs => ?_)
            obtain ⟨d3, p3', r3, d4, p4', r4, rfl, -, -⟩ := hcs
            cbv
            refine ⟨hckk, ?_⟩
            cbv
            refine qx4.load hv hkk0 (fun cs hcs => ?_)
            have hcs : cs = [.int .i64 vk, .int .i64 vn, .string vs] := hcs
            subst hcs
            cbv
            refine take60K (nm := tn) (key := tk) (only := to) s1 s2 (by omega) ⟨vk, vn, vs⟩ (fun h5 b1 n1 k1 b2 n2 k2 b3 n3 k3 T' R' e' l5 r1 r2 r2' r3 => ?_)
            have hset : (tblTake ⟨⟨tn, tc, tk, to⟩, tr⟩ ⟨vk, vn, vs⟩).1 = ⟨⟨tn, tc, tk, to⟩, T'⟩ := by rw [← r3]
            have hU : T0 = T1.set ti (tblTake ⟨⟨tn, tc, tk, to⟩, tr⟩ ⟨vk, vn, vs⟩).1 := hU
            rw [hset] at hU
            cbv
            refine (G2.mono (l5.t _)).setAt (by decide) htl hzt.eq rfl (x := ⟨⟨tn, tc, tk, to⟩, T'⟩) ⟨_, _, _, _, _, _, rfl, r1, r2⟩ (fun h6 k6 t6 o6 => ?_)
            rw [← hU] at o6
            have hfin := fin h6 (((l4.trans l5).kp _).trans k6) (Cst.tabsIn (q4.mono l5) (by rw [hU]; simp) k6 t6 o6 hct)
            cbv
            exact hfin
  · intro h3 hj
    rw [hJJ] at hj
    obtain ⟨hl3, hk3, hq3⟩ := hj
    refine ⟨hl3, fun o3 ho3 => ?_⟩
    obtain ⟨h4, e4⟩ : ∃ h4, h4 = hset h3 l o3 := ⟨_, rfl⟩
    rw [← e4]
    have lt4 : ∀ tys, LeT tys h3 h4 := fun tys => by rw [e4]; exact LeT.oset (fun c e fr he => by rw [hl3] at he; cases he; exact ho1 _ _ _ rfl)
    have q4 := hq3.lt lt4
    rw [List.drop_zero, hxs] at q4
    have fm4 : h4 m = some (.deferred (some [])) := by rw [e4, hset_ne hml2]; exact hk3 _ _ fm (by simpa using nm)
    have kall : ∀ b o, h b = some o → b ∉ [tb, wb] → h4 b = some o := fun b o hbo hbt => by
      have hbl : b ≠ l := fun e => by rw [e] at hbo; rw [l2 _ _ (l1 _ _ hbo)] at hl; cases hl
      rw [e4, hset_ne hbl]
      exact hk3 _ _ (hle1b _ _ (l1 _ _ hbo)) (by simp at hbt ⊢; exact hbt.1)
    refine q4.elim (fun u1 u2 y3 v3 w3 y4 v4 w4 oo G0 Ho G1 G2 G3 G4 G6 G7 _ => ?_)
    cbv
    refine ld_log (G4.sl G3) hw hz.eq (fun b1' m1' c1' q1l' _ again' => ?_)
    have hml' := q1l'.len
    have hml' : m1' = wl.length := hml'
    have hlo' := undoN_is (A := A) n m1'
    rw [hml', ← elo] at hlo'
    have hlo' : IsN (A .imin (A .imax n 0) (A .nat m1')) lo := by rw [hml']; exact hlo'
    have hbd' := q1l'.bound.2
    have hck5 : 0 ≤ A .imin (A .imax n 0) (A .nat m1') ∧ A .imin (A .imax n 0) (A .nat m1') ≤ (c1' : Int) := by
      have := hlo'.eq
      omega
    have htk := q1l'.takeX (A := A) (i := lo) (by omega)
    have hd6 := dif_z0 (A := A) hlo'
    cbv
    refine again' _ _ (Le.refl _) ?_
    cbv
    refine ⟨hck5, ?_⟩
    cbv
    rw [hd6]
    have htl2 : Sl 77 shChg h4 _ (wl.take lo) := htk
    have htl2 : Sl 77 shChg h4 (.slice (A .cut b1' 0 (A .nat c1') 3) lo c1') (wl.take lo) := htl2
    refine G4.setF (by decide) hw hz.eq rfl (off := 1) (by simp [shWrkG]) (x' := (⟨ws, wl.take lo, wm⟩, false)) (fun cs hcs => ?_) (fun h5 k5 t5 o5 => ?_)
    · obtain ⟨x1, y1, z1, x2, y2, z2, rfl, j1, j2, j3⟩ := hcs
      exact ⟨_, _, _, _, _, _, rfl, htl2, j2, fun hf => by cases hf⟩
    · have hne : ∀ b o, h4 b = some o → b ≠ wb → h5 b = some o := fun b o hb1 hb2 => k5 b o hb1 (by simpa using hb2)
      have nmw : m ≠ wb := fun e => by
        obtain ⟨cw', hcw', -⟩ := G4.out
        rw [← e, fm4] at hcw'; cases hcw'
      have fm5 := hne _ _ fm4 nmw
      have q5 : Cst h5 c tb wb ct cw (undoL T (wl.drop lo)) (W.set i (⟨ws, wl.take lo, wm⟩, false)) H Wt e := by
        refine ⟨u1, u2, y3, v3, w3, y4, v4, w4, oo, hne _ _ G0 hcw, Ho, G1, G2.mono (t5 _ (by decide)), by rw [List.length_set]; exact G3, o5, G6.mono (t5 _ (by decide)), G7.mono (t5 _ (by decide))⟩
      obtain ⟨h6, e6⟩ : ∃ h6, h6 = hset h5 m (.deferred none) := ⟨_, rfl⟩
      have q6 : Cst h6 c tb wb ct cw (undoL T (wl.drop lo)) (W.set i (⟨ws, wl.take lo, wm⟩, false)) H Wt e := q5.lt (fun tys => by rw [e6]; exact LeT.oset (fun c e fr he => by rw [fm5] at he; cases he))
      have k6 : Kp [tb, wb] h h6 := fun b o hbo hbt => by
        have hbm : b ≠ m := fun e => by rw [e] at hbo; rw [l2 _ _ (l1 _ _ hbo)] at hm; cases hm
        rw [e6, hset_ne hbm]
        exact hne _ _ (kall b o hbo hbt) (by simp at hbt; exact hbt.2)
      rw [elo] at q6
      have hfin := hk h6 k6 q6
      rw [e6] at hfin
      cbv
      exact ⟨fm5, hfin⟩
end Go.S

set_option maxRecDepth 100000
set_option maxHeartbeats 8000000
set_option linter.unusedVariables false
set_option linter.unusedSimpArgs false
namespace Go.S
open Go.Sx Go.Proofs

def backT (T : List Tbl) (W : List (Wrk × Bool)) (s : Int) : List Tbl :=
  if bsB (wrkCmps W s) = true then match W[bsI (wrkCmps W s)]? with
    | some w => undoL T w.1.log
    | none => T
  else T

theorem wrkCmps_set {W : List (Wrk × Bool)} {i : Nat} {w w' : Wrk × Bool} (hw : W[i]? = some w) (hs : w'.1.s = w.1.s) (s : Int) : wrkCmps (W.set i w') s = wrkCmps W s := by
  unfold wrkCmps
  rw [List.map_set]
  apply List.ext_getElem?
  intro j
  rw [List.getElem?_set]
  split
  · rename_i e
    subst e
    split
    · rw [List.getElem?_map, hw]
      simp [hs]
    · rename_i h1
      have := (List.getElem?_eq_some_iff.1 hw).1
      simp at h1; omega
  · rfl
theorem erase_set {α : Type} {W : List α} {i : Nat} {x : α} : (W.set i x).eraseIdx i = W.eraseIdx i := by
  exact List.eraseIdx_set_eq

theorem back70 {h : Heap} {c tb wb ct cw : Nat} {T : List Tbl} {W : List (Wrk × Bool)} {H Wt : List Hld} {e : Int} (q : Cst h c tb wb ct cw T W H Wt e) (hct : c ≠ tb) (hcw : c ≠ wb) (hrw : RowsB T) (s : Int) (hn1 : H.length ≤ 2 ^ 38) (hn2 : Wt.length ≤ 2 ^ 38) {k : Value → Heap → Prop}
    (hk : ∀ h', Kp [c, tb, wb] h h' → Cst h' c tb wb ct cw (backT T W s) (endW W s) (wout H s) (wout Wt s) e → k (.tuple #[]) h') : Ct 70 [.pointer (some ⟨c, 0, none⟩), .int .i64 s] h k := by
  obtain ⟨A, hA⟩ := Ar.ex
  obtain ⟨T1, hT1⟩ : ∃ T1, T1 = backT T W s := ⟨_, rfl⟩
  obtain ⟨W1, hW1⟩ : ∃ W1, W1 = endW W s := ⟨_, rfl⟩
  rw [← hT1, ← hW1] at hk
  refine fn_of_sxD A (tabOk T70.plan T70.pub) Tryz.func70 rfl (by kernel_rfl) ?_
  cbv
  refine work50K q s (fun h1 z t l1 hz ht => ?_)
  have q1 := q.mono l1
  cases t with
  | false =>
    have hTT : T1 = T := by rw [hT1]; unfold backT; rw [← ht]; rfl
    cbv
    refine end65D q1 hcw s hn1 hn2 (fun h2 k2 q2 => ?_)
    rw [← hW1, ← hTT] at q2
    have hfin := hk h2 ((l1.kp _).trans (k2.sub (by simp))) q2
    cbv
    exact hfin
  | true =>
    have hlt : bsI (wrkCmps W s) < W.length := by
      have := bsB_lt ht.symm
      simpa [wrkCmps] using this
    obtain ⟨w, hw⟩ := get_ex hlt
    have hTT : T1 = undoL T w.1.log := by rw [hT1]; unfold backT; rw [← ht, hw]; rfl
    have hWW : W1 = W.eraseIdx (bsI (wrkCmps W s)) := by rw [hW1]; unfold endW; rw [← ht]; rfl
    obtain ⟨i, hi⟩ : ∃ i, i = bsI (wrkCmps W s) := ⟨_, rfl⟩
    rw [← hi] at hz hw hWW
    clear hT1 hW1
    cbv
    refine undo68 q1 hct hcw hrw hz hw 0 (fun h2 k2 q2 => ?_)
    have h0 : undoN 0 w.1.log.length = 0 := by unfold undoN; simp
    rw [h0, List.drop_zero, ← hTT] at q2
    cbv
    refine end65D q2 hcw s hn1 hn2 (fun h3 k3 q3 => ?_)
    have hE : endW (W.set i (⟨w.1.s, w.1.log.take 0, w.1.marks⟩, false)) s = W1 := by
      unfold endW
      rw [wrkCmps_set hw (by rfl), ← ht, ← hi, hWW]
      rw [if_pos rfl, erase_set]
    rw [hE] at q3
    have hfin := hk h3 (((l1.kp _).trans (k2.sub (by simp))).trans (k3.sub (by simp))) q3
    cbv
    exact hfin
end Go.S

set_option maxRecDepth 100000
set_option maxHeartbeats 8000000
set_option linter.unusedVariables false
set_option linter.unusedSimpArgs false
namespace Go.S
open Go.Sx Go.Proofs

def Wf (ws : List Wrk) : List (Wrk × Bool) := ws.map fun w => (w, true)
def endK (ws : List Wrk) (s : Int) : List Wrk := if bsB (wrkC ws s) = true then ws.eraseIdx (bsI (wrkC ws s)) else ws
def backK (T : List Tbl) (ws : List Wrk) (s : Int) : List Tbl :=
  if bsB (wrkC ws s) = true then match ws[bsI (wrkC ws s)]? with
    | some w => undoL T w.log
    | none => T
  else T
/-- A session taken back. -/
def backD (d : DB) (s : Int) : DB := ⟨backK d.tabs d.works s, endK d.works s, wout d.holds s, wout d.waits s⟩
def holdL : Nat → DB → Hld → DB × Int
  | 0, d, _ => (d, 16)
  | f + 1, d, hd =>
    if askFree d.holds hd = true then (⟨d.tabs, d.works, askH d.holds hd, askW d.holds d.waits hd⟩, 0)
    else if (victim (edges (askH d.holds hd) (askW d.holds d.waits hd)) hd.s).2 = true then
      if decide ((victim (edges (askH d.holds hd) (askW d.holds d.waits hd)) hd.s).1 = hd.s) = true then (backD ⟨d.tabs, d.works, askH d.holds hd, askW d.holds d.waits hd⟩ (victim (edges (askH d.holds hd) (askW d.holds d.waits hd)) hd.s).1, 17)
      else holdL f (backD ⟨d.tabs, d.works, askH d.holds hd, askW d.holds d.waits hd⟩ (victim (edges (askH d.holds hd) (askW d.holds d.waits hd)) hd.s).1) hd
    else (⟨d.tabs, d.works, askH d.holds hd, askW d.holds d.waits hd⟩, 16)
def holdF (d : DB) (hd : Hld) : DB × Int := if onD d hd = true then holdL (d.holds.length + 1) d hd else (d, 2)

theorem wrkC_wf (ws : List Wrk) (s : Int) : wrkCmps (Wf ws) s = wrkC ws s := by simp [wrkCmps, wrkC, Wf]
theorem endW_wf (ws : List Wrk) (s : Int) : endW (Wf ws) s = Wf (endK ws s) := by
  unfold endW endK
  rw [wrkC_wf]
  split
  · unfold Wf; rw [List.eraseIdx_eq_take_drop_succ, List.eraseIdx_eq_take_drop_succ]; simp [List.map_take, List.map_drop]
  · rfl
theorem backT_wf (T : List Tbl) (ws : List Wrk) (s : Int) : backT T (Wf ws) s = backK T ws s := by
  unfold backT backK
  rw [wrkC_wf]
  split
  · unfold Wf
    rw [List.getElem?_map]
    cases ws[bsI (wrkC ws s)]? <;> rfl
  · rfl

theorem bfsAdd_in (E : List (Int × Int)) : ∀ (l : List Int) (st : List Int × List Int), (∀ k ∈ l, k ∈ E.map (·.2)) → (∀ k ∈ st.1, k ∈ E.map (·.2)) → ∀ k ∈ (l.foldl bfsAdd st).1, k ∈ E.map (·.2)
  | [], st, _, h2 => h2
  | x :: r, st, h1, h2 => by
    rw [List.foldl_cons]
    refine bfsAdd_in E r _ (fun k hk => h1 k (List.mem_cons_of_mem _ hk)) (fun k hk => ?_)
    unfold bfsAdd at hk
    split at hk
    · exact h2 k hk
    · rcases List.mem_append.1 hk with hk | hk
      · exact h2 k hk
      · simp at hk; rw [hk]; exact h1 x (by simp)
theorem bfs_in (E : List (Int × Int)) : ∀ (n : Nat) (st : List Int × List Int), (∀ k ∈ st.1, k ∈ E.map (·.2)) → ∀ k ∈ bfs E n st, k ∈ E.map (·.2)
  | 0, st, h => h
  | n + 1, (seen, []), h => h
  | n + 1, (seen, a :: r), h => by
    unfold bfs
    refine bfs_in E n _ (bfsAdd_in E _ _ (fun k hk => ?_) h)
    unfold succs at hk
    obtain ⟨p, hp, rfl⟩ := List.mem_map.1 hk
    exact List.mem_map.2 ⟨p, (List.mem_filter.1 hp).1, rfl⟩
theorem over_in {E : List (Int × Int)} {s k : Int} (h : k ∈ over E s) : k ∈ E.map (·.2) := bfs_in E _ _ (fun _ h => by cases h) k h
theorem edges_hold {H W : List Hld} {k : Int} (h : k ∈ (edges H W).map (·.2)) : ∃ x ∈ H, x.s = k := by
  obtain ⟨p, hp, rfl⟩ := List.mem_map.1 h
  unfold edges at hp
  obtain ⟨w, hw, hp⟩ := List.mem_flatMap.1 hp
  unfold edgesW at hp
  obtain ⟨x, hx, rfl⟩ := List.mem_map.1 hp
  exact ⟨x, (List.mem_filter.1 hx).1, rfl⟩
theorem wout_lt {H : List Hld} {k : Int} (h : ∃ x ∈ H, x.s = k) : (wout H k).length < H.length := by
  obtain ⟨x, hx, hk⟩ := h
  unfold wout
  rcases Nat.lt_or_ge (H.filter fun h => decide (h.s ≠ k)).length H.length with h1 | h1
  · exact h1
  · have h2 := List.length_filter_eq_length_iff.1 (Nat.le_antisymm (List.length_filter_le _ _) h1) x hx
    simp [hk] at h2
/-- Who is to go holds something. -/
theorem victim_hold {H W : List Hld} {s : Int} (h : (victim (edges H W) s).2 = true) : (wout H (victim (edges H W) s).1).length < H.length := by
  have hv := (victim_vic (edges H W) s).out
  rcases hv with ⟨h1, -⟩ | ⟨-, h2, -, h4, -⟩
  · rw [h] at h1; cases h1
  · refine wout_lt (edges_hold (W := W) ?_)
    rcases h4 with h4 | ⟨h4, -⟩
    · rw [h4]; exact over_in h2
    · exact over_in h4
theorem backK_rows {T : List Tbl} (h : RowsB T) (ws : List Wrk) (s : Int) : RowsB (backK T ws s) := by
  unfold backK
  split
  · split
    · exact undoL_rows h _
    · exact h
  · exact h
theorem askW_len2 {H W : List Hld} {hd : Hld} : (askW H W hd).length ≤ (wout W hd.s).length + 1 := by
  unfold askW; split <;> simp
theorem wout_askW {H W : List Hld} {hd : Hld} : (wout (askW H W hd) hd.s).length ≤ (wout W hd.s).length := by
  have h1 : wout (wout W hd.s) hd.s = wout W hd.s := by
    unfold wout; rw [List.filter_filter]; simp
  unfold askW
  split
  · rw [h1]; exact Nat.le_refl _
  · have : wout (wout W hd.s ++ [hd]) hd.s = wout W hd.s := by
      have h2 : wout (wout W hd.s ++ [hd]) hd.s = wout (wout W hd.s) hd.s ++ wout [hd] hd.s := by unfold wout; rw [List.filter_append]
      rw [h2, h1]; simp [wout]
    rw [this]; exact Nat.le_refl _
theorem wout_comm (W : List Hld) (a b : Int) : wout (wout W a) b = wout (wout W b) a := by
  unfold wout; rw [List.filter_filter, List.filter_filter]
  congr 1; funext x; rw [Bool.and_comm]

theorem hold53F {d : DB} {h : Heap} {c tb wb ct cw : Nat} {e : Int} (q : Cst h c tb wb ct cw d.tabs (Wf d.works) d.holds d.waits e) (hd : Hld) (hct : c ≠ tb) (hcw : c ≠ wb) (hrw : RowsB d.tabs)
    (hH : d.holds.length < 2 ^ 18) (hWt : d.waits.length < 2 ^ 18) {D : DB × Int} (hD : holdF d hd = D) {k : Value → Heap → Prop}
    (hk : ∀ h', Kp [c, tb, wb] h h' → Cst h' c tb wb ct cw D.1.tabs (Wf D.1.works) D.1.holds D.1.waits e → k (.int .i64 D.2) h') :
    Ct 53 [.pointer (some ⟨c, 0, none⟩), .int .i64 hd.s, .string hd.table, .bool hd.x] h k := by
  obtain ⟨A, hA⟩ := Ar.ex
  obtain ⟨hs, ht, hx⟩ := hd
  obtain ⟨L0, hL0⟩ : ∃ L, L = (wout d.waits hs).length := ⟨_, rfl⟩
  have hL18 : L0 < 2 ^ 18 := by
    have := wout_len d.waits hs
    omega
  have hnot1 : A .not true = false := by rw [hA.not]; rfl
  have hnot0 : A .not false = true := by rw [hA.not]; rfl
  refine fn_of_sx A (tabOk T53.plan T53.pub) Tryz.func53 rfl (by kernel_rfl) ?_
  cbv
  intro p4 h1 hp4 e1
  cbv
  intro p5 h2 hp5 e2
  cbv
  intro p6 h3 hp6 e3
  cbv
  intro p7 h4 hp7 e4
  have l1 : Le h h1 := by rw [e1]; exact Le.set hp4
  have l2 : Le h1 h2 := by rw [e2]; exact Le.set hp5
  have l3 : Le h2 h3 := by rw [e3]; exact Le.set hp6
  have l4 : Le h3 h4 := by rw [e4]; exact Le.set hp7
  have g4 : h4 p4 = some (.cells #[.pointer (some ⟨c, 0, none⟩)] 105 (0, 0)) := ((l2.trans l3).trans l4) _ _ ((congrFun e1 p4).trans hset_self)
  have g5 : h4 p5 = some (.cells #[.int .i64 hs] 3 (0, 0)) := (l3.trans l4) _ _ ((congrFun e2 p5).trans hset_self)
  have g6 : h4 p6 = some (.cells #[.string ht] 9 (0, 0)) := l4 _ _ ((congrFun e3 p6).trans hset_self)
  have g7 : h4 p7 = some (.cells #[.bool hx] 4 (0, 0)) := (congrFun e4 p7).trans hset_self
  have l04 := ((l1.trans l2).trans l3).trans l4
  have q4 := q.mono l04
  have hnew : ∀ p, h p = none → p ∉ [c, tb, wb] := fun p hp hm => by
    obtain ⟨n1, n2, b3, n3, c3, b4, n4, c4, o, g0, -, -, g2, -, g4, -⟩ := q.out
    obtain ⟨x1, g2, -⟩ := g2.out
    obtain ⟨x2, g4, -⟩ := g4.out
    simp at hm
    rcases hm with rfl | rfl | rfl
    · rw [g0] at hp; cases hp
    · rw [g2] at hp; cases hp
    · rw [g4] at hp; cases hp
  have n4 := hnew p4 hp4
  have n5 := hnew p5 (l1.none hp5)
  have n6 := hnew p6 ((l1.trans l2).none hp6)
  have n7 := hnew p7 (((l1.trans l2).trans l3).none hp7)
  have none2 : ∀ {hh : Heap} (l : Le h hh), onD d ⟨hs, ht, hx⟩ = false → k (.int .i64 2) hh := fun {hh} l hoff => by
    have hD2 : D = (d, 2) := by rw [← hD]; unfold holdF; rw [hoff]; rfl
    have := hk hh (l.kp _) (by rw [hD2]; exact q.mono l)
    rw [hD2] at this
    exact this
  cbv
  refine ldb g4 rfl rfl ?_
  cbv
  refine ldb g5 rfl rfl ?_
  cbv
  refine work50K q4 hs (fun h5 z1 t1 l5 hz1 ht1 => ?_)
  rw [wrkC_wf] at ht1
  have l05 := l04.trans l5
  cases t1 with
  | false =>
    have hfin := none2 l05 (by unfold onD; rw [← ht1]; rfl)
    cbv
    rw [hnot0]
    cbv
    exact hfin
  | true =>
    cbv
    rw [hnot1]
    cbv
    refine ldb (l5 _ _ g4) rfl rfl ?_
    cbv
    refine ldb (l5 _ _ g6) rfl rfl ?_
    cbv
    refine table46K (q4.mono l5) ht (fun h6 z2 t2 l6 hz2 ht2 => ?_)
    have l06 := l05.trans l6
    have l46 := l5.trans l6
    cases t2 with
    | false =>
      have hfin := none2 l06 (by unfold onD; rw [← ht1, ← ht2]; rfl)
      cbv
      rw [hnot0]
      cbv
      exact hfin
    | true =>
      have hD1 : holdL (d.holds.length + 1) d ⟨hs, ht, hx⟩ = D := by
        rw [← hD]; unfold holdF
        rw [show onD d ⟨hs, ht, hx⟩ = true by unfold onD; rw [← ht1, ← ht2]; rfl]
        rfl
      have q6 := q4.mono l46
      have f4 := l46 _ _ g4
      have f5 := l46 _ _ g5
      have f6 := l46 _ _ g6
      have f7 := l46 _ _ g7
      clear hD none2 g4 g5 g6 g7 e1 e2 e3 e4 ht1 ht2
      obtain ⟨I, hI0⟩ : ∃ I : Nat → Heap → Prop, ∀ m h', I m h' = ∃ d' : DB, d'.holds.length < m ∧ d'.holds.length < 2 ^ 18 ∧ d'.waits.length ≤ 2 ^ 18 ∧ (wout d'.waits hs).length ≤ L0 ∧ RowsB d'.tabs ∧ holdL m d' ⟨hs, ht, hx⟩ = D ∧ Kp [c, tb, wb] h6 h' ∧ Cst h' c tb wb ct cw d'.tabs (Wf d'.works) d'.holds d'.waits e := ⟨_, fun _ _ => rfl⟩
      cbv
      rw [hnot1]
      cbv
      refine LoopX.go (G := Unit) (fun _ => []) (fun _ => []) (fun n g h' => I n h') (d.holds.length + 1) () ⟨?_, ?_, ?_⟩ (by rw [hI0]; exact ⟨d, by omega, hH, Nat.le_of_lt hWt, by rw [hL0]; exact Nat.le_refl _, hrw, hD1, Kp.refl _ _, q6⟩) ?_
      · cbv
      · cbv
      · cbv
      · intro m g h' hI
        rw [hI0] at hI
        cbv
        obtain ⟨⟨dT, dW, dH, dWt⟩, hm, hb1, hb2, hb3, hb4, hb5, hk6, hq⟩ := hI
        have hq : Cst h' c tb wb ct cw dT (Wf dW) dH dWt e := hq
        have hb1 : dH.length < 2 ^ 18 := hb1
        have hb2 : dWt.length ≤ 2 ^ 18 := hb2
        have hb3 : (wout dWt hs).length ≤ L0 := hb3
        have hm : dH.length < m := hm
        obtain ⟨f, rfl⟩ : ∃ f, m = f + 1 := ⟨m - 1, by omega⟩
        have k4 := hk6 _ _ f4 n4
        have k5 := hk6 _ _ f5 n5
        have k6 := hk6 _ _ f6 n6
        have k7 := hk6 _ _ f7 n7
        have hl1 := askH_len (H := dH) (hd := ⟨hs, ht, hx⟩)
        have hl2 := askW_len2 (H := dH) (W := dWt) (hd := ⟨hs, ht, hx⟩)
        have hl2 : (askW dH dWt ⟨hs, ht, hx⟩).length ≤ (wout dWt hs).length + 1 := hl2
        have hl3 := wout_askW (H := dH) (W := dWt) (hd := ⟨hs, ht, hx⟩)
        have hl3 : (wout (askW dH dWt ⟨hs, ht, hx⟩) hs).length ≤ (wout dWt hs).length := hl3
        have hH0 : askFree dH ⟨hs, ht, hx⟩ = false → askH dH ⟨hs, ht, hx⟩ = dH := fun hf => by unfold askH; rw [hf]; rfl
        have hvh := victim_hold (H := askH dH ⟨hs, ht, hx⟩) (W := askW dH dWt ⟨hs, ht, hx⟩) (s := hs)
        unfold holdL at hb5
        have hb5 : (if askFree dH ⟨hs, ht, hx⟩ = true then ((⟨dT, dW, askH dH ⟨hs, ht, hx⟩, askW dH dWt ⟨hs, ht, hx⟩⟩, 0) : DB × Int)
          else if (victim (edges (askH dH ⟨hs, ht, hx⟩) (askW dH dWt ⟨hs, ht, hx⟩)) hs).2 = true then
            if decide ((victim (edges (askH dH ⟨hs, ht, hx⟩) (askW dH dWt ⟨hs, ht, hx⟩)) hs).1 = hs) = true then (backD ⟨dT, dW, askH dH ⟨hs, ht, hx⟩, askW dH dWt ⟨hs, ht, hx⟩⟩ (victim (edges (askH dH ⟨hs, ht, hx⟩) (askW dH dWt ⟨hs, ht, hx⟩)) hs).1, 17)
            else holdL f (backD ⟨dT, dW, askH dH ⟨hs, ht, hx⟩, askW dH dWt ⟨hs, ht, hx⟩⟩ (victim (edges (askH dH ⟨hs, ht, hx⟩) (askW dH dWt ⟨hs, ht, hx⟩)) hs).1) ⟨hs, ht, hx⟩
          else (⟨dT, dW, askH dH ⟨hs, ht, hx⟩, askW dH dWt ⟨hs, ht, hx⟩⟩, 16)) = D := hb5
        refine (hold115 (hd := ⟨hs, ht, hx⟩) hq k4 k5 k6 k7 (by omega) (by omega)).mono (fun v h7 hR => ?_)
        obtain ⟨kc7, t, rfl, et, q7⟩ := hR
        have k07 : Kp [c, tb, wb] h h7 := ((l06.kp _).trans hk6).trans (kc7.sub (by simp))
        have k67 : Kp [c, tb, wb] h6 h7 := hk6.trans (kc7.sub (by simp))
        have et' := et
        rw [← et] at hb5
        generalize askH dH ⟨hs, ht, hx⟩ = aH at *
        generalize askW dH dWt ⟨hs, ht, hx⟩ = aW at *
        cases t with
        | true =>
          have hb5 : ((⟨dT, dW, aH, aW⟩, 0) : DB × Int) = D := hb5
          subst hb5
          have hfin := hk h7 k07 q7
          cbv
          rw [hnot1]
          cbv
          exact hfin
        | false =>
          have haH := hH0 et.symm
          refine q7.elim (fun u1 u2 y3 v3 w3 y4 v4 w4 oo G0 Ho G1 G2 G3 G4 Q6 Q7 _ => ?_)
          have hq6 := Q6.len
          have hq7 := Q7.len
          have j4 := k67 _ _ f4 n4
          have j5 := k67 _ _ f5 n5
          cbv
          rw [hnot0]
          cbv
          refine ldb j4 rfl rfl ?_
          cbv
          rw [offm A]
          rw [offm A]
          refine ldb G0 rfl rfl ?_
          cbv
          refine ldb j5 rfl rfl ?_
          cbv
          refine (victim117 Q6 Q7 (by omega) (by omega) hs).mono (fun v h8 hR => ?_)
          obtain ⟨l8, zv, tv, rfl, hvic⟩ := hR
          obtain ⟨hzv, htv⟩ := hvic.eq
          rw [← hzv, ← htv] at hb5
          rw [← htv, ← hzv] at hvh
          cases tv with
          | false =>
            have hb5 : ((⟨dT, dW, aH, aW⟩, 16) : DB × Int) = D := hb5
            subst hb5
            have hfin := hk h8 (k07.trans (l8.kp _)) (q7.mono l8)
            cbv
            rw [hnot0]
            cbv
            exact hfin
          | true =>
            have hvh := hvh rfl
            have hb5 : (if decide (zv = hs) = true then ((backD ⟨dT, dW, aH, aW⟩ zv, 17) : DB × Int) else holdL f (backD ⟨dT, dW, aH, aW⟩ zv) ⟨hs, ht, hx⟩) = D := hb5
            cbv
            rw [hnot1]
            cbv
            refine ldb (l8 _ _ j4) rfl rfl ?_
            cbv
            refine back70 (q7.mono l8) hct hcw hb4 zv (by omega) (by omega) (fun h9 k9 q9 => ?_)
            rw [backT_wf, endW_wf] at q9
            have k09 := (k07.trans (l8.kp _)).trans k9
            have k69 := (k67.trans (l8.kp _)).trans k9
            have i5 := k69 _ _ f5 n5
            obtain ⟨dB, hdB⟩ : ∃ dB, dB = backD ⟨dT, dW, aH, aW⟩ zv := ⟨_, rfl⟩
            have hq9 : Cst h9 c tb wb ct cw dB.tabs (Wf dB.works) dB.holds dB.waits e := by rw [hdB]; exact q9
            rw [← hdB] at hb5
            generalize eu : A .icm .eql zv hs = u
            have fu := eu
            rw [icm_eql A] at eu
            rw [eu] at hb5
            cbv
            refine ldb i5 rfl rfl ?_
            cbv
            rw [fu]
            cases u with
            | true =>
              have hb5 : ((dB, 17) : DB × Int) = D := hb5
              subst hb5
              have hfin := hk h9 k09 hq9
              cbv
              exact hfin
            | false =>
              have hb5 : holdL f dB ⟨hs, ht, hx⟩ = D := hb5
              have hI2 : I f h9 := by
                have hw1 := wout_len aW zv
                have hbH : dB.holds = wout aH zv := by rw [hdB]; rfl
                have hbW : dB.waits = wout aW zv := by rw [hdB]; rfl
                have hbT : RowsB dB.tabs := by rw [hdB]; exact backK_rows hb4 _ _
                have hw2 : (wout (wout aW zv) hs).length ≤ L0 := by
                  rw [wout_comm]
                  have := wout_len (wout aW hs) zv
                  omega
                rw [hI0]
                rw [haH] at hvh hbH
                exact ⟨dB, by rw [hbH]; omega, by rw [hbH]; omega, by rw [hbW]; omega, by rw [hbW]; exact hw2, hbT, hb5, k69, hq9⟩
              cbv
              refine ⟨f, (), by omega, ⟨?_, ?_, ?_⟩, hI2⟩
              · cbv
              · cbv
              · cbv
end Go.S

set_option maxRecDepth 100000
set_option maxHeartbeats 4000000
set_option linter.unusedVariables false
set_option linter.unusedSimpArgs false
namespace Go.S
open Go.Sx Go.Proofs

/-! What states of sessions keep. -/
structure Okd (n : Nat) (d : DB) : Prop where
  tabs : d.tabs.length ≤ 2 ^ 30
  srt : d.works.Pairwise (fun a b => a.s < b.s)
  rng : ∀ w ∈ d.works, 0 ≤ w.s ∧ w.s < 8
  rows : RowsB d.tabs
  holds : d.holds.length ≤ n
  waits : d.waits.length ≤ n
  hrng : ∀ x ∈ d.holds, 0 ≤ x.s ∧ x.s < 8

theorem Okd.le {n m : Nat} {d : DB} (o : Okd n d) (h : n ≤ m) : Okd m d := ⟨o.tabs, o.srt, o.rng, o.rows, Nat.le_trans o.holds h, Nat.le_trans o.waits h, o.hrng⟩
theorem sorted_len : ∀ {l : List Wrk} {a : Int}, l.Pairwise (fun a b => a.s < b.s) → (∀ w ∈ l, a ≤ w.s ∧ w.s < 8) → (l.length : Int) ≤ max 0 (8 - a)
  | [], a, _, _ => by simp; omega
  | x :: r, a, hs, hr => by
    have h1 := hr x (by simp)
    have hlt : ∀ w ∈ r, x.s < w.s := fun w hw => List.rel_of_pairwise_cons hs hw
    have := sorted_len (a := x.s + 1) (List.Pairwise.of_cons hs) (fun w hw => ⟨by have := hlt w hw; omega, (hr w (List.mem_cons_of_mem _ hw)).2⟩)
    simp only [List.length_cons]
    omega
theorem Okd.wlen {n : Nat} {d : DB} (o : Okd n d) : d.works.length ≤ 8 := by
  have := sorted_len o.srt o.rng
  omega
theorem Okd.small {n : Nat} {d : DB} (o : Okd n d) (hn : n < 2 ^ 18) : Small d := by
  have := o.wlen
  have := o.tabs
  have := o.holds
  have := o.waits
  exact ⟨by omega, by omega, fun t ht => by have := o.rows t ht; omega, by omega, by omega⟩

theorem wrap_zero {x : Int} (h1 : -2 ^ 64 < x) (h2 : x < 2 ^ 64) (h : IntKind.i64.wrap x = 0) : x = 0 := by
  have hs : IntKind.i64.signed = true := rfl
  simp only [IntKind.wrap, IntKind.bits, hs] at h
  simp at h
  split at h <;> omega

theorem undo1_S (T : List Tbl) (x : Chg) : (undo1 T x).map (·.S) = T.map (·.S) := by
  have hp : ∀ t r, (tblPut t r).1.S = t.S := fun t r => by
    unfold tblPut
    repeat' split
    all_goals rfl
  have ht : ∀ t k, (tblTake t k).1.S = t.S := fun t k => by
    unfold tblTake
    split <;> rfl
  have key : ∀ (i : Nat) (t t' : Tbl), T[i]? = some t → t'.S = t.S → (T.set i t').map (·.S) = T.map (·.S) := fun i t t' hi hS => by
    rw [List.map_set, hS]
    apply List.ext_getElem?
    intro j
    rw [List.getElem?_set]
    split
    · rename_i e
      subst e
      split
      · rw [List.getElem?_map, hi]; rfl
      · rename_i h1
        rw [List.getElem?_eq_none (by omega)]
    · rfl
  unfold undo1
  split
  · split
    · rename_i t hi
      split
      · exact key _ _ _ hi (hp _ _)
      · split
        · exact key _ _ _ hi (ht _ _)
        · rfl
    · rfl
  · rfl
theorem undoL_S (T : List Tbl) : ∀ l, (undoL T l).map (·.S) = T.map (·.S)
  | [] => rfl
  | x :: r => (undo1_S _ _).trans (undoL_S T r)
theorem backK_S (T : List Tbl) (ws : List Wrk) (s : Int) : (backK T ws s).map (·.S) = T.map (·.S) := by
  unfold backK
  split
  · split
    · exact undoL_S _ _
    · rfl
  · rfl
theorem tabCmps_S {T T' : List Tbl} (h : T'.map (·.S) = T.map (·.S)) (nm : ByteArray) : tabCmps T' nm = tabCmps T nm := by
  have e : ∀ T : List Tbl, tabCmps T nm = (T.map (·.S)).map (fun s => cmpB s.name nm) := fun T => by simp [tabCmps, Function.comp_def]
  rw [e, e, h]
theorem S_len {T T' : List Tbl} (h : T'.map (·.S) = T.map (·.S)) : T'.length = T.length := by
  have := congrArg List.length h
  simpa using this

/-- The place of a session, where they are sorted. -/
theorem bs_at (l : List Int) (p : Nat) (hp : p < l.length) (h0 : l.getD p 0 = 0) (hlt : ∀ i, i < p → l.getD i 0 < 0) (hgt : ∀ i, p < i → i < l.length → l.getD i 0 > 0) : bsI l = p ∧ bsB l = true := by
  have h1 : bsI l = p := bsAt_eq l p hlt 0 l.length (fun k h1 h2 => by
    rcases Nat.lt_or_ge p k with h3 | h3
    · have := hgt k h3 h2; omega
    · have : k = p := by omega
      rw [this, h0]; omega) (Nat.zero_le _) (Nat.le_of_lt hp)
  exact ⟨h1, by unfold bsB; rw [h1]; exact decide_eq_true ⟨hp, h0⟩⟩
theorem wrkC_get {ws : List Wrk} {s : Int} {i : Nat} {w : Wrk} (h : ws[i]? = some w) : (wrkC ws s).getD i 0 = IntKind.i64.wrap (w.s - s) := by
  rw [List.getD_eq_getElem?_getD]; unfold wrkC; rw [List.getElem?_map, h]; rfl
theorem work_at {ws : List Wrk} (hs : ws.Pairwise (fun a b => a.s < b.s)) (hr : ∀ w ∈ ws, 0 ≤ w.s ∧ w.s < 8) {i : Nat} {w : Wrk} (hi : ws[i]? = some w) : bsI (wrkC ws w.s) = i ∧ bsB (wrkC ws w.s) = true := by
  have hil := (List.getElem?_eq_some_iff.1 hi).1
  have hw := hr w (List.mem_of_getElem? hi)
  have hl : (wrkC ws w.s).length = ws.length := by simp [wrkC]
  have get : ∀ j, j < ws.length → ∃ x, ws[j]? = some x ∧ (wrkC ws w.s).getD j 0 = x.s - w.s ∧ (j < i → x.s < w.s) ∧ (i < j → w.s < x.s) := fun j hj => by
    obtain ⟨x, hx⟩ := get_ex hj
    have hxr := hr x (List.mem_of_getElem? hx)
    refine ⟨x, hx, ?_, fun h => ?_, fun h => ?_⟩
    · rw [wrkC_get hx, IntWalk.i64_in _ (by omega)]
    · have := List.pairwise_iff_getElem.1 hs j i hj hil h
      rw [(List.getElem?_eq_some_iff.1 hx).2, (List.getElem?_eq_some_iff.1 hi).2] at this
      exact this
    · have := List.pairwise_iff_getElem.1 hs i j hil hj h
      rw [(List.getElem?_eq_some_iff.1 hx).2, (List.getElem?_eq_some_iff.1 hi).2] at this
      exact this
  refine bs_at _ i (by rw [hl]; exact hil) ?_ (fun j hj => ?_) (fun j hj hj2 => ?_)
  · obtain ⟨x, hx, h1, -, -⟩ := get i hil
    rw [hi] at hx; cases hx
    rw [h1]; omega
  · obtain ⟨x, hx, h1, h2, -⟩ := get j (by omega)
    have := h2 hj
    rw [h1]; omega
  · obtain ⟨x, hx, h1, -, h2⟩ := get j (by rw [← hl]; exact hj2)
    have := h2 hj
    rw [h1]; omega
theorem work_in {ws : List Wrk} (hr : ∀ w ∈ ws, 0 ≤ w.s ∧ w.s < 8) {s : Int} (hsr : -2 ^ 63 ≤ s ∧ s < 2 ^ 63) (h : bsB (wrkC ws s) = true) : ∃ w, ws[bsI (wrkC ws s)]? = some w ∧ w.s = s := by
  have h' := of_decide_eq_true h
  obtain ⟨h1, h2⟩ := h'
  have hl : bsI (wrkC ws s) < ws.length := by simpa [wrkC] using h1
  obtain ⟨w, hw⟩ := get_ex hl
  have hwr := hr w (List.mem_of_getElem? hw)
  rw [wrkC_get hw] at h2
  have := wrap_zero (by omega) (by omega) h2
  exact ⟨w, hw, by omega⟩
theorem work_iff {ws : List Wrk} (hs : ws.Pairwise (fun a b => a.s < b.s)) (hr : ∀ w ∈ ws, 0 ≤ w.s ∧ w.s < 8) {s : Int} (hsr : -2 ^ 63 ≤ s ∧ s < 2 ^ 63) : bsB (wrkC ws s) = true ↔ ∃ w ∈ ws, w.s = s := by
  constructor
  · intro h
    obtain ⟨w, hw, he⟩ := work_in hr hsr h
    exact ⟨w, List.mem_of_getElem? hw, he⟩
  · rintro ⟨w, hw, rfl⟩
    obtain ⟨i, hi, he⟩ := List.getElem_of_mem hw
    exact (work_at hs hr (i := i) (by rw [List.getElem?_eq_getElem hi, he])).2

theorem endK_sub (ws : List Wrk) (s : Int) : (endK ws s).Sublist ws := by
  unfold endK
  split
  · exact List.eraseIdx_sublist _ _
  · exact List.Sublist.refl _
/-- Others that are taken back leave a session at work. -/
theorem endK_keep {ws : List Wrk} (hs : ws.Pairwise (fun a b => a.s < b.s)) (hr : ∀ w ∈ ws, 0 ≤ w.s ∧ w.s < 8) {v : Int} (hv : -2 ^ 63 ≤ v ∧ v < 2 ^ 63) {w : Wrk} (hw : w ∈ ws) (hne : w.s ≠ v) : w ∈ endK ws v := by
  unfold endK
  split
  · rename_i h
    obtain ⟨x, hx, he⟩ := work_in hr hv h
    obtain ⟨j, hj, hje⟩ := List.getElem_of_mem hw
    rw [List.mem_eraseIdx_iff_getElem]
    refine ⟨j, hj, fun e => ?_, hje⟩
    rw [← e, List.getElem?_eq_getElem hj, hje] at hx
    cases hx
    exact hne he
  · exact hw

theorem victim_s {H W : List Hld} {s : Int} (h : (victim (edges H W) s).2 = true) : ∃ x ∈ H, x.s = (victim (edges H W) s).1 := by
  have hv := (victim_vic (edges H W) s).out
  rcases hv with ⟨h1, -⟩ | ⟨-, h2, -, h4, -⟩
  · rw [h] at h1; cases h1
  · refine edges_hold (W := W) ?_
    rcases h4 with h4 | ⟨h4, -⟩
    · rw [h4]; exact over_in h2
    · exact over_in h4

/-- What a hold keeps. -/
structure HoldOk (n : Nat) (d : DB) (hd : Hld) (D : DB × Int) : Prop where
  S : D.1.tabs.map (·.S) = d.tabs.map (·.S)
  ok : Okd (n + 1) D.1
  own : D.2 = 0 → ∀ w ∈ d.works, w.s = hd.s → w ∈ D.1.works
  sub : D.1.works.Sublist d.works

def HoldsR (d : DB) : Prop := ∀ x ∈ d.holds, 0 ≤ x.s ∧ x.s < 8
theorem askH_rng {H : List Hld} {hd : Hld} (h : ∀ x ∈ H, 0 ≤ x.s ∧ x.s < 8) (hs : 0 ≤ hd.s ∧ hd.s < 8) : ∀ x ∈ askH H hd, 0 ≤ x.s ∧ x.s < 8 := fun x hx => by
  unfold askH at hx
  repeat' split at hx
  · exact h x hx
  · rcases List.mem_or_eq_of_mem_set hx with h1 | h1
    · exact h x h1
    · rw [h1]; exact hs
  · rcases List.mem_append.1 hx with h1 | h1
    · exact h x h1
    · simp at h1; rw [h1]; exact hs
  · exact h x hx

theorem holdL_ok (n : Nat) (hd : Hld) (hs : 0 ≤ hd.s ∧ hd.s < 8) : ∀ (f : Nat) (d : DB), d.holds.length < f → d.tabs.length ≤ 2 ^ 30 → d.works.Pairwise (fun a b => a.s < b.s) → (∀ w ∈ d.works, 0 ≤ w.s ∧ w.s < 8) → RowsB d.tabs → d.holds.length ≤ n → (wout d.waits hd.s).length ≤ n → HoldsR d →
    HoldOk n d hd (holdL f d hd)
  | 0, d, hf, _, _, _, _, _, _, _ => by omega
  | f + 1, d, hf, h1, h2, h3, h4, h5, h6, h7 => by
    have l1 := askH_len (H := d.holds) (hd := hd)
    have l2 := askW_len2 (H := d.holds) (W := d.waits) (hd := hd)
    have l3 := wout_askW (H := d.holds) (W := d.waits) (hd := hd)
    unfold holdL
    by_cases hfree : askFree d.holds hd = true
    · rw [if_pos hfree]
      exact ⟨rfl, ⟨h1, h2, h3, h4, by show (askH _ _).length ≤ _; omega, by show (askW _ _ _).length ≤ _; omega, askH_rng h7 hs⟩, fun _ w hw _ => hw, List.Sublist.refl _⟩
    · rw [if_neg hfree]
      have hH : askH d.holds hd = d.holds := by unfold askH; rw [if_neg hfree]
      by_cases hvic : (victim (edges (askH d.holds hd) (askW d.holds d.waits hd)) hd.s).2 = true
      · rw [if_pos hvic]
        have hvs := victim_s hvic
        have hvh := victim_hold hvic
        have hvr : -2 ^ 63 ≤ (victim (edges (askH d.holds hd) (askW d.holds d.waits hd)) hd.s).1 ∧ (victim (edges (askH d.holds hd) (askW d.holds d.waits hd)) hd.s).1 < 2 ^ 63 := by
          obtain ⟨x, hx, he⟩ := hvs
          rw [hH] at hx
          rw [← he]
          have := h7 x hx
          omega
        generalize (victim (edges (askH d.holds hd) (askW d.holds d.waits hd)) hd.s).1 = v at *
        have hwl := wout_len (askW d.holds d.waits hd) v
        have hw2 : (wout (wout (askW d.holds d.waits hd) v) hd.s).length ≤ n := by
          rw [wout_comm]
          have := wout_len (wout (askW d.holds d.waits hd) hd.s) v
          omega
        have hbS : (backD ⟨d.tabs, d.works, askH d.holds hd, askW d.holds d.waits hd⟩ v).tabs.map (·.S) = d.tabs.map (·.S) := backK_S _ _ _
        have hbl : (backD ⟨d.tabs, d.works, askH d.holds hd, askW d.holds d.waits hd⟩ v).holds.length < d.holds.length := by show (wout (askH d.holds hd) v).length < _; rw [hH] at hvh ⊢; exact hvh
        have hsub : (backD ⟨d.tabs, d.works, askH d.holds hd, askW d.holds d.waits hd⟩ v).works.Sublist d.works := endK_sub _ _
        by_cases hvv : v = hd.s
        · rw [if_pos (decide_eq_true hvv)]
          exact ⟨hbS, ⟨by rw [S_len hbS]; exact h1, h2.sublist hsub, fun w hw => h3 w (hsub.subset hw), backK_rows h4 _ _, Nat.le_trans (Nat.le_of_lt hbl) (by omega), Nat.le_trans hwl (by omega), fun x hx => askH_rng h7 hs x (List.mem_filter.1 hx).1⟩, (fun e => by cases e), hsub⟩
        · rw [if_neg (by simpa using hvv)]
          have ih := holdL_ok n hd hs f (backD ⟨d.tabs, d.works, askH d.holds hd, askW d.holds d.waits hd⟩ v) (by omega) (by rw [S_len hbS]; exact h1) (h2.sublist hsub) (fun w hw => h3 w (hsub.subset hw)) (backK_rows h4 _ _) (by omega) hw2
            (fun x hx => h7 x (by
              have hx : x ∈ wout (askH d.holds hd) v := hx
              rw [hH] at hx
              exact (List.mem_filter.1 hx).1))
          refine ⟨ih.S.trans hbS, ih.ok, fun e w hw hws => ih.own e w ?_ hws, ih.sub.trans hsub⟩
          exact endK_keep h2 h3 hvr hw (by rw [hws]; exact fun e => hvv e.symm)
      · rw [if_neg hvic]
        exact ⟨rfl, ⟨h1, h2, h3, h4, by show (askH _ _).length ≤ _; omega, by show (askW _ _ _).length ≤ _; omega, askH_rng h7 hs⟩, fun _ w hw _ => hw, List.Sublist.refl _⟩

theorem holdF_ok {n : Nat} {d : DB} (o : Okd n d) (hd : Hld) (hs : -2 ^ 63 ≤ hd.s ∧ hd.s < 2 ^ 63) : HoldOk n d hd (holdF d hd) := by
  unfold holdF
  by_cases hon : onD d hd = true
  · rw [if_pos hon]
    unfold onD at hon
    rw [Bool.and_eq_true] at hon
    obtain ⟨w, hw, he⟩ := (work_iff o.srt o.rng hs).1 hon.1
    have := o.rng w hw
    exact holdL_ok n hd (by omega) _ d (by omega) o.tabs o.srt o.rng o.rows o.holds (Nat.le_trans (wout_len _ _) o.waits) o.hrng
  · rw [if_neg hon]
    exact ⟨rfl, o.le (by omega), (fun e => by cases e), List.Sublist.refl _⟩
/-- Where a hold is granted the session and the table are there. -/
theorem holdF_on {n : Nat} {d : DB} (o : Okd n d) {hd : Hld} (hs : -2 ^ 63 ≤ hd.s ∧ hd.s < 2 ^ 63) (h0 : (holdF d hd).2 = 0) :
    bsB (tabCmps (holdF d hd).1.tabs hd.table) = true ∧ bsB (wrkC (holdF d hd).1.works hd.s) = true := by
  have hk := holdF_ok o hd hs
  have hon : onD d hd = true := by
    cases h : onD d hd with
    | true => rfl
    | false => unfold holdF at h0; rw [h] at h0; cases h0
  unfold onD at hon
  rw [Bool.and_eq_true] at hon
  refine ⟨by rw [tabCmps_S hk.S]; exact hon.2, ?_⟩
  obtain ⟨w, hw, he⟩ := (work_iff o.srt o.rng hs).1 hon.1
  exact (work_iff hk.ok.srt hk.ok.rng hs).2 ⟨w, hk.own h0 w hw he, he⟩
end Go.S

