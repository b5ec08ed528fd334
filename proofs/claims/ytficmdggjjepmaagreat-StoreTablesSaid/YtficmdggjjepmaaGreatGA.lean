import Derived.Test.YtficmdggjjepmaaGreatEC
import Derived.Test.YtficmdggjjepmaaGreatRd
set_option linter.all false
set_option maxRecDepth 100000
set_option maxHeartbeats 8000000
namespace Go.S
open Go.Sx Go.Proofs

theorem delete67 {xs : List Tbl} {h : Heap} {nb n cap : Nat} (o : Own 100 shTbl h nb cap xs) (hn : n = xs.length) {z w : Int} {i : Nat} (hz : IsN z i) (hw : IsN w (i + 1)) (hi : i < n) {k : Value → Heap → Prop}
    (hk : ∀ h' m, m = n - 1 → Kp [nb] h h' → (∀ tys, 100 ∉ tys → LeT tys h h') → Own 100 shTbl h' nb cap (xs.eraseIdx i) → k (.slice (some ⟨nb, 0, none⟩) m cap) h') :
    Ct 151 [.slice (some ⟨nb, 0, none⟩) n cap, .int .i64 z, .int .i64 w] h k := by
  obtain ⟨A, hA⟩ := Ar.ex
  have hle := o.le
  have hbd := o.bd
  have hze := hz.eq
  have hwe := hw.eq
  have hnN : A .nat n = (n : Int) := by rw [hA.nat]; rfl
  have e1 : A .icm .eql z w = false := by rw [icm_eql A]; exact decide_eq_false (by omega)
  have q : Sl 100 shTbl h (.slice (some ⟨nb, 0, none⟩) n cap) xs := o.sl hn
  have hck1 : 0 ≤ A .nat n ∧ A .nat n ≤ (cap : Int) ∧ 0 ≤ w ∧ w ≤ A .nat n ∧ 0 ≤ z ∧ z ≤ w := by rw [hnN]; omega
  have hck2 : 0 ≤ z ∧ z ≤ (cap : Int) := by omega
  have hck3 : 0 ≤ w ∧ w ≤ (n : Int) := by omega
  have hck4 : ∀ m, m = n - 1 → 0 ≤ A .nat n ∧ A .nat n ≤ (cap : Int) ∧ 0 ≤ A .nat m ∧ A .nat m ≤ A .nat n := fun m hm => by
    have hnm : A .nat m = (m : Int) := by rw [hA.nat]; rfl
    rw [hnN, hnm]; omega
  have hdr := q.dropX (A := A) hw (by omega) rfl rfl
  have hd1 := dif_z0 (A := A) hz
  have hd2 := dif_nz (A := A) (n := n) hw
  have hd3 := dif_nz (A := A) (n := cap) hw
  refine fn_of_sx A (tabOk T151.plan T151.pub) Tryz.func151 rfl (by kernel_rfl) ?_
  cbv
  refine ⟨hck1, ?_⟩
  cbv
  rw [e1]
  cbv
  refine ⟨hck2, ?_⟩
  cbv
  refine ⟨hck3, ?_⟩
  cbv
  rw [cut0_own (A := A), hd1, hd2]
  refine o.appendIn (by decide) (i := i) (by omega) hdr (by omega) (by omega) rfl (fun h1 m hm k1 t1 o1 => ?_)
  have hmn : m = n - 1 := by omega
  have o2 := o1.shrink (n - 1)
  have heq : (xs.take i ++ xs.drop (i + 1) ++ xs.drop (i + (n - (i + 1)))).take (n - 1) = xs.eraseIdx i := by rw [hn]; exact erase_eq (by omega)
  rw [heq] at o2
  clear o1 heq hm
  have hel : (xs.eraseIdx i).length = n - 1 := by rw [List.length_eraseIdx_of_lt (by omega)]; omega
  have hck4 := hck4 m hmn
  have hd4 : A .dif (A .nat n) (A .nat m) = 1 := by rw [dif_nz (A := A) (IsN.nat m)]; omega
  cbv
  refine ⟨hck4, ?_⟩
  cbv
  rw [cut_own (A := A) (IsN.nat m) (by omega), hd4]
  refine o2.clearX (by decide) rfl rfl (p := m) (by omega) (by omega) (fun h2 k2 t2 o3 => ?_)
  have hfin := hk h2 m hmn (k1.trans k2) (fun tys hh => (t1 tys hh).trans (t2 tys hh)) o3
  cbv
  exact hfin
end Go.S

set_option maxRecDepth 100000
set_option maxHeartbeats 8000000
namespace Go.S
open Go.Sx Go.Proofs

theorem table46K {h : Heap} {c tb wb ct cw : Nat} {T : List Tbl} {W : List (Wrk × Bool)} {H Wt : List Hld} {e : Int} (q : Cst h c tb wb ct cw T W H Wt e) (name : ByteArray) {k : Value → Heap → Prop}
    (hk : ∀ h' z t, Le h h' → IsN z (bsI (tabCmps T name)) → t = bsB (tabCmps T name) → k (.tuple #[.int .i64 z, .bool t]) h') : Ct 141 [.pointer (some ⟨c, 0, none⟩), .string name] h k :=
  (table46 q name).mono (fun v h' hR => by
    obtain ⟨l, z, t, hv, hb⟩ := hR
    obtain ⟨h1, h2⟩ := hb.at_
    rw [hv]
    exact hk h' z t l h1 h2)
def endW (W : List (Wrk × Bool)) (s : Int) : List (Wrk × Bool) := if bsB (wrkCmps W s) = true then W.eraseIdx (bsI (wrkCmps W s)) else W

end Go.S

set_option maxRecDepth 100000
set_option maxHeartbeats 8000000
namespace Go.S
open Go.Sx Go.Proofs

/-- One less. -/
structure IsM (z : Int) (i : Nat) : Prop where
  eq : z = (i : Int) - 1
abbrev Yd (l : Nat) (args : List Value) (h : Heap) (R : Value → Heap → Prop) : Prop := YdX (fun _ => Tryz.prog) l args h R

end Go.S

set_option maxRecDepth 100000
set_option maxHeartbeats 8000000
namespace Go.S
open Go.Sx Go.Proofs

def valAt (r : Row) (key : Int) : Val := (r[key.toNat]?).getD ⟨0, 0, noName⟩
/-- One change taken back. -/
def undo1 (T : List Tbl) (x : Chg) : List Tbl :=
  if bsB (tabCmps T x.table) = true then
    match T[bsI (tabCmps T x.table)]? with
    | some t => if decide (x.op = 2) = true then T.set (bsI (tabCmps T x.table)) (tblPut t x.row).1
      else if (decide (t.S.key ≥ 0) && decide (t.S.key < (x.row.length : Int))) = true then T.set (bsI (tabCmps T x.table)) (tblTake t (valAt x.row t.S.key)).1 else T
    | none => T
  else T
def undoL (T : List Tbl) (l : List Chg) : List Tbl := l.foldr (fun x T => undo1 T x) T
def undoN (n : Int) (len : Nat) : Nat := min n.toNat len
def RowsB (T : List Tbl) : Prop := ∀ t ∈ T, t.rows.length ≤ 2 ^ 36

end Go.S

set_option maxRecDepth 100000
set_option maxHeartbeats 8000000
namespace Go.S
open Go.Sx Go.Proofs

def backT (T : List Tbl) (W : List (Wrk × Bool)) (s : Int) : List Tbl :=
  if bsB (wrkCmps W s) = true then match W[bsI (wrkCmps W s)]? with
    | some w => undoL T w.1.log
    | none => T
  else T

end Go.S

set_option maxRecDepth 100000
set_option maxHeartbeats 8000000
namespace Go.S
open Go.Sx Go.Proofs

def Wf (ws : List Wrk) : List (Wrk × Bool) := ws.map fun w => (w, true)
def endK (ws : List Wrk) (s : Int) : List Wrk := if bsB (wrkC ws s) = true then ws.eraseIdx (bsI (wrkC ws s)) else ws
def backK (T : List Tbl) (ws : List Wrk) (s : Int) : List Tbl :=
  if bsB (wrkC ws s) = true then match ws[bsI (wrkC ws s)]? with
    | some w => undoL T w.log
    | none => T
  else T
/-- A session taken back. -/
def backD (d : DB) (s : Int) : DB := ⟨backK d.tabs d.works s, endK d.works s, wout d.holds s, wout d.waits s⟩
def holdL : Nat → DB → Hld → DB × Int
  | 0, d, _ => (d, 16)
  | f + 1, d, hd =>
    if askFree d.holds hd = true then (⟨d.tabs, d.works, askH d.holds hd, askW d.holds d.waits hd⟩, 0)
    else if (victim (edges (askH d.holds hd) (askW d.holds d.waits hd)) hd.s).2 = true then
      if decide ((victim (edges (askH d.holds hd) (askW d.holds d.waits hd)) hd.s).1 = hd.s) = true then (backD ⟨d.tabs, d.works, askH d.holds hd, askW d.holds d.waits hd⟩ (victim (edges (askH d.holds hd) (askW d.holds d.waits hd)) hd.s).1, 17)
      else holdL f (backD ⟨d.tabs, d.works, askH d.holds hd, askW d.holds d.waits hd⟩ (victim (edges (askH d.holds hd) (askW d.holds d.waits hd)) hd.s).1) hd
    else (⟨d.tabs, d.works, askH d.holds hd, askW d.holds d.waits hd⟩, 16)
def holdF (d : DB) (hd : Hld) : DB × Int := if onD d hd = true then holdL (d.holds.length + 1) d hd else (d, 2)

end Go.S

set_option maxRecDepth 100000
set_option maxHeartbeats 4000000
namespace Go.S
open Go.Sx Go.Proofs

/-! What states of sessions keep. -/
structure Okd (n : Nat) (d : DB) : Prop where
  tabs : d.tabs.length ≤ 2 ^ 30
  srt : d.works.Pairwise (fun a b => a.s < b.s)
  rng : ∀ w ∈ d.works, 0 ≤ w.s ∧ w.s < 8
  rows : RowsB d.tabs
  holds : d.holds.length ≤ n
  waits : d.waits.length ≤ n
  hrng : ∀ x ∈ d.holds, 0 ≤ x.s ∧ x.s < 8

/-- The place of a session, where they are sorted. -/
theorem bs_at (l : List Int) (p : Nat) (hp : p < l.length) (h0 : l.getD p 0 = 0) (hlt : ∀ i, i < p → l.getD i 0 < 0) (hgt : ∀ i, p < i → i < l.length → l.getD i 0 > 0) : bsI l = p ∧ bsB l = true := by
  have h1 : bsI l = p := bsAt_eq l p hlt 0 l.length (fun k h1 h2 => by
    rcases Nat.lt_or_ge p k with h3 | h3
    · have := hgt k h3 h2; omega
    · have : k = p := by omega
      rw [this, h0]; omega) (Nat.zero_le _) (Nat.le_of_lt hp)
  exact ⟨h1, by unfold bsB; rw [h1]; exact decide_eq_true ⟨hp, h0⟩⟩
/-- What a hold keeps. -/
structure HoldOk (n : Nat) (d : DB) (hd : Hld) (D : DB × Int) : Prop where
  S : D.1.tabs.map (·.S) = d.tabs.map (·.S)
  ok : Okd (n + 1) D.1
  own : D.2 = 0 → ∀ w ∈ d.works, w.s = hd.s → w ∈ D.1.works
  sub : D.1.works.Sublist d.works

def HoldsR (d : DB) : Prop := ∀ x ∈ d.holds, 0 ≤ x.s ∧ x.s < 8
end Go.S

