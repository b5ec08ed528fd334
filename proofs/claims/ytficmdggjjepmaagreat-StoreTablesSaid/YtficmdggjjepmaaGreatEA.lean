import Derived.Test.YtficmdggjjepmaaGreatDB
import Derived.Test.YtficmdggjjepmaaGreatRd
set_option linter.all false
set_option maxRecDepth 100000
namespace Go.S
open Go.Sx Go.Proofs

theorem cloneB104 {xs : List Hld} {h : Heap} {b : Option Addr} {len cap : Nat} (q : Sl 316 shHld h (.slice b len cap) xs) :
    Ct 155 [.slice b len cap] h (fun v h' => Le h h' ∧ ∃ b' cap', v = .slice b' len cap' ∧ Buf 316 shHld h h' (.slice b' len cap') xs) := by
  obtain ⟨A, hA⟩ := Ar.ex
  refine fn_of_sx A (tabOk T155.plan T155.pub) Tryz.func155 rfl (by kernel_rfl) ?_
  cbv
  refine bsel_mk (fun hc => ?_) (fun hc => ?_)
  · rw [hA.isn] at hc
    cbv
    have hb : b = none := by cases b <;> simp at hc ⊢
    subst hb
    have hl : len = 0 := by
      rcases Nat.eq_zero_or_pos len with e | e
      · exact e
      · have := q.isSm e; cases this
    have := q.len
    have hx : xs = [] := List.eq_nil_of_length_eq_zero (by omega)
    subst hx hl
    exact ⟨Le.refl _, none, 0, rfl, Buf.nil⟩
  · cbv
    intro n0 h1 hn0 hh1
    have hle : Le h h1 := by rw [hh1]; exact Le.set hn0
    cbv
    refine append_new (q.mono (hle.t _)) (by simp [shHld]) rfl (by decide) (fun hn => ?_) (fun nb c h2 e1 e2 e3 e4 => ?_)
    · cbv
      have := q.len
      have hx : xs = [] := List.eq_nil_of_length_eq_zero (by omega)
      subst hx hn
      exact ⟨hle, _, _, rfl, Buf.nil⟩
    · cbv
      exact ⟨hle.trans e3, _, _, rfl, e4.buf (hle.none e1) q.len⟩

theorem cloneB107 {xs : List Col} {h : Heap} {b : Option Addr} {len cap : Nat} (q : Sl 58 shCol h (.slice b len cap) xs) :
    Ct 201 [.slice b len cap] h (fun v h' => Le h h' ∧ ∃ b' cap', v = .slice b' len cap' ∧ Buf 58 shCol h h' (.slice b' len cap') xs) := by
  obtain ⟨A, hA⟩ := Ar.ex
  refine fn_of_sx A (tabOk T201.plan T201.pub) Tryz.func201 rfl (by kernel_rfl) ?_
  cbv
  refine bsel_mk (fun hc => ?_) (fun hc => ?_)
  · rw [hA.isn] at hc
    cbv
    have hb : b = none := by cases b <;> simp at hc ⊢
    subst hb
    have hl : len = 0 := by
      rcases Nat.eq_zero_or_pos len with e | e
      · exact e
      · have := q.isSm e; cases this
    have := q.len
    have hx : xs = [] := List.eq_nil_of_length_eq_zero (by omega)
    subst hx hl
    exact ⟨Le.refl _, none, 0, rfl, Buf.nil⟩
  · cbv
    intro n0 h1 hn0 hh1
    have hle : Le h h1 := by rw [hh1]; exact Le.set hn0
    cbv
    refine append_new (q.mono (hle.t _)) (by simp [shCol]) rfl (by decide) (fun hn => ?_) (fun nb c h2 e1 e2 e3 e4 => ?_)
    · cbv
      have := q.len
      have hx : xs = [] := List.eq_nil_of_length_eq_zero (by omega)
      subst hx hn
      exact ⟨hle, _, _, rfl, Buf.nil⟩
    · cbv
      exact ⟨hle.trans e3, _, _, rfl, e4.buf (hle.none e1) q.len⟩

theorem cloneB122 {xs : List Val} {h : Heap} {b : Option Addr} {len cap : Nat} (q : Sl 87 shVal h (.slice b len cap) xs) :
    Ct 174 [.slice b len cap] h (fun v h' => Le h h' ∧ ∃ b' cap', v = .slice b' len cap' ∧ Buf 87 shVal h h' (.slice b' len cap') xs) := by
  obtain ⟨A, hA⟩ := Ar.ex
  refine fn_of_sx A (tabOk T174.plan T174.pub) Tryz.func174 rfl (by kernel_rfl) ?_
  cbv
  refine bsel_mk (fun hc => ?_) (fun hc => ?_)
  · rw [hA.isn] at hc
    cbv
    have hb : b = none := by cases b <;> simp at hc ⊢
    subst hb
    have hl : len = 0 := by
      rcases Nat.eq_zero_or_pos len with e | e
      · exact e
      · have := q.isSm e; cases this
    have := q.len
    have hx : xs = [] := List.eq_nil_of_length_eq_zero (by omega)
    subst hx hl
    exact ⟨Le.refl _, none, 0, rfl, Buf.nil⟩
  · cbv
    intro n0 h1 hn0 hh1
    have hle : Le h h1 := by rw [hh1]; exact Le.set hn0
    cbv
    refine append_new (q.mono (hle.t _)) (by simp [shVal]) rfl (by decide) (fun hn => ?_) (fun nb c h2 e1 e2 e3 e4 => ?_)
    · cbv
      have := q.len
      have hx : xs = [] := List.eq_nil_of_length_eq_zero (by omega)
      subst hx hn
      exact ⟨hle, _, _, rfl, Buf.nil⟩
    · cbv
      exact ⟨hle.trans e3, _, _, rfl, e4.buf (hle.none e1) q.len⟩

theorem cloneB146 {xs : List Mrk} {h : Heap} {b : Option Addr} {len cap : Nat} (q : Sl 213 shMrk h (.slice b len cap) xs) :
    Ct 256 [.slice b len cap] h (fun v h' => Le h h' ∧ ∃ b' cap', v = .slice b' len cap' ∧ Buf 213 shMrk h h' (.slice b' len cap') xs) := by
  obtain ⟨A, hA⟩ := Ar.ex
  refine fn_of_sx A (tabOk T256.plan T256.pub) Tryz.func256 rfl (by kernel_rfl) ?_
  cbv
  refine bsel_mk (fun hc => ?_) (fun hc => ?_)
  · rw [hA.isn] at hc
    cbv
    have hb : b = none := by cases b <;> simp at hc ⊢
    subst hb
    have hl : len = 0 := by
      rcases Nat.eq_zero_or_pos len with e | e
      · exact e
      · have := q.isSm e; cases this
    have := q.len
    have hx : xs = [] := List.eq_nil_of_length_eq_zero (by omega)
    subst hx hl
    exact ⟨Le.refl _, none, 0, rfl, Buf.nil⟩
  · cbv
    intro n0 h1 hn0 hh1
    have hle : Le h h1 := by rw [hh1]; exact Le.set hn0
    cbv
    refine append_new (q.mono (hle.t _)) (by simp [shMrk]) rfl (by decide) (fun hn => ?_) (fun nb c h2 e1 e2 e3 e4 => ?_)
    · cbv
      have := q.len
      have hx : xs = [] := List.eq_nil_of_length_eq_zero (by omega)
      subst hx hn
      exact ⟨hle, _, _, rfl, Buf.nil⟩
    · cbv
      exact ⟨hle.trans e3, _, _, rfl, e4.buf (hle.none e1) q.len⟩
end Go.S

set_option maxRecDepth 100000
namespace Go.S
open Go.Sx Go.Proofs

abbrev Hld.v (h : Hld) : Value := .agg #[.int .i64 h.s, .string h.table, .bool h.x]
def agst (a b : Hld) : Bool := decide (a.s ≠ b.s) && (decide (a.table = b.table) && (a.x || b.x))
def wout (l : List Hld) (s : Int) : List Hld := l.filter fun h => decide (h.s ≠ s)
def mineP (h o : Hld) : Bool := decide (o.s = h.s) && decide (o.table = h.table)

end Go.S

set_option maxRecDepth 100000
namespace Go.S
open Go.Sx Go.Proofs

end Go.S

set_option maxRecDepth 100000
namespace Go.S
open Go.Sx Go.Proofs

def shInt : Sh Int where
  n := 1
  R _ cs v := cs = [.int .i64 v]
  len := by rintro h cs x rfl; rfl
  one := by rintro h cs x rfl; rfl
  tys := []
  mono := fun _ q => q

def cmpI (a b : Int) : Int := if decide (a < b) = true then -1 else if decide (a > b) = true then 1 else 0
def firstNZ : List Int → Int
  | [] => 0
  | x :: r => if decide (x ≠ 0) = true then x else firstNZ r
def valCmp (a b : Val) : Int := firstNZ [cmpI a.k b.k, cmpI a.n b.n, cmpB a.s b.s]
def keyOf (key : Int) (r : Row) : Val := if (decide (key < 0) || decide (key ≥ (r.length : Int))) = true then ⟨0, 0, ⟨#[]⟩⟩ else (r[key.toNat]?).getD ⟨0, 0, ⟨#[]⟩⟩
abbrev Val.v (x : Val) : Value := .agg #[.int .i64 x.k, .int .i64 x.n, .string x.s]

end Go.S

set_option maxRecDepth 100000
namespace Go.S
open Go.Sx Go.Proofs

def bareV (v : Val) : Val := if decide (v.k = 3) = true then ⟨v.k, 0, v.s⟩ else if decide (v.k = 1) = true then ⟨v.k, v.n, ⟨#[]⟩⟩ else if decide (v.k = 2) = true then ⟨v.k, v.n, ⟨#[]⟩⟩ else ⟨v.k, 0, ⟨#[]⟩⟩
def sameV (a b : Val) : Bool := decide (a.k = b.k) && (decide (a.n = b.n) && decide (a.s = b.s))
def valErr (v : Val) : Int :=
  if (decide (v.k < 0) || decide (v.k > 3)) = true then 3
  else if (!sameV v (bareV v) || (decide (v.k = 1) && decide (v.n ≠ 0) && decide (v.n ≠ 1))) = true then 1
  else if decide ((v.s.size : Int) > 60) = true then 5 else 0

end Go.S

set_option maxRecDepth 100000
namespace Go.S
open Go.Sx Go.Proofs

theorem BsR.at_ {l : List Int} {z : Int} {t : Bool} (q : BsR l z t) : IsN z (bsI l) ∧ t = bsB l := by
  obtain ⟨i, h1, h2, h3⟩ := q.out
  subst h2
  exact ⟨h1, h3⟩

def fitErr1 (c : Col) (v : Val) : Int := if decide (valErr v ≠ 0) = true then valErr v else if (decide (v.k = 0) && !c.null) = true then 13 else if (decide (v.k ≠ 0) && decide (v.k ≠ c.kind)) = true then 3 else 0
def fitsErr (cols : List Col) (r : Row) : Int := if decide ((r.length : Int) ≠ (cols.length : Int)) = true then 1 else firstNZ (List.zipWith fitErr1 cols r)
def rowCmps (t : Tbl) (k : Val) : List Int := t.rows.map fun r => valCmp (keyOf t.S.key r) k
def tblIns (t : Tbl) (i : Nat) (r : Row) : Tbl := ⟨t.S, t.rows.take i ++ [r] ++ t.rows.drop i⟩
def tblDel (t : Tbl) (i : Nat) : Tbl := ⟨t.S, t.rows.take i ++ t.rows.drop (i + 1)⟩
def tblPut (t : Tbl) (r : Row) : Tbl × Int :=
  if decide (fitsErr t.S.cols r ≠ 0) = true then (t, fitsErr t.S.cols r)
  else if bsB (rowCmps t (keyOf t.S.key r)) = true then (t, 7)
  else if decide ((t.rows.length : Int) ≥ 200) = true then (t, 4)
  else (tblIns t (bsI (rowCmps t (keyOf t.S.key r))) r, 0)
def tblTake (t : Tbl) (k : Val) : Tbl × Row × Int :=
  if bsB (rowCmps t k) = true then (tblDel t (bsI (rowCmps t k)), (t.rows[bsI (rowCmps t k)]?).getD [], 0) else (t, [], 2)

end Go.S

set_option maxRecDepth 100000
namespace Go.S
open Go.Sx Go.Proofs

end Go.S

set_option maxRecDepth 100000
namespace Go.S
open Go.Sx Go.Proofs

end Go.S

set_option maxRecDepth 100000
namespace Go.S
open Go.Sx Go.Proofs

def sameH (a b : Hld) : Bool := decide (a.s = b.s) && (decide (a.table = b.table) && decide (a.x = b.x))
def mineI (H : List Hld) (hd : Hld) : Option Nat := H.findIdx? (mineP hd)
def askHas (H : List Hld) (hd : Hld) : Bool := match mineI H hd with
  | some i => (H[i]?).any fun o => o.x || sameH o hd
  | none => false
def askFree (H : List Hld) (hd : Hld) : Bool := askHas H hd || !(H.any (agst hd))
def askH (H : List Hld) (hd : Hld) : List Hld :=
  if askFree H hd = true then if askHas H hd = true then H else match mineI H hd with
    | some i => H.set i hd
    | none => H ++ [hd]
  else H
def askW (H W : List Hld) (hd : Hld) : List Hld := if askFree H hd = true then wout W hd.s else wout W hd.s ++ [hd]

end Go.S

