import Derived.Test.YtficmdggjjepmaaGreatEA
import Derived.Test.YtficmdggjjepmaaGreatRd
set_option linter.all false
set_option maxRecDepth 100000
namespace Go.S
open Go.Sx Go.Proofs

def edgesW (w : Hld) (H : List Hld) : List (Int × Int) := (H.filter (agst w)).map fun h => (w.s, h.s)
def edges (H W : List Hld) : List (Int × Int) := W.flatMap fun w => edgesW w H
def succs (E : List (Int × Int)) (a : Int) : List Int := (E.filter fun p => decide (p.1 = a)).map (·.2)
structure RgE where
  a : Int
  nb : Nat
  cap : Nat
/-- Who is held up by whom, as a map of slices that are its own. -/
structure Rg (h0 h : Heap) (m : Nat) (E : List (Int × Int)) : Prop where
  out : ∃ G : List RgE, Mp h m (.int .i64) (G.map fun g => (.int .i64 g.a, .slice (some ⟨g.nb, 0, none⟩) (succs E g.a).length g.cap)) ∧ (G.map (·.nb)).Nodup ∧ (∀ g ∈ G, h0 g.nb = none ∧ Own 3 shInt h g.nb g.cap (succs E g.a)) ∧ ∀ a, succs E a ≠ [] → ∃ g ∈ G, g.a = a

/-- Its own map without a block. -/
def hdel (h : Heap) (n : Nat) : Heap := fun b => if b = n then none else h b
/-- What an edge more is laid with. -/
structure Tk (h0 h : Heap) (m : Nat) (E : List (Int × Int)) (a : Int) (v : Value) : Prop where
  out : ∃ hb, Le h0 hb ∧ Le hb h ∧ Buf 3 shInt hb h v (succs E a) ∧
    ∀ h' v' x, Le hb h' → Buf 3 shInt hb h' v' (succs E a ++ [x]) → ∀ k : Value → Heap → Prop, (∀ h'', Rg h0 h'' m (E ++ [(a, x)]) → Kp [m] h' h'' → (∀ tys, LeT tys h' h'') → k undef h'') →
      SemX (fun _ => Tryz.prog) (fun _ => do Instr.mapUpdate 499 (.map (some m)) (.int .i64 a) v'; pure undef) h' k

end Go.S

set_option maxRecDepth 100000
namespace Go.S
open Go.Sx Go.Proofs

end Go.S

set_option maxRecDepth 100000
namespace Go.S
open Go.Sx Go.Proofs

/-! The plain part: who is reached. -/
def bfsAdd (st : List Int × List Int) (k : Int) : List Int × List Int := if decide (k ∈ st.1) = true then st else (st.1 ++ [k], st.2 ++ [k])
def bfs (E : List (Int × Int)) : Nat → List Int × List Int → List Int
  | 0, st => st.1
  | n + 1, st => match st.2 with
    | [] => st.1
    | a :: r => bfs E n ((succs E a).foldl bfsAdd (st.1, r))
def over (E : List (Int × Int)) (s : Int) : List Int := bfs E (E.length + 2) ([], [s])
def pot (E : List (Int × Int)) (seen : List Int) : Nat := (E.filter fun p => !decide (p.2 ∈ seen)).length

abbrev setM (l : List Int) : List (Value × Value) := l.map fun k => (.int .i64 k, .bool true)
end Go.S

set_option maxRecDepth 100000
namespace Go.S
open Go.Sx Go.Proofs

end Go.S

set_option maxRecDepth 100000
namespace Go.S
open Go.Sx Go.Proofs

/-- Who is to go. -/
structure Vic (E : List (Int × Int)) (s v : Int) (t : Bool) : Prop where
  out : (t = false ∧ v = 0 ∧ s ∉ over E s) ∨ (t = true ∧ s ∈ over E s ∧ s ≤ v ∧ (v = s ∨ (v ∈ over E s ∧ s ∈ over E v)) ∧ ∀ k ∈ over E s, s ∈ over E k → k ≤ v)
def vicMax (E : List (Int × Int)) (s : Int) (l : List Int) (m : Int) : Int := l.foldl (fun m k => if decide (k > m) && decide (s ∈ over E k) then k else m) m
def victim (E : List (Int × Int)) (s : Int) : Int × Bool := if decide (s ∈ over E s) = true then (vicMax E s (over E s) s, true) else (0, false)
end Go.S

set_option maxRecDepth 100000
namespace Go.S
open Go.Sx Go.Proofs

theorem Cst.elim {h : Heap} {c tb wb ct cw : Nat} {T : List Tbl} {W : List (Wrk × Bool)} {H Wt : List Hld} {e : Int} (q : Cst h c tb wb ct cw T W H Wt e) {p : Prop}
    (k : ∀ (n1 n2 : Nat) (b3 : Option Addr) (n3 c3 : Nat) (b4 : Option Addr) (n4 c4 : Nat) (o : Int), h c = some (.cells #[.slice (some ⟨tb, 0, none⟩) n1 ct, .slice (some ⟨wb, 0, none⟩) n2 cw, .slice b3 n3 c3, .slice b4 n4 c4, .int .u32 o, .int .i32 0, .int .u32 0, .int .i64 e] 226 (0, 0)) →
      ((o = 0 ∧ e = 0) ∨ (o = 1 ∧ e ≠ 0)) → n1 = T.length → Own 100 shTbl h tb ct T → n2 = W.length → Own 211 shWrkG h wb cw W → Sl 316 shHld h (.slice b3 n3 c3) H → Sl 316 shHld h (.slice b4 n4 c4) Wt →
      RDB h (.agg #[.slice (some ⟨tb, 0, none⟩) n1 ct, .slice (some ⟨wb, 0, none⟩) n2 cw, .slice b3 n3 c3, .slice b4 n4 c4]) ⟨T, W.map (·.1), H, Wt⟩ → p) : p := by
  obtain ⟨n1, n2, b3, n3, c3, b4, n4, c4, o, g0, g1, g2, g3, g4, g5, g6, g7⟩ := q.out
  exact k n1 n2 b3 n3 c3 b4 n4 c4 o g0 g1 g2 g3 g4 g5 g6 g7 ⟨_, _, _, _, _, _, _, _, _, _, _, _, W, rfl, g3.sl g2, g5.sl g4, g6, g7, rfl⟩

/-- 'own', for what goes on. -/
theorem own47K {d : DB} {h : Heap} {v : Value} (q : RDB h v d) {k : Value → Heap → Prop}
    (hk : ∀ h' b1 n1 c1 b2 n2 c2 b3 n3 c3 b4 n4 c4, Le h h' → RDB h' (.agg #[.slice b1 n1 c1, .slice b2 n2 c2, .slice b3 n3 c3, .slice b4 n4 c4]) d → k (.agg #[.slice b1 n1 c1, .slice b2 n2 c2, .slice b3 n3 c3, .slice b4 n4 c4]) h') : Ct 78 [v] h k :=
  (own47' q).mono (fun v h' hR => by
    obtain ⟨l, hd⟩ := hR
    obtain ⟨b1, n1, c1, b2, n2, c2, b3, n3, c3, b4, n4, c4, hv⟩ := hd.form
    rw [hv] at hd ⊢
    exact hk h' _ _ _ _ _ _ _ _ _ _ _ _ l hd)

/-- 'begun', for what goes on. -/
theorem begun43K {d : DB} {h : Heap} {v : Value} (q : RDB h v d) {k : Value → Heap → Prop}
    (hk : ∀ h' c tb wb ct cw W, Le h h' → h c = none → h tb = none → h wb = none → c ≠ tb → c ≠ wb → W = (d.works.map fun w => (w, true)) → ct = d.tabs.length → cw = W.length → Cst h' c tb wb ct cw d.tabs W d.holds d.waits 0 → k (.pointer (some ⟨c, 0, none⟩)) h') : Ct 76 [v] h k :=
  (begun43 q).mono (fun v h' hR => by
    obtain ⟨l1, c, tb, wb, ct, cw, W, hv, hc, htb, hwb, hct, hcw, hW, ect, ecw, cs⟩ := hR
    rw [hv]
    exact hk h' c tb wb ct cw W l1 hc htb hwb hct hcw hW ect ecw cs)

theorem tbl_elim {h : Heap} {cs : List Value} {t : Tbl} (q : shTbl.R h cs t) {p : List Value → Prop} (k : ∀ (b1 : Option Addr) (n1 c1 : Nat) (b2 : Option Addr) (n2 c2 : Nat), Sl 58 shCol h (.slice b1 n1 c1) t.S.cols → Sl 88 shRow h (.slice b2 n2 c2) t.rows → p [.string t.S.name, .slice b1 n1 c1, .int .i64 t.S.key, .bool t.S.only, .slice b2 n2 c2]) : p cs := by
  obtain ⟨b1, n1, c1, b2, n2, c2, rfl, q1, q2⟩ := q
  exact k b1 n1 c1 b2 n2 c2 q1 q2
theorem ld_tbl {A : Ar} [ArOk A] {h : Heap} {b : Option Addr} {len cap : Nat} {xs : List Tbl} (q : Sl 100 shTbl h (.slice b len cap) xs) {i : Nat} {t : Tbl} (hx : xs[i]? = some t) {n : Int} (hn : n = (i : Int)) {k : List Value → Prop}
    (hk : ∀ (b1 : Option Addr) (n1 c1 : Nat) (b2 : Option Addr) (n2 c2 : Nat), Sl 58 shCol h (.slice b1 n1 c1) t.S.cols → Sl 88 shRow h (.slice b2 n2 c2) t.rows → k [.string t.S.name, .slice b1 n1 c1, .int .i64 t.S.key, .bool t.S.only, .slice b2 n2 c2]) : LdX h (A.elt b n shTbl.n) shTbl.n k :=
  q.load hx hn (fun cs hcs => tbl_elim hcs hk)
/-- The log of a session's work is read. -/
theorem ld_log {A : Ar} [ArOk A] {h : Heap} {b : Option Addr} {len cap : Nat} {xs : List (Wrk × Bool)} (q : Sl 211 shWrkG h (.slice b len cap) xs) {i : Nat} {w : Wrk × Bool} (hx : xs[i]? = some w) {n : Int} (hn : n = (i : Int)) {k : List Value → Prop}
    (hk : ∀ (b1 : Option Addr) (n1 c1 : Nat), Sl 228 shChg h (.slice b1 n1 c1) w.1.log → (w.2 = true → c1 = n1) → (∀ h' k', Le h h' → k' [.slice b1 n1 c1] → LdX h' (A .off (A .elt b n 3) 1) 1 k') → k [.slice b1 n1 c1]) : LdX h (A .off (A .elt b n 3) 1) 1 k :=
  q.loadFP (s := shWrkG) hx hn (o := 1) (m := 1) (by decide) (fun cs hcs ag => by
    obtain ⟨b1, n1, c1, b2, n2, c2, rfl, q1, q2, q3⟩ := hcs
    exact hk b1 n1 c1 q1 q3 ag)
/-- The marks. -/
theorem ld_marks {A : Ar} [ArOk A] {h : Heap} {b : Option Addr} {len cap : Nat} {xs : List (Wrk × Bool)} (q : Sl 211 shWrkG h (.slice b len cap) xs) {i : Nat} {w : Wrk × Bool} (hx : xs[i]? = some w) {n : Int} (hn : n = (i : Int)) {k : List Value → Prop}
    (hk : ∀ (b1 : Option Addr) (n1 c1 : Nat), Sl 213 shMrk h (.slice b1 n1 c1) w.1.marks → (∀ h' k', Le h h' → k' [.slice b1 n1 c1] → LdX h' (A .off (A .elt b n 3) 2) 1 k') → k [.slice b1 n1 c1]) : LdX h (A .off (A .elt b n 3) 2) 1 k :=
  q.loadFP (s := shWrkG) hx hn (o := 2) (m := 1) (by decide) (fun cs hcs ag => by
    obtain ⟨b1, n1, c1, b2, n2, c2, rfl, q1, q2, q3⟩ := hcs
    exact hk b2 n2 c2 q2 ag)

def wrkCmps (W : List (Wrk × Bool)) (s : Int) : List Int := W.map fun x => IntKind.i64.wrap (x.1.s - s)
def tabCmps (T : List Tbl) (name : ByteArray) : List Int := T.map fun x => cmpB x.S.name name
def holdOn (T : List Tbl) (W : List (Wrk × Bool)) (s : Int) (name : ByteArray) : Bool := bsB (wrkCmps W s) && bsB (tabCmps T name)
def holdH (T : List Tbl) (W : List (Wrk × Bool)) (H : List Hld) (hd : Hld) : List Hld := if holdOn T W hd.s hd.table = true then askH H hd else H
def holdW (T : List Tbl) (W : List (Wrk × Bool)) (H Wt : List Hld) (hd : Hld) : List Hld := if holdOn T W hd.s hd.table = true then askW H Wt hd else Wt
def holdE (T : List Tbl) (W : List (Wrk × Bool)) (H : List Hld) (hd : Hld) : Int := if holdOn T W hd.s hd.table = true then if askFree H hd = true then 0 else 16 else 2

end Go.S

set_option maxRecDepth 100000
namespace Go.S
open Go.Sx Go.Proofs

def noName : ByteArray := ⟨#[]⟩
def doPut (r : Row) (t : Tbl) : Tbl × Chg × Int := ((tblPut t r).1, ⟨noName, 1, r⟩, (tblPut t r).2)
def doTake (k : Val) (t : Tbl) : Tbl × Chg × Int := if t.S.only = true then (t, ⟨noName, 0, []⟩, 19) else ((tblTake t k).1, ⟨noName, 2, (tblTake t k).2.1⟩, (tblTake t k).2.2)

end Go.S

