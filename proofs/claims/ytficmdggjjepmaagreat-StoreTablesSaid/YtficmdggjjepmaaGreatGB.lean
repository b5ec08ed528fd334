import Derived.Test.YtficmdggjjepmaaGreatGA
set_option linter.all false
set_option maxRecDepth 100000
set_option maxHeartbeats 8000000
namespace Go.S
open Go.Sx Go.Proofs

def changeF (d : DB) (hd : Hld) (act : Tbl → Tbl × Chg × Int) : DB × Int :=
  if decide ((holdF d hd).2 ≠ 0) = true then holdF d hd
  else match (holdF d hd).1.tabs[bsI (tabCmps (holdF d hd).1.tabs hd.table)]?, (holdF d hd).1.works[bsI (wrkC (holdF d hd).1.works hd.s)]? with
    | some t, some w =>
      if decide ((act t).2.2 ≠ 19) && decide ((w.log.length : Int) ≥ 60) then ((holdF d hd).1, 4)
      else if decide ((act t).2.2 = 0) = true then
        (⟨(holdF d hd).1.tabs.set (bsI (tabCmps (holdF d hd).1.tabs hd.table)) (act t).1, (holdF d hd).1.works.set (bsI (wrkC (holdF d hd).1.works hd.s)) ⟨w.s, w.log ++ [⟨hd.table, (act t).2.1.op, (act t).2.1.row⟩], w.marks⟩, (holdF d hd).1.holds, (holdF d hd).1.waits⟩, 0)
      else ((holdF d hd).1, (act t).2.2)
    | _, _ => holdF d hd

end Go.S

set_option maxRecDepth 100000
set_option maxHeartbeats 8000000
namespace Go.S
open Go.Sx Go.Proofs

def putF (d : DB) (s : Int) (name : ByteArray) (r : Row) : DB × Int := changeF d ⟨s, name, true⟩ (doPut r)
def takeF (d : DB) (s : Int) (name : ByteArray) (k : Val) : DB × Int := changeF d ⟨s, name, true⟩ (doTake k)
def rollbackD (d : DB) (s : Int) : DB × Int := if bsB (wrkC d.works s) = true then (backD d s, 0) else (d, 2)
def commitD (d : DB) (s : Int) : DB × List Chg × Int :=
  if bsB (wrkC d.works s) = true then (⟨d.tabs, endK d.works s, wout d.holds s, wout d.waits s⟩, match d.works[bsI (wrkC d.works s)]? with
    | some w => w.log
    | none => [], 0)
  else (d, [], 2)
def dropD (d : DB) (name : ByteArray) : DB × Int :=
  if bsB (tabCmps d.tabs name) = true then if decide ((d.works.length : Int) > 0) = true then (d, 18) else (⟨d.tabs.eraseIdx (bsI (tabCmps d.tabs name)), d.works, d.holds, d.waits⟩, 0)
  else (d, 2)
def rowsD (d : DB) (s : Int) (name : ByteArray) : DB × List Row × Int :=
  if decide ((holdF d ⟨s, name, false⟩).2 ≠ 0) = true then ((holdF d ⟨s, name, false⟩).1, [], (holdF d ⟨s, name, false⟩).2)
  else ((holdF d ⟨s, name, false⟩).1, match (holdF d ⟨s, name, false⟩).1.tabs[bsI (tabCmps (holdF d ⟨s, name, false⟩).1.tabs name)]? with
    | some t => t.rows
    | none => [], 0)
theorem Wf_fst (ws : List Wrk) : (Wf ws).map (·.1) = ws := by unfold Wf; rw [List.map_map]; simp [Function.comp_def]

theorem Cst.new {d : DB} {h1 : Heap} {c tb wb ct cw : Nat} {W : List (Wrk × Bool)} (cs : Cst h1 c tb wb ct cw d.tabs W d.holds d.waits 0) (hW : W = d.works.map fun w => (w, true)) : Cst h1 c tb wb ct cw d.tabs (Wf d.works) d.holds d.waits 0 := by rw [hW] at cs; exact cs

/-- A call's state whose tables are others. -/
theorem Cst.tabsOut {h h1 h' : Heap} {c tb wb ct cw : Nat} {T' : List Tbl} {W : List (Wrk × Bool)} {H Wt : List Hld} {e : Int} {n1 n2 m1 : Nat} {b3 b4 : Option Addr} {n3 c3 n4 c4 : Nat} {o : Int}
    (g0 : h c = some (.cells #[.slice (some ⟨tb, 0, none⟩) n1 ct, .slice (some ⟨wb, 0, none⟩) n2 cw, .slice b3 n3 c3, .slice b4 n4 c4, .int .u32 o, .int .i32 0, .int .u32 0, .int .i64 e] 226 (0, 0)))
    (ho : (o = 0 ∧ e = 0) ∨ (o = 1 ∧ e ≠ 0)) (g3 : n2 = W.length) (g4 : Own 211 shWrkG h wb cw W) (g6 : Sl 316 shHld h (.slice b3 n3 c3) H) (g7 : Sl 316 shHld h (.slice b4 n4 c4) Wt) (hm : m1 = T'.length)
    (l1 : ∀ tys, 100 ∉ tys → LeT tys h h1) (k1 : h1 c = h c) (gt : Own 100 shTbl h1 tb ct T')
    (hh : h' = hset h1 c (.cells #[.slice (some ⟨tb, 0, none⟩) m1 ct, .slice (some ⟨wb, 0, none⟩) n2 cw, .slice b3 n3 c3, .slice b4 n4 c4, .int .u32 o, .int .i32 0, .int .u32 0, .int .i64 e] 226 (0, 0))) :
    Kp [c] h1 h' ∧ Cst h' c tb wb ct cw T' W H Wt e := by
  have g0' := k1.trans g0
  have lt : ∀ tys, 226 ∉ tys → LeT tys h1 h' := fun tys hn => by rw [hh]; exact LeT.set g0' hn
  have l2 : ∀ tys, 100 ∉ tys → 226 ∉ tys → LeT tys h h' := fun tys a b => (l1 tys a).trans (lt tys b)
  refine ⟨by rw [hh]; exact Kp.set (by simp), m1, n2, b3, n3, c3, b4, n4, c4, o, by rw [hh]; exact hset_self, ho, hm, gt.mono (lt _ (by decide)), g3, g4.mono (l2 _ (by decide) (by decide)), g6.mono (l2 _ (by decide) (by decide)), g7.mono (l2 _ (by decide) (by decide))⟩

theorem drop30K {d : DB} {h : Heap} {v : Value} (q : RDB h v d) (name : ByteArray) {D : DB × Int} (hD : dropD d name = D) {k : Value → Heap → Prop}
    (hk : DbK h D.1 D.2 k) : Ct 65 [v, .string name] h k := by
  obtain ⟨A, hA⟩ := Ar.ex
  obtain ⟨b1, n1, c1, b2, n2, c2, b3, n3, c3, b4, n4, c4, rfl⟩ := q.form
  have hwl : n2 = d.works.length := by
    obtain ⟨_, _, _, _, _, _, _, _, _, _, _, _, ws, he, _, qw, _, _, hm⟩ := q.out
    cases he
    rw [qw.len, ← hm, List.length_map]
  refine fn_of_sx A (tabOk T65.plan T65.pub) Tryz.func65 rfl (by kernel_rfl) ?_
  cbv
  refine begun43K q (fun h1 c tb wb ct cw W l1 hc htb hwb hct hcw hW ect ecw cs => ?_)
  have cs := cs.new hW
  cbv
  refine table46K cs name (fun h2 z t l2 hz ht => ?_)
  have l12 := l1.trans l2
  have q2 := q.mono l12
  cases t with
  | false =>
    have hDe : D = (d, 2) := by rw [← hD]; unfold dropD; rw [← ht]; rfl
    subst hDe
    cbv
    rw [show A .not false = true by rw [hA.not]; rfl]
    cbv
    refine own47K q2 (fun h3 b1 n1 c1 b2 n2 c2 b3 n3 c3 b4 n4 c4 l3 hd6 => ?_)
    have hfin := hk h3 b1 n1 c1 b2 n2 c2 b3 n3 c3 b4 n4 c4 (l12.trans l3) hd6
    cbv
    exact hfin
  | true =>
    have hlt : bsI (tabCmps d.tabs name) < d.tabs.length := by
      have := bsB_lt ht.symm
      simpa [tabCmps] using this
    have hDe : D = if decide ((d.works.length : Int) > 0) = true then (d, 18) else (⟨d.tabs.eraseIdx (bsI (tabCmps d.tabs name)), d.works, d.holds, d.waits⟩, 0) := by rw [← hD]; unfold dropD; rw [← ht]; rfl
    clear hD
    generalize bsI (tabCmps d.tabs name) = i at *
    generalize eu : A .icm .gtr (A .nat n2) 0 = u
    have fu := eu
    rw [icm_gtr A, hA.nat, hwl, show Int.ofNat d.works.length = (d.works.length : Int) from rfl] at eu
    rw [eu] at hDe
    cbv
    rw [show A .not true = false by rw [hA.not]; rfl]
    cbv
    rw [fu]
    cases u with
    | true =>
      have hDe : D = (d, 18) := hDe
      subst hDe
      cbv
      refine own47K q2 (fun h3 b1 n1 c1 b2 n2 c2 b3 n3 c3 b4 n4 c4 l3 hd6 => ?_)
      have hfin := hk h3 b1 n1 c1 b2 n2 c2 b3 n3 c3 b4 n4 c4 (l12.trans l3) hd6
      cbv
      exact hfin
    | false =>
      have hDe : D = (⟨d.tabs.eraseIdx i, d.works, d.holds, d.waits⟩, 0) := hDe
      subst hDe
      have cs2 := cs.mono l2
      refine cs2.elim (fun m1 m2 x3 m3 k3 x4 m4 k4 o g0 ho f1 f2 f3 f4 f6 f7 _ => ?_)
      have hbd := f2.bd
      have hz1 := hz.succ (A := A) (by omega)
      have hlV : (d.tabs.eraseIdx i).length = m1 - 1 := by rw [List.length_eraseIdx_of_lt hlt]; omega
      cbv
      rw [offm A]
      rw [offm A]
      refine ldb g0 rfl rfl ?_
      cbv
      refine delete67 f2 f1 hz hz1 (by omega) (fun h3 m hm k3 t3 o3 => ?_)
      have gc3 : h3 c = h2 c := (k3 _ _ g0 (by simpa using hct)).trans g0.symm
      have hcs := fun h4 hh => Cst.tabsOut (h' := h4) g0 ho f3 f4 f6 f7 (hm.trans hlV.symm) t3 gc3 o3 hh
      have gc3' := gc3.trans g0
      cbv
      rw [offm A]
      rw [offm A]
      refine stb gc3' (by simp) (fun h4 e4 => ?_)
      obtain ⟨k4, cs4⟩ := hcs h4 e4
      clear hcs e4
      have l4 : Le h h4 := l12.kpNew (bs := [tb, c]) (by simp [hc, htb]) ((k3.sub (by simp)).trans (k4.sub (by simp)))
      refine cs4.elim (fun m1 m2 x3 m3 k3 x4 m4 k4 o g0 _ _ _ _ _ _ _ hrdb => ?_)
      rw [Wf_fst] at hrdb
      cbv
      rw [offm A]
      refine ldb g0 rfl rfl ?_
      cbv
      refine own47K hrdb (fun h5 b1 n1 c1 b2 n2 c2 b3 n3 c3 b4 n4 c4 l5 hd6 => ?_)
      have hfin := hk h5 b1 n1 c1 b2 n2 c2 b3 n3 c3 b4 n4 c4 (l4.trans l5) hd6
      cbv
      exact hfin

end Go.S

set_option maxRecDepth 100000
set_option maxHeartbeats 8000000
namespace Go.S
open Go.Sx Go.Proofs

/-- The last mark of a name below a place. -/
def mkF (l : List Mrk) (nm : ByteArray) : Nat → Option Nat
  | 0 => none
  | i + 1 => match l[i]? with
    | some m => if decide (m.name = nm) = true then some i else mkF l nm i
    | none => mkF l nm i
def backM (d : DB) (s : Int) (nm : ByteArray) : DB × Int :=
  if bsB (wrkC d.works s) = true then match d.works[bsI (wrkC d.works s)]? with
    | some w => match mkF w.marks nm w.marks.length with
      | some k => (⟨undoL d.tabs (w.log.drop (undoN (((w.marks[k]?).map (·.at_)).getD 0) w.log.length)), d.works.set (bsI (wrkC d.works s)) ⟨w.s, w.log.take (undoN (((w.marks[k]?).map (·.at_)).getD 0) w.log.length), w.marks.take (k + 1)⟩, d.holds, d.waits⟩, 0)
      | none => (d, 2)
    | none => (d, 2)
  else (d, 2)

end Go.S

