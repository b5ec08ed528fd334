import Derived.Test.YtnfijhlegoagjaaGreatK2
set_option linter.unusedVariables false
set_option linter.unusedSimpArgs false
set_option linter.unusedSectionVars false
set_option maxRecDepth 100000
set_option maxHeartbeats 8000000
set_option linter.unusedVariables false
set_option linter.unusedSimpArgs false
namespace Go.S
open Go.Sx Go.Proofs
theorem same35 {T : List Tbl} {ws : List (Wrk × Bool)} {H W : List Hld} {h : Heap} {b1 b2 b3 b4 : Option Addr} {n1 c1 n2 c2 n3 c3 n4 c4 : Nat} {d1 d2 d3 d4 : Option Addr} {m1 e1 m2 e2 m3 e3 m4 e4 : Nat}
    (q1 : Sl 43 shTbl h (.slice b1 n1 c1) T) (q2 : Sl 60 shWrkG h (.slice b2 n2 c2) ws) (q3 : Sl 188 shHld h (.slice b3 n3 c3) H) (q4 : Sl 188 shHld h (.slice b4 n4 c4) W)
    (p1 : Sl 43 shTbl h (.slice d1 m1 e1) T) (p2 : Sl 60 shWrkG h (.slice d2 m2 e2) ws) (p3 : Sl 188 shHld h (.slice d3 m3 e3) H) (p4 : Sl 188 shHld h (.slice d4 m4 e4) W) {k : Value → Heap → Prop} (hk : ∀ h', Le h h' → k (.bool true) h') :
    Ct 35 [.agg #[.slice b1 n1 c1, .slice b2 n2 c2, .slice b3 n3 c3, .slice b4 n4 c4], .agg #[.slice d1 m1 e1, .slice d2 m2 e2, .slice d3 m3 e3, .slice d4 m4 e4]] h k := by
  obtain ⟨A, hA⟩ := Ar.ex
  refine fn_of_sx A (tabOk T35.plan T35.pub) Tryz.func35 rfl (by kernel_rfl) ?_
  cbv
  intro nb h0 hn e0'
  have g0 := (congrFun e0' nb).trans hset_self
  cbv
  refine stb g0 (by decide) (fun h1 e1' => ?_)
  have l1 : Le h h1 := by
    rw [e1', e0']
    intro b o hb
    have : b ≠ nb := fun e => by rw [e, hn] at hb; cases hb
    rw [hset_ne this, hset_ne this]; exact hb
  have g1 := (congrFun e1' nb).trans hset_self
  cbv
  refine eqf76 (q1.mono (l1.t _)) (p1.mono (l1.t _)) (fun h2 l2 => ?_)
  cbv
  refine eqf77 (l2 _ _ g1) (q2.mono ((l1.trans l2).t _)) (p2.mono ((l1.trans l2).t _)) (fun h3 l3 => ?_)
  have l13 := (l1.trans l2).trans l3
  cbv
  refine same78 (q3.mono (l13.t _)) (p3.mono (l13.t _)) (q4.mono (l13.t _)) (p4.mono (l13.t _)) ?_
  have hfin := hk h3 l13
  cbv
  exact hfin
end Go.S

