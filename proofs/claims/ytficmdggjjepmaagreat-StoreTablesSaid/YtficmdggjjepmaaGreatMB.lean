import Derived.Test.YtficmdggjjepmaaGreatMA
set_option linter.all false
set_option maxRecDepth 100000
set_option maxHeartbeats 8000000
namespace Go.S
open Go.Sx Go.Proofs
/-- What holds of a state of sessions, side by side. -/
structure SC (d : DB) : Prop where
  tw : TW d.tabs
  srt : d.works.Pairwise (fun a b => a.s < b.s)
  rng : ∀ w ∈ d.works, 0 ≤ w.s ∧ w.s < 8
  log : ∀ w ∈ d.works, (∀ x ∈ w.log, ChOk d.tabs x) ∧ w.log.length ≤ 60
  mks : MkOk d
  hu : HU d.holds
  hw : ∀ x ∈ d.holds, ∃ w ∈ d.works, w.s = x.s
  hc : ∀ x ∈ d.holds, ∀ y ∈ d.holds, agst x y = false
  lg : ∀ w ∈ d.works, ∀ c ∈ w.log, ∃ x ∈ d.holds, x.s = w.s ∧ x.table = c.table ∧ x.x = true
end Go.S

set_option maxRecDepth 100000
set_option maxHeartbeats 8000000
namespace Go.S
open Go.Sx Go.Proofs
structure G4 where
  b1 : Option Addr
  n1 : Nat
  c1 : Nat
  b2 : Option Addr
  n2 : Nat
  c2 : Nat
  b3 : Option Addr
  n3 : Nat
  c3 : Nat
  b4 : Option Addr
  n4 : Nat
  c4 : Nat
structure HIn (n : Nat) (hd : Hld) (D : DB × Int) (m f : Nat) (d0 : DB) : Prop where
  sc : SC d0
  hb : d0.holds.length ≤ n
  wb : (wout d0.waits hd.s).length ≤ n
  wc : d0.waits.length ≤ n + 1
  wk : ∃ w ∈ d0.works, w.s = hd.s
  eq : holdL f d0 hd = D
  fl : d0.holds.length < f
  ms : m = d0.holds.length
end Go.S

set_option maxRecDepth 100000
set_option maxHeartbeats 8000000
namespace Go.S
open Go.Sx Go.Proofs
/-- Where a hold was granted. -/
structure Granted (n : Nat) (hd : Hld) (d1 : DB) (i : Nat) (w : Wrk) (j : Nat) (t : Tbl) : Prop where
  sc : SC d1
  ok : Okd (n + 1) d1
  wi : d1.works[i]? = some w
  ws : w.s = hd.s
  bi : bsI (wrkC d1.works hd.s) = i
  tj : d1.tabs[j]? = some t
  tn : t.S.name = hd.table
  bj : bsI (tabCmps d1.tabs hd.table) = j
  hl : ∃ x ∈ d1.holds, x.s = hd.s ∧ x.table = hd.table ∧ (x.x || !hd.x) = true
end Go.S

set_option maxRecDepth 100000
set_option maxHeartbeats 8000000
namespace Go.S
open Go.Sx Go.Proofs
end Go.S

set_option maxRecDepth 100000
set_option maxHeartbeats 8000000
namespace Go.S
open Go.Sx Go.Proofs
end Go.S

set_option maxRecDepth 100000
set_option maxHeartbeats 8000000
namespace Go.S
open Go.Sx Go.Proofs
theorem rsame42 {d : DB} {h : Heap} {b1 b2 b3 b4 e1 e2 e3 e4 : Option Addr} {n1 c1 n2 c2 n3 c3 n4 c4 m1 f1 m2 f2 m3 f3 m4 f4 : Nat} (q : RP h b1 n1 c1 b2 n2 c2 b3 n3 c3 b4 n4 c4 d) (p : RP h e1 m1 f1 e2 m2 f2 e3 m3 f3 e4 m4 f4 d) {k : Value → Heap → Prop} (hk : k (.bool true) h) :
    Ct 25 [.agg #[.slice b1 n1 c1, .slice b2 n2 c2, .slice b3 n3 c3, .slice b4 n4 c4], .agg #[.slice e1 m1 f1, .slice e2 m2 f2, .slice e3 m3 f3, .slice e4 m4 f4]] h k := by
  obtain ⟨A, hA⟩ := Ar.ex
  have hl1 : n1 = d.tabs.length := q.tabs.len
  have hl2 : n2 = d.works.length := q.works.len
  have hm1 : m1 = d.tabs.length := p.tabs.len
  have hm2 : m2 = d.works.length := p.works.len
  have hbd := q.tabs.bound.1
  have hbd2 := q.works.bound.1
  have hnot1 : A .not true = false := by rw [hA.not]; rfl
  have nn1 : A .icm .neq (A .nat n1) (A .nat m1) = false := by rw [hl1, hm1, icm_neq A]; simp
  have nn2 : A .icm .neq (A .nat n2) (A .nat m2) = false := by rw [hl2, hm2, icm_neq A]; simp
  refine fn_of_sx A (tabOk T25.plan T25.pub) Tryz.func25 rfl (by kernel_rfl) ?_
  cbv
  rw [nn1]
  cbv
  rw [nn2]
  cbv
  refine rsame91 q.holds p.holds q.waits p.waits ?_
  cbv
  rw [hnot1]
  cbv
  refine LoopX.go (G := Int) (fun g => [(5, .v (.int .i64 g))]) (fun _ => [(2, [.slice b1 n1 c1, .slice b2 n2 c2, .slice b3 n3 c3, .slice b4 n4 c4]), (3, [.slice e1 m1 f1, .slice e2 m2 f2, .slice e3 m3 f3, .slice e4 m4 f4])]) (fun m g h' => h' = h ∧ ∃ i, IsN g i ∧ m = n1 - i ∧ i ≤ n1) n1 0 ⟨?_, ?_, ?_⟩ ⟨rfl, 0, ⟨rfl⟩, by omega, by omega⟩ ?_
  · cbv
  · cbv
  · cbv
  · intro m g h' hI
    cbv
    obtain ⟨rfl, i, hz, hm, hi⟩ := hI
    refine bsel_mk (fun hc => ?_) (fun hc => ?_)
    · have hlt := hz.lt hc
      clear hc
      have hze := hz.eq
      have hnx := hz.succ (A := A) (by omega)
      obtain ⟨⟨⟨tn, tc, tk, to_⟩, R⟩, hx⟩ := get_ex (xs := d.tabs) (i := i) (by omega)
      have ck1 : b1.isSome = true ∧ 0 ≤ g ∧ g < (n1 : Int) := ⟨q.tabs.isSm (by omega), hz.ix (by omega)⟩
      have ck2 : e1.isSome = true ∧ 0 ≤ g ∧ g < (m1 : Int) := ⟨p.tabs.isSm (by omega), hz.ix (by omega)⟩
      cbv
      refine ⟨ck1, ?_⟩
      cbv
      refine q.tabs.load hx hze (fun cs hcs => ?_)
      obtain ⟨x1, x2, x3, x4, x5, x6, rfl, s1, s3⟩ := hcs
      cbv
      refine ⟨ck2, ?_⟩
      cbv
      refine p.tabs.load hx hze (fun cs hcs => ?_)
      obtain ⟨y1, y2, y3, y4, y5, y6, rfl, s2, s4⟩ := hcs
      cbv
      refine rsame92 (nm := tn) (key := tk) (only := to_) (cols := tc) (rows := R) s1 s2 s3 s4 ?_
      cbv
      rw [hnot1]
      cbv
      refine ⟨n1 - (i + 1), _, by omega, ⟨?_, ?_, ?_⟩, rfl, i + 1, hnx, rfl, by omega⟩
      · cbv
      · cbv
      · cbv
    · cbv
      refine LoopX.go (G := Int) (fun g => [(6, .v (.int .i64 g))]) (fun _ => [(2, [.slice b1 n1 c1, .slice b2 n2 c2, .slice b3 n3 c3, .slice b4 n4 c4]), (3, [.slice e1 m1 f1, .slice e2 m2 f2, .slice e3 m3 f3, .slice e4 m4 f4])]) (fun m g h2 => h2 = h' ∧ ∃ i, IsN g i ∧ m = n2 - i ∧ i ≤ n2) n2 0 ⟨?_, ?_, ?_⟩ ⟨rfl, 0, ⟨rfl⟩, by omega, by omega⟩ ?_
      · cbv
      · cbv
      · cbv
      · intro m g h2 hI
        cbv
        obtain ⟨rfl, i, hz, hm, hi⟩ := hI
        refine bsel_mk (fun hc => ?_) (fun hc => ?_)
        · have hlt := hz.lt hc
          clear hc
          have hze := hz.eq
          have hnx := hz.succ (A := A) (by omega)
          obtain ⟨⟨ws, wl, wm⟩, hx⟩ := get_ex (xs := d.works) (i := i) (by omega)
          have ck1 : b2.isSome = true ∧ 0 ≤ g ∧ g < (n2 : Int) := ⟨q.works.isSm (by omega), hz.ix (by omega)⟩
          have ck2 : e2.isSome = true ∧ 0 ≤ g ∧ g < (m2 : Int) := ⟨p.works.isSm (by omega), hz.ix (by omega)⟩
          cbv
          refine ⟨ck1, ?_⟩
          cbv
          refine q.works.load hx hze (fun cs hcs => ?_)
          obtain ⟨x1, x2, x3, x4, x5, x6, rfl, s1, s3⟩ := hcs
          cbv
          refine ⟨ck2, ?_⟩
          cbv
          refine p.works.load hx hze (fun cs hcs => ?_)
          obtain ⟨y1, y2, y3, y4, y5, y6, rfl, s2, s4⟩ := hcs
          cbv
          refine rsame93 (s := ws) (L := wl) (M := wm) s1 s2 s3 s4 ?_
          cbv
          rw [hnot1]
          cbv
          refine ⟨n2 - (i + 1), _, by omega, ⟨?_, ?_, ?_⟩, rfl, i + 1, hnx, rfl, by omega⟩
          · cbv
          · cbv
          · cbv
        · cbv
          exact hk
end Go.S

