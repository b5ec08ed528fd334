import Derived.Test.YtnfijhlegoagjaaGreatNA
import Derived.Test.YtnfijhlegoagjaaGreatSxC
set_option linter.unusedVariables false
set_option linter.unusedSimpArgs false
set_option linter.unusedSectionVars false
set_option maxRecDepth 100000
set_option maxHeartbeats 16000000
set_option linter.unusedVariables false
set_option linter.unusedSimpArgs false
namespace Go.S
open Go.Sx Go.Proofs
/-- What a session's act makes of a state. -/
inductive StepR (se : Int) (d : DB) : DB → Prop
  | begin : StepR se d (beginD d se).1
  | hold (nm : ByteArray) (x : Bool) : StepR se d (holdF d ⟨se, nm, x⟩).1
  | put (nm : ByteArray) {r : Row} (hr : RowOk r ∨ r.length ≠ 2) : StepR se d (putF d se nm r).1
  | take (nm : ByteArray) (a : Int) : StepR se d (takeF d se nm ⟨2, a, noS⟩).1
  | rows (nm : ByteArray) : StepR se d (rowsD d se nm).1
  | save (nm : ByteArray) : StepR se d (saveD d se nm).1
  | back (nm : ByteArray) : StepR se d (backM d se nm).1
  | commit : StepR se d (commitD d se).1
  | rollback : StepR se d (rollbackD d se).1
  | create {s : Sch} (h1 : s.cols = shColsE) (h2 : s.key = 0) (h3 : s.name.size ≤ 12) : StepR se d (refCreate d s).1
  | drop (nm : ByteArray) : StepR se d (dropD d nm).1
theorem three_size {a b c x : ByteArray} {i : Nat} (h : [a, b, c][i]? = some x) (h1 : a.size = 2) (h2 : b.size = 2) (h3 : c.size = 2) : x.size ≤ 12 := by
  match i, h with
  | 0, h => simp at h; subst h; omega
  | 1, h => simp at h; subst h; omega
  | 2, h => simp at h; subst h; omega
  | i + 3, h => simp at h
theorem do38 {n : Nat} {d : DB} {h : Heap} {b1 b2 b3 b4 e1 e2 e3 e4 : Option Addr} {n1 c1 n2 c2 n3 c3 n4 c4 m1 f1 m2 f2 m3 f3 m4 f4 : Nat} (q : RDB h (.agg #[.slice b1 n1 c1, .slice b2 n2 c2, .slice b3 n3 c3, .slice b4 n4 c4]) d) (p : RP h e1 m1 f1 e2 m2 f2 e3 m3 f3 e4 m4 f4 d) (J : SJ n d) (hn : n ≤ 2 ^ 15)
    (kk s t nn : Int) (x : Bool) (hs : -2 ^ 63 ≤ s ∧ s < 2 ^ 63) (hnn : -2 ^ 63 ≤ nn ∧ nn < 2 ^ 63) {k : Value → Heap → Prop}
    (hk : ∀ h' pb1 pn1 pc1 pb2 pn2 pc2 pb3 pn3 pc3 pb4 pn4 pc4 rb1 rn1 rc1 rb2 rn2 rc2 rb3 rn3 rc3 rb4 rn4 rc4 d' se, Le h h' → RDB h' (.agg #[.slice pb1 pn1 pc1, .slice pb2 pn2 pc2, .slice pb3 pn3 pc3, .slice pb4 pn4 pc4]) d' → RP h' rb1 rn1 rc1 rb2 rn2 rc2 rb3 rn3 rc3 rb4 rn4 rc4 d' → SJ (n + 1) d' → (0 ≤ s ∧ s < 3 → se = s) → StepR se d d' → k (.tuple #[.agg #[.slice pb1 pn1 pc1, .slice pb2 pn2 pc2, .slice pb3 pn3 pc3, .slice pb4 pn4 pc4], .agg #[.slice rb1 rn1 rc1, .slice rb2 rn2 rc2, .slice rb3 rn3 rc3, .slice rb4 rn4 rc4], .bool true]) h') :
    Ct 38 [.agg #[.int .i64 kk, .int .i64 s, .int .i64 t, .int .i64 nn, .bool x], .agg #[.slice b1 n1 c1, .slice b2 n2 c2, .slice b3 n3 c3, .slice b4 n4 c4], .agg #[.slice e1 m1 f1, .slice e2 m2 f2, .slice e3 m3 f3, .slice e4 m4 f4]] h k := by
  obtain ⟨A, hA⟩ := Ar.ex
  have hok := J.okd
  have hSI : SI d := J.sc.si hok (by omega)
  have hsm := hok.small (by omega)
  obtain ⟨I1, hI1⟩ : ∃ I : Int → Heap → Prop, ∀ g h', I g h' = (h' = h ∧ (-2 ^ 63 ≤ g ∧ g < 2 ^ 63) ∧ (0 ≤ s ∧ s < 3 → g = s)) := ⟨_, fun _ _ => rfl⟩
  refine fn_of_sxc A [false, false, true, false, false, true, false, false, false, false, true] (tabOk T38.plan T38.pub) Tryz.func38 rfl (by kernel_rfl) ?_
  cbv
  refine within15 s 4 (by omega) (by omega) h (fun z9 i9 hz9 hi9 hi94 => ?_)
  cbv
  refine CutX.go (G := Int) (fun g => [(9, .v (.int .i64 g))]) (fun _ => [(3, [.int .i64 kk, .int .i64 s, .int .i64 t, .int .i64 nn, .bool x]), (4, [.slice b1 n1 c1, .slice b2 n2 c2, .slice b3 n3 c3, .slice b4 n4 c4]), (5, [.slice e1 m1 f1, .slice e2 m2 f2, .slice e3 m3 f3, .slice e4 m4 f4]), (6, [.slice none 0 0, .slice none 0 0, .slice none 0 0, .slice none 0 0]), (7, [.slice none 0 0, .slice none 0 0, .slice none 0 0, .slice none 0 0])]) I1 ?_ ?_
  · obtain ⟨u, hu⟩ : ∃ u, A .icm .eql (A .ari .rem .i64 s 31) 30 = u := ⟨_, rfl⟩
    have hr31 : A .ari .rem .i64 s 31 = s.tmod 31 := by rw [hA.ari]; rfl
    have hu2 : u = true → ¬ (0 ≤ s ∧ s < 3) := fun e hh => by
      rw [e, icm_eql A, hr31] at hu
      have := of_decide_eq_true hu
      rw [Int.tmod_eq_emod_of_nonneg hh.1] at this
      omega
    have hz9e := hz9.eq
    have hA1 : I1 z9 h := by
      rw [hI1]
      refine ⟨rfl, by omega, fun hh => ?_⟩
      have : s % ((4 : Nat) : Int) = s := by omega
      rw [this] at hi9
      omega
    have hA2 : u = true → I1 s h := fun e => by rw [hI1]; exact ⟨rfl, hs, fun hh => absurd hh (hu2 e)⟩
    clear hI1
    cbv
    refine ⟨by decide, ?_⟩
    cbv
    rw [hu]
    cases u with
    | true =>
      have hA2 := hA2 rfl
      cbv
      refine ⟨s, ⟨?_, ?_, ?_⟩, hA2⟩
      · cbv
      · cbv
      · cbv
    | false =>
      cbv
      refine ⟨z9, ⟨?_, ?_, ?_⟩, hA1⟩
      · cbv
      · cbv
      · cbv
  · intro se h' hI
    rw [hI1] at hI
    clear hz9 hi9 hi94
    cbv
    obtain ⟨rfl, hse, hss⟩ := hI
    clear hI1
    refine within15 t 3 (by omega) (by omega) h' (fun zt tt hzt htt0 htt => ?_)
    cbv
    refine shape16 (z := zt) (t := tt) hzt htt h' (fun h5 sb5 sn5 sc5 nm5 o5 l5 hnm5 ho5 qs5 => ?_)
    obtain ⟨I2, hI2⟩ : ∃ I : ByteArray → Heap → Prop, ∀ g h2, I g h2 = Le h' h2 := ⟨_, fun _ _ => rfl⟩
    have hA1 : ∀ nm, I2 nm h5 := fun nm => by rw [hI2]; exact l5
    cbv
    refine CutX.go (G := ByteArray) (fun g => [(11, .v (.string g))]) (fun _ => [(3, [.int .i64 kk, .int .i64 s, .int .i64 t, .int .i64 nn, .bool x]), (4, [.slice b1 n1 c1, .slice b2 n2 c2, .slice b3 n3 c3, .slice b4 n4 c4]), (5, [.slice e1 m1 f1, .slice e2 m2 f2, .slice e3 m3 f3, .slice e4 m4 f4]), (6, [.slice none 0 0, .slice none 0 0, .slice none 0 0, .slice none 0 0]), (7, [.slice none 0 0, .slice none 0 0, .slice none 0 0, .slice none 0 0])]) I2 ?_ ?_
    · obtain ⟨u, hu⟩ : ∃ u, A .icm .eql (A .ari .rem .i64 t 31) 30 = u := ⟨_, rfl⟩
      clear hI2
      cbv
      refine ⟨by decide, ?_⟩
      cbv
      rw [hu]
      cases u with
      | true =>
        cbv
        refine ⟨⟨#[110, 111, 110, 101]⟩, ⟨?_, ?_, ?_⟩, hA1 _⟩
        · cbv
        · cbv
        · cbv
      | false =>
        cbv
        refine ⟨nm5, ⟨?_, ?_, ?_⟩, hA1 _⟩
        · cbv
        · cbv
        · cbv
    · intro nm h2 hI
      rw [hI2] at hI
      cbv
      clear hI2 hA1 l5 qs5 hnm5 ho5
      intro n6 h6 g6 e6
      have l6 : Le h2 h6 := by rw [e6]; exact Le.set g6
      have f6 := (congrFun e6 n6).trans hset_self
      have s6 : Sl 9 shStr h6 (.slice (some ⟨n6, 0, none⟩) 3 3) [⟨#[109]⟩, ⟨#[110]⟩, ⟨#[111, 114]⟩] := three_sl (s := shStr) rfl f6 (x := ⟨#[109]⟩) (y := ⟨#[110]⟩) (w := ⟨#[111, 114]⟩) rfl rfl rfl
      cbv
      refine within15 nn 3 (by omega) (by omega) h6 (fun zm im hzm him him3 => ?_)
      obtain ⟨mk, hmk⟩ := get_ex (xs := [(⟨#[109]⟩ : ByteArray), ⟨#[110]⟩, ⟨#[111, 114]⟩]) (i := im) him3
      have hckm : (0 : Int) ≤ zm ∧ zm < ((3 : Nat) : Int) := hzm.ix him3
      have hzme := hzm.eq
      cbv
      refine ⟨⟨rfl, hckm⟩, ?_⟩
      cbv
      refine s6.load hmk hzme (fun cs hcs => ?_)
      have hcs : cs = [.string mk] := hcs
      subst hcs
      clear hmk hzme hckm s6
      cbv
      refine shape16 (z := zt) (t := tt) hzt htt h6 (fun h5 sb5 sn5 sc5 nm5 o5 l5 hnm5 ho5 qs5 => ?_)
      cbv
      refine fit22 qs5 (by simp [shColsE]) nn hnn (fun h7 rb rn rc l7 hb7 => ?_)
      have hro : RowOk (fitL shColsE nn shColsE.length) := fit_ok nn
      have qr := hb7.sl
      generalize fitL shColsE nn shColsE.length = r at hro qr
      have hrl : r.length = 2 := by obtain ⟨a, v, rfl, -⟩ := hro; rfl
      have hr0 : ∃ ra, r[0]? = some ⟨2, ra, noS⟩ := by obtain ⟨a, v, rfl, -⟩ := hro; exact ⟨a, rfl⟩
      obtain ⟨ra, hr0⟩ := hr0
      have hrn : rn = 2 := by rw [qr.len, hrl]
      have hle : Le h' h7 := ((hI.trans l6).trans l5).trans l7
      clear hb7 hI l6 l5 l7 qs5
      obtain ⟨I3, hI3⟩ : ∃ I : G4 × G4 × Int → Heap → Prop, ∀ g h2, I g h2 = ∃ d', Le h' h2 ∧ RDB h2 (.agg #[.slice g.1.b1 g.1.n1 g.1.c1, .slice g.1.b2 g.1.n2 g.1.c2, .slice g.1.b3 g.1.n3 g.1.c3, .slice g.1.b4 g.1.n4 g.1.c4]) d' ∧ RP h2 g.2.1.b1 g.2.1.n1 g.2.1.c1 g.2.1.b2 g.2.1.n2 g.2.1.c2 g.2.1.b3 g.2.1.n3 g.2.1.c3 g.2.1.b4 g.2.1.n4 g.2.1.c4 d' ∧ SJ (n + 1) d' ∧ StepR se d d' := ⟨_, fun _ _ => rfl⟩
      have hfin3 : ∀ hL pb1 pn1 pc1 pb2 pn2 pc2 pb3 pn3 pc3 pb4 pn4 pc4 rb1 rn1 rc1 rb2 rn2 rc2 rb3 rn3 rc3 rb4 rn4 rc4 e d', Le h' hL → RDB hL (.agg #[.slice pb1 pn1 pc1, .slice pb2 pn2 pc2, .slice pb3 pn3 pc3, .slice pb4 pn4 pc4]) d' → RP hL rb1 rn1 rc1 rb2 rn2 rc2 rb3 rn3 rc3 rb4 rn4 rc4 d' → SJ (n + 1) d' → StepR se d d' → I3 (⟨pb1, pn1, pc1, pb2, pn2, pc2, pb3, pn3, pc3, pb4, pn4, pc4⟩, ⟨rb1, rn1, rc1, rb2, rn2, rc2, rb3, rn3, rc3, rb4, rn4, rc4⟩, e) hL := fun hL pb1 pn1 pc1 pb2 pn2 pc2 pb3 pn3 pc3 pb4 pn4 pc4 rb1 rn1 rc1 rb2 rn2 rc2 rb3 rn3 rc3 rb4 rn4 rc4 e d' a1 a2 a3 a4 a5 => by rw [hI3]; exact ⟨d', a1, a2, a3, a4, a5⟩
      cbv
      refine CutX.go0 (G := G4 × G4 × Int) 288 (fun g => [(4, .loc 4 0), (5, .loc 5 0), (6, .loc 6 0), (7, .loc 7 0), (14, .v (.int .i64 g.2.2)), (15, .v (.int .i64 g.2.2)), (16, .v (.bool true))]) (fun g => [(3, [.int .i64 kk, .int .i64 s, .int .i64 t, .int .i64 nn, .bool x]), (4, [.slice g.1.b1 g.1.n1 g.1.c1, .slice g.1.b2 g.1.n2 g.1.c2, .slice g.1.b3 g.1.n3 g.1.c3, .slice g.1.b4 g.1.n4 g.1.c4]), (5, [.slice g.2.1.b1 g.2.1.n1 g.2.1.c1, .slice g.2.1.b2 g.2.1.n2 g.2.1.c2, .slice g.2.1.b3 g.2.1.n3 g.2.1.c3, .slice g.2.1.b4 g.2.1.n4 g.2.1.c4]), (6, [.slice none 0 0, .slice none 0 0, .slice none 0 0, .slice none 0 0]), (7, [.slice none 0 0, .slice none 0 0, .slice none 0 0, .slice none 0 0])]) I3 ?_ ?_
      · clear hI3 hk
        refine within15 kk 15 (by omega) (by omega) h7 (fun zk ik hzk hik hik15 => ?_)
        have hzke := hzk.eq
        have hcase : zk = 0 ∨ zk = 1 ∨ zk = 2 ∨ zk = 3 ∨ zk = 4 ∨ zk = 5 ∨ zk = 6 ∨ zk = 7 ∨ zk = 8 ∨ zk = 9 ∨ zk = 10 ∨ zk = 11 ∨ zk = 12 ∨ zk = 13 ∨ zk = 14 := by omega
        clear hzk hzke hik hik15
        rcases hcase with rfl | rfl | rfl | rfl | rfl | rfl | rfl | rfl | rfl | rfl | rfl | rfl | rfl | rfl | rfl
        · cbv
          rw [icm_eql A]
          cbv
          obtain ⟨⟨d', e⟩, hD⟩ : ∃ X, beginD d se = X := ⟨_, rfl⟩
          have hsj : SJ (n + 1) d' := by have := (sj_begin J (by omega) se).le (show n ≤ n + 1 by omega); rw [hD] at this; exact this
          have hst : StepR se d d' := by have : StepR se d (beginD d se).1 := .begin; rw [hD] at this; exact this
          refine begin18K (q.mono hle) se hsm hD (fun hP pb1 pn1 pc1 pb2 pn2 pc2 pb3 pn3 pc3 pb4 pn4 pc4 lP qP => ?_)
          have qP : RDB hP _ d' := qP
          have lP := hle.trans lP
          cbv
          refine begin36 (p.mono lP) hSI se hse hD (fun hL rb1 rn1 rc1 rb2 rn2 rc2 rb3 rn3 rc3 rb4 rn4 rc4 lR pL => ?_)
          have pL : RP hL rb1 rn1 rc1 rb2 rn2 rc2 rb3 rn3 rc3 rb4 rn4 rc4 d' := pL
          have qL := qP.mono lR
          have lL := lP.trans lR
          have hI := hfin3 hL pb1 pn1 pc1 pb2 pn2 pc2 pb3 pn3 pc3 pb4 pn4 pc4 rb1 rn1 rc1 rb2 rn2 rc2 rb3 rn3 rc3 rb4 rn4 rc4 e d' lL qL pL hsj hst
          clear hfin3
          cbv
          refine ⟨(⟨pb1, pn1, pc1, pb2, pn2, pc2, pb3, pn3, pc3, pb4, pn4, pc4⟩, ⟨rb1, rn1, rc1, rb2, rn2, rc2, rb3, rn3, rc3, rb4, rn4, rc4⟩, e), ⟨?_, ?_, ?_⟩, hI⟩
          · cbv
          · cbv
          · cbv
        · cbv
          rw [icm_eql A]
          cbv
          rw [icm_eql A]
          cbv
          obtain ⟨⟨d', e⟩, hD⟩ : ∃ X, holdF d ⟨se, nm, x⟩ = X := ⟨_, rfl⟩
          have hsj : SJ (n + 1) d' := by have := sj_hold J ⟨se, nm, x⟩ hse; rw [hD] at this; exact this
          have hst : StepR se d d' := by have : StepR se d (holdF d ⟨se, nm, x⟩).1 := .hold nm x; rw [hD] at this; exact this
          refine hold20K (q.mono hle) hok (by omega) se nm x hD (fun hP pb1 pn1 pc1 pb2 pn2 pc2 pb3 pn3 pc3 pb4 pn4 pc4 lP qP => ?_)
          have qP : RDB hP _ d' := qP
          have lP := hle.trans lP
          cbv
          refine hold79 (p.mono lP) J.sc hok (by omega) ⟨se, nm, x⟩ hse hD (fun hL rb1 rn1 rc1 rb2 rn2 rc2 rb3 rn3 rc3 rb4 rn4 rc4 lR pL => ?_)
          have pL : RP hL rb1 rn1 rc1 rb2 rn2 rc2 rb3 rn3 rc3 rb4 rn4 rc4 d' := pL
          have qL := qP.mono lR
          have lL := lP.trans lR
          have hI := hfin3 hL pb1 pn1 pc1 pb2 pn2 pc2 pb3 pn3 pc3 pb4 pn4 pc4 rb1 rn1 rc1 rb2 rn2 rc2 rb3 rn3 rc3 rb4 rn4 rc4 e d' lL qL pL hsj hst
          clear hfin3
          cbv
          refine ⟨(⟨pb1, pn1, pc1, pb2, pn2, pc2, pb3, pn3, pc3, pb4, pn4, pc4⟩, ⟨rb1, rn1, rc1, rb2, rn2, rc2, rb3, rn3, rc3, rb4, rn4, rc4⟩, e), ⟨?_, ?_, ?_⟩, hI⟩
          · cbv
          · cbv
          · cbv
        · cbv
          rw [icm_eql A]
          cbv
          rw [icm_eql A]
          cbv
          rw [icm_eql A]
          cbv
          have f13 : ∃ u, A .icm .eql (A .ari .rem .i64 nn 13) 12 = u := ⟨_, rfl⟩
          obtain ⟨u13, f13⟩ := f13
          refine ⟨by decide, ?_⟩
          cbv
          rw [f13]
          cases u13 with
          | false =>
            have hrow : RowOk r ∨ r.length ≠ 2 := .inl hro
            have qrw := qr
            cbv
            intro n8 h8 g8 e8
            have l8 : Le h7 h8 := by rw [e8]; exact Le.set g8
            have hnil : Buf 68 shVal h7 h8 (.slice (some ⟨n8, 0, none⟩) 0 0) ([] : Row) := Buf.nil
            have qrw8 := qrw.mono (l8.t [68])
            cbv
            refine hnil.append qrw8 (by decide) rfl (by decide) (by have := qrw.len; have := qrw.bound; omega) l8 (fun m9 b9 c9 h9 em9 l9 t9 k9 hb9 => ?_)
            rw [List.nil_append] at hb9
            have hle := hle.trans l9
            have qrw9 := qrw.mono (l9.t [68])
            cbv
            obtain ⟨⟨d', e⟩, hD⟩ : ∃ X, putF d se nm r = X := ⟨_, rfl⟩
            have hsj : SJ (n + 1) d' := by have := sj_put J se nm hse hrow; rw [hD] at this; exact this
            have hst : StepR se d d' := by have : StepR se d (putF d se nm r).1 := .put nm hrow; rw [hD] at this; exact this
            refine put23F (q.mono hle) hok (by omega) se hse nm hb9.sl hD (fun hP pb1 pn1 pc1 pb2 pn2 pc2 pb3 pn3 pc3 pb4 pn4 pc4 lP qP => ?_)
            have qP : RDB hP _ d' := qP
            have lP0 := lP
            have lP := hle.trans lP
            cbv
            refine put81 (p.mono lP) J.sc hok (by omega) se nm hse (qrw9.mono (lP0.t _)) hrow hD (fun hL rb1 rn1 rc1 rb2 rn2 rc2 rb3 rn3 rc3 rb4 rn4 rc4 lR pL => ?_)
            have pL : RP hL rb1 rn1 rc1 rb2 rn2 rc2 rb3 rn3 rc3 rb4 rn4 rc4 d' := pL
            have qL := qP.mono lR
            have lL := lP.trans lR
            have hI := hfin3 hL pb1 pn1 pc1 pb2 pn2 pc2 pb3 pn3 pc3 pb4 pn4 pc4 rb1 rn1 rc1 rb2 rn2 rc2 rb3 rn3 rc3 rb4 rn4 rc4 e d' lL qL pL hsj hst
            clear hfin3
            cbv
            refine ⟨(⟨pb1, pn1, pc1, pb2, pn2, pc2, pb3, pn3, pc3, pb4, pn4, pc4⟩, ⟨rb1, rn1, rc1, rb2, rn2, rc2, rb3, rn3, rc3, rb4, rn4, rc4⟩, e), ⟨?_, ?_, ?_⟩, hI⟩
            · cbv
            · cbv
            · cbv
          | true =>
            have hck1 : (0 : Int) ≤ 1 ∧ (1 : Int) ≤ (rc : Int) := by have := qr.bound; have := qr.len; omega
            have hrow : RowOk (r.take 1) ∨ (r.take 1).length ≠ 2 := .inr (by rw [List.length_take]; omega)
            have hdz : A .dif 1 0 = 1 := by rw [hA.dif]; rfl
            have qrw : Sl 68 shVal h7 (.slice (A .cut rb 0 (A .nat rc) 3) (A .dif 1 0) rc) (r.take 1) := by rw [hdz]; exact qr.takeX (A := A) (i := 1) (by omega)
            cbv
            refine ⟨hck1, ?_⟩
            cbv
            intro n8 h8 g8 e8
            have l8 : Le h7 h8 := by rw [e8]; exact Le.set g8
            have hnil : Buf 68 shVal h7 h8 (.slice (some ⟨n8, 0, none⟩) 0 0) ([] : Row) := Buf.nil
            have qrw8 := qrw.mono (l8.t [68])
            cbv
            refine hnil.append qrw8 (by decide) rfl (by decide) (by have := qrw.len; have := qrw.bound; omega) l8 (fun m9 b9 c9 h9 em9 l9 t9 k9 hb9 => ?_)
            rw [List.nil_append] at hb9
            have hle := hle.trans l9
            have qrw9 := qrw.mono (l9.t [68])
            cbv
            obtain ⟨⟨d', e⟩, hD⟩ : ∃ X, putF d se nm (r.take 1) = X := ⟨_, rfl⟩
            have hsj : SJ (n + 1) d' := by have := sj_put J se nm hse hrow; rw [hD] at this; exact this
            have hst : StepR se d d' := by have : StepR se d (putF d se nm (r.take 1)).1 := .put nm hrow; rw [hD] at this; exact this
            refine put23F (q.mono hle) hok (by omega) se hse nm hb9.sl hD (fun hP pb1 pn1 pc1 pb2 pn2 pc2 pb3 pn3 pc3 pb4 pn4 pc4 lP qP => ?_)
            have qP : RDB hP _ d' := qP
            have lP0 := lP
            have lP := hle.trans lP
            cbv
            refine put81 (p.mono lP) J.sc hok (by omega) se nm hse (qrw9.mono (lP0.t _)) hrow hD (fun hL rb1 rn1 rc1 rb2 rn2 rc2 rb3 rn3 rc3 rb4 rn4 rc4 lR pL => ?_)
            have pL : RP hL rb1 rn1 rc1 rb2 rn2 rc2 rb3 rn3 rc3 rb4 rn4 rc4 d' := pL
            have qL := qP.mono lR
            have lL := lP.trans lR
            have hI := hfin3 hL pb1 pn1 pc1 pb2 pn2 pc2 pb3 pn3 pc3 pb4 pn4 pc4 rb1 rn1 rc1 rb2 rn2 rc2 rb3 rn3 rc3 rb4 rn4 rc4 e d' lL qL pL hsj hst
            clear hfin3
            cbv
            refine ⟨(⟨pb1, pn1, pc1, pb2, pn2, pc2, pb3, pn3, pc3, pb4, pn4, pc4⟩, ⟨rb1, rn1, rc1, rb2, rn2, rc2, rb3, rn3, rc3, rb4, rn4, rc4⟩, e), ⟨?_, ?_, ?_⟩, hI⟩
            · cbv
            · cbv
            · cbv
        · cbv
          rw [icm_eql A]
          cbv
          rw [icm_eql A]
          cbv
          rw [icm_eql A]
          cbv
          rw [icm_eql A]
          cbv
          have f13 : ∃ u, A .icm .eql (A .ari .rem .i64 nn 13) 12 = u := ⟨_, rfl⟩
          obtain ⟨u13, f13⟩ := f13
          refine ⟨by decide, ?_⟩
          cbv
          rw [f13]
          cases u13 with
          | false =>
            have hrow : RowOk r ∨ r.length ≠ 2 := .inl hro
            have qrw := qr
            cbv
            intro n8 h8 g8 e8
            have l8 : Le h7 h8 := by rw [e8]; exact Le.set g8
            have hnil : Buf 68 shVal h7 h8 (.slice (some ⟨n8, 0, none⟩) 0 0) ([] : Row) := Buf.nil
            have qrw8 := qrw.mono (l8.t [68])
            cbv
            refine hnil.append qrw8 (by decide) rfl (by decide) (by have := qrw.len; have := qrw.bound; omega) l8 (fun m9 b9 c9 h9 em9 l9 t9 k9 hb9 => ?_)
            rw [List.nil_append] at hb9
            have hle := hle.trans l9
            have qrw9 := qrw.mono (l9.t [68])
            cbv
            obtain ⟨⟨d', e⟩, hD⟩ : ∃ X, putF d se nm r = X := ⟨_, rfl⟩
            have hsj : SJ (n + 1) d' := by have := sj_put J se nm hse hrow; rw [hD] at this; exact this
            have hst : StepR se d d' := by have : StepR se d (putF d se nm r).1 := .put nm hrow; rw [hD] at this; exact this
            refine put23F (q.mono hle) hok (by omega) se hse nm hb9.sl hD (fun hP pb1 pn1 pc1 pb2 pn2 pc2 pb3 pn3 pc3 pb4 pn4 pc4 lP qP => ?_)
            have qP : RDB hP _ d' := qP
            have lP0 := lP
            have lP := hle.trans lP
            cbv
            refine put81 (p.mono lP) J.sc hok (by omega) se nm hse (qrw9.mono (lP0.t _)) hrow hD (fun hL rb1 rn1 rc1 rb2 rn2 rc2 rb3 rn3 rc3 rb4 rn4 rc4 lR pL => ?_)
            have pL : RP hL rb1 rn1 rc1 rb2 rn2 rc2 rb3 rn3 rc3 rb4 rn4 rc4 d' := pL
            have qL := qP.mono lR
            have lL := lP.trans lR
            have hI := hfin3 hL pb1 pn1 pc1 pb2 pn2 pc2 pb3 pn3 pc3 pb4 pn4 pc4 rb1 rn1 rc1 rb2 rn2 rc2 rb3 rn3 rc3 rb4 rn4 rc4 e d' lL qL pL hsj hst
            clear hfin3
            cbv
            refine ⟨(⟨pb1, pn1, pc1, pb2, pn2, pc2, pb3, pn3, pc3, pb4, pn4, pc4⟩, ⟨rb1, rn1, rc1, rb2, rn2, rc2, rb3, rn3, rc3, rb4, rn4, rc4⟩, e), ⟨?_, ?_, ?_⟩, hI⟩
            · cbv
            · cbv
            · cbv
          | true =>
            have hck1 : (0 : Int) ≤ 1 ∧ (1 : Int) ≤ (rc : Int) := by have := qr.bound; have := qr.len; omega
            have hrow : RowOk (r.take 1) ∨ (r.take 1).length ≠ 2 := .inr (by rw [List.length_take]; omega)
            have hdz : A .dif 1 0 = 1 := by rw [hA.dif]; rfl
            have qrw : Sl 68 shVal h7 (.slice (A .cut rb 0 (A .nat rc) 3) (A .dif 1 0) rc) (r.take 1) := by rw [hdz]; exact qr.takeX (A := A) (i := 1) (by omega)
            cbv
            refine ⟨hck1, ?_⟩
            cbv
            intro n8 h8 g8 e8
            have l8 : Le h7 h8 := by rw [e8]; exact Le.set g8
            have hnil : Buf 68 shVal h7 h8 (.slice (some ⟨n8, 0, none⟩) 0 0) ([] : Row) := Buf.nil
            have qrw8 := qrw.mono (l8.t [68])
            cbv
            refine hnil.append qrw8 (by decide) rfl (by decide) (by have := qrw.len; have := qrw.bound; omega) l8 (fun m9 b9 c9 h9 em9 l9 t9 k9 hb9 => ?_)
            rw [List.nil_append] at hb9
            have hle := hle.trans l9
            have qrw9 := qrw.mono (l9.t [68])
            cbv
            obtain ⟨⟨d', e⟩, hD⟩ : ∃ X, putF d se nm (r.take 1) = X := ⟨_, rfl⟩
            have hsj : SJ (n + 1) d' := by have := sj_put J se nm hse hrow; rw [hD] at this; exact this
            have hst : StepR se d d' := by have : StepR se d (putF d se nm (r.take 1)).1 := .put nm hrow; rw [hD] at this; exact this
            refine put23F (q.mono hle) hok (by omega) se hse nm hb9.sl hD (fun hP pb1 pn1 pc1 pb2 pn2 pc2 pb3 pn3 pc3 pb4 pn4 pc4 lP qP => ?_)
            have qP : RDB hP _ d' := qP
            have lP0 := lP
            have lP := hle.trans lP
            cbv
            refine put81 (p.mono lP) J.sc hok (by omega) se nm hse (qrw9.mono (lP0.t _)) hrow hD (fun hL rb1 rn1 rc1 rb2 rn2 rc2 rb3 rn3 rc3 rb4 rn4 rc4 lR pL => ?_)
            have pL : RP hL rb1 rn1 rc1 rb2 rn2 rc2 rb3 rn3 rc3 rb4 rn4 rc4 d' := pL
            have qL := qP.mono lR
            have lL := lP.trans lR
            have hI := hfin3 hL pb1 pn1 pc1 pb2 pn2 pc2 pb3 pn3 pc3 pb4 pn4 pc4 rb1 rn1 rc1 rb2 rn2 rc2 rb3 rn3 rc3 rb4 rn4 rc4 e d' lL qL pL hsj hst
            clear hfin3
            cbv
            refine ⟨(⟨pb1, pn1, pc1, pb2, pn2, pc2, pb3, pn3, pc3, pb4, pn4, pc4⟩, ⟨rb1, rn1, rc1, rb2, rn2, rc2, rb3, rn3, rc3, rb4, rn4, rc4⟩, e), ⟨?_, ?_, ?_⟩, hI⟩
            · cbv
            · cbv
            · cbv
        · cbv
          rw [icm_eql A]
          cbv
          rw [icm_eql A]
          cbv
          rw [icm_eql A]
          cbv
          rw [icm_eql A]
          cbv
          rw [icm_eql A]
          cbv
          have f13 : ∃ u, A .icm .eql (A .ari .rem .i64 nn 13) 12 = u := ⟨_, rfl⟩
          obtain ⟨u13, f13⟩ := f13
          refine ⟨by decide, ?_⟩
          cbv
          rw [f13]
          cases u13 with
          | false =>
            have hrow : RowOk r ∨ r.length ≠ 2 := .inl hro
            have qrw := qr
            cbv
            intro n8 h8 g8 e8
            have l8 : Le h7 h8 := by rw [e8]; exact Le.set g8
            have hnil : Buf 68 shVal h7 h8 (.slice (some ⟨n8, 0, none⟩) 0 0) ([] : Row) := Buf.nil
            have qrw8 := qrw.mono (l8.t [68])
            cbv
            refine hnil.append qrw8 (by decide) rfl (by decide) (by have := qrw.len; have := qrw.bound; omega) l8 (fun m9 b9 c9 h9 em9 l9 t9 k9 hb9 => ?_)
            rw [List.nil_append] at hb9
            have hle := hle.trans l9
            have qrw9 := qrw.mono (l9.t [68])
            cbv
            obtain ⟨⟨d', e⟩, hD⟩ : ∃ X, putF d se nm r = X := ⟨_, rfl⟩
            have hsj : SJ (n + 1) d' := by have := sj_put J se nm hse hrow; rw [hD] at this; exact this
            have hst : StepR se d d' := by have : StepR se d (putF d se nm r).1 := .put nm hrow; rw [hD] at this; exact this
            refine put23F (q.mono hle) hok (by omega) se hse nm hb9.sl hD (fun hP pb1 pn1 pc1 pb2 pn2 pc2 pb3 pn3 pc3 pb4 pn4 pc4 lP qP => ?_)
            have qP : RDB hP _ d' := qP
            have lP0 := lP
            have lP := hle.trans lP
            cbv
            refine put81 (p.mono lP) J.sc hok (by omega) se nm hse (qrw9.mono (lP0.t _)) hrow hD (fun hL rb1 rn1 rc1 rb2 rn2 rc2 rb3 rn3 rc3 rb4 rn4 rc4 lR pL => ?_)
            have pL : RP hL rb1 rn1 rc1 rb2 rn2 rc2 rb3 rn3 rc3 rb4 rn4 rc4 d' := pL
            have qL := qP.mono lR
            have lL := lP.trans lR
            have hI := hfin3 hL pb1 pn1 pc1 pb2 pn2 pc2 pb3 pn3 pc3 pb4 pn4 pc4 rb1 rn1 rc1 rb2 rn2 rc2 rb3 rn3 rc3 rb4 rn4 rc4 e d' lL qL pL hsj hst
            clear hfin3
            cbv
            refine ⟨(⟨pb1, pn1, pc1, pb2, pn2, pc2, pb3, pn3, pc3, pb4, pn4, pc4⟩, ⟨rb1, rn1, rc1, rb2, rn2, rc2, rb3, rn3, rc3, rb4, rn4, rc4⟩, e), ⟨?_, ?_, ?_⟩, hI⟩
            · cbv
            · cbv
            · cbv
          | true =>
            have hck1 : (0 : Int) ≤ 1 ∧ (1 : Int) ≤ (rc : Int) := by have := qr.bound; have := qr.len; omega
            have hrow : RowOk (r.take 1) ∨ (r.take 1).length ≠ 2 := .inr (by rw [List.length_take]; omega)
            have hdz : A .dif 1 0 = 1 := by rw [hA.dif]; rfl
            have qrw : Sl 68 shVal h7 (.slice (A .cut rb 0 (A .nat rc) 3) (A .dif 1 0) rc) (r.take 1) := by rw [hdz]; exact qr.takeX (A := A) (i := 1) (by omega)
            cbv
            refine ⟨hck1, ?_⟩
            cbv
            intro n8 h8 g8 e8
            have l8 : Le h7 h8 := by rw [e8]; exact Le.set g8
            have hnil : Buf 68 shVal h7 h8 (.slice (some ⟨n8, 0, none⟩) 0 0) ([] : Row) := Buf.nil
            have qrw8 := qrw.mono (l8.t [68])
            cbv
            refine hnil.append qrw8 (by decide) rfl (by decide) (by have := qrw.len; have := qrw.bound; omega) l8 (fun m9 b9 c9 h9 em9 l9 t9 k9 hb9 => ?_)
            rw [List.nil_append] at hb9
            have hle := hle.trans l9
            have qrw9 := qrw.mono (l9.t [68])
            cbv
            obtain ⟨⟨d', e⟩, hD⟩ : ∃ X, putF d se nm (r.take 1) = X := ⟨_, rfl⟩
            have hsj : SJ (n + 1) d' := by have := sj_put J se nm hse hrow; rw [hD] at this; exact this
            have hst : StepR se d d' := by have : StepR se d (putF d se nm (r.take 1)).1 := .put nm hrow; rw [hD] at this; exact this
            refine put23F (q.mono hle) hok (by omega) se hse nm hb9.sl hD (fun hP pb1 pn1 pc1 pb2 pn2 pc2 pb3 pn3 pc3 pb4 pn4 pc4 lP qP => ?_)
            have qP : RDB hP _ d' := qP
            have lP0 := lP
            have lP := hle.trans lP
            cbv
            refine put81 (p.mono lP) J.sc hok (by omega) se nm hse (qrw9.mono (lP0.t _)) hrow hD (fun hL rb1 rn1 rc1 rb2 rn2 rc2 rb3 rn3 rc3 rb4 rn4 rc4 lR pL => ?_)
            have pL : RP hL rb1 rn1 rc1 rb2 rn2 rc2 rb3 rn3 rc3 rb4 rn4 rc4 d' := pL
            have qL := qP.mono lR
            have lL := lP.trans lR
            have hI := hfin3 hL pb1 pn1 pc1 pb2 pn2 pc2 pb3 pn3 pc3 pb4 pn4 pc4 rb1 rn1 rc1 rb2 rn2 rc2 rb3 rn3 rc3 rb4 rn4 rc4 e d' lL qL pL hsj hst
            clear hfin3
            cbv
            refine ⟨(⟨pb1, pn1, pc1, pb2, pn2, pc2, pb3, pn3, pc3, pb4, pn4, pc4⟩, ⟨rb1, rn1, rc1, rb2, rn2, rc2, rb3, rn3, rc3, rb4, rn4, rc4⟩, e), ⟨?_, ?_, ?_⟩, hI⟩
            · cbv
            · cbv
            · cbv
        · cbv
          rw [icm_eql A]
          cbv
          rw [icm_eql A]
          cbv
          rw [icm_eql A]
          cbv
          rw [icm_eql A]
          cbv
          rw [icm_eql A]
          cbv
          rw [icm_eql A]
          cbv
          have f13 : ∃ u, A .icm .eql (A .ari .rem .i64 nn 13) 12 = u := ⟨_, rfl⟩
          obtain ⟨u13, f13⟩ := f13
          refine ⟨by decide, ?_⟩
          cbv
          rw [f13]
          cases u13 with
          | false =>
            have hrow : RowOk r ∨ r.length ≠ 2 := .inl hro
            have qrw := qr
            cbv
            intro n8 h8 g8 e8
            have l8 : Le h7 h8 := by rw [e8]; exact Le.set g8
            have hnil : Buf 68 shVal h7 h8 (.slice (some ⟨n8, 0, none⟩) 0 0) ([] : Row) := Buf.nil
            have qrw8 := qrw.mono (l8.t [68])
            cbv
            refine hnil.append qrw8 (by decide) rfl (by decide) (by have := qrw.len; have := qrw.bound; omega) l8 (fun m9 b9 c9 h9 em9 l9 t9 k9 hb9 => ?_)
            rw [List.nil_append] at hb9
            have hle := hle.trans l9
            have qrw9 := qrw.mono (l9.t [68])
            cbv
            obtain ⟨⟨d', e⟩, hD⟩ : ∃ X, putF d se nm r = X := ⟨_, rfl⟩
            have hsj : SJ (n + 1) d' := by have := sj_put J se nm hse hrow; rw [hD] at this; exact this
            have hst : StepR se d d' := by have : StepR se d (putF d se nm r).1 := .put nm hrow; rw [hD] at this; exact this
            refine put23F (q.mono hle) hok (by omega) se hse nm hb9.sl hD (fun hP pb1 pn1 pc1 pb2 pn2 pc2 pb3 pn3 pc3 pb4 pn4 pc4 lP qP => ?_)
            have qP : RDB hP _ d' := qP
            have lP0 := lP
            have lP := hle.trans lP
            cbv
            refine put81 (p.mono lP) J.sc hok (by omega) se nm hse (qrw9.mono (lP0.t _)) hrow hD (fun hL rb1 rn1 rc1 rb2 rn2 rc2 rb3 rn3 rc3 rb4 rn4 rc4 lR pL => ?_)
            have pL : RP hL rb1 rn1 rc1 rb2 rn2 rc2 rb3 rn3 rc3 rb4 rn4 rc4 d' := pL
            have qL := qP.mono lR
            have lL := lP.trans lR
            have hI := hfin3 hL pb1 pn1 pc1 pb2 pn2 pc2 pb3 pn3 pc3 pb4 pn4 pc4 rb1 rn1 rc1 rb2 rn2 rc2 rb3 rn3 rc3 rb4 rn4 rc4 e d' lL qL pL hsj hst
            clear hfin3
            cbv
            refine ⟨(⟨pb1, pn1, pc1, pb2, pn2, pc2, pb3, pn3, pc3, pb4, pn4, pc4⟩, ⟨rb1, rn1, rc1, rb2, rn2, rc2, rb3, rn3, rc3, rb4, rn4, rc4⟩, e), ⟨?_, ?_, ?_⟩, hI⟩
            · cbv
            · cbv
            · cbv
          | true =>
            have hck1 : (0 : Int) ≤ 1 ∧ (1 : Int) ≤ (rc : Int) := by have := qr.bound; have := qr.len; omega
            have hrow : RowOk (r.take 1) ∨ (r.take 1).length ≠ 2 := .inr (by rw [List.length_take]; omega)
            have hdz : A .dif 1 0 = 1 := by rw [hA.dif]; rfl
            have qrw : Sl 68 shVal h7 (.slice (A .cut rb 0 (A .nat rc) 3) (A .dif 1 0) rc) (r.take 1) := by rw [hdz]; exact qr.takeX (A := A) (i := 1) (by omega)
            cbv
            refine ⟨hck1, ?_⟩
            cbv
            intro n8 h8 g8 e8
            have l8 : Le h7 h8 := by rw [e8]; exact Le.set g8
            have hnil : Buf 68 shVal h7 h8 (.slice (some ⟨n8, 0, none⟩) 0 0) ([] : Row) := Buf.nil
            have qrw8 := qrw.mono (l8.t [68])
            cbv
            refine hnil.append qrw8 (by decide) rfl (by decide) (by have := qrw.len; have := qrw.bound; omega) l8 (fun m9 b9 c9 h9 em9 l9 t9 k9 hb9 => ?_)
            rw [List.nil_append] at hb9
            have hle := hle.trans l9
            have qrw9 := qrw.mono (l9.t [68])
            cbv
            obtain ⟨⟨d', e⟩, hD⟩ : ∃ X, putF d se nm (r.take 1) = X := ⟨_, rfl⟩
            have hsj : SJ (n + 1) d' := by have := sj_put J se nm hse hrow; rw [hD] at this; exact this
            have hst : StepR se d d' := by have : StepR se d (putF d se nm (r.take 1)).1 := .put nm hrow; rw [hD] at this; exact this
            refine put23F (q.mono hle) hok (by omega) se hse nm hb9.sl hD (fun hP pb1 pn1 pc1 pb2 pn2 pc2 pb3 pn3 pc3 pb4 pn4 pc4 lP qP => ?_)
            have qP : RDB hP _ d' := qP
            have lP0 := lP
            have lP := hle.trans lP
            cbv
            refine put81 (p.mono lP) J.sc hok (by omega) se nm hse (qrw9.mono (lP0.t _)) hrow hD (fun hL rb1 rn1 rc1 rb2 rn2 rc2 rb3 rn3 rc3 rb4 rn4 rc4 lR pL => ?_)
            have pL : RP hL rb1 rn1 rc1 rb2 rn2 rc2 rb3 rn3 rc3 rb4 rn4 rc4 d' := pL
            have qL := qP.mono lR
            have lL := lP.trans lR
            have hI := hfin3 hL pb1 pn1 pc1 pb2 pn2 pc2 pb3 pn3 pc3 pb4 pn4 pc4 rb1 rn1 rc1 rb2 rn2 rc2 rb3 rn3 rc3 rb4 rn4 rc4 e d' lL qL pL hsj hst
            clear hfin3
            cbv
            refine ⟨(⟨pb1, pn1, pc1, pb2, pn2, pc2, pb3, pn3, pc3, pb4, pn4, pc4⟩, ⟨rb1, rn1, rc1, rb2, rn2, rc2, rb3, rn3, rc3, rb4, rn4, rc4⟩, e), ⟨?_, ?_, ?_⟩, hI⟩
            · cbv
            · cbv
            · cbv
        · cbv
          rw [icm_eql A]
          cbv
          rw [icm_eql A]
          cbv
          rw [icm_eql A]
          cbv
          rw [icm_eql A]
          cbv
          rw [icm_eql A]
          cbv
          rw [icm_eql A]
          cbv
          rw [icm_eql A]
          cbv
          have hck0 : rb.isSome = true ∧ (0 : Int) ≤ 0 ∧ (0 : Int) < (rn : Int) := ⟨qr.isSm (by omega), by omega, by omega⟩
          have qr0 := qr
          cbv
          refine ⟨hck0, ?_⟩
          cbv
          refine qr.load (x := ⟨2, ra, noS⟩) hr0 (n := 0) rfl (fun cs hcs => ?_)
          have hcs : cs = [.int .i64 2, .int .i64 ra, .string noS] := hcs
          subst hcs
          cbv
          obtain ⟨⟨d', e⟩, hD⟩ : ∃ X, takeF d se nm ⟨2, ra, noS⟩ = X := ⟨_, rfl⟩
          have hsj : SJ (n + 1) d' := by have := sj_take J se nm ra hse; rw [hD] at this; exact this
          have hst : StepR se d d' := by have : StepR se d (takeF d se nm ⟨2, ra, noS⟩).1 := .take nm ra; rw [hD] at this; exact this
          refine take24F (q.mono hle) hok (by omega) se hse nm ⟨2, ra, noS⟩ hD (fun hP pb1 pn1 pc1 pb2 pn2 pc2 pb3 pn3 pc3 pb4 pn4 pc4 lP qP => ?_)
          have qP : RDB hP _ d' := qP
          have qrP := qr.mono (lP.t [68])
          have lP := hle.trans lP
          cbv
          refine ⟨hck0, ?_⟩
          cbv
          refine qrP.load (x := ⟨2, ra, noS⟩) hr0 (n := 0) rfl (fun cs hcs => ?_)
          have hcs : cs = [.int .i64 2, .int .i64 ra, .string noS] := hcs
          subst hcs
          cbv
          refine take82 (p.mono lP) J.sc hok (by omega) se nm ra hse hD (fun hL rb1 rn1 rc1 rb2 rn2 rc2 rb3 rn3 rc3 rb4 rn4 rc4 lR pL => ?_)
          have pL : RP hL rb1 rn1 rc1 rb2 rn2 rc2 rb3 rn3 rc3 rb4 rn4 rc4 d' := pL
          have qL := qP.mono lR
          have lL := lP.trans lR
          have hI := hfin3 hL pb1 pn1 pc1 pb2 pn2 pc2 pb3 pn3 pc3 pb4 pn4 pc4 rb1 rn1 rc1 rb2 rn2 rc2 rb3 rn3 rc3 rb4 rn4 rc4 e d' lL qL pL hsj hst
          clear hfin3
          cbv
          refine ⟨(⟨pb1, pn1, pc1, pb2, pn2, pc2, pb3, pn3, pc3, pb4, pn4, pc4⟩, ⟨rb1, rn1, rc1, rb2, rn2, rc2, rb3, rn3, rc3, rb4, rn4, rc4⟩, e), ⟨?_, ?_, ?_⟩, hI⟩
          · cbv
          · cbv
          · cbv
        · cbv
          rw [icm_eql A]
          cbv
          rw [icm_eql A]
          cbv
          rw [icm_eql A]
          cbv
          rw [icm_eql A]
          cbv
          rw [icm_eql A]
          cbv
          rw [icm_eql A]
          cbv
          rw [icm_eql A]
          cbv
          rw [icm_eql A]
          cbv
          have hck0 : rb.isSome = true ∧ (0 : Int) ≤ 0 ∧ (0 : Int) < (rn : Int) := ⟨qr.isSm (by omega), by omega, by omega⟩
          have qr0 := qr
          cbv
          refine ⟨hck0, ?_⟩
          cbv
          refine qr.load (x := ⟨2, ra, noS⟩) hr0 (n := 0) rfl (fun cs hcs => ?_)
          have hcs : cs = [.int .i64 2, .int .i64 ra, .string noS] := hcs
          subst hcs
          cbv
          obtain ⟨⟨d', e⟩, hD⟩ : ∃ X, takeF d se nm ⟨2, ra, noS⟩ = X := ⟨_, rfl⟩
          have hsj : SJ (n + 1) d' := by have := sj_take J se nm ra hse; rw [hD] at this; exact this
          have hst : StepR se d d' := by have : StepR se d (takeF d se nm ⟨2, ra, noS⟩).1 := .take nm ra; rw [hD] at this; exact this
          refine take24F (q.mono hle) hok (by omega) se hse nm ⟨2, ra, noS⟩ hD (fun hP pb1 pn1 pc1 pb2 pn2 pc2 pb3 pn3 pc3 pb4 pn4 pc4 lP qP => ?_)
          have qP : RDB hP _ d' := qP
          have qrP := qr.mono (lP.t [68])
          have lP := hle.trans lP
          cbv
          refine ⟨hck0, ?_⟩
          cbv
          refine qrP.load (x := ⟨2, ra, noS⟩) hr0 (n := 0) rfl (fun cs hcs => ?_)
          have hcs : cs = [.int .i64 2, .int .i64 ra, .string noS] := hcs
          subst hcs
          cbv
          refine take82 (p.mono lP) J.sc hok (by omega) se nm ra hse hD (fun hL rb1 rn1 rc1 rb2 rn2 rc2 rb3 rn3 rc3 rb4 rn4 rc4 lR pL => ?_)
          have pL : RP hL rb1 rn1 rc1 rb2 rn2 rc2 rb3 rn3 rc3 rb4 rn4 rc4 d' := pL
          have qL := qP.mono lR
          have lL := lP.trans lR
          have hI := hfin3 hL pb1 pn1 pc1 pb2 pn2 pc2 pb3 pn3 pc3 pb4 pn4 pc4 rb1 rn1 rc1 rb2 rn2 rc2 rb3 rn3 rc3 rb4 rn4 rc4 e d' lL qL pL hsj hst
          clear hfin3
          cbv
          refine ⟨(⟨pb1, pn1, pc1, pb2, pn2, pc2, pb3, pn3, pc3, pb4, pn4, pc4⟩, ⟨rb1, rn1, rc1, rb2, rn2, rc2, rb3, rn3, rc3, rb4, rn4, rc4⟩, e), ⟨?_, ?_, ?_⟩, hI⟩
          · cbv
          · cbv
          · cbv
        · cbv
          rw [icm_eql A]
          cbv
          rw [icm_eql A]
          cbv
          rw [icm_eql A]
          cbv
          rw [icm_eql A]
          cbv
          rw [icm_eql A]
          cbv
          rw [icm_eql A]
          cbv
          rw [icm_eql A]
          cbv
          rw [icm_eql A]
          cbv
          rw [icm_eql A]
          cbv
          obtain ⟨⟨d', R, e⟩, hD⟩ : ∃ X, rowsD d se nm = X := ⟨_, rfl⟩
          have hsj : SJ (n + 1) d' := by have := sj_rows J se nm hse; rw [hD] at this; exact this
          have hst : StepR se d d' := by have : StepR se d (rowsD d se nm).1 := .rows nm; rw [hD] at this; exact this
          refine rows31K (q.mono hle) hok (by omega) se hse nm hD (fun hP pb1 pn1 pc1 pb2 pn2 pc2 pb3 pn3 pc3 pb4 pn4 pc4 xb xn xc lP qP sP => ?_)
          have qP : RDB hP _ d' := qP
          have sP : Sl 63 shRow hP (.slice xb xn xc) R := sP
          have lP := hle.trans lP
          cbv
          refine rows37 (p.mono lP) J.sc hok (by omega) se nm hse hD (fun hL rb1 rn1 rc1 rb2 rn2 rc2 rb3 rn3 rc3 rb4 rn4 rc4 yb yn yc lR pL sR => ?_)
          have pL : RP hL rb1 rn1 rc1 rb2 rn2 rc2 rb3 rn3 rc3 rb4 rn4 rc4 d' := pL
          have sR : Sl 63 shRow hL (.slice yb yn yc) R := sR
          have qL := qP.mono lR
          have lL := lP.trans lR
          cbv
          refine rows33 (sP.mono (lR.t _)) sR ?_
          have hI := hfin3 hL pb1 pn1 pc1 pb2 pn2 pc2 pb3 pn3 pc3 pb4 pn4 pc4 rb1 rn1 rc1 rb2 rn2 rc2 rb3 rn3 rc3 rb4 rn4 rc4 e d' lL qL pL hsj hst
          clear hfin3
          cbv
          refine ⟨⟨_, rfl, rfl⟩, ?_⟩
          cbv
          refine ⟨(⟨pb1, pn1, pc1, pb2, pn2, pc2, pb3, pn3, pc3, pb4, pn4, pc4⟩, ⟨rb1, rn1, rc1, rb2, rn2, rc2, rb3, rn3, rc3, rb4, rn4, rc4⟩, e), ⟨?_, ?_, ?_⟩, hI⟩
          · cbv
          · cbv
          · cbv
        · cbv
          rw [icm_eql A]
          cbv
          rw [icm_eql A]
          cbv
          rw [icm_eql A]
          cbv
          rw [icm_eql A]
          cbv
          rw [icm_eql A]
          cbv
          rw [icm_eql A]
          cbv
          rw [icm_eql A]
          cbv
          rw [icm_eql A]
          cbv
          rw [icm_eql A]
          cbv
          rw [icm_eql A]
          cbv
          obtain ⟨⟨d', e⟩, hD⟩ : ∃ X, saveD d se mk = X := ⟨_, rfl⟩
          have hsj : SJ (n + 1) d' := by have := (sj_save J se mk hse).le (show n ≤ n + 1 by omega); rw [hD] at this; exact this
          have hst : StepR se d d' := by have : StepR se d (saveD d se mk).1 := .save mk; rw [hD] at this; exact this
          refine save27K (q.mono hle) se mk hD (fun hP pb1 pn1 pc1 pb2 pn2 pc2 pb3 pn3 pc3 pb4 pn4 pc4 lP qP => ?_)
          have qP : RDB hP _ d' := qP
          have lP := hle.trans lP
          cbv
          refine save83 (p.mono lP) hSI se hse mk hD (fun hL rb1 rn1 rc1 rb2 rn2 rc2 rb3 rn3 rc3 rb4 rn4 rc4 lR pL => ?_)
          have pL : RP hL rb1 rn1 rc1 rb2 rn2 rc2 rb3 rn3 rc3 rb4 rn4 rc4 d' := pL
          have qL := qP.mono lR
          have lL := lP.trans lR
          have hI := hfin3 hL pb1 pn1 pc1 pb2 pn2 pc2 pb3 pn3 pc3 pb4 pn4 pc4 rb1 rn1 rc1 rb2 rn2 rc2 rb3 rn3 rc3 rb4 rn4 rc4 e d' lL qL pL hsj hst
          clear hfin3
          cbv
          refine ⟨(⟨pb1, pn1, pc1, pb2, pn2, pc2, pb3, pn3, pc3, pb4, pn4, pc4⟩, ⟨rb1, rn1, rc1, rb2, rn2, rc2, rb3, rn3, rc3, rb4, rn4, rc4⟩, e), ⟨?_, ?_, ?_⟩, hI⟩
          · cbv
          · cbv
          · cbv
        · cbv
          rw [icm_eql A]
          cbv
          rw [icm_eql A]
          cbv
          rw [icm_eql A]
          cbv
          rw [icm_eql A]
          cbv
          rw [icm_eql A]
          cbv
          rw [icm_eql A]
          cbv
          rw [icm_eql A]
          cbv
          rw [icm_eql A]
          cbv
          rw [icm_eql A]
          cbv
          rw [icm_eql A]
          cbv
          rw [icm_eql A]
          cbv
          obtain ⟨⟨d', e⟩, hD⟩ : ∃ X, backM d se mk = X := ⟨_, rfl⟩
          have hsj : SJ (n + 1) d' := by have := (sj_back J se mk hse).le (show n ≤ n + 1 by omega); rw [hD] at this; exact this
          have hst : StepR se d d' := by have : StepR se d (backM d se mk).1 := .back mk; rw [hD] at this; exact this
          refine back32K (q.mono hle) hok se mk hD (fun hP pb1 pn1 pc1 pb2 pn2 pc2 pb3 pn3 pc3 pb4 pn4 pc4 lP qP => ?_)
          have qP : RDB hP _ d' := qP
          have lP := hle.trans lP
          cbv
          refine back84 (p.mono lP) hSI J.sc.mks se hse mk hD (fun hL rb1 rn1 rc1 rb2 rn2 rc2 rb3 rn3 rc3 rb4 rn4 rc4 lR pL => ?_)
          have pL : RP hL rb1 rn1 rc1 rb2 rn2 rc2 rb3 rn3 rc3 rb4 rn4 rc4 d' := pL
          have qL := qP.mono lR
          have lL := lP.trans lR
          have hI := hfin3 hL pb1 pn1 pc1 pb2 pn2 pc2 pb3 pn3 pc3 pb4 pn4 pc4 rb1 rn1 rc1 rb2 rn2 rc2 rb3 rn3 rc3 rb4 rn4 rc4 e d' lL qL pL hsj hst
          clear hfin3
          cbv
          refine ⟨(⟨pb1, pn1, pc1, pb2, pn2, pc2, pb3, pn3, pc3, pb4, pn4, pc4⟩, ⟨rb1, rn1, rc1, rb2, rn2, rc2, rb3, rn3, rc3, rb4, rn4, rc4⟩, e), ⟨?_, ?_, ?_⟩, hI⟩
          · cbv
          · cbv
          · cbv
        · cbv
          rw [icm_eql A]
          cbv
          rw [icm_eql A]
          cbv
          rw [icm_eql A]
          cbv
          rw [icm_eql A]
          cbv
          rw [icm_eql A]
          cbv
          rw [icm_eql A]
          cbv
          rw [icm_eql A]
          cbv
          rw [icm_eql A]
          cbv
          rw [icm_eql A]
          cbv
          rw [icm_eql A]
          cbv
          rw [icm_eql A]
          cbv
          rw [icm_eql A]
          cbv
          obtain ⟨⟨d', C, e⟩, hD⟩ : ∃ X, commitD d se = X := ⟨_, rfl⟩
          have hsj : SJ (n + 1) d' := by have := (sj_commit J hse).le (show n ≤ n + 1 by omega); rw [hD] at this; exact this
          have hst : StepR se d d' := by have : StepR se d (commitD d se).1 := .commit; rw [hD] at this; exact this
          refine commit28K (q.mono hle) hok (by omega) se hD (fun hP pb1 pn1 pc1 pb2 pn2 pc2 pb3 pn3 pc3 pb4 pn4 pc4 xb xn xc lP qP sP => ?_)
          have qP : RDB hP _ d' := qP
          have sP : Sl 77 shChg hP (.slice xb xn xc) C := sP
          have lP := hle.trans lP
          cbv
          refine commit85 (p.mono lP) hSI se hse hD (fun hL rb1 rn1 rc1 rb2 rn2 rc2 rb3 rn3 rc3 rb4 rn4 rc4 yb yn yc lR pL sR => ?_)
          have pL : RP hL rb1 rn1 rc1 rb2 rn2 rc2 rb3 rn3 rc3 rb4 rn4 rc4 d' := pL
          have sR : Sl 77 shChg hL (.slice yb yn yc) C := sR
          have qL := qP.mono lR
          have lL := lP.trans lR
          cbv
          refine changes29 (sP.mono (lR.t _)) sR ?_
          have hI := hfin3 hL pb1 pn1 pc1 pb2 pn2 pc2 pb3 pn3 pc3 pb4 pn4 pc4 rb1 rn1 rc1 rb2 rn2 rc2 rb3 rn3 rc3 rb4 rn4 rc4 e d' lL qL pL hsj hst
          clear hfin3
          cbv
          refine ⟨⟨_, rfl, rfl⟩, ?_⟩
          cbv
          refine ⟨(⟨pb1, pn1, pc1, pb2, pn2, pc2, pb3, pn3, pc3, pb4, pn4, pc4⟩, ⟨rb1, rn1, rc1, rb2, rn2, rc2, rb3, rn3, rc3, rb4, rn4, rc4⟩, e), ⟨?_, ?_, ?_⟩, hI⟩
          · cbv
          · cbv
          · cbv
        · cbv
          rw [icm_eql A]
          cbv
          rw [icm_eql A]
          cbv
          rw [icm_eql A]
          cbv
          rw [icm_eql A]
          cbv
          rw [icm_eql A]
          cbv
          rw [icm_eql A]
          cbv
          rw [icm_eql A]
          cbv
          rw [icm_eql A]
          cbv
          rw [icm_eql A]
          cbv
          rw [icm_eql A]
          cbv
          rw [icm_eql A]
          cbv
          rw [icm_eql A]
          cbv
          rw [icm_eql A]
          cbv
          obtain ⟨⟨d', e⟩, hD⟩ : ∃ X, rollbackD d se = X := ⟨_, rfl⟩
          have hsj : SJ (n + 1) d' := by have := (sj_end J hse).le (show n ≤ n + 1 by omega); rw [hD] at this; exact this
          have hst : StepR se d d' := by have : StepR se d (rollbackD d se).1 := .rollback; rw [hD] at this; exact this
          refine rollback34K (q.mono hle) hok (by omega) se hD (fun hP pb1 pn1 pc1 pb2 pn2 pc2 pb3 pn3 pc3 pb4 pn4 pc4 lP qP => ?_)
          have qP : RDB hP _ d' := qP
          have lP := hle.trans lP
          cbv
          refine rollback86 (p.mono lP) hSI se hse hD (fun hL rb1 rn1 rc1 rb2 rn2 rc2 rb3 rn3 rc3 rb4 rn4 rc4 lR pL => ?_)
          have pL : RP hL rb1 rn1 rc1 rb2 rn2 rc2 rb3 rn3 rc3 rb4 rn4 rc4 d' := pL
          have qL := qP.mono lR
          have lL := lP.trans lR
          have hI := hfin3 hL pb1 pn1 pc1 pb2 pn2 pc2 pb3 pn3 pc3 pb4 pn4 pc4 rb1 rn1 rc1 rb2 rn2 rc2 rb3 rn3 rc3 rb4 rn4 rc4 e d' lL qL pL hsj hst
          clear hfin3
          cbv
          refine ⟨(⟨pb1, pn1, pc1, pb2, pn2, pc2, pb3, pn3, pc3, pb4, pn4, pc4⟩, ⟨rb1, rn1, rc1, rb2, rn2, rc2, rb3, rn3, rc3, rb4, rn4, rc4⟩, e), ⟨?_, ?_, ?_⟩, hI⟩
          · cbv
          · cbv
          · cbv
        · cbv
          rw [icm_eql A]
          cbv
          rw [icm_eql A]
          cbv
          rw [icm_eql A]
          cbv
          rw [icm_eql A]
          cbv
          rw [icm_eql A]
          cbv
          rw [icm_eql A]
          cbv
          rw [icm_eql A]
          cbv
          rw [icm_eql A]
          cbv
          rw [icm_eql A]
          cbv
          rw [icm_eql A]
          cbv
          rw [icm_eql A]
          cbv
          rw [icm_eql A]
          cbv
          rw [icm_eql A]
          cbv
          rw [icm_eql A]
          cbv
          refine shape16 (z := zt) (t := tt) hzt htt _ (fun h8 sb sn sc nm8 o8 l8 hnm8 ho8 qs8 => ?_)
          cbv
          intro n9 h9 g9 e9
          have l9 : Le h8 h9 := by rw [e9]; exact Le.set g9
          have f9 := (congrFun e9 n9).trans hset_self
          have s9 : Sl 9 shStr h9 (.slice (some ⟨n9, 0, none⟩) 3 3) [⟨#[116, 97]⟩, ⟨#[116, 100]⟩, ⟨#[111, 114]⟩] := three_sl (s := shStr) rfl f9 (x := ⟨#[116, 97]⟩) (y := ⟨#[116, 100]⟩) (w := ⟨#[111, 114]⟩) rfl rfl rfl
          cbv
          refine within15 nn 3 (by omega) (by omega) _ (fun zm im hzm him him3 => ?_)
          obtain ⟨nm9, hnm9⟩ := get_ex (xs := [(⟨#[116, 97]⟩ : ByteArray), ⟨#[116, 100]⟩, ⟨#[111, 114]⟩]) (i := im) him3
          have hsz9 : nm9.size ≤ 12 := three_size hnm9 rfl rfl rfl
          have hckm : (0 : Int) ≤ zm ∧ zm < ((3 : Nat) : Int) := hzm.ix him3
          have hzme := hzm.eq
          cbv
          refine ⟨⟨rfl, hckm⟩, ?_⟩
          cbv
          refine s9.load hnm9 hzme (fun cs hcs => ?_)
          have hcs : cs = [.string nm9] := hcs
          subst hcs
          have hle := (hle.trans l8).trans l9
          obtain ⟨⟨d', e⟩, hD⟩ : ∃ X, refCreate d ⟨nm9, shColsE, 0, o8⟩ = X := ⟨_, rfl⟩
          have hD2 : createD d ⟨nm9, shColsE, 0, o8⟩ = (d', e) := by rw [create_ref J.sc.tw, hD]
          have hsj : SJ (n + 1) d' := by have := (sj_create J (s := ⟨nm9, shColsE, 0, o8⟩) rfl rfl hsz9).le (show n ≤ n + 1 by omega); rw [hD] at this; exact this
          have hst : StepR se d d' := by have : StepR se d (refCreate d ⟨nm9, shColsE, 0, o8⟩).1 := .create rfl rfl hsz9; rw [hD] at this; exact this
          cbv
          refine create17K (q.mono hle) (qs8.mono (l9.t _)) hsm hD2 (fun hP pb1 pn1 pc1 pb2 pn2 pc2 pb3 pn3 pc3 pb4 pn4 pc4 lP qP => ?_)
          have qP : RDB hP _ d' := qP
          have qs8P := (qs8.mono (l9.t _)).mono (lP.t _)
          have lP := hle.trans lP
          cbv
          refine rcreate52 (p.mono lP) qs8P (by have := J.sc.tw.le; omega) (fun t ht => by have := (J.sc.tw.ok t ht).2.2.2; omega) hD (fun hL rb1 rn1 rc1 rb2 rn2 rc2 rb3 rn3 rc3 rb4 rn4 rc4 lR pL => ?_)
          have pL : RP hL rb1 rn1 rc1 rb2 rn2 rc2 rb3 rn3 rc3 rb4 rn4 rc4 d' := pL
          have qL := qP.mono lR
          have lL := lP.trans lR
          have hI := hfin3 hL pb1 pn1 pc1 pb2 pn2 pc2 pb3 pn3 pc3 pb4 pn4 pc4 rb1 rn1 rc1 rb2 rn2 rc2 rb3 rn3 rc3 rb4 rn4 rc4 e d' lL qL pL hsj hst
          clear hfin3
          cbv
          refine ⟨(⟨pb1, pn1, pc1, pb2, pn2, pc2, pb3, pn3, pc3, pb4, pn4, pc4⟩, ⟨rb1, rn1, rc1, rb2, rn2, rc2, rb3, rn3, rc3, rb4, rn4, rc4⟩, e), ⟨?_, ?_, ?_⟩, hI⟩
          · cbv
          · cbv
          · cbv
        · cbv
          rw [icm_eql A]
          cbv
          rw [icm_eql A]
          cbv
          rw [icm_eql A]
          cbv
          rw [icm_eql A]
          cbv
          rw [icm_eql A]
          cbv
          rw [icm_eql A]
          cbv
          rw [icm_eql A]
          cbv
          rw [icm_eql A]
          cbv
          rw [icm_eql A]
          cbv
          rw [icm_eql A]
          cbv
          rw [icm_eql A]
          cbv
          rw [icm_eql A]
          cbv
          rw [icm_eql A]
          cbv
          rw [icm_eql A]
          cbv
          rw [icm_eql A]
          cbv
          obtain ⟨⟨d', e⟩, hD⟩ : ∃ X, dropD d nm = X := ⟨_, rfl⟩
          have hsj : SJ (n + 1) d' := by have := (sj_drop J nm).le (show n ≤ n + 1 by omega); rw [hD] at this; exact this
          have hst : StepR se d d' := by have : StepR se d (dropD d nm).1 := .drop nm; rw [hD] at this; exact this
          refine drop30K (q.mono hle) nm hD (fun hP pb1 pn1 pc1 pb2 pn2 pc2 pb3 pn3 pc3 pb4 pn4 pc4 lP qP => ?_)
          have qP : RDB hP _ d' := qP
          have lP := hle.trans lP
          cbv
          refine drop87 (p.mono lP) hSI nm hD (fun hL rb1 rn1 rc1 rb2 rn2 rc2 rb3 rn3 rc3 rb4 rn4 rc4 lR pL => ?_)
          have pL : RP hL rb1 rn1 rc1 rb2 rn2 rc2 rb3 rn3 rc3 rb4 rn4 rc4 d' := pL
          have qL := qP.mono lR
          have lL := lP.trans lR
          have hI := hfin3 hL pb1 pn1 pc1 pb2 pn2 pc2 pb3 pn3 pc3 pb4 pn4 pc4 rb1 rn1 rc1 rb2 rn2 rc2 rb3 rn3 rc3 rb4 rn4 rc4 e d' lL qL pL hsj hst
          clear hfin3
          cbv
          refine ⟨(⟨pb1, pn1, pc1, pb2, pn2, pc2, pb3, pn3, pc3, pb4, pn4, pc4⟩, ⟨rb1, rn1, rc1, rb2, rn2, rc2, rb3, rn3, rc3, rb4, rn4, rc4⟩, e), ⟨?_, ?_, ?_⟩, hI⟩
          · cbv
          · cbv
          · cbv
      · intro g h2 hI
        rw [hI3] at hI
        clear hI3 hfin3
        obtain ⟨⟨pb1, pn1, pc1, pb2, pn2, pc2, pb3, pn3, pc3, pb4, pn4, pc4⟩, ⟨rb1, rn1, rc1, rb2, rn2, rc2, rb3, rn3, rc3, rb4, rn4, rc4⟩, e⟩ := g
        obtain ⟨d', a1, a2, a3, a4, a5⟩ := hI
        have hfin := hk h2 pb1 pn1 pc1 pb2 pn2 pc2 pb3 pn3 pc3 pb4 pn4 pc4 rb1 rn1 rc1 rb2 rn2 rc2 rb3 rn3 rc3 rb4 rn4 rc4 d' se a1 a2 a3 a4 hss a5
        have fee : A .icm .eql e e = true := by rw [icm_eql A]; simp
        clear hk
        cbv
        rw [fee]
        cbv
        refine ⟨⟨_, rfl, rfl⟩, ?_⟩
        cbv
        exact hfin
end Go.S

