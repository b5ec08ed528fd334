/-
  What a session reads nobody else changes till it ends, and what it changes nobody else reads; no conditions.
-/
import Derived.Test.YtnfijhlegoagjaaGreatN6
import Derived.Test.YtnfijhlegoagjaaGreatF4a
import Derived.SizedLaws
set_option linter.unusedVariables false
set_option linter.unusedSimpArgs false
set_option linter.unusedSectionVars false
set_option maxRecDepth 100000
set_option linter.unusedVariables false
namespace Go.Proofs.YtnfijhlegoagjaaGreat.txnAlone
open Go.ChangeShapes Go.WideShapes Go.ChangeAt Go.RowKit Go.Sx Go.S

theorem own : ownKnob Tryz.prog.godebug = none := by kernel_rfl
theorem b75 : Tryz.prog.bytesOf 75 = 40 := by kernel_rfl
theorem lifted (os : Os) (started : os.Started) (H : Type) (enc : TypeId × Value → H) :
    ReturnsInHanded {} Tryz.checked os 12 .any (Rows.txnAloneSpec.pre6 enc Tryz.prog Tryz.f12 Rows.txnAloneRow.domain false) (Rows.txnAloneSpec.post enc Tryz.prog Tryz.f12 false true false false) := by
  refine returnsInHanded_of_change_sized (C := Tryz.checked) own started (by kernel_rfl) Tryz.func12
    (ChangeSpec.witness6 (enc := enc) (C := Tryz.checked) false ⟨#[], #[.slice none 0 0, .int .i64 0], []⟩ 8 (by kernel_rfl) (by kernel_rfl) (by kernel_rfl) (by kernel_rfl)) ?_
  intro W base args ds gs before hval0 hW hcnd hsz _
  have hval : ∀ (j : Nat) t v, Tryz.f12.params[j]? = some t → args[j]? = some v → Value.okWide Tryz.prog W .any base t v := hval0
  have hW' := hW
  obtain ⟨p, q, hA0, hV, rfl, hfz, hnd⟩ := hW
  have hA : DataW.TrodAll enc Tryz.prog W 0 (fun _ => true) true Tryz.f12.params.toList args.toList ds p := hA0
  rw [Tryz.params12] at hA hval
  obtain ⟨v0, vs0, d0, ds0, p0, q0, hargs, rfl, rfl, h0, r0⟩ := trodAll_cons hA
  obtain ⟨v1, vs1, d1, ds1, p1, q1, rfl, rfl, rfl, h1, r1⟩ := trodAll_cons r0
  obtain ⟨rfl, rfl, rfl⟩ := trodAll_nil r1
  obtain rfl : args = #[v0, v1] := by cases args; simp_all
  obtain ⟨rfl, rfl⟩ := trodVars_none hV
  obtain ⟨x0, y0, r_0⟩ := acts_arg h0 (okWide_slice Tryz.underlying73 (hval 0 73 v0 rfl rfl)) (fun elems spare hd => by
    have := sized_slice (P := Tryz.prog) (ts := Tryz.f12.params.toList) hsz (j := 0) (t := 73) (e := 75) (elems := elems) (spare := spare) (by rw [Tryz.params12]; rfl) (by rw [hd]; rfl) Tryz.underlying73
    rw [b75] at this
    have h2 := reachBytes_lt
    omega)
  obtain ⟨s0, l0, c0, rfl⟩ := y0.form
  obtain ⟨x1, rfl, e1, -, w1⟩ := open_int Tryz.underlying3 (hval 1 3 v1 rfl rfl) h1
  have g1 : -2 ^ 63 ≤ x1 ∧ x1 < 2 ^ 63 := i64_of_wf w1
  refine (law_calls (alone12 y0 r_0 x1 g1)).mono fun e W' ⟨he, h1, h2, h3⟩ => ?_
  subst he
  exact ⟨_, rfl, same_post (by kernel_rfl) (by kernel_rfl) (by kernel_rfl) (by kernel_rfl) (by kernel_rfl) Tryz.underlying4 hW' rfl rfl h1 h2 h3⟩

theorem over : Rows.txnAloneRow.holds Tryz.pinned (OpenSpec.ofChange Rows.txnAloneSpec) :=
  OpenClaim.holds_of_wide 12 Tryz.f12 rfl rfl rfl rfl rfl rfl rfl ⟨rfl, rfl, rfl, rfl, rfl⟩ rfl rfl rfl rfl rfl (by kernel_rfl) Tryz.func12 (by kernel_rfl)
    (of_decide_eq_true (by kernel_rfl)) (by unfold Func.isWrapper; first | (rw [if_pos (by decide +kernel)]; kernel_rfl) | (rw [if_neg (by decide +kernel)]; exact ⟨rfl, rfl⟩))
    (fun os started H enc _ => lifted os started H enc)

theorem proved : Rows.TxnAloneSaid :=
  over
end Go.Proofs.YtnfijhlegoagjaaGreat.txnAlone

