import Derived.SizedLaws
import Derived.Test.YtkpikackiemhbaaGreatRows
import Derived.Test.YtkpikackiemhbaaGreatTB
import Derived.Test.YtkpikackiemhbaaGreatSD
import Derived.Test.YtkpikackiemhbaaGreatR0
import Derived.Test.YtkpikackiemhbaaGreatR1
import Derived.Test.YtkpikackiemhbaaGreatR2
import Derived.Test.YtkpikackiemhbaaGreatR3
set_option linter.all false
set_option maxRecDepth 1000000
set_option maxHeartbeats 8000000
namespace Go.Proofs.YtkpikackiemhbaaGreat.verifyMany
open Go.ChangeShapes Go.WideShapes Go.ChangeAt Go.RowKit Go.Sx Go.Cx Go.C

theorem rl_mods {m q : Nat} {x : Int} {l : List CV} {xs : List Value} (h : x % (m : Int) = (q : Int)) (g : RL (fun _ => none) l xs) : RL (fun _ => none) (.mod m q :: l) (.int .i64 x :: xs) := .cons ⟨x, rfl, h⟩ g
theorem law (x0 : Int) : FnX (fun _ => Tryz.prog) 3 [.int .i64 x0] (fun _ => none) (fun v _ => v = .bool true) := by
  obtain ⟨q0, l0, h0⟩ : ∃ q : Nat, q < 12 ∧ x0 % ((12 : Nat) : Int) = (q : Int) := ⟨(x0 % 12).toNat, by omega, by omega⟩
  have key : ∀ {q0 : Nat}, x0 % ((12 : Nat) : Int) = (q0 : Int) → runTrue Go.C.look Go.C.lookD 1000 3 [.mod 12 q0] = true → FnX (fun _ => Tryz.prog) 3 [.int .i64 x0] (fun _ => none) (fun v _ => v = .bool true) :=
    fun h0 hr => run_true lookOk lookDOk (rl_mods h0 (RL.nil _)) hr _
  match q0, l0, h0 with
  | 0, _, h0 => exact key h0 verifyManyR0
  | 1, _, h0 => exact key h0 verifyManyR1
  | 2, _, h0 => exact key h0 verifyManyR2
  | 3, _, h0 => exact key h0 verifyManyR3
  | 4, _, h0 => exact key h0 verifyManyR4
  | 5, _, h0 => exact key h0 verifyManyR5
  | 6, _, h0 => exact key h0 verifyManyR6
  | 7, _, h0 => exact key h0 verifyManyR7
  | 8, _, h0 => exact key h0 verifyManyR8
  | 9, _, h0 => exact key h0 verifyManyR9
  | 10, _, h0 => exact key h0 verifyManyR10
  | 11, _, h0 => exact key h0 verifyManyR11
  | q0 + 12, hl, _ => omega
theorem law_calls {f : FuncId} {args : List Value} {w : World} (c : FnX (fun _ => Tryz.prog) f args (fun _ => none) (fun v _ => v = .bool true)) :
    Calls Tryz.prog f args.toArray w fun e w' => e = .returned (.bool true) ∧ w'.os = w.os ∧ w'.output = w.output ∧ ∀ b, b < w.heap.size → w'.heap[b]? = w.heap[b]? :=
  (c.out w (fun b o h => by cases h)).mono fun e w' ⟨v, h', he, hv, ha⟩ => ⟨by rw [he, hv], ha.os, ha.output, fun b hb => (ha.frame b hb rfl).1⟩
theorem own : ownKnob Tryz.prog.godebug = none := by kernel_rfl
theorem jf1 : (Rows.verifyManyRow.inPlace == Tryz.pinned.checked.prog.inPlace 3) = true := by kernel_rfl
theorem jf2 : (Rows.verifyManyRow.unfollowed == Tryz.pinned.checked.prog.unfollowed 3) = true := by kernel_rfl
theorem jf3 : (Rows.verifyManyRow.recurses == Tryz.pinned.checked.prog.recurses 3) = true := by kernel_rfl
theorem jf4 : (Rows.verifyManyRow.named == Tryz.pinned.checked.prog.varsNamed 3) = true := by kernel_rfl
theorem jf : joinedFacts Tryz.pinned.checked.prog 3 Tryz.f3 Rows.verifyManySpec Rows.verifyManyRow = true := by
  unfold joinedFacts
  rw [jf1, jf2, jf3, jf4]
  kernel_rfl
theorem lifted (os : Os) (started : os.Started) (H : Type) (enc : TypeId × Value → H) :
    ReturnsInHanded {} Tryz.checked os 3 .any (Rows.verifyManySpec.pre6 enc Tryz.prog Tryz.f3 Rows.verifyManyRow.domain false) (Rows.verifyManySpec.post enc Tryz.prog Tryz.f3 false true false false) := by
  refine returnsInHanded_of_change (C := Tryz.checked) own started (by kernel_rfl) Tryz.func3
    (ChangeSpec.witness6 (enc := enc) (C := Tryz.checked) false ⟨#[], #[.int .i64 0], []⟩ 8 (by kernel_rfl) (by kernel_rfl) (by kernel_rfl) (by kernel_rfl)) ?_
  intro W base args ds gs before hval0 hW hcnd _
  have hval : ∀ (j : Nat) t v, Tryz.f3.params[j]? = some t → args[j]? = some v → Value.okWide Tryz.prog W .any base t v := hval0
  have hW' := hW
  obtain ⟨p, q, hA0, hV, rfl, hfz, hnd⟩ := hW
  have hA : DataW.TrodAll enc Tryz.prog W 0 (fun _ => true) true Tryz.f3.params.toList args.toList ds p := hA0
  rw [Tryz.params3] at hA hval
  obtain ⟨v0, vs0, d0, ds0, p0, q0, hargs, rfl, rfl, h0, r0⟩ := trodAll_cons hA
  obtain ⟨rfl, rfl, rfl⟩ := trodAll_nil r0
  obtain rfl : args = #[v0] := by cases args; simp_all
  obtain ⟨rfl, rfl⟩ := trodVars_none hV
  obtain ⟨x0, rfl, e0, -, w0⟩ := open_int Tryz.underlying3 (hval 0 3 v0 rfl rfl) h0
  refine (law_calls (law x0)).mono fun e W' ⟨he, h1, h2, h3⟩ => ?_
  subst he
  exact ⟨_, rfl, same_post (by kernel_rfl) (by kernel_rfl) (by kernel_rfl) (by kernel_rfl) (by kernel_rfl) Tryz.underlying4 hW' rfl rfl h1 h2 h3⟩
theorem over : Rows.verifyManyRow.holds Tryz.pinned (OpenSpec.ofChange Rows.verifyManySpec) :=
  OpenClaim.holds_of_wide 3 Tryz.f3 rfl rfl rfl rfl rfl rfl rfl ⟨rfl, rfl, rfl, rfl, rfl⟩ rfl rfl rfl rfl rfl (by kernel_rfl) Tryz.func3 jf
    (of_decide_eq_true (by kernel_rfl)) (by unfold Func.isWrapper; first | (rw [if_pos (by decide +kernel)]; kernel_rfl) | (rw [if_neg (by decide +kernel)]; exact ⟨rfl, rfl⟩))
    (fun os started H enc _ => lifted os started H enc)

theorem proved : Rows.VerifyManySaid :=
  over
#print axioms proved
end Go.Proofs.YtkpikackiemhbaaGreat.verifyMany
