import Derived.SizedLaws
import Derived.Test.YtkpikackiemhbaaGreatRows
import Derived.Test.YtkpikackiemhbaaGreatTB
import Derived.Test.YtkpikackiemhbaaGreatSD
import Derived.Test.YtkpikackiemhbaaGreatU0
import Derived.Test.YtkpikackiemhbaaGreatU1
set_option linter.all false
set_option maxRecDepth 1000000
set_option maxHeartbeats 8000000
namespace Go.Proofs.YtkpikackiemhbaaGreat.storeEmpty
open Go.ChangeShapes Go.WideShapes Go.ChangeAt Go.RowKit Go.Sx Go.Cx Go.C

theorem rl_mods {m q : Nat} {x : Int} {l : List CV} {xs : List Value} (h : x % (m : Int) = (q : Int)) (g : RL (fun _ => none) l xs) : RL (fun _ => none) (.mod m q :: l) (.int .i64 x :: xs) := .cons ⟨x, rfl, h⟩ g
theorem law (x0 : Int) (x1 : Int) : FnX (fun _ => Tryz.prog) 4 [.int .i64 x0, .int .i64 x1] (fun _ => none) (fun v _ => v = .bool true) := by
  obtain ⟨q0, l0, h0⟩ : ∃ q : Nat, q < 4 ∧ x0 % ((4 : Nat) : Int) = (q : Int) := ⟨(x0 % 4).toNat, by omega, by omega⟩
  obtain ⟨q1, l1, h1⟩ : ∃ q : Nat, q < 1 ∧ x1 % ((1 : Nat) : Int) = (q : Int) := ⟨(x1 % 1).toNat, by omega, by omega⟩
  have key : ∀ {q0 : Nat} {q1 : Nat}, x0 % ((4 : Nat) : Int) = (q0 : Int) → x1 % ((1 : Nat) : Int) = (q1 : Int) → runTrue Go.C.look Go.C.lookD 1000 4 [.mod 4 q0, .mod 1 q1] = true → FnX (fun _ => Tryz.prog) 4 [.int .i64 x0, .int .i64 x1] (fun _ => none) (fun v _ => v = .bool true) :=
    fun h0 h1 hr => run_true lookOk lookDOk (rl_mods h0 (rl_mods h1 (RL.nil _))) hr _
  match q0, l0, h0, q1, l1, h1 with
  | 0, _, h0, 0, _, h1 => exact key h0 h1 storeEmptyR0_0
  | 1, _, h0, 0, _, h1 => exact key h0 h1 storeEmptyR1_0
  | 2, _, h0, 0, _, h1 => exact key h0 h1 storeEmptyR2_0
  | 3, _, h0, 0, _, h1 => exact key h0 h1 storeEmptyR3_0
  | q0 + 4, hl, _, _, _, _ => omega
  | _, _, _, q1 + 1, hl, _ => omega
theorem law_calls {f : FuncId} {args : List Value} {w : World} (c : FnX (fun _ => Tryz.prog) f args (fun _ => none) (fun v _ => v = .bool true)) :
    Calls Tryz.prog f args.toArray w fun e w' => e = .returned (.bool true) ∧ w'.os = w.os ∧ w'.output = w.output ∧ ∀ b, b < w.heap.size → w'.heap[b]? = w.heap[b]? :=
  (c.out w (fun b o h => by cases h)).mono fun e w' ⟨v, h', he, hv, ha⟩ => ⟨by rw [he, hv], ha.os, ha.output, fun b hb => (ha.frame b hb rfl).1⟩
theorem own : ownKnob Tryz.prog.godebug = none := by kernel_rfl
theorem jf1 : (Rows.storeEmptyRow.inPlace == Tryz.pinned.checked.prog.inPlace 4) = true := by kernel_rfl
theorem jf2 : (Rows.storeEmptyRow.unfollowed == Tryz.pinned.checked.prog.unfollowed 4) = true := by kernel_rfl
theorem jf3 : (Rows.storeEmptyRow.recurses == Tryz.pinned.checked.prog.recurses 4) = true := by kernel_rfl
theorem jf4 : (Rows.storeEmptyRow.named == Tryz.pinned.checked.prog.varsNamed 4) = true := by kernel_rfl
theorem jf : joinedFacts Tryz.pinned.checked.prog 4 Tryz.f4 Rows.storeEmptySpec Rows.storeEmptyRow = true := by
  unfold joinedFacts
  rw [jf1, jf2, jf3, jf4]
  kernel_rfl
theorem lifted (os : Os) (started : os.Started) (H : Type) (enc : TypeId × Value → H) :
    ReturnsInHanded {} Tryz.checked os 4 .any (Rows.storeEmptySpec.pre6 enc Tryz.prog Tryz.f4 Rows.storeEmptyRow.domain false) (Rows.storeEmptySpec.post enc Tryz.prog Tryz.f4 false true false false) := by
  refine returnsInHanded_of_change (C := Tryz.checked) own started (by kernel_rfl) Tryz.func4
    (ChangeSpec.witness6 (enc := enc) (C := Tryz.checked) false ⟨#[], #[.int .i64 0, .int .i64 0], []⟩ 8 (by kernel_rfl) (by kernel_rfl) (by kernel_rfl) (by kernel_rfl)) ?_
  intro W base args ds gs before hval0 hW hcnd _
  have hval : ∀ (j : Nat) t v, Tryz.f4.params[j]? = some t → args[j]? = some v → Value.okWide Tryz.prog W .any base t v := hval0
  have hW' := hW
  obtain ⟨p, q, hA0, hV, rfl, hfz, hnd⟩ := hW
  have hA : DataW.TrodAll enc Tryz.prog W 0 (fun _ => true) true Tryz.f4.params.toList args.toList ds p := hA0
  rw [Tryz.params4] at hA hval
  obtain ⟨v0, vs0, d0, ds0, p0, q0, hargs, rfl, rfl, h0, r0⟩ := trodAll_cons hA
  obtain ⟨v1, vs1, d1, ds1, p1, q1, rfl, rfl, rfl, h1, r1⟩ := trodAll_cons r0
  obtain ⟨rfl, rfl, rfl⟩ := trodAll_nil r1
  obtain rfl : args = #[v0, v1] := by cases args; simp_all
  obtain ⟨rfl, rfl⟩ := trodVars_none hV
  obtain ⟨x0, rfl, e0, -, w0⟩ := open_int Tryz.underlying3 (hval 0 3 v0 rfl rfl) h0
  obtain ⟨x1, rfl, e1, -, w1⟩ := open_int Tryz.underlying3 (hval 1 3 v1 rfl rfl) h1
  refine (law_calls (law x0 x1)).mono fun e W' ⟨he, h1, h2, h3⟩ => ?_
  subst he
  exact ⟨_, rfl, same_post (by kernel_rfl) (by kernel_rfl) (by kernel_rfl) (by kernel_rfl) (by kernel_rfl) Tryz.underlying4 hW' rfl rfl h1 h2 h3⟩
theorem over : Rows.storeEmptyRow.holds Tryz.pinned (OpenSpec.ofChange Rows.storeEmptySpec) :=
  OpenClaim.holds_of_wide 4 Tryz.f4 rfl rfl rfl rfl rfl rfl rfl ⟨rfl, rfl, rfl, rfl, rfl⟩ rfl rfl rfl rfl rfl (by kernel_rfl) Tryz.func4 jf
    (of_decide_eq_true (by kernel_rfl)) (by unfold Func.isWrapper; first | (rw [if_pos (by decide +kernel)]; kernel_rfl) | (rw [if_neg (by decide +kernel)]; exact ⟨rfl, rfl⟩))
    (fun os started H enc _ => lifted os started H enc)

theorem proved : Rows.StoreEmptySaid :=
  over
#print axioms proved
end Go.Proofs.YtkpikackiemhbaaGreat.storeEmpty
