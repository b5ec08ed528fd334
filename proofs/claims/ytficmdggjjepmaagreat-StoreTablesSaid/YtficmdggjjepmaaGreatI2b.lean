import Derived.Test.YtficmdggjjepmaaGreatI2a
import Derived.Test.YtficmdggjjepmaaGreatHA
set_option linter.all false
set_option maxRecDepth 100000
set_option maxHeartbeats 4000000
namespace Go.Sx
/-- What lies beside a part of the heap stays, and is no part of what it becomes. -/
def Fr (hA h hA' h' : Heap) : Prop := ∀ b o, hA b = none → h b = some o → h' b = some o ∧ hA' b = none
/-- A call that looks at a part of the heap only. -/
theorem FnX.frm {p : Unit → Program} {f : FuncId} {args : List Value} {hA h : Heap} {R : Value → Heap → Prop} (hl : Le hA h) (c : FnX p f args hA R) {k : Value → Heap → Prop} (hk : ∀ v hA' h', R v hA' → Le hA' h' → Fr hA h hA' h' → k v h') : FnX p f args h k := by
  refine ⟨fun w hw => ?_⟩
  refine (c.out w (fun b o hb => hw b o (hl b o hb))).mono fun e w' ⟨v, hA', he, hR, ha⟩ => ?_
  obtain ⟨h', hh'⟩ : ∃ h' : Heap, ∀ b, h' b = match hA' b with
    | some o => some o
    | none => match hA b with
      | some _ => none
      | none => h b := ⟨fun b => match hA' b with
    | some o => some o
    | none => match hA b with
      | some _ => none
      | none => h b, fun _ => rfl⟩
  have hfr : ∀ b o, hA b = none → h b = some o → w'.heap[b]? = some o ∧ hA' b = none := fun b o h1 h2 => by
    have h3 := hw b o h2
    have := ha.frame b (Array.getElem?_eq_some_iff.1 h3).1 h1
    exact ⟨this.1.trans h3, this.2⟩
  refine ⟨v, h', he, hk v hA' h' hR (fun b o hb => by rw [hh', hb]) (fun b o h1 h2 => ?_), ⟨ha.os, ha.tape, ha.output, ha.size, fun b o hb => ?_, fun b hb hn => ?_⟩⟩
  · have := hfr b o h1 h2
    exact ⟨by rw [hh', this.2, h1]; exact h2, this.2⟩
  · rw [hh'] at hb
    cases h1 : hA' b with
    | some o' => rw [h1] at hb; cases hb; exact ha.agr b o h1
    | none =>
      rw [h1] at hb
      cases h2 : hA b with
      | some o' => rw [h2] at hb; cases hb
      | none => rw [h2] at hb; exact (hfr b o h2 hb).1
  · have h1 : hA b = none := by
      cases h2 : hA b with
      | none => rfl
      | some o => rw [hl b o h2] at hn; cases hn
    have := ha.frame b hb h1
    refine ⟨this.1, ?_⟩
    rw [hh', this.2, h1]; exact hn

/-- A list that is built up in a block that is no part of something else. -/
structure BufS {α : Type} (e : Nat) (s : Sh α) (hD h0 h : Heap) (v : Value) (xs : List α) : Prop where
  out : (∃ b, v = .slice b 0 0 ∧ xs = []) ∨ ∃ nb cap, v = .slice (some ⟨nb, 0, none⟩) xs.length cap ∧ h0 nb = none ∧ hD nb = none ∧ Own e s h nb cap xs
end Go.Sx
namespace Go.S
open Go.Sx Go.Proofs
/-! Calls beside which something else lies. -/
/-- What goes on, where something lies beside. -/
abbrev DbS (hD h : Heap) (d' : DB) (e : Int) (k : Value → Heap → Prop) : Prop :=
  ∀ hD' h' b1 n1 c1 b2 n2 c2 b3 n3 c3 b4 n4 c4, Le hD hD' → Le hD' h' → Fr hD h hD' h' → RDB hD' (.agg #[.slice b1 n1 c1, .slice b2 n2 c2, .slice b3 n3 c3, .slice b4 n4 c4]) d' → k (.tuple #[.agg #[.slice b1 n1 c1, .slice b2 n2 c2, .slice b3 n3 c3, .slice b4 n4 c4], .int .i64 e]) h'
end Go.S

