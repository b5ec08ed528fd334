import Derived.Test.YtnfijhlegoagjaaGreatI2a
import Derived.Test.YtnfijhlegoagjaaGreatH3
set_option linter.unusedVariables false
set_option linter.unusedSimpArgs false
set_option linter.unusedSectionVars false
set_option maxRecDepth 100000
set_option maxHeartbeats 4000000
set_option linter.unusedVariables false
set_option linter.unusedSimpArgs false
namespace Go.Sx
/-- What lies beside a part of the heap stays, and is no part of what it becomes. -/
def Fr (hA h hA' h' : Heap) : Prop := ∀ b o, hA b = none → h b = some o → h' b = some o ∧ hA' b = none
theorem Fr.le {hA h hA' h' : Heap} (fr : Fr hA h hA' h') (l1 : Le hA h) (l2 : Le hA hA') (l3 : Le hA' h') : Le h h' := fun b o hb => by
  cases ha : hA b with
  | none => exact (fr b o ha hb).1
  | some o' =>
    have := l1 b o' ha
    rw [hb] at this
    cases this
    exact l3 b o (l2 b o ha)
theorem Fr.trans {hA h hA' h' hA'' h'' : Heap} (a : Fr hA h hA' h') (b : Fr hA' h' hA'' h'') : Fr hA h hA'' h'' := fun n o h1 h2 => by
  obtain ⟨h3, h4⟩ := a n o h1 h2
  exact b n o h4 h3
/-- A call that looks at a part of the heap only. -/
theorem FnX.frm {p : Unit → Program} {f : FuncId} {args : List Value} {hA h : Heap} {R : Value → Heap → Prop} (hl : Le hA h) (c : FnX p f args hA R) {k : Value → Heap → Prop} (hk : ∀ v hA' h', R v hA' → Le hA' h' → Fr hA h hA' h' → k v h') : FnX p f args h k := by
  refine ⟨fun w hw => ?_⟩
  refine (c.out w (fun b o hb => hw b o (hl b o hb))).mono fun e w' ⟨v, hA', he, hR, ha⟩ => ?_
  obtain ⟨h', hh'⟩ : ∃ h' : Heap, ∀ b, h' b = match hA' b with
    | some o => some o
    | none => match hA b with
      | some _ => none
      | none => h b := ⟨fun b => match hA' b with
    | some o => some o
    | none => match hA b with
      | some _ => none
      | none => h b, fun _ => rfl⟩
  have hfr : ∀ b o, hA b = none → h b = some o → w'.heap[b]? = some o ∧ hA' b = none := fun b o h1 h2 => by
    have h3 := hw b o h2
    have := ha.frame b (Array.getElem?_eq_some_iff.1 h3).1 h1
    exact ⟨this.1.trans h3, this.2⟩
  refine ⟨v, h', he, hk v hA' h' hR (fun b o hb => by rw [hh', hb]) (fun b o h1 h2 => ?_), ⟨ha.os, ha.tape, ha.output, ha.size, fun b o hb => ?_, fun b hb hn => ?_⟩⟩
  · have := hfr b o h1 h2
    exact ⟨by rw [hh', this.2, h1]; exact h2, this.2⟩
  · rw [hh'] at hb
    cases h1 : hA' b with
    | some o' => rw [h1] at hb; cases hb; exact ha.agr b o h1
    | none =>
      rw [h1] at hb
      cases h2 : hA b with
      | some o' => rw [h2] at hb; cases hb
      | none => rw [h2] at hb; exact (hfr b o h2 hb).1
  · have h1 : hA b = none := by
      cases h2 : hA b with
      | none => rfl
      | some o => rw [hl b o h2] at hn; cases hn
    have := ha.frame b hb h1
    refine ⟨this.1, ?_⟩
    rw [hh', this.2, h1]; exact hn

/-- A list that is built up in a block that is no part of something else. -/
structure BufS {α : Type} (e : Nat) (s : Sh α) (hD h0 h : Heap) (v : Value) (xs : List α) : Prop where
  out : (∃ b, v = .slice b 0 0 ∧ xs = []) ∨ ∃ nb cap, v = .slice (some ⟨nb, 0, none⟩) xs.length cap ∧ h0 nb = none ∧ hD nb = none ∧ Own e s h nb cap xs
theorem BufS.sl {α : Type} {e : Nat} {s : Sh α} {hD h0 h : Heap} {v : Value} {xs : List α} (q : BufS e s hD h0 h v xs) : Sl e s h v xs := by
  rcases q.out with ⟨b, rfl, rfl⟩ | ⟨nb, cap, rfl, -, -, o⟩
  · exact Sl.nil
  · exact o.sl rfl
theorem BufS.call {α : Type} {e : Nat} {s : Sh α} {hD h0 h hD' h' : Heap} {v : Value} {xs : List α} (q : BufS e s hD h0 h v xs) (l : Le h h') (fr : Fr hD h hD' h') : BufS e s hD' h0 h' v xs := by
  rcases q.out with h1 | ⟨nb, cap, h1, h2, h3, o⟩
  · exact ⟨.inl h1⟩
  · obtain ⟨c, hc, -⟩ := o.out
    exact ⟨.inr ⟨nb, cap, h1, h2, (fr nb _ h3 hc).2, o.mono (l.t _)⟩⟩
theorem BufS.le {α : Type} {e : Nat} {s : Sh α} {hD h0 h h' : Heap} {v : Value} {xs : List α} (q : BufS e s hD h0 h v xs) (l : Le h h') : BufS e s hD h0 h' v xs := by
  rcases q.out with h1 | ⟨nb, cap, h1, h2, h3, o⟩
  · exact ⟨.inl h1⟩
  · exact ⟨.inr ⟨nb, cap, h1, h2, h3, o.mono (l.t _)⟩⟩
theorem BufS.append {α : Type} {e : Nat} {s : Sh α} {hD h0 h : Heap} {b x : Option Addr} {len cap n cx : Nat} {xs ys : List α} (q : BufS e s hD h0 h (.slice b len cap) xs) (qv : Sl e s h (.slice x n cx) ys) (he : e ∉ s.tys) {size bytes : Nat} (hsz : size = s.n) (hby : bytes ≤ 128) (hn : len + n ≤ 2 ^ 39)
    {k : Value → Heap → Prop} (hl0 : Le h0 h) (hlD : Le hD h) (hk : ∀ m b' c' h', m = len + n → Le h0 h' → Le hD h' → (∀ tys, e ∉ tys → LeT tys h h') → BufS e s hD h0 h' (.slice b' m c') (xs ++ ys) → k (.slice b' m c') h') :
    AppendX h b len cap x n size bytes e k := by
  have hlen := q.sl.len
  have hlv := qv.len
  by_cases hfit : len + n ≤ cap
  · by_cases hn0 : n = 0
    · subst hsz
      obtain ⟨cs, c1, c2, c3, c4⟩ := qv.allCells
      have hcs : cs = [] := List.eq_nil_of_length_eq_zero (by rw [c2, hn0]; simp)
      have hys : ys = [] := List.eq_nil_of_length_eq_zero (by omega)
      refine ⟨cs, c1, c3, fun _ => .inl ⟨hcs, hk _ _ _ h rfl hl0 hlD (fun _ _ => LeT.refl _ _) ?_⟩, fun hg => by omega⟩
      rw [hys, List.append_nil, hn0]; exact q
    · rcases q.out with ⟨b', g1, g2⟩ | ⟨nb, cap', g1, g2, g3, o⟩
      · cases g1; omega
      · cases g1
        refine o.appendIn he (Nat.le_refl _) qv hfit (by omega) hsz (fun h' m hm k1 t1 o' => ?_)
        rw [List.take_length, List.drop_eq_nil_of_le (by omega), List.append_nil] at o'
        have hml : m = (xs ++ ys).length := by rw [List.length_append, hm, hlv]
        subst hm
        refine hk _ _ _ h' rfl (hl0.kpNew (by simpa using g2) k1) (hlD.kpNew (by simpa using g3) k1) t1 ⟨.inr ⟨nb, cap, ?_, g2, g3, o'⟩⟩
        rw [hml]
  · refine appendX_own q.sl qv (by omega) hsz hby hn (fun nb c h' hnb l1 hc o => ?_)
    refine hk _ _ _ h' rfl (hl0.trans l1) (hlD.trans l1) (fun tys _ => l1.t tys) ⟨.inr ⟨nb, c, ?_, hl0.none hnb, hlD.none hnb, o⟩⟩
    rw [List.length_append, hlen, hlv]
end Go.Sx
namespace Go.S
open Go.Sx Go.Proofs
/-! Calls beside which something else lies. -/
theorem shape16S {hD h : Heap} (hl : Le hD h) {z : Int} {t : Nat} (hz : IsN z t) (ht : t < 3) {k : Value → Heap → Prop}
    (hk : ∀ hD' h' b n c nm o, Le hD hD' → Le hD' h' → Fr hD h hD' h' → nm = (shapeS t).name → o = (shapeS t).only → Sl 104 shCol hD' (.slice b n c) shColsE → k (.agg #[.string nm, .slice b n c, .int .i64 0, .bool o]) h') : Ct 16 [.int .i64 z] h k :=
  FnX.frm hl (shape16 hz ht hD (k := fun v hD' => ∃ b n c nm o, v = .agg #[.string nm, .slice b n c, .int .i64 0, .bool o] ∧ Le hD hD' ∧ nm = (shapeS t).name ∧ o = (shapeS t).only ∧ Sl 104 shCol hD' (.slice b n c) shColsE) (fun h' b n c nm o l h1 h2 h3 => ⟨b, n, c, nm, o, rfl, l, h1, h2, h3⟩))
    (fun v hD' h' ⟨b, n, c, nm, o, hv, l, h1, h2, h3⟩ l2 fr => by rw [hv]; exact hk hD' h' b n c nm o l l2 fr h1 h2 h3)
theorem fit22S {cols : List Col} {hD h : Heap} (hl : Le hD h) {nm : ByteArray} {sb : Option Addr} {sn sc : Nat} {key : Int} {only : Bool} (q : Sl 104 shCol hD (.slice sb sn sc) cols) (hcl : cols.length ≤ 2 ^ 20) (a : Int) (ha : -2 ^ 63 ≤ a ∧ a < 2 ^ 63) {k : Value → Heap → Prop}
    (hk : ∀ hD' h' b n c, Le hD hD' → Le hD' h' → Fr hD h hD' h' → Sl 68 shVal hD' (.slice b n c) (fitL cols a cols.length) → k (.slice b n c) h') : Ct 22 [.agg #[.string nm, .slice sb sn sc, .int .i64 key, .bool only], .int .i64 a] h k :=
  FnX.frm hl (fit22 (nm := nm) (key := key) (only := only) q hcl a ha (k := fun v hD' => ∃ b n c, v = .slice b n c ∧ Le hD hD' ∧ Sl 68 shVal hD' (.slice b n c) (fitL cols a cols.length)) (fun h' b n c l hb => ⟨b, n, c, rfl, l, hb.sl⟩))
    (fun v hD' h' ⟨b, n, c, hv, l, h1⟩ l2 fr => by rw [hv]; exact hk hD' h' b n c l l2 fr h1)
/-- What goes on, where something lies beside. -/
abbrev DbS (hD h : Heap) (d' : DB) (e : Int) (k : Value → Heap → Prop) : Prop :=
  ∀ hD' h' b1 n1 c1 b2 n2 c2 b3 n3 c3 b4 n4 c4, Le hD hD' → Le hD' h' → Fr hD h hD' h' → RDB hD' (.agg #[.slice b1 n1 c1, .slice b2 n2 c2, .slice b3 n3 c3, .slice b4 n4 c4]) d' → k (.tuple #[.agg #[.slice b1 n1 c1, .slice b2 n2 c2, .slice b3 n3 c3, .slice b4 n4 c4], .int .i64 e]) h'
theorem db_frm {f : FuncId} {args : List Value} {hD h : Heap} (hl : Le hD h) {D : DB × Int} {k : Value → Heap → Prop} (hk : DbS hD h D.1 D.2 k)
    (c : ∀ k' : Value → Heap → Prop, DbK hD D.1 D.2 k' → Ct f args hD k') : Ct f args h k :=
  FnX.frm hl (c (fun v hD' => ∃ b1 n1 c1 b2 n2 c2 b3 n3 c3 b4 n4 c4, v = .tuple #[.agg #[.slice b1 n1 c1, .slice b2 n2 c2, .slice b3 n3 c3, .slice b4 n4 c4], .int .i64 D.2] ∧ Le hD hD' ∧ RDB hD' (.agg #[.slice b1 n1 c1, .slice b2 n2 c2, .slice b3 n3 c3, .slice b4 n4 c4]) D.1)
      (fun h' b1 n1 c1 b2 n2 c2 b3 n3 c3 b4 n4 c4 l r => ⟨b1, n1, c1, b2, n2, c2, b3, n3, c3, b4, n4, c4, rfl, l, r⟩))
    (fun v hD' h' ⟨b1, n1, c1, b2, n2, c2, b3, n3, c3, b4, n4, c4, hv, l, r⟩ l2 fr => by rw [hv]; exact hk hD' h' b1 n1 c1 b2 n2 c2 b3 n3 c3 b4 n4 c4 l l2 fr r)
end Go.S

