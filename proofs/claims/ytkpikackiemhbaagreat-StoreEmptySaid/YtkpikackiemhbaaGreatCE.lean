import Derived.Laws.IdiomStrings
import Derived.Laws.AppendOwn
import Derived.Laws.RangeString
import Derived.Test.YtkpikackiemhbaaGreatCD
set_option linter.all false
set_option maxRecDepth 1000000
set_option maxHeartbeats 8000000
namespace Go.Cx
open Go.Sx
open Go.MapKept
open Go.ChangeMaps (setBlock)

/-! Maps. -/
section
variable {P : Program}
/-- A key that is new. -/
theorem mp_put {mt kt et : TypeId} {d : TypeDesc} (hm : P.underlying mt = some (.map kt et)) (hd : P.underlying kt = some d) {h : Heap} {m : Nat} {l : List (Value × Value)} (q : Mp h m d l) {key v : Value} (hk : IsKey d key) (hnew : ∀ p ∈ l, p.1 ≠ key)
    {k : Value → Heap → Prop} (hK : ∀ ob, Mp (hset h m ob) m d (l ++ [(key, v)]) → k undef (hset h m ob)) :
    SemX (fun _ => P) (fun _ => do Instr.mapUpdate mt (.map (some m)) key v; pure undef) h k :=
  ⟨fun w hw => by
    obtain ⟨es, clock, g, h1, h2, h3⟩ := q.out
    have hb := hw _ _ g
    have hne : ∀ x ∈ es.toList, x.key ≠ key := fun x hx => by
      have : (x.key, x.val) ∈ l := by rw [← h1]; exact List.mem_map.2 ⟨x, hx, rfl⟩
      exact hnew _ this
    rcases findNow_spec hk es.toList 0 h3 with ⟨f1, _⟩ | ⟨j, e, f1, f2, f3⟩
    · refine ⟨undef, _, _, ?_, hK _ ⟨es.push { key := key, val := v, born := clock }, clock + 1, hset_self, ?_, stamped_push h2 hne, ?_⟩, After.mapSet hw g⟩
      · simp [Instr.mapUpdate, run_underlying hm, Go.MapKept.run_getObj_map hb, run_checkKey hd hk, run_findKey hd f1, Go.MapKept.run_setObj_map _ hb, Result.andThen]
      · simp [h1]
      · intro x hx
        simp only [Array.toList_push, List.mem_append, List.mem_singleton] at hx
        rcases hx with hx | rfl
        · exact h3 x hx
        · exact hk
    · exact absurd f3 (hne e (List.mem_of_getElem? f2))⟩
/-- A key that is there. -/
theorem mp_upd {mt kt et : TypeId} {d : TypeDesc} (hm : P.underlying mt = some (.map kt et)) (hd : P.underlying kt = some d) {h : Heap} {m : Nat} {l : List (Value × Value)} (q : Mp h m d l) {key v v0 : Value} (hk : IsKey d key) {i : Nat} (hin : l[i]? = some (key, v0))
    {k : Value → Heap → Prop} (hK : ∀ ob, Mp (hset h m ob) m d (l.set i (key, v)) → k undef (hset h m ob)) :
    SemX (fun _ => P) (fun _ => do Instr.mapUpdate mt (.map (some m)) key v; pure undef) h k :=
  ⟨fun w hw => by
    obtain ⟨es, clock, g, h1, h2, h3⟩ := q.out
    have hb := hw _ _ g
    have hi : es.toList[i]?.map (fun e => (e.key, e.val)) = some (key, v0) := by rw [← List.getElem?_map, h1]; exact hin
    obtain ⟨x, hx, hxe⟩ : ∃ x, es.toList[i]? = some x ∧ (x.key, x.val) = (key, v0) := by
      cases hx : es.toList[i]? with
      | none => rw [hx] at hi; cases hi
      | some x => rw [hx] at hi; exact ⟨x, rfl, Option.some.inj hi⟩
    have hxk : x.key = key := (Prod.mk.inj hxe).1
    rcases findNow_spec hk es.toList 0 h3 with ⟨f1, f2⟩ | ⟨j, e, f1, f2, f3⟩
    · exact absurd hxk (f2 x (List.mem_of_getElem? hx))
    · have hp := ((stamped_iff es clock).1 h2).2.2
      have hji : j = i := by
        have hj := List.getElem?_eq_some_iff.1 f2
        have hi' := List.getElem?_eq_some_iff.1 hx
        rcases Nat.lt_trichotomy i j with hlt | heq | hlt
        · exfalso
          have := List.pairwise_iff_getElem.1 hp i j hi'.1 hj.1 hlt
          rw [hi'.2, hj.2] at this
          exact this (hxk.trans f3.symm)
        · exact heq.symm
        · exfalso
          have := List.pairwise_iff_getElem.1 hp j i hj.1 hi'.1 hlt
          rw [hi'.2, hj.2] at this
          exact this (f3.trans hxk.symm)
      subst hji
      rw [hx] at f2
      cases f2
      have hxa : es[j]? = some x := by rw [← Array.getElem?_toList]; exact hx
      let f : MapEntry → MapEntry := fun e => { e with key := key, val := v }
      have hfk : ∀ e, es[j]? = some e → (f e).key = e.key := fun e he => by
        rw [hxa] at he; cases he; exact hxk.symm
      refine ⟨undef, _, _, ?_, hK _ ⟨es.modify j f, clock, hset_self, ?_, stamped_modify h2 j f (fun _ _ => rfl) (fun e _ he => hfk e he), isKey_modify h3 j f hfk⟩, After.mapSet hw g⟩
      · have hstay : (Instr.keyThatStays (((es[j]?).map (·.key)).getD key) key).run P w = .ok key w := by
          rw [hxa]; simp only [Option.map_some, Option.getD_some, hxk]
          exact run_keyThatStays hk
        simp [Instr.mapUpdate, run_underlying hm, Go.MapKept.run_getObj_map hb, run_checkKey hd hk, run_findKey hd f1, hstay, Go.MapKept.run_setObj_map _ hb, Result.andThen, f]
      · rw [← h1]
        apply List.ext_getElem?
        intro n
        rw [List.getElem?_map, Array.getElem?_toList, Array.getElem?_modify, List.getElem?_set, List.getElem?_map, Array.getElem?_toList, List.length_map]
        by_cases hn : j = n
        · subst hn
          have hlt : j < es.toList.length := (List.getElem?_eq_some_iff.1 hx).1
          rw [if_pos rfl, if_pos rfl, if_pos hlt, hxa]; rfl
        · rw [if_neg hn, if_neg hn]⟩
theorem mp_miss2 {mt kt et : TypeId} {d : TypeDesc} (hm : P.underlying mt = some (.map kt et)) (hd : P.underlying kt = some d) {z : Value} (hz : ∀ w, (zeroValue et).run P w = .ok z w) {h : Heap} {m : Nat} {l : List (Value × Value)} (q : Mp h m d l) {key : Value} (hk : IsKey d key) (hnew : ∀ p ∈ l, p.1 ≠ key)
    {k : Value → Heap → Prop} (hK : k (.tuple #[z, .bool false]) h) : SemX (fun _ => P) (fun _ => Instr.lookup mt (.map (some m)) key true) h k :=
  ⟨fun w hw => by
    obtain ⟨es, clock, g, h1, h2, h3⟩ := q.out
    have hb := hw _ _ g
    have hne : ∀ x ∈ es.toList, x.key ≠ key := fun x hx => by
      have : (x.key, x.val) ∈ l := by rw [← h1]; exact List.mem_map.2 ⟨x, hx, rfl⟩
      exact hnew _ this
    rcases findNow_spec hk es.toList 0 h3 with ⟨f1, _⟩ | ⟨j, e, f1, f2, f3⟩
    · refine ⟨.tuple #[z, .bool false], w, h, ?_, hK, After.refl hw⟩
      simp [Instr.lookup, run_underlying hm, Go.MapKept.run_getObj_map hb, run_checkKey hd hk, run_findKey hd f1, hz, Result.andThen]
    · exact absurd f3 (hne e (List.mem_of_getElem? f2))⟩
theorem mp_hit2 {mt kt et : TypeId} {d : TypeDesc} (hm : P.underlying mt = some (.map kt et)) (hd : P.underlying kt = some d) {h : Heap} {m : Nat} {l : List (Value × Value)} (q : Mp h m d l) {key v : Value} (hk : IsKey d key) (hin : (key, v) ∈ l)
    {k : Value → Heap → Prop} (hK : k (.tuple #[v, .bool true]) h) : SemX (fun _ => P) (fun _ => Instr.lookup mt (.map (some m)) key true) h k :=
  ⟨fun w hw => by
    obtain ⟨es, clock, g, h1, h2, h3⟩ := q.out
    have hb := hw _ _ g
    rw [← h1] at hin
    obtain ⟨x, hx, he⟩ := List.mem_map.1 hin
    cases he
    rcases findNow_spec hk es.toList 0 h3 with ⟨f1, f2⟩ | ⟨j, e, f1, f2, f3⟩
    · exact absurd rfl (f2 x hx)
    · have hxe : e = x := by
        have hp := ((stamped_iff es clock).1 h2).2.2
        obtain ⟨i, hi⟩ := List.getElem?_of_mem hx
        rcases Nat.lt_trichotomy i j with hlt | rfl | hlt
        · exfalso
          have hj := (List.getElem?_eq_some_iff.1 f2)
          have hi' := (List.getElem?_eq_some_iff.1 hi)
          have := List.pairwise_iff_getElem.1 hp i j hi'.1 hj.1 hlt
          rw [hi'.2, hj.2] at this
          exact this f3.symm
        · rw [f2] at hi; exact Option.some.inj hi
        · exfalso
          have hj := (List.getElem?_eq_some_iff.1 f2)
          have hi' := (List.getElem?_eq_some_iff.1 hi)
          have := List.pairwise_iff_getElem.1 hp j i hj.1 hi'.1 hlt
          rw [hi'.2, hj.2] at this
          exact this f3
      subst hxe
      refine ⟨_, w, h, ?_, hK, After.refl hw⟩
      simp [Instr.lookup, run_underlying hm, Go.MapKept.run_getObj_map hb, run_checkKey hd hk, run_findKey hd f1, Result.andThen]⟩
end

section
variable {A : Ar} [hA : ArOk A] {T : Tab} {P : Program} {nt : Nat} {ρ : Rn} {e : E} {l : LocE} {H : HP} {env : Sx.Env} {L : Sx.Loc} {h : Heap} {n : P5}

/-- Two keys of one kind: are they the same? -/
noncomputable def keyK (a b : CV) (k : Bool → Bool) : Bool :=
  @CV.rec (fun _ => Bool) (fun _ => Bool) false (fun _ => false) (fun x => as_i64 b fun y => fB (iEq x y) k) (fun x => as_i32 b fun y => fB (iEq x y) k) (fun x => as_u8 b fun y => fB (Nat.beq x y) k) (fun x => as_u32 b fun y => fB (Nat.beq x y) k) (fun x => as_u64 b fun y => fB (Nat.beq x y) k) (fun n s => as_str b fun m t => fB (sEq n s m t) k) false (fun _ _ => false) (fun _ _ => false) false (fun _ _ _ _ => false) (fun _ _ _ _ => false) false false (fun _ => false) (fun _ _ _ _ _ => false) false (fun _ _ _ => false) false (fun _ _ => false) (fun _ _ => false) (fun _ _ => false) false (fun _ _ _ _ => false) a
theorem keyK_inv {a b : CV} {k : Bool → Bool} (hk : keyK a b k = true) {x y : Value} (hx : RV ρ a x) (hy : RV ρ b y) : ∃ t, k t = true ∧ (t = true ↔ x = y) ∧ kdesc a = kdesc b ∧ (∀ d, kdesc a = some d → IsKey d y) := by
  cases a with
  | i64 p => obtain ⟨q, rfl, h1⟩ := as_i64_inv (show as_i64 b _ = true from hk); cases hx; cases hy; rw [fB_eq] at h1; exact ⟨_, h1, by rw [iEq_iff]; simp, rfl, fun d hd => by cases hd; rfl⟩
  | i32 p => obtain ⟨q, rfl, h1⟩ := as_i32_inv (show as_i32 b _ = true from hk); cases hx; cases hy; rw [fB_eq] at h1; exact ⟨_, h1, by rw [iEq_iff]; simp, rfl, fun d hd => by cases hd; rfl⟩
  | u8 p => obtain ⟨q, rfl, h1⟩ := as_u8_inv (show as_u8 b _ = true from hk); cases hx; cases hy; rw [fB_eq] at h1; exact ⟨_, h1, by rw [Nat.beq_eq]; simp; omega, rfl, fun d hd => by cases hd; rfl⟩
  | u32 p => obtain ⟨q, rfl, h1⟩ := as_u32_inv (show as_u32 b _ = true from hk); cases hx; cases hy; rw [fB_eq] at h1; exact ⟨_, h1, by rw [Nat.beq_eq]; simp; omega, rfl, fun d hd => by cases hd; rfl⟩
  | u64 p => obtain ⟨q, rfl, h1⟩ := as_u64_inv (show as_u64 b _ = true from hk); cases hx; cases hy; rw [fB_eq] at h1; exact ⟨_, h1, by rw [Nat.beq_eq]; simp; omega, rfl, fun d hd => by cases hd; rfl⟩
  | str p s => obtain ⟨q, t, rfl, h1⟩ := as_str_inv (show as_str b _ = true from hk); cases hx; cases hy; rw [fB_eq] at h1; exact ⟨_, h1, by rw [sEq_eq, beq_iff_eq]; exact ⟨fun h => by rw [bytes_ext h], fun h => by rw [Value.string.inj h]⟩, rfl, fun d hd => by cases hd; trivial⟩
  | _ => exact (Bool.false_ne_true hk).elim

/-- A key is sought. -/
noncomputable def findK (q : List (CV × CV)) (key : CV) (hit : CV → Bool) (miss : Bool) : Bool := @List.rec (CV × CV) (fun _ => Bool) miss (fun p _ ih => @Prod.rec CV CV (fun _ => Bool) (fun a v => keyK a key fun t => ite' t (hit v) ih) p) q
theorem findK_inv {key : CV} {y : Value} (hy : RV ρ key y) {hit : CV → Bool} {miss : Bool} : ∀ {q : List (CV × CV)} {xs : List (Value × Value)}, RM ρ q xs → findK q key hit miss = true →
    (∃ v z, RV ρ v z ∧ (y, z) ∈ xs ∧ hit v = true) ∨ ((∀ p ∈ xs, p.1 ≠ y) ∧ miss = true)
  | [], xs, hr, hk => by cases hr; exact .inr ⟨by simp, hk⟩
  | (a, v) :: q, xs, ⟨x, z, ys, e1, h1, h2, h3⟩, hk => by
    subst e1
    obtain ⟨t, h4, h5, -, -⟩ := keyK_inv (show keyK a key (fun t => ite' t (hit v) (findK q key hit miss)) = true from hk) h1 hy
    rcases ite'_inv h4 with ⟨h6, h7⟩ | ⟨h6, h7⟩
    · have := h5.1 h6
      subst this
      exact .inl ⟨v, z, h2, by simp, h7⟩
    · have hne : x ≠ y := fun e => by rw [h5.2 e] at h6; cases h6
      rcases findK_inv hy h3 h7 with ⟨v', z', h8, h9, h10⟩ | ⟨h8, h9⟩
      · exact .inl ⟨v', z', h8, by simp [h9], h10⟩
      · exact .inr ⟨by simpa using ⟨hne, fun a b hm => h8 _ hm⟩, h9⟩
/-- A key's value is set. -/
noncomputable def updK (q : List (CV × CV)) (key v : CV) (k : List (CV × CV) → Bool) : Bool := @List.rec (CV × CV) (fun _ => (List (CV × CV) → Bool) → Bool) (fun k => k [(key, v)]) (fun p r ih k => @Prod.rec CV CV (fun _ => Bool) (fun a b => keyK a key fun t => ite' t (k ((a, v) :: r)) (ih fun r => k ((a, b) :: r))) p) q k
theorem updK_inv {key v : CV} {y w : Value} (hy : RV ρ key y) (hv : RV ρ v w) : ∀ {q : List (CV × CV)} {xs : List (Value × Value)} {k : List (CV × CV) → Bool}, RM ρ q xs → updK q key v k = true →
    ∃ q', k q' = true ∧ ((∃ i z, xs[i]? = some (y, z) ∧ RM ρ q' (xs.set i (y, w))) ∨ ((∀ p ∈ xs, p.1 ≠ y) ∧ RM ρ q' (xs ++ [(y, w)])))
  | [], xs, k, hr, hk => by cases hr; exact ⟨_, hk, .inr ⟨by simp, y, w, [], rfl, hy, hv, rfl⟩⟩
  | (a, b) :: q, xs, k, ⟨x, z, ys, e1, h1, h2, h3⟩, hk => by
    subst e1
    obtain ⟨t, h4, h5, -, -⟩ := keyK_inv (show keyK a key (fun t => ite' t (k ((a, v) :: q)) (updK q key v fun r => k ((a, b) :: r))) = true from hk) h1 hy
    rcases ite'_inv h4 with ⟨h6, h7⟩ | ⟨h6, h7⟩
    · have := h5.1 h6
      subst this
      exact ⟨_, h7, .inl ⟨0, z, rfl, x, w, ys, rfl, h1, hv, h3⟩⟩
    · have hne : x ≠ y := fun e => by rw [h5.2 e] at h6; cases h6
      obtain ⟨q', h8, h9⟩ := updK_inv hy hv h3 h7
      refine ⟨_, h8, ?_⟩
      rcases h9 with ⟨i, z', h10, h11⟩ | ⟨h10, h11⟩
      · exact .inl ⟨i + 1, z', by simpa using h10, x, z, _, rfl, h1, h2, h11⟩
      · exact .inr ⟨by simpa using ⟨hne, fun a b hm => h10 _ hm⟩, x, z, _, rfl, h1, h2, h11⟩

/-- A list that is not empty. -/
noncomputable def consK (q : List (CV × CV)) (k : CV → CV → List (CV × CV) → Bool) : Bool := @List.rec (CV × CV) (fun _ => Bool) false (fun p r _ => @Prod.rec CV CV (fun _ => Bool) (fun a b => k a b r) p) q
theorem consK_inv {q : List (CV × CV)} {k : CV → CV → List (CV × CV) → Bool} (h : consK q k = true) : ∃ a b r, q = (a, b) :: r ∧ k a b r = true := by
  cases q with
  | nil => exact (Bool.false_ne_true h).elim
  | cons p r => obtain ⟨a, b⟩ := p; exact ⟨a, b, r, rfl, h⟩

/-- The key that tells a kind. -/
def kd0 : Kd → Option CV
  | .str => some (.str 0 0)
  | .int .i64 => some (.i64 0)
  | .int .i32 => some (.i32 0)
  | .int .u8 => some (.u8 0)
  | .int .u32 => some (.u32 0)
  | .int .u64 => some (.u64 0)
  | _ => none
theorem kd0_desc {d : TypeDesc} {c : CV} (h : kd0 (kdOf d) = some c) : kdesc c = some d := by
  cases d with
  | int k => cases k <;> simp [kdOf, kd0] at h <;> subst h <;> rfl
  | string => simp [kdOf, kd0] at h; subst h; rfl
  | _ => simp [kdOf, kd0] at h
/-- A map's type: its keys' sort. -/
def mpKind (ty : Nat → Ti) (t : Nat) : Option CV := match (ty t).kd with
  | .mp k _ => kd0 (ty k).kd
  | _ => none
theorem tiOk' {ty : Nat → Ti} (hT : ∀ t, ty t = mkTi P t ∨ ty t = .none) {t : TypeId} (h : (ty t).kd ≠ .none) : TiOk P t (ty t) := by
  rcases hT t with e | e
  · rw [e] at h ⊢
    unfold mkTi at h ⊢
    cases hi : P.info? t with
    | none => simp [hi, Ti.none] at h
    | some ti =>
      cases hu : P.underlying t with
      | none => simp [hi, hu, Ti.none] at h
      | some d =>
        cases hz : ti.zero with
        | none => simp [hi, hu, hz, Ti.none] at h
        | some z =>
          refine ⟨ti, d, z, ?_⟩
          simp only [hz, hi, hu, true_and]
          all_goals (cases d <;> simp)
  · rw [e] at h; exact absurd rfl h
theorem und_of {ty : Nat → Ti} (hT : ∀ t, ty t = mkTi P t ∨ ty t = .none) {t : TypeId} {k : Kd} (h : (ty t).kd = k) (hk : k ≠ .none) : ∃ d, P.underlying t = some d ∧ kdOf d = k := by
  obtain ⟨ti, d, z, -, h1, -, -, -, -, -, h2, -⟩ := (tiOk' hT (t := t) (by rw [h]; exact hk)).ex
  exact ⟨d, h1, by rw [← h2, h]⟩
theorem mpKind_inv {ty : Nat → Ti} (hT : ∀ t, ty t = mkTi P t ∨ ty t = .none) {t : Nat} {c : CV} (h : mpKind ty t = some c) : ∃ kt et d, P.underlying t = some (.map kt et) ∧ P.underlying kt = some d ∧ kdesc c = some d := by
  unfold mpKind at h
  split at h
  · rename_i k et hk
    obtain ⟨d, h1, h2⟩ := und_of hT hk (by simp)
    cases d <;> simp [kdOf] at h2
    obtain ⟨e1, e2⟩ := h2
    have hne : (ty k).kd ≠ .none := fun e => by rw [e] at h; cases h
    obtain ⟨d, h3, h4⟩ := und_of hT (t := k) rfl hne
    rw [← h4] at h
    exact ⟨_, _, d, h1, by rw [e1]; exact h3, kd0_desc h⟩
  · cases h

noncomputable def hvMakeMap (c : CV) : HV := ⟨fun _ e l H n k => growP n fun g => hnew H g (.map [(c, .u)]) fun H => nextP n fun n' => k (.map g) l H n'⟩
theorem makeMap_sound {o : Oper} {t : Nat} {c : CV} {d : TypeDesc} (ho : o.op = .makeMap t none) (hc : kdesc c = some d) : HvOk A T P nt o (hvMakeMap c) := by
  intro ρ dd e l H n env L h k K hd s hk hK
  unfold hx
  rw [ho]
  intro nb h' hb he
  subst he
  obtain ⟨g, h7, h1⟩ := growP_inv (show growP n (fun g => hnew H g (.map [(c, .u)]) fun H => nextP n fun n' => k (.map g) l H n') = true from hk)
  obtain ⟨h2, h3⟩ := hnew_inv h1
  obtain ⟨n', h4⟩ := nextP_inv h3
  have hx : Ext ρ (ins ρ g ⟨nb, 0, 0⟩) := ins_ext (s.heap.dom g h2)
  refine hK (ins ρ g ⟨nb, 0, 0⟩) (.map g) _ _ _ _ _ _ hx (.of ⟨_, ins_self, rfl⟩) (s.ext hx (s.heap.fresh h2 hb rfl (by simp) ?_ (.inl h7))) h4
  refine (show RO _ (.map [(c, .u)]) _ _ from ⟨_, c, .u, [], d, [], rfl, rfl, hc, ?_, rfl⟩)
  exact Mp.new (by unfold Sx.hset; rw [if_pos rfl])

noncomputable def hvMapUpd (m i x : GB) : HV := ⟨fun _ e l H n k => as_map (m.run e) fun b => okV (i.run e) fun key => okV (x.run e) fun v => hmod H b (fun o kk => asMp o fun q => consK q fun c u r => keyK c key fun _ => updK r key v fun r => kk (.map ((c, u) :: r))) fun H => k .u l H n⟩
theorem mapUpd_sound {o : Oper} {t : Nat} {m i x : Operand} {c : CV} (ho : o.op = .mapUpdate t m i x ∨ o.op = .insert t m i x) {kt et : TypeId} {d : TypeDesc} (h1 : P.underlying t = some (.map kt et)) (h2 : P.underlying kt = some d) (hc : kdesc c = some d) :
    HvOk A T P nt o ⟨fun q e l H n k => as_map ((opG nt m).run e) fun b => okV ((opG nt i).run e) fun key => okV ((opG nt x).run e) fun v => keyK c key fun _ => hmod H b (fun o kk => asMp o fun q => consK q fun c u r => keyK c key fun _ => updK r key v fun r => kk (.map ((c, u) :: r))) fun H => k .u l H n⟩ := by
  intro ρ dd e l H n env L h k K hd s hk hK
  obtain ⟨b, g1, g2⟩ := as_map_inv (show as_map _ _ = true from hk)
  have hm := s.op m
  rw [g1] at hm
  obtain ⟨mv, g3, r, g4, rfl⟩ := hm
  obtain ⟨y, g5, g6, g7⟩ := (s.op i).ok g2
  obtain ⟨w, g8, g9, g10⟩ := (s.op x).ok g7
  have key : ∀ {cc : CV} {dd : TypeDesc}, kdesc cc = some dd → ∀ {f : Bool → Bool}, keyK cc ((opG nt i).run e) f = true → IsKey dd y ∧ kdesc ((opG nt i).run e) = some dd ∧ ∃ t, f t = true := by
    intro cc dd hcc f hf
    have hz : ∃ z : Value, RV ρ cc z := by
      cases cc <;> first | exact ⟨_, rfl⟩ | (cases hcc; done)
    obtain ⟨z, hz⟩ := hz
    obtain ⟨t, a1, -, a3, a4⟩ := keyK_inv hf hz g6
    exact ⟨a4 _ hcc, by rw [← a3]; exact hcc, t, a1⟩
  obtain ⟨-, f1, t0, g11⟩ := key hc g10
  rw [hmod_eq] at g11
  obtain ⟨q, g12, g13⟩ := asMp_inv g11
  obtain ⟨c', u, q', rfl, g14⟩ := consK_inv g13
  have hro := s.heap.blk b
  rw [g12, g4] at hro
  obtain ⟨r', kc, u', q'', d', lv, e1, e2, e3, e4, e5⟩ := hro
  cases e1
  cases e2
  obtain ⟨f2, f3, t1, g15⟩ := key e3 g14
  have hdd : d' = d := by rw [f1] at f3; cases f3; rfl
  subst hdd
  obtain ⟨q3, g16, g17⟩ := updK_inv g6 g9 e5 g15
  have hlive : live (lkH H b) = true := by rw [g12]; rfl
  have fin : ∀ ob lv', RM ρ q3 lv' → Mp (hset h r.blk ob) r.blk d' lv' → K (.v undef) L (hset h r.blk ob) := fun ob lv' a1 a2 =>
    hK ρ .u _ _ _ _ _ _ (.refl ρ) trivial (s.ext (.refl ρ) (s.heap.write g4 hlive (by simp) (show RO _ (.map _) _ _ from ⟨_, _, _, _, d', lv', rfl, rfl, e3, a2, a1⟩) (fun l e he => by cases he))) g16
  have main : SemX (fun _ => P) (fun _ => do Instr.mapUpdate t (.map (some r.blk)) y w; pure undef) h (fun _ h' => K (.v undef) L h') := by
    rcases g17 with ⟨j, z, a1, a2⟩ | ⟨a1, a2⟩
    · exact mp_upd h1 h2 e4 f2 a1 fun ob a3 => fin ob _ a2 a3
    · exact mp_put h1 h2 e4 f2 a1 fun ob a3 => fin ob _ a2 a3
  unfold hx
  rcases ho with ho | ho <;> rw [ho] <;> simp only [g3, g5, g8] <;> exact main

/-- A lookup; 'z' is what is given where there is no such key. -/
noncomputable def hvLook (c z : CV) (ok : Bool) (m i : GB) : HV := match ok with
  | true => ⟨fun _ e l H n k => as_map (m.run e) fun b => okV (i.run e) fun key => keyK c key fun _ => hget H b fun o => asMp o fun q => consK q fun c u r => keyK c key fun _ => findK r key (fun v => k (.tup [v, .bool true]) l H n) (k (.tup [z, .bool false]) l H n)⟩
  | false => ⟨fun _ e l H n k => as_map (m.run e) fun b => okV (i.run e) fun key => keyK c key fun _ => hget H b fun o => asMp o fun q => consK q fun c u r => keyK c key fun _ => findK r key (fun v => k v l H n) (k z l H n)⟩
theorem look_sound {o : Oper} {t : Nat} {m i : Operand} {ok : Bool} {c z : CV} (ho : o.op = .lookup t m i ok) {kt et : TypeId} {d : TypeDesc} (h1 : P.underlying t = some (.map kt et)) (h2 : P.underlying kt = some d) (hc : kdesc c = some d) {zv : Value} (hz : ∀ w, (zeroValue et).run P w = .ok zv w) (hzr : ∀ ρ, RV ρ z zv) :
    HvOk A T P nt o (hvLook c z ok (opG nt m) (opG nt i)) := by
  have core : ∀ {ρ : Rn} {e : E} {l : LocE} {H : HP} {env : Sx.Env} {L : Sx.Loc} {h : Heap} {hit : CV → Bool} {miss : Bool}, RSt nt ρ e l H env L h →
      (as_map ((opG nt m).run e) fun b => okV ((opG nt i).run e) fun key => keyK c key fun _ => hget H b fun o => asMp o fun q => consK q fun c u r => keyK c key fun _ => findK r key hit miss) = true →
      ∃ r y lv, sev env m = .v (.map (some r)) ∧ sev env i = .v y ∧ IsKey d y ∧ Mp h r d lv ∧ ((∃ v zz, RV ρ v zz ∧ (y, zz) ∈ lv ∧ hit v = true) ∨ ((∀ p ∈ lv, p.1 ≠ y) ∧ miss = true)) := by
    intro ρ e l H env L h hit miss s hk
    obtain ⟨b, g1, g2⟩ := as_map_inv hk
    have hm := s.op m
    rw [g1] at hm
    obtain ⟨mv, g3, r, g4, rfl⟩ := hm
    obtain ⟨y, g5, g6, g7⟩ := (s.op i).ok g2
    have key : ∀ {cc : CV} {dd : TypeDesc}, kdesc cc = some dd → ∀ {f : Bool → Bool}, keyK cc ((opG nt i).run e) f = true → IsKey dd y ∧ kdesc ((opG nt i).run e) = some dd ∧ ∃ t, f t = true := by
      intro cc dd hcc f hf
      have hz : ∃ z : Value, RV ρ cc z := by
        cases cc <;> first | exact ⟨_, rfl⟩ | (cases hcc; done)
      obtain ⟨z, hz⟩ := hz
      obtain ⟨t, a1, -, a3, a4⟩ := keyK_inv hf hz g6
      exact ⟨a4 _ hcc, by rw [← a3]; exact hcc, t, a1⟩
    obtain ⟨-, f1, t0, g11⟩ := key hc g7
    rw [hget_eq] at g11
    obtain ⟨q, g12, g13⟩ := asMp_inv g11
    obtain ⟨c', u, q', rfl, g14⟩ := consK_inv g13
    have hro := s.heap.blk b
    rw [g12, g4] at hro
    obtain ⟨r', kc, u', q'', d', lv, e1, e2, e3, e4, e5⟩ := hro
    cases e1
    cases e2
    obtain ⟨f2, f3, t1, g15⟩ := key e3 g14
    have hdd : d' = d := by rw [f1] at f3; cases f3; rfl
    subst hdd
    exact ⟨r.blk, y, lv, g3, g5, f2, e4, findK_inv g6 e5 g15⟩
  intro ρ dd e l H n env L h k K hd s hk hK
  unfold hx
  rw [ho]
  unfold hvLook at hk
  cases ok with
  | true =>
    obtain ⟨r, y, lv, a1, a2, a3, a4, a5⟩ := core s hk
    simp only [a1, a2]
    rcases a5 with ⟨v, zz, b1, b2, b3⟩ | ⟨b1, b2⟩
    · exact mp_hit2 h1 h2 a4 a3 b2 (hK ρ _ _ _ _ _ _ _ (.refl ρ) (.of (show RV ρ (.tup [v, .bool true]) _ from ⟨_, .cons b1 (.cons rfl (.nil ρ)), rfl⟩)) s b3)
    · exact mp_miss2 h1 h2 hz a4 a3 b1 (hK ρ _ _ _ _ _ _ _ (.refl ρ) (.of (show RV ρ (.tup [z, .bool false]) _ from ⟨_, .cons (hzr ρ) (.cons rfl (.nil ρ)), rfl⟩)) s b2)
  | false =>
    obtain ⟨r, y, lv, a1, a2, a3, a4, a5⟩ := core s hk
    simp only [a1, a2]
    rcases a5 with ⟨v, zz, b1, b2, b3⟩ | ⟨b1, b2⟩
    · exact sem_hit h1 h2 a4 a3 b2 (hK ρ _ _ _ _ _ _ _ (.refl ρ) (.of b1) s b3)
    · exact sem_miss h1 h2 hz a4 a3 b1 (hK ρ _ _ _ _ _ _ _ (.refl ρ) (.of (hzr ρ)) s b2)
end
end Go.Cx
namespace Go.Cx
open Go.Sx

section
variable {A : Ar} [hA : ArOk A] {T : Tab} {P : Program} {nt : Nat} {ρ : Rn} {e : E} {l : LocE} {H : HP} {env : Sx.Env} {L : Sx.Loc} {h : Heap} {n : P5}

/-! Against nil. -/
inductive NilK where
  | ptr
  | ifc
  | mp
  | fn
noncomputable def nilE (v : CV) (p0 p1 m0 m1 f0 f1 i0 i1 : Bool) : Bool :=
  @CV.rec (fun _ => Bool) (fun _ => Bool) false (fun _ => false) (fun _ => false) (fun _ => false) (fun _ => false) (fun _ => false) (fun _ => false) (fun _ _ => false) p0 (fun _ _ => p1) (fun _ _ => false) false (fun _ _ _ _ => false) (fun _ _ _ _ => false) false m0 (fun _ => m1) (fun _ _ _ _ _ => f1) f0 (fun _ _ _ => i1) i0 (fun _ _ => false) (fun _ _ => false) (fun _ _ => false) false (fun _ _ _ _ => false) v
noncomputable def lvNil (q : NilK) (ng : Bool) (x : GB) : LV := match q with
  | .ptr => ⟨fun e _ _ k => nilE (x.run e) (k (.bool (notB ng true))) (k (.bool (notB ng false))) false false false false false false⟩
  | .mp => ⟨fun e _ _ k => nilE (x.run e) false false (k (.bool (notB ng true))) (k (.bool (notB ng false))) false false false false⟩
  | .fn => ⟨fun e _ _ k => nilE (x.run e) false false false false (k (.bool (notB ng true))) (k (.bool (notB ng false))) false false⟩
  | .ifc => ⟨fun e _ _ k => nilE (x.run e) false false false false false false (k (.bool (notB ng true))) (k (.bool (notB ng false)))⟩
def nilKind (ty : Nat → Ti) (t : Nat) (c : Value) : Option NilK := match (ty t).kd, c with
  | .ptr _, .pointer none => some .ptr
  | .mp _ _, .map none => some .mp
  | .fn, .nilFunc => some .fn
  | .ifc, .nilIface => some .ifc
  | _, _ => none
theorem run_nil {op : BinOp} {ng : Bool} (hng : negOp op = some ng) {t : Nat} {x : Operand} {u c : Value} {r : Bool} {d : TypeDesc} (hd : P.underlying t = some d)
    (hc : ∀ w, (Op.equal t u c).run P w = .ok r w) (hb : Go.binOp .eql t u c = (Functor.map Value.bool (Op.equal t u c)) ∧ Go.binOp .neq t u c = (Functor.map (fun b => Value.bool (!b)) (Op.equal t u c))) (hg : ∀ w, (eqGuard op t x (.const c) u c).run P w = .ok () w) (w : World) :
    (do eqGuard op t x (.const c) u c; Go.binOp op t u c : Sem Value).run P w = .ok (.bool (notB ng r)) w := by
  rw [Sem.run_bind, hg, Result.andThen_ok]
  cases op <;> first | (cases hng; done) | skip
  all_goals cases hng
  · rw [hb.1]; simp [hc]; rfl
  · rw [hb.2]; simp [hc]; cases r <;> rfl
theorem nil_sound {ty : Nat → Ti} (hT : ∀ t, ty t = mkTi P t ∨ ty t = .none) (hTT : T.ty = ty) {o : Oper} {op : BinOp} {t tt : Nat} {x : Operand} {c : Value} {q : NilK} {ng : Bool} (ho : o.op = .binOp op t x (.const c) tt) (hq : nilKind ty t c = some q) (hng : negOp op = some ng) :
    LvOk A T (fun _ => P) nt o (lvNil q ng (opG nt x)) := by
  intro ρ e l H env L h k K s hk hK
  subst hTT
  have hx := s.op x
  unfold lightx
  rw [ho]
  have fin : ∀ {u : Value} {r : Bool}, sev env x = .v u → (T.ty t).kd.isNone = false → (∀ k' : Value → Prop, ∀ f : Unit → Prop, f () → (match binV A op u c with
      | some r => k' r
      | none => match cmpV A T.ty (T.ty t) op u c with
        | some r => k' r
        | none => binC A op u c k' f)) → (∃ d, P.underlying t = some d ∧ (∀ w, (Op.equal t u c).run P w = .ok r w)) → (∀ w, (eqGuard op t x (.const c) u c).run P w = .ok () w) → (Go.binOp .eql t u c = (Functor.map Value.bool (Op.equal t u c)) ∧ Go.binOp .neq t u c = (Functor.map (fun b => Value.bool (!b)) (Op.equal t u c))) → k (.bool (notB ng r)) = true →
      (match sev env x with
        | .v a => match sev env (.const c) with
          | .v b => match binV A op a b with
            | some r => K (.v r) none
            | none => match cmpV A T.ty (T.ty t) op a b with
              | some r => K (.v r) none
              | none => binC A op a b (fun r => K (.v r) none) (fun _ => RunX (fun _ => P) (fun _ => do eqGuard op t x (.const c) a b; binOp op t a b) (fun r => K (.v r) none))
          | _ => False
        | _ => False) := by
    intro u r h1 h2 h3 ⟨d, h4, h5⟩ h6 hb h7
    have hc' : sev env (.const c) = .v c := rfl
    simp only [h1, hc']
    refine h3 (fun r => K (.v r) none) (fun _ => RunX (fun _ => P) (fun _ => do eqGuard op t x (.const c) u c; binOp op t u c) (fun r => K (.v r) none)) ⟨_, run_nil hng h4 h5 hb h6, ?_⟩
    exact hK (.bool _) _ (.of rfl) h7
  unfold nilKind at hq
  split at hq
  · rename_i el hkd
    cases hq
    obtain ⟨d, h1, h2⟩ := und_of hT hkd (by simp)
    cases d <;> simp [kdOf] at h2
    have hn : (T.ty t).kd.isNone = false := by rw [hkd]; rfl
    have hsel : ∀ (p : Option Addr) (k' : Value → Prop) (f : Unit → Prop), f () → (match binV A op (.pointer p) (.pointer none) with
      | some r => k' r
      | none => match cmpV A T.ty (T.ty t) op (.pointer p) (.pointer none) with
        | some r => k' r
        | none => binC A op (.pointer p) (.pointer none) k' f) := fun p k' f hf => by
      have e1 : binV A op (.pointer p) (.pointer none) = none := by cases op <;> rfl
      have e2 : cmpV A T.ty (T.ty t) op (.pointer p) (.pointer none) = none := by unfold cmpV; simp only [hkd]
      simp only [e1, e2]
      exact hf
    have heq : ∀ (p : Option Addr) w, (Op.equal t (.pointer p) (.pointer none)).run P w = .ok p.isNone w := fun p w => by
      unfold Op.equal Op.maxDepth Op.equalIn
      rw [Sem.run_bind, run_underlying h1, Result.andThen_ok]
      cases p <;> rfl
    have hg : ∀ (p : Option Addr) w, (eqGuard op t x (.const (.pointer none)) (.pointer p) (.pointer none)).run P w = .ok () w := fun p w => by unfold eqGuard; split <;> rfl
    have hk : nilE ((opG nt x).run e) _ _ _ _ _ _ _ _ = true := hk
    cases hv : (opG nt x).run e <;> rw [hv] at hk hx <;> first | exact (Bool.false_ne_true hk).elim | skip
    · obtain ⟨y, h3, rfl⟩ := hx
      exact fin h3 hn (hsel _) ⟨_, h1, heq none⟩ (hg _) ⟨rfl, rfl⟩ hk
    · obtain ⟨y, h3, r, h4, rfl⟩ := hx
      exact fin h3 hn (hsel _) ⟨_, h1, heq (some _)⟩ (hg _) ⟨rfl, rfl⟩ hk
  · rename_i ka el hkd
    cases hq
    obtain ⟨d, h1, h2⟩ := und_of hT hkd (by simp)
    cases d <;> simp [kdOf] at h2
    have hn : (T.ty t).kd.isNone = false := by rw [hkd]; rfl
    have hsel : ∀ (p : Option Nat) (k' : Value → Prop) (f : Unit → Prop), f () → (match binV A op (.map p) (.map none) with
      | some r => k' r
      | none => match cmpV A T.ty (T.ty t) op (.map p) (.map none) with
        | some r => k' r
        | none => binC A op (.map p) (.map none) k' f) := fun p k' f hf => by
      have e1 : binV A op (.map p) (.map none) = none := by cases op <;> rfl
      have e2 : cmpV A T.ty (T.ty t) op (.map p) (.map none) = none := by unfold cmpV; simp only [hkd]
      simp only [e1, e2]
      exact hf
    have heq : ∀ (p : Option Nat) w, (Op.equal t (.map p) (.map none)).run P w = .ok p.isNone w := fun p w => by
      unfold Op.equal Op.maxDepth Op.equalIn
      rw [Sem.run_bind, run_underlying h1, Result.andThen_ok]
      cases p <;> rfl
    have hg : ∀ (p : Option Nat) w, (eqGuard op t x (.const (.map none)) (.map p) (.map none)).run P w = .ok () w := fun p w => by unfold eqGuard; split <;> rfl
    have hk : nilE ((opG nt x).run e) _ _ _ _ _ _ _ _ = true := hk
    cases hv : (opG nt x).run e <;> rw [hv] at hk hx <;> first | exact (Bool.false_ne_true hk).elim | skip
    · obtain ⟨y, h3, rfl⟩ := hx
      exact fin h3 hn (hsel _) ⟨_, h1, heq none⟩ (hg _) ⟨rfl, rfl⟩ hk
    · obtain ⟨y, h3, r, h4, rfl⟩ := hx
      exact fin h3 hn (hsel _) ⟨_, h1, heq (some _)⟩ (hg _) ⟨rfl, rfl⟩ hk
  · rename_i hkd
    cases hq
    obtain ⟨d, h1, h2⟩ := und_of hT hkd (by simp)
    cases d <;> simp [kdOf] at h2
    have hn : (T.ty t).kd.isNone = false := by rw [hkd]; rfl
    have hsel : ∀ (u : Value), (u = .nilFunc ∨ ∃ a b c, u = .func a b c) → ∀ (k' : Value → Prop) (f : Unit → Prop), f () → (match binV A op u .nilFunc with
      | some r => k' r
      | none => match cmpV A T.ty (T.ty t) op u .nilFunc with
        | some r => k' r
        | none => binC A op u .nilFunc k' f) := fun u hu k' f hf => by
      have e1 : binV A op u .nilFunc = none := by rcases hu with rfl | ⟨a, b, c, rfl⟩ <;> cases op <;> rfl
      have e2 : cmpV A T.ty (T.ty t) op u .nilFunc = none := by unfold cmpV; simp only [hkd]
      simp only [e1, e2]
      rcases hu with rfl | ⟨a, b, c, rfl⟩ <;> exact hf
    have hk : nilE ((opG nt x).run e) _ _ _ _ _ _ _ _ = true := hk
    cases hv : (opG nt x).run e <;> rw [hv] at hk hx <;> first | exact (Bool.false_ne_true hk).elim | skip
    · obtain ⟨y, h3, xs, ys, h4, h5, rfl⟩ := hx
      refine fin h3 hn (hsel _ (.inr ⟨_, _, _, rfl⟩)) ⟨_, h1, fun w => ?_⟩ (fun w => by unfold eqGuard; split <;> rfl) ⟨rfl, rfl⟩ (r := false) hk
      unfold Op.equal Op.maxDepth Op.equalIn
      rw [Sem.run_bind, run_underlying h1, Result.andThen_ok]
      rfl
    · obtain ⟨y, h3, rfl⟩ := hx
      refine fin h3 hn (hsel _ (.inl rfl)) ⟨_, h1, fun w => ?_⟩ (fun w => by unfold eqGuard; split <;> rfl) ⟨rfl, rfl⟩ (r := true) hk
      unfold Op.equal Op.maxDepth Op.equalIn
      rw [Sem.run_bind, run_underlying h1, Result.andThen_ok]
      rfl
  · rename_i hkd
    cases hq
    obtain ⟨d, h1, h2⟩ := und_of hT hkd (by simp)
    cases d <;> simp [kdOf] at h2
    have hn : (T.ty t).kd.isNone = false := by rw [hkd]; rfl
    have hsel : ∀ (u : Value), (u = .nilIface ∨ ∃ a b, u = .iface a b) → ∀ (k' : Value → Prop) (f : Unit → Prop), f () → (match binV A op u .nilIface with
      | some r => k' r
      | none => match cmpV A T.ty (T.ty t) op u .nilIface with
        | some r => k' r
        | none => binC A op u .nilIface k' f) := fun u hu k' f hf => by
      have e1 : binV A op u .nilIface = none := by rcases hu with rfl | ⟨a, b, rfl⟩ <;> cases op <;> rfl
      have e2 : cmpV A T.ty (T.ty t) op u .nilIface = none := by unfold cmpV; simp only [hkd]
      simp only [e1, e2]
      rcases hu with rfl | ⟨a, b, rfl⟩ <;> exact hf
    have hk : nilE ((opG nt x).run e) _ _ _ _ _ _ _ _ = true := hk
    cases hv : (opG nt x).run e <;> rw [hv] at hk hx <;> first | exact (Bool.false_ne_true hk).elim | skip
    · obtain ⟨y, h3, z, h4, rfl⟩ := hx
      refine fin h3 hn (hsel _ (.inr ⟨_, _, rfl⟩)) ⟨_, h1, fun w => ?_⟩ (fun w => by unfold eqGuard; split <;> rfl) ⟨rfl, rfl⟩ (r := false) hk
      unfold Op.equal Op.maxDepth Op.equalIn
      rw [Sem.run_bind, run_underlying h1, Result.andThen_ok]
      rfl
    · obtain ⟨y, h3, rfl⟩ := hx
      refine fin h3 hn (hsel _ (.inl rfl)) ⟨_, h1, fun w => ?_⟩ (fun w => by unfold eqGuard; split <;> simp) ⟨rfl, rfl⟩ (r := true) hk
      unfold Op.equal Op.maxDepth Op.equalIn
      rw [Sem.run_bind, run_underlying h1, Result.andThen_ok]
      rfl
  · cases hq
noncomputable def othS (ty : Nat → Ti) : Oth := fun nt op => match op with
  | .binOp op t x (.const c) _ => match nilKind ty t c, negOp op with
    | some q, some ng => lvNil q ng (opG nt x)
    | _, _ => .fail
  | _ => .fail
theorem othS_ok {ty : Nat → Ti} (hT : ∀ t, ty t = mkTi P t ∨ ty t = .none) (hTT : T.ty = ty) : OthOk A T (fun _ => P) nt (othS ty) := by
  intro o ρ e l H env L h k K s hk hK
  unfold othS at hk
  split at hk
  · rename_i op t x c tt ho
    split at hk
    · rename_i q ng hq hng
      exact nil_sound hT hTT ho hq hng s hk hK
    · exact (Bool.false_ne_true hk).elim
  · exact (Bool.false_ne_true hk).elim
end
end Go.Cx
namespace Go.Cx
open Go.Sx
open Go.MapKept (heap_set)

section
variable {A : Ar} [hA : ArOk A] {T : Tab} {P : Program} {nt : Nat} {ρ : Rn} {e : E} {l : LocE} {H : HP} {env : Sx.Env} {L : Sx.Loc} {h : Heap} {n : P5}

/-! Bytes, strings. -/
/-- Cells that are bytes: the string's digits. -/
noncomputable def u8sK (cs : List CV) (k : Nat → Bool) : Bool := @List.rec CV (fun _ => (Nat → Bool) → Bool) (fun k => k 0) (fun v _ ih k => as_u8 v fun b => chk (blt b 256) (ih fun s => fN (Nat.add b (Nat.mul 256 s)) k)) cs k
theorem u8sK_inv : ∀ {cs : List CV} {xs : List Value} {k : Nat → Bool}, u8sK cs k = true → RL ρ cs xs → ∃ s, k s = true ∧ xs = (digs cs.length s).map fun b => Value.int .u8 (b.toNat : Int)
  | [], xs, k, hk, hr => by cases hr; exact ⟨0, hk, rfl⟩
  | v :: r, xs, k, hk, ⟨x, ys, e1, h1, h2⟩ => by
    subst e1
    obtain ⟨b, rfl, h3⟩ := as_u8_inv (show as_u8 v (fun b => chk (blt b 256) (u8sK r fun s => fN (Nat.add b (Nat.mul 256 s)) k)) = true from hk)
    obtain ⟨h4, h5⟩ := chk_inv h3
    have h4 : b < 256 := blt_iff.1 h4
    obtain ⟨s, h6, h7⟩ := u8sK_inv h5 h2
    rw [fN_eq] at h6
    refine ⟨b + 256 * s, h6, ?_⟩
    cases h1
    subst h7
    have e2 : (UInt8.ofNat (b + 256 * s)).toNat = b := by
      rw [show (UInt8.ofNat (b + 256 * s)).toNat = (b + 256 * s) % 256 from UInt8.toNat_ofNat' ..]
      omega
    have e3 : (b + 256 * s) / 256 = s := by omega
    simp only [List.length_cons, digs, List.map_cons, e2, e3]

noncomputable def hvB2S (x : GB) : HV := ⟨fun _ e l H n k => rdS (x.run e) 1 H fun m cs => u8sK cs fun s => k (.str m s) l H n⟩
theorem b2s_sound {o : Oper} {src dst el : Nat} {x : Operand} (ho : o.op = .convert src dst x) (hs : P.underlying src = some (.slice el)) (he : P.underlying el = some (.int .u8)) (hd : P.underlying dst = some .string) : HvOk A T P nt o (hvB2S (opG nt x)) := by
  intro ρ dd e l H n env L h k K hdd s hk hK
  obtain ⟨y, h1, h2⟩ := (s.op x).slice (show asS _ _ _ _ _ = true from hk)
  obtain ⟨b, m, c, cs, xs, rfl, h3, h4, h5, h6⟩ := rdS_inv s.heap h2 (show rdS _ _ _ (fun m cs => u8sK cs fun s => k (.str m s) l H n) = true from hk)
  obtain ⟨sn, h7, h8⟩ := u8sK_inv h4 h5
  unfold hx
  rw [ho]
  simp only [h1]
  have hlen : cs.length = m := by
    rw [h5.len]
    rcases h6 with ⟨g1, rfl⟩ | ⟨_, -, g2⟩
    · simp at g1; simp [g1]
    · simpa using g2.2.1
  have fin : K (.v (.string (bytes m sn))) L h := hK ρ (.str m sn) _ _ _ _ _ _ (.refl ρ) (.of rfl) s h7
  rw [hlen] at h8
  have hm : m = (digs m sn).length := (digs_len m sn).symm
  refine ⟨fun w hw => ⟨.string (bytes m sn), w, h, ?_, fin, After.refl hw⟩⟩
  rcases h6 with ⟨g1, rfl⟩ | ⟨a, rfl, g2⟩
  · have hm0 : m = 0 := by simpa using g1
    subst hm0
    rw [run_convert_bytes_string w src dst el b 0 c hs he hd]
    cases b with
    | none => rfl
    | some a =>
      have := run_convert_bytes_back w src dst el a c ([] : List UInt8) hs he hd (fun j hj => absurd hj (by simp))
      rw [run_convert_bytes_string w src dst el _ _ _ hs he hd] at this
      exact this
  · have := run_convert_bytes_back w src dst el a c (digs m sn) hs he hd (fun j hj => by
      obtain ⟨q1, q2, q3⟩ := g2.cell hw
      have hj' : j < xs.length := by rw [h8]; simpa using hj
      have q4 := q3 j hj'
      have e5 : a.add j = ⟨a.block, a.off + j, none⟩ := by
        obtain ⟨ab, ao, asp⟩ := a
        simp only at q1
        subst q1
        exact addr_add ab ao j
      rw [e5, q4, h8]
      simp only [List.getElem?_map, List.getElem?_eq_getElem hj, Option.map_some])
    rw [digs_len] at this
    exact this

noncomputable def hvS2B (el : Nat) (x : GB) : HV := ⟨fun _ e l H n k => as_str (x.run e) fun m s => bytesK m s fun cs => growP n fun g => hnew H g (.cells cs el) fun H => nextP n fun n' => k (.slu g 0 m 1) l H n'⟩
theorem s2b_sound {o : Oper} {src dst el : Nat} {x : Operand} (ho : o.op = .convert src dst x) (hs : P.underlying src = some .string) (he : P.underlying el = some (.int .u8)) (hd : P.underlying dst = some (.slice el)) : HvOk A T P nt o (hvS2B el (opG nt x)) := by
  intro ρ dd e l H n env L h k K hdd s hk hK
  obtain ⟨m, sn, h1, h2⟩ := (s.op x).str (show as_str _ (fun m s => bytesK m s fun cs => growP n fun g => hnew H g (.cells cs el) fun H => nextP n fun n' => k (.slu g 0 m 1) l H n') = true from hk)
  rw [bytesK_eq] at h2
  obtain ⟨g, h7, h3⟩ := growP_inv (show growP n (fun g => hnew H g (.cells (bytesL m sn) el) fun H => nextP n fun n' => k (.slu g 0 m 1) l H n') = true from h2)
  obtain ⟨h4, h5⟩ := hnew_inv h3
  obtain ⟨n', h6⟩ := nextP_inv h5
  unfold hx
  rw [ho]
  simp only [h1]
  refine ⟨fun w hw => ?_⟩
  have hrun := run_bytes_of_string (P := P) w src dst el (bytes m sn) hs hd he
  have hcap : (bytes m sn).size ≤ grownCap w (bytes m sn).size 0 el := grownCap_ge w _ _ _
  generalize grownCap w (bytes m sn).size 0 el = cap at hrun hcap
  rw [bytes_size] at hrun hcap
  have hsz : (bytesRow (bytes m sn) cap).size = cap := by
    unfold bytesRow
    have : (bytes m sn).data.size = m := bytes_size m sn
    simp [this, bytes_size]
    omega
  have hfresh : h w.heap.size = none := hw.none_ge (Nat.le_refl _)
  have hxx : Ext ρ (ins ρ g ⟨w.heap.size, 0, cap⟩) := ins_ext (s.heap.dom g h4)
  refine ⟨_, _, hset h w.heap.size (.cells (bytesRow (bytes m sn) cap) el ((bytesRow (bytes m sn) cap).size, (bytesRow (bytes m sn) cap).size + 1)), hrun, ?_, ?_⟩
  · refine hK (ins ρ g ⟨w.heap.size, 0, cap⟩) (.slu g 0 m 1) _ _ _ _ _ _ hxx (.of ⟨_, cap, ins_self, rfl, hcap, by simp⟩) (s.ext hxx (s.heap.fresh h4 hfresh rfl (by simp) ?_ (.inl h7))) h6
    refine (show RO _ (.cells _ el) _ _ from ⟨_, _, _, rfl, by unfold Sx.hset; rw [if_pos rfl], hsz, ?_, ?_⟩)
    · intro i v hv
      obtain ⟨y, h8, h9⟩ := (bytesL_ok (ins ρ g ⟨w.heap.size, 0, cap⟩) m sn).get hv
      refine ⟨y, ?_, h9⟩
      have hi : i < (strCells (bytes m sn)).length := (List.getElem?_eq_some_iff.1 h8).1
      unfold bytesRow
      rw [← Array.getElem?_toList]
      simp only [Array.toList_append, Array.toList_map, Nat.zero_add]
      rw [List.getElem?_append_left (by simpa [strCells] using hi)]
      exact h8
    · intro i hi hc
      rw [hsz] at hc
      simp only at hi hc
      omega
  · have := After.new (h := h) (w := w.drew) hw (.cells (bytesRow (bytes m sn) cap) el ((bytesRow (bytes m sn) cap).size, (bytesRow (bytes m sn) cap).size + 1))
    exact ⟨this.os, this.tape, this.output, this.size, this.agr, this.frame⟩

/-! Pointers of the package unsafe. -/
noncomputable def hvToU (x : GB) : HV := ⟨fun _ e l H n k => nilE (x.run e) (k .nilp l H n) (as_ptr (x.run e) fun b off => hget H b fun o => asRead o fun c _ => nthK off c fun _ => k (.ptr b off) l H n) false false false false false false⟩
theorem toU_sound {o : Oper} {src dst t : Nat} {x : Operand} (ho : o.op = .convert src dst x) (hs : P.underlying src = some (.pointer t)) (hd : P.underlying dst = some .unsafePointer) (hsz : (P.info? t).map (fun i => decide (i.size = 0)) = some false) : HvOk A T P nt o (hvToU (opG nt x)) := by
  intro ρ dd e l H n env L h k K hdd s hk hK
  have hv := s.op x
  unfold hx
  rw [ho]
  have hk : nilE ((opG nt x).run e) (k .nilp l H n) (as_ptr ((opG nt x).run e) fun b off => hget H b fun o => asRead o fun c _ => nthK off c fun _ => k (.ptr b off) l H n) _ _ _ _ _ _ = true := hk
  cases hc : (opG nt x).run e <;> rw [hc] at hk hv <;> first | exact (Bool.false_ne_true hk).elim | skip
  · obtain ⟨y, h1, rfl⟩ := hv
    simp only [h1]
    refine ⟨fun w hw => ⟨.pointer none, w, h, ?_, hK ρ .nilp _ _ _ _ _ _ (.refl ρ) (.of rfl) s hk, After.refl hw⟩⟩
    simp [convert, Conv.unsafePointer, run_underlying hs, run_underlying hd]
  · rename_i b off
    obtain ⟨y, h1, r, h2, rfl⟩ := hv
    have hk : (hget H b fun o => asRead o fun c _ => nthK off c fun _ => k (.ptr b off) l H n) = true := hk
    rw [hget_eq] at hk
    obtain ⟨c, t', h3, h4⟩ := asRead_inv hk
    obtain ⟨v, h5, h6⟩ := nthK_inv h4
    simp only [h1]
    refine ⟨fun w hw => ?_⟩
    obtain ⟨u, h7, h8⟩ := cell_of s.heap h2 h3 h5 hw
    exact ⟨_, w, h, run_convert_to_unsafe hs hd hsz h8, hK ρ (.ptr b off) _ _ _ _ _ _ (.refl ρ) (.of ⟨r, h2, rfl⟩) s h6, After.refl hw⟩

theorem lies_self {u count : Nat} (hc : P.cellsOf u ≠ 0) (hn : 1 ≤ count) : liesAt P P.depth u count 0 u 1 = true := by
  have hd : P.depth = (2 * (P.types.size + Made.depth) + 1) + 1 := rfl
  rw [hd]
  simp only [liesAt, Bool.or_eq_true]
  left
  rw [hd]
  simp [rowAt, hc, hn, sameLayout]
noncomputable def d7no (p : P5) (k : Bool) : Bool := @P5.rec (fun _ => Bool) (fun _ _ _ _ e => @D8.rec (fun _ => Bool) k k k k k k k false e) p
theorem d7no_inv {p : P5} {k : Bool} (h : d7no p k = true) : p.e ≠ .d7 ∧ k = true := by
  obtain ⟨a, b, c, d, e⟩ := p
  cases e <;> first | exact ⟨by simp, h⟩ | exact (Bool.false_ne_true h).elim
noncomputable def hvOfU (u sz : Nat) (x : GB) : HV := ⟨fun _ e l H n k => nilE (x.run e) (k .nilp l H n) (as_ptr (x.run e) fun b off => chk (Nat.beq off 0) (d7no b (hget H b fun o => asCells o fun c t => chk (Nat.beq t u) (lenK c fun m => chk (Nat.beq m sz) (k (.ptr b 0) l H n))))) false false false false false false⟩
theorem ofU_sound {o : Oper} {src dst u sz : Nat} {x : Operand} (ho : o.op = .convert src dst x) (hs : P.underlying src = some .unsafePointer) (hd : P.underlying dst = some (.pointer u)) (hsz : P.cellsOf u = sz) (hpos : 0 < sz) : HvOk A T P nt o (hvOfU u sz (opG nt x)) := by
  intro ρ dd e l H n env L h k K hdd s hk hK
  have hv := s.op x
  unfold hx
  rw [ho]
  have hk : nilE ((opG nt x).run e) (k .nilp l H n) (as_ptr ((opG nt x).run e) fun b off => chk (Nat.beq off 0) (d7no b (hget H b fun o => asCells o fun c t => chk (Nat.beq t u) (lenK c fun m => chk (Nat.beq m sz) (k (.ptr b 0) l H n))))) _ _ _ _ _ _ = true := hk
  cases hc : (opG nt x).run e <;> rw [hc] at hk hv <;> first | exact (Bool.false_ne_true hk).elim | skip
  · obtain ⟨y, h1, rfl⟩ := hv
    simp only [h1]
    refine ⟨fun w hw => ⟨.pointer none, w, h, ?_, hK ρ .nilp _ _ _ _ _ _ (.refl ρ) (.of rfl) s hk, After.refl hw⟩⟩
    simp [convert, Conv.unsafePointer, run_underlying hs, run_underlying hd]
  · rename_i b off
    obtain ⟨y, h1, r, h2, rfl⟩ := hv
    have hk : chk (Nat.beq off 0) (d7no b (hget H b fun o => asCells o fun c t => chk (Nat.beq t u) (lenK c fun m => chk (Nat.beq m sz) (k (.ptr b 0) l H n)))) = true := hk
    obtain ⟨a1, a2⟩ := chk_inv hk
    have a1 : off = 0 := Nat.eq_of_beq_eq_true a1
    subst a1
    obtain ⟨a3, a4⟩ := d7no_inv a2
    rw [hget_eq] at a4
    obtain ⟨c, t', a5, a6⟩ := asCells_inv a4
    obtain ⟨a7, a8⟩ := chk_inv a6
    have a7 : t' = u := Nat.eq_of_beq_eq_true a7
    subst a7
    rw [lenK_eq] at a8
    obtain ⟨a9, b1⟩ := chk_inv a8
    have a9 : c.length = sz := Nat.eq_of_beq_eq_true a9
    obtain ⟨b2, b3⟩ := s.heap.box b r c t' a3 h2 a5
    have hro := s.heap.blk b
    rw [a5, h2] at hro
    obtain ⟨r', c', fr, e1, e2, e3, e4, e5⟩ := hro
    cases e1
    have e6 : c'.size = sz := by omega
    simp only [h1]
    refine ⟨fun w hw => ⟨.pointer (some ⟨r.blk, r.bas + 0, none⟩), w, h, ?_, hK ρ (.ptr b 0) _ _ _ _ _ _ (.refl ρ) (.of ⟨r, h2, rfl⟩) s b1, After.refl hw⟩⟩
    have hb := hw _ _ e2
    have hsh : w.shape? r.blk = some (t', c'.size) := by unfold World.shape?; rw [hb]
    rw [b2]
    have hlies : liesAt P P.depth t' (c'.size / P.cellsOf t') 0 t' 1 = true := lies_self (by omega) (by rw [hsz, e6, Nat.div_self hpos]; exact Nat.le_refl 1)
    obtain ⟨ti, hti, htz⟩ : ∃ ti, P.info? t' = some ti ∧ ti.size = sz := by
      unfold Program.cellsOf at hsz
      cases hi : P.info? t' with
      | none => rw [hi] at hsz; simp at hsz; omega
      | some ti => rw [hi] at hsz; exact ⟨ti, rfl, by simpa using hsz⟩
    simp [convert, Conv.unsafePointer, Conv.seenAt, viewAt, variablesAt, sizeOf, typeInfo, run_underlying hs, run_underlying hd, hti, htz, hsh, hlies, Result.andThen]

/-! 'range' over a string, of ASCII where it is read. -/
theorem get_posC {s : ByteArray} {pos : Nat} (h : pos < s.size) : (s[pos]'h).toNat = (s.data.getD pos 0).toNat := by
  have h' : pos < s.data.size := h
  have e : s.data.getD pos 0 = s[pos]'h := by simp only [Array.getD]; rw [dif_pos h']; rfl
  rw [e]
theorem nextS1 {ty : TypeId} {h : Heap} {r pos : Nat} {s : ByteArray} (g : h r = some (.stringIter s pos)) (hp : pos < s.size) (ha : (s.data.getD pos 0).toNat < 128)
    {k : Value → Heap → Prop} (hK : k (.tuple #[.bool true, .int .i64 pos, .int .i32 ((s.data.getD pos 0).toNat : Int)]) (hset h r (.stringIter s (pos + 1)))) :
    SemX (fun _ => P) (fun _ => Instr.next (.pointer (some ⟨r, 0, none⟩)) true ty) h k :=
  ⟨fun w hw => by
    have hb := hw _ _ g
    have hlt : r < w.heap.size := by
      rcases Nat.lt_or_ge r w.heap.size with h1 | h1
      · exact h1
      · rw [Array.getElem?_eq_none h1] at hb; cases hb
    have hd := decode_ascii s pos hp (by rw [get_posC hp]; exact ha)
    have h1 := heap_set (o' := Obj.stringIter s (pos + 1)) hb
    refine ⟨_, { w with heap := w.heap.setIfInBounds r (.stringIter s (pos + 1)) }, hset h r (.stringIter s (pos + 1)), ?_, hK, After.set hw g h1.1 h1.2 (by simp) ⟨rfl, rfl, rfl⟩⟩
    rw [get_posC hp] at hd
    simp [Instr.next, getObj, setObj, Sem.run_bind, Sem.run, hb, Result.andThen, hp, hd, goInt]⟩
theorem nextS0 {ty : TypeId} {h : Heap} {r pos : Nat} {s : ByteArray} (g : h r = some (.stringIter s pos)) (hp : s.size ≤ pos)
    {k : Value → Heap → Prop} (h0 : k (.tuple #[.bool false]) h) : SemX (fun _ => P) (fun _ => Instr.next (.pointer (some ⟨r, 0, none⟩)) true ty) h k :=
  ⟨fun w hw => by
    have hb := hw _ _ g
    refine ⟨_, w, h, ?_, h0, After.refl hw⟩
    have hp' : ¬ pos < s.size := by omega
    simp [Instr.next, getObj, Sem.run, hb, hp']⟩
noncomputable def hvRangeS (x : GB) : HV := ⟨fun _ e l H n k => as_str (x.run e) fun m s => hnew H n (.sit m s 0) fun H => nextP n fun n' => k (.ptr n 0) l H n'⟩
theorem rangeS_sound {o : Oper} {t : Nat} {x : Operand} (ho : o.op = .range t x) (ht : P.underlying t = some .string) : HvOk A T P nt o (hvRangeS (opG nt x)) := by
  intro ρ dd e l H n env L h k K hdd s hk hK
  obtain ⟨m, sn, h1, h2⟩ := (s.op x).str (show as_str _ (fun m s => hnew H n (.sit m s 0) fun H => nextP n fun n' => k (.ptr n 0) l H n') = true from hk)
  obtain ⟨h4, h5⟩ := hnew_inv h2
  obtain ⟨n', h6⟩ := nextP_inv h5
  unfold hx
  rw [ho]
  simp only [h1]
  refine ⟨fun w hw => ?_⟩
  have hfresh : h w.heap.size = none := hw.none_ge (Nat.le_refl _)
  have hxx : Ext ρ (ins ρ n ⟨w.heap.size, 0, 0⟩) := ins_ext (s.heap.dom n h4)
  refine ⟨_, _, hset h w.heap.size (.stringIter (bytes m sn) 0), run_range_string w t _ ht, ?_, After.new hw _⟩
  refine hK (ins ρ n ⟨w.heap.size, 0, 0⟩) (.ptr n 0) _ _ _ _ _ _ hxx (.of ⟨_, ins_self, rfl⟩) (s.ext hxx (s.heap.fresh h4 hfresh rfl (by simp) ?_ (.inr fun l e he => by cases he))) h6
  exact (show RO _ (.sit m sn 0) _ _ from ⟨_, rfl, by unfold Sx.hset; rw [if_pos rfl], rfl⟩)
noncomputable def hvNextS (x : GB) : HV := ⟨fun _ e l H n k => as_ptr (x.run e) fun b off => chk (Nat.beq off 0) (hget H b fun o => asSit o fun m s p => ite' (blt p m)
  (fN (Nat.mod (Nat.div s (Nat.pow 256 p)) 256) fun c => chk (blt c 128) (fN (Nat.succ p) fun q => hput H b (.sit m s q) fun H => k (.tup [.bool true, .i64 (.ofNat p), .i32 (.ofNat c)]) l H n))
  (k (.tup [.bool false]) l H n))⟩
theorem digs_getD {m s p : Nat} (h : p < m) : ((bytes m s).data.getD p 0).toNat = s / 256 ^ p % 256 := by
  have h1 : (digs m s)[p]? = some (UInt8.ofNat (s / 256 ^ p)) := digs_get h
  have h2 : (bytes m s).data.getD p 0 = UInt8.ofNat (s / 256 ^ p) := by
    show (digs m s).toArray.getD p 0 = _
    rw [Array.getD_eq_getD_getElem?, List.getElem?_toArray, h1]
    rfl
  rw [h2, show (UInt8.ofNat (s / 256 ^ p)).toNat = (s / 256 ^ p) % 256 from UInt8.toNat_ofNat' ..]
theorem nextS_sound {o : Oper} {x : Operand} (ho : o.op = .next x true) : HvOk A T P nt o (hvNextS (opG nt x)) := by
  intro ρ dd e l H n env L h k K hdd s hk hK
  have hv := s.op x
  have hk : as_ptr ((opG nt x).run e) (fun b off => chk (Nat.beq off 0) (hget H b fun o => asSit o fun m s p => ite' (blt p m)
    (fN (Nat.mod (Nat.div s (Nat.pow 256 p)) 256) fun c => chk (blt c 128) (fN (Nat.succ p) fun q => hput H b (.sit m s q) fun H => k (.tup [.bool true, .i64 (.ofNat p), .i32 (.ofNat c)]) l H n))
    (k (.tup [.bool false]) l H n))) = true := hk
  obtain ⟨b, off, h1, h2⟩ := as_ptr_inv hk
  rw [h1] at hv
  obtain ⟨y, h3, r, h4, rfl⟩ := hv
  obtain ⟨h5, h6⟩ := chk_inv h2
  have h5 : off = 0 := Nat.eq_of_beq_eq_true h5
  subst h5
  rw [hget_eq] at h6
  obtain ⟨m, sn, p, h7, h8⟩ := asSit_inv h6
  have hro := s.heap.blk b
  rw [h7, h4] at hro
  obtain ⟨r', e1, h9, h10⟩ := hro
  cases e1
  unfold hx
  rw [ho]
  simp only [h3]
  rw [h10]
  have hlive : live (lkH H b) = true := by rw [h7]; rfl
  rcases ite'_inv h8 with ⟨g1, g2⟩ | ⟨g1, g2⟩
  · have g1 : p < m := blt_iff.1 g1
    rw [fN_eq] at g2
    obtain ⟨g3, g4⟩ := chk_inv g2
    have g3 : sn / 256 ^ p % 256 < 128 := blt_iff.1 g3
    rw [fN_eq, hput_eq] at g4
    have e2 := digs_getD (s := sn) g1
    refine nextS1 h9 (by rw [bytes_size]; exact g1) (by rw [e2]; exact g3) ?_
    rw [e2]
    refine hK ρ (.tup [.bool true, .i64 (.ofNat p), .i32 (.ofNat (sn / 256 ^ p % 256))]) _ _ _ _ _ _ (.refl ρ) (.of ⟨_, .cons rfl (.cons rfl (.cons rfl (.nil ρ))), rfl⟩) (s.ext (.refl ρ) (s.heap.write h4 hlive (by simp) ?_ (fun l e he => by cases he))) g4
    exact (show RO _ (.sit m sn (p + 1)) _ _ from ⟨_, rfl, by unfold Sx.hset; rw [if_pos rfl], h10⟩)
  · have g1 : ¬ p < m := fun hc => by rw [blt_iff.2 hc] at g1; cases g1
    exact nextS0 h9 (by rw [bytes_size]; omega) (hK ρ (.tup [.bool false]) _ _ _ _ _ _ (.refl ρ) (.of ⟨_, .cons rfl (.nil ρ), rfl⟩) s g2)

/-! All together. -/
noncomputable def ohS (ty : Nat → Ti) (us : Nat → Bool) (zs : Nat → Option CV) : OtH := fun nt op _ => match op with
  | .makeMap t none => match mpKind ty t with
    | some c => hvMakeMap c
    | none => .fail
  | .mapUpdate t m i x | .insert t m i x => match mpKind ty t with
    | some c => match opG nt m, opG nt i, opG nt x with
      | m, i, x => ⟨fun _ e l H n k => as_map (m.run e) fun b => okV (i.run e) fun key => okV (x.run e) fun v => keyK c key fun _ => hmod H b (fun o kk => asMp o fun q => consK q fun c u r => keyK c key fun _ => updK r key v fun r => kk (.map ((c, u) :: r))) fun H => k .u l H n⟩
    | none => .fail
  | .lookup t m i ok => match mpKind ty t, zs t with
    | some c, some z => hvLook c z ok (opG nt m) (opG nt i)
    | _, _ => .fail
  | .range t x => match (ty t).kd with
    | .str => hvRangeS (opG nt x)
    | _ => .fail
  | .next x true => hvNextS (opG nt x)
  | .convert src dst x => match (ty src).kd, (ty dst).kd with
    | .ptr t, .oth => match us dst, (ty t).size, (ty t).kd.isNone with
      | true, _ + 1, false => hvToU (opG nt x)
      | _, _, _ => .fail
    | .oth, .ptr u => match us src, (ty u).size, (ty u).kd.isNone with
      | true, z + 1, false => hvOfU u (z + 1) (opG nt x)
      | _, _, _ => .fail
    | .slc el, .str => match (ty el).kd with
      | .int .u8 => hvB2S (opG nt x)
      | _ => .fail
    | .str, .slc el => match (ty el).kd with
      | .int .u8 => hvS2B el (opG nt x)
      | _ => .fail
    | _, _ => .fail
  | _ => .fail
structure ZOk (P : Program) (t : Nat) (z : CV) : Prop where
  out : ∃ kt et zv, P.underlying t = some (.map kt et) ∧ (∀ w, (zeroValue et).run P w = .ok zv w) ∧ ∀ ρ, RV ρ z zv
theorem kd_und {ty : Nat → Ti} (hT : ∀ t, ty t = mkTi P t ∨ ty t = .none) {t : Nat} {k : Kd} (h : (ty t).kd = k) {d : TypeDesc} (hd : ∀ d', kdOf d' = k → d' = d) (hk : k ≠ .none) : P.underlying t = some d := by
  obtain ⟨d', h1, h2⟩ := und_of hT h hk
  rw [h1, hd d' h2]
theorem kdu_u8 : ∀ d', kdOf d' = .int .u8 → d' = .int .u8 := fun d' h => by cases d' <;> simp [kdOf] at h; subst h; rfl
theorem kdu_str : ∀ d', kdOf d' = .str → d' = .string := fun d' h => by cases d' <;> simp [kdOf] at h; rfl
theorem kdu_slc {e : Nat} : ∀ d', kdOf d' = .slc e → d' = .slice e := fun d' h => by cases d' <;> simp [kdOf] at h; subst h; rfl
theorem kdu_ptr {e : Nat} : ∀ d', kdOf d' = .ptr e → d' = .pointer e := fun d' h => by cases d' <;> simp [kdOf] at h; subst h; rfl
theorem size_info {ty : Nat → Ti} (hT : ∀ t, ty t = mkTi P t ∨ ty t = .none) {t : Nat} (h : (ty t).kd.isNone = false) : ∃ ti, P.info? t = some ti ∧ ti.size = (ty t).size := by
  obtain ⟨ti, d, z, h1, -, -, -, h2, -⟩ := (tiOk' hT (t := t) (fun e => by rw [e] at h; cases h)).ex
  exact ⟨ti, h1, h2.symm⟩
theorem ohS_ok {ty : Nat → Ti} {us : Nat → Bool} {zs : Nat → Option CV} (hT : ∀ t, ty t = mkTi P t ∨ ty t = .none) (hus : ∀ t, us t = true → P.underlying t = some .unsafePointer) (hzs : ∀ t z, zs t = some z → ZOk P t z) : OtHOk A T P nt (ohS ty us zs) := by
  intro o ρ d e l H n env L h k K hd s hk hK
  unfold ohS at hk
  split at hk
  · rename_i t ho
    split at hk
    · rename_i c hc
      obtain ⟨kt, et, d', h1, h2, h3⟩ := mpKind_inv hT hc
      exact makeMap_sound ho h3 hd s hk hK
    · exact (Bool.false_ne_true hk).elim
  · rename_i t m i x ho
    split at hk
    · rename_i c hc
      obtain ⟨kt, et, d', h1, h2, h3⟩ := mpKind_inv hT hc
      exact mapUpd_sound (.inl ho) h1 h2 h3 hd s hk hK
    · exact (Bool.false_ne_true hk).elim
  · rename_i t m i x ho
    split at hk
    · rename_i c hc
      obtain ⟨kt, et, d', h1, h2, h3⟩ := mpKind_inv hT hc
      exact mapUpd_sound (.inr ho) h1 h2 h3 hd s hk hK
    · exact (Bool.false_ne_true hk).elim
  · rename_i t m i ok ho
    split at hk
    · rename_i c z hc hz
      obtain ⟨kt, et, d', h1, h2, h3⟩ := mpKind_inv hT hc
      obtain ⟨kt', et', zv, h4, h5, h6⟩ := (hzs _ _ hz).out
      rw [h1] at h4
      cases h4
      exact look_sound ho h1 h2 h3 h5 h6 hd s hk hK
    · exact (Bool.false_ne_true hk).elim
  · rename_i t x ho
    split at hk
    · rename_i hkd
      exact rangeS_sound ho (kd_und hT hkd kdu_str (by simp)) hd s hk hK
    · exact (Bool.false_ne_true hk).elim
  · rename_i x ho
    exact nextS_sound ho hd s hk hK
  · rename_i src dst x ho
    split at hk
    · rename_i t hks hkd
      split at hk
      · rename_i z hu hz hn
        obtain ⟨ti, h1, h2⟩ := size_info hT hn
        exact toU_sound ho (kd_und hT hks kdu_ptr (by simp)) (hus _ hu) (by rw [h1]; simp [h2, hz]) hd s hk hK
      · exact (Bool.false_ne_true hk).elim
    · rename_i u hks hkd
      split at hk
      · rename_i z hu hz hn
        obtain ⟨ti, h1, h2⟩ := size_info hT hn
        exact ofU_sound ho (hus _ hu) (kd_und hT hkd kdu_ptr (by simp)) (by unfold Program.cellsOf; rw [h1]; simp [h2, hz]) (Nat.succ_pos z) hd s hk hK
      · exact (Bool.false_ne_true hk).elim
    · rename_i el hks hkd
      split at hk
      · rename_i he
        exact b2s_sound ho (kd_und hT hks kdu_slc (by simp)) (kd_und hT he kdu_u8 (by simp)) (kd_und hT hkd kdu_str (by simp)) hd s hk hK
      · exact (Bool.false_ne_true hk).elim
    · rename_i el hks hkd
      split at hk
      · rename_i he
        exact s2b_sound ho (kd_und hT hks kdu_str (by simp)) (kd_und hT he kdu_u8 (by simp)) (kd_und hT hkd kdu_slc (by simp)) hd s hk hK
      · exact (Bool.false_ne_true hk).elim
    · exact (Bool.false_ne_true hk).elim
  · exact (Bool.false_ne_true hk).elim
end
end Go.Cx
namespace Go.Cx
open Go.Sx

/-! A number of which only its rest is known. -/
section
variable {P : Program} {ρ : Rn} {H : HP} {h : Heap} {n : P5}
/-- Is the first argument of that kind? -/
noncomputable def modE (v : CV) (f : Nat → Nat → Bool) (e : Bool) : Bool :=
  @CV.rec (fun _ => Bool) (fun _ => Bool) e (fun _ => e) (fun _ => e) (fun _ => e) (fun _ => e) (fun _ => e) (fun _ => e) (fun _ _ => e) e (fun _ _ => e) (fun _ _ => e) e (fun _ _ _ _ => e) (fun _ _ _ _ => e) e e (fun _ => e) (fun _ _ _ _ _ => e) e (fun _ _ _ => e) e (fun _ _ => e) (fun _ _ => e) (fun m q => f m q) false (fun _ _ _ _ => false) v
theorem modE_inv {v : CV} {f : Nat → Nat → Bool} {e : Bool} (h : modE v f e = true) : (∃ m q, v = .mod m q ∧ f m q = true) ∨ e = true := by
  cases v with
  | mod m q => exact .inl ⟨m, q, rfl, h⟩
  | _ => exact .inr h
noncomputable def withinB (fb : FB) : FB := ⟨fun cf cfd args H n k => @List.rec CV (fun _ => Bool) false (fun x r _ => modE x (fun m q => arg1 r fun y => as_i64 y fun z => chk (iEq z (.ofNat m)) (chk (Nat.ble 1 m) (chk (Nat.ble m 1099511627776) (k (.ret (.i64 (.ofNat q))) H n)))) (fb.run cf cfd args H n k)) args⟩
theorem withinB_ok {g : Nat} {fb : FB} (hf : FOk P g fb) (hw : ∀ (a : Int) (m : Nat) (h : Heap), 0 < m → m ≤ 2 ^ 40 → FnX (fun _ => P) g [.int .i64 a, .int .i64 (m : Int)] h (fun v h' => v = .int .i64 (a % (m : Int)) ∧ h' = h)) : FOk P g (withinB fb) := by
  intro cf cfd hcf hcfd ρ args H n k h xs R Kp hr hH hk hret hpan
  cases args with
  | nil => exact (Bool.false_ne_true hk).elim
  | cons x r =>
    rcases modE_inv (show modE x (fun m q => arg1 r fun y => as_i64 y fun z => chk (iEq z (.ofNat m)) (chk (Nat.ble 1 m) (chk (Nat.ble m 1099511627776) (k (.ret (.i64 (.ofNat q))) H n)))) (fb.run cf cfd (x :: r) H n k) = true from hk) with ⟨m, q, rfl, h1⟩ | h1
    · obtain ⟨y, ys, rfl, ⟨a, rfl, h2⟩, h3⟩ := hr
      obtain ⟨v, z, rfl, h4, h5⟩ := arg1_inv h3 h1
      obtain ⟨b, rfl, h6⟩ := as_i64_inv h5
      cases h4
      obtain ⟨h7, h8⟩ := chk_inv h6
      obtain ⟨h9, h10⟩ := chk_inv h8
      obtain ⟨h11, h12⟩ := chk_inv h10
      rw [iEq_iff] at h7
      have h7 : b = (m : Int) := of_decide_eq_true h7
      subst h7
      have h9 : 1 ≤ m := by simpa using h9
      have h11 : m ≤ 1099511627776 := by simpa using h11
      refine FnX.toP ⟨fun w hw' => ((hw a m h (by omega) (by omega)).out w hw').mono fun e w' hq => ?_⟩
      obtain ⟨v, h', e1, ⟨rfl, rfl⟩, ha⟩ := hq
      refine ⟨_, _, e1, hret ρ (.i64 (.ofNat q)) _ H _ n (.refl ρ) ?_ hH h12, ha⟩
      show _ = _
      rw [h2]
      rfl
    · exact hf hcf hcfd hr hH h1 hret hpan
end

section
variable {P : Program}
theorem rem_tmod {a m : Int} (hm : 0 < m) : a % m = if a.tmod m < 0 then a.tmod m + m else a.tmod m := by
  rw [Int.tmod_eq_emod]
  have h1 := Int.emod_nonneg a (show m ≠ 0 by omega)
  have h2 := Int.emod_lt_of_pos a hm
  by_cases hc : 0 ≤ a ∨ m ∣ a
  · rw [if_pos hc]
    rw [if_neg (by omega)]; omega
  · rw [if_neg hc]
    have : (m.natAbs : Int) = m := by omega
    rw [this, if_pos (by omega)]; omega
theorem icm_lss' (A : Ar) [hA : ArOk A] (a b : Int) : A .icm .lss a b = decide (a < b) := by rw [hA.icm]; rfl
end
end Go.Cx
