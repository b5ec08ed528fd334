import Derived.Test.YtnfijhlegoagjaaGreatEA
import Derived.Test.YtnfijhlegoagjaaGreatRd
set_option linter.unusedVariables false
set_option linter.unusedSimpArgs false
set_option linter.unusedSectionVars false
set_option maxRecDepth 100000
set_option linter.unusedVariables false
set_option linter.unusedSimpArgs false
namespace Go.S
open Go.Sx Go.Proofs

def edgesW (w : Hld) (H : List Hld) : List (Int × Int) := (H.filter (agst w)).map fun h => (w.s, h.s)
def edges (H W : List Hld) : List (Int × Int) := W.flatMap fun w => edgesW w H
def succs (E : List (Int × Int)) (a : Int) : List Int := (E.filter fun p => decide (p.1 = a)).map (·.2)
theorem succs_hit {E : List (Int × Int)} {a b : Int} : succs (E ++ [(a, b)]) a = succs E a ++ [b] := by simp [succs]
theorem succs_miss {E : List (Int × Int)} {a b c : Int} (h : c ≠ a) : succs (E ++ [(a, b)]) c = succs E c := by
  simp [succs, Ne.symm h]
theorem succs_le (E : List (Int × Int)) (a : Int) : (succs E a).length ≤ E.length := by
  unfold succs; rw [List.length_map]; exact List.length_filter_le _ _

structure RgE where
  a : Int
  nb : Nat
  cap : Nat
/-- Who is held up by whom, as a map of slices that are its own. -/
structure Rg (h0 h : Heap) (m : Nat) (E : List (Int × Int)) : Prop where
  out : ∃ G : List RgE, Mp h m (.int .i64) (G.map fun g => (.int .i64 g.a, .slice (some ⟨g.nb, 0, none⟩) (succs E g.a).length g.cap)) ∧ (G.map (·.nb)).Nodup ∧ (∀ g ∈ G, h0 g.nb = none ∧ Own 3 shInt h g.nb g.cap (succs E g.a)) ∧ ∀ a, succs E a ≠ [] → ∃ g ∈ G, g.a = a

theorem u271 : Tryz.prog.underlying 271 = some (.map 3 22) := by kernel_rfl
theorem u244 : Tryz.prog.underlying 244 = some (.map 3 4) := by kernel_rfl
theorem u3 : Tryz.prog.underlying 3 = some (.int .i64) := by kernel_rfl
theorem zero22 (w : World) : (zeroValue 22).run Tryz.prog w = .ok (.slice none 0 0) w := by
  have h : ((Tryz.prog.info? 22).bind (·.zero)) = some (.slice none 0 0) := by kernel_rfl
  cases h1 : Tryz.prog.info? 22 with
  | none => rw [h1] at h; cases h
  | some i =>
    rw [h1] at h
    simp at h
    simp [zeroValue, typeInfo, h1, h]

theorem Rg.kp {h0 h h' : Heap} {m : Nat} {E : List (Int × Int)} (q : Rg h0 h m E) {bs : List Nat} (k : Kp bs h h') (hm : m ∉ bs) (hb : ∀ b ∈ bs, h0 b ≠ none) : Rg h0 h' m E := by
  obtain ⟨G, g1, g2, g3, g4⟩ := q.out
  exact ⟨G, g1.kp k hm, g2, fun g hg => ⟨(g3 g hg).1, (g3 g hg).2.kp k (fun hx => hb _ hx (g3 g hg).1) (fun _ _ _ _ hx => by cases hx)⟩, g4⟩

/-- Its own map without a block. -/
def hdel (h : Heap) (n : Nat) : Heap := fun b => if b = n then none else h b
theorem hdel_le (h : Heap) (n : Nat) : Le (hdel h n) h := fun b o q => by
  unfold hdel at q; split at q
  · cases q
  · exact q
theorem hdel_self (h : Heap) (n : Nat) : hdel h n n = none := by unfold hdel; rw [if_pos rfl]
theorem hdel_kp {h h' : Heap} {n : Nat} (l : Le (hdel h n) h') : Kp [n] h h' := fun b o q hb => l b o (by unfold hdel; rw [if_neg (by simpa using hb)]; exact q)
theorem hdel_none {h : Heap} {n b : Nat} (q : hdel h n b = none) : b = n ∨ h b = none := by
  unfold hdel at q; split at q
  · rename_i e; exact .inl e
  · exact .inr q

/-- What an edge more is laid with. -/
structure Tk (h0 h : Heap) (m : Nat) (E : List (Int × Int)) (a : Int) (v : Value) : Prop where
  out : ∃ hb, Le h0 hb ∧ Le hb h ∧ Buf 3 shInt hb h v (succs E a) ∧
    ∀ h' v' x, Le hb h' → Buf 3 shInt hb h' v' (succs E a ++ [x]) → ∀ k : Value → Heap → Prop, (∀ h'', Rg h0 h'' m (E ++ [(a, x)]) → Kp [m] h' h'' → (∀ tys, LeT tys h' h'') → k undef h'') →
      SemX (fun _ => Tryz.prog) (fun _ => do Instr.mapUpdate 271 (.map (some m)) (.int .i64 a) v'; pure undef) h' k

theorem mp_ne {h : Heap} {m nb cap e : Nat} {d : TypeDesc} {l : List (Value × Value)} {α : Type} {s : Sh α} {xs : List α} (q : Mp h m d l) (o : Own e s h nb cap xs) : nb ≠ m := fun he => by
  obtain ⟨es, clock, g, -⟩ := q.out
  obtain ⟨c, g', -⟩ := o.out
  rw [he, g] at g'; cases g'

theorem Rg.tk {h0 h : Heap} {m : Nat} {E : List (Int × Int)} (q : Rg h0 h m E) (l0 : Le h0 h) (hm0 : h0 m = none) (a : Int) {k : Value → Heap → Prop} (hk : ∀ b n c, Tk h0 h m E a (.slice b n c) → k (.slice b n c) h) :
    SemX (fun _ => Tryz.prog) (fun _ => Instr.lookup 271 (.map (some m)) (.int .i64 a) false) h k := by
  obtain ⟨G, g1, g2, g3, g4⟩ := q.out
  have hkn := g1.keyNodup
  by_cases ha : ∃ g ∈ G, g.a = a
  · obtain ⟨g, hg, rfl⟩ := ha
    obtain ⟨i, hi⟩ := List.getElem?_of_mem hg
    obtain ⟨hil, hie⟩ := List.getElem?_eq_some_iff.1 hi
    refine sem_hit u271 u3 g1 (key := .int .i64 g.a) rfl (List.mem_map.2 ⟨g, hg, rfl⟩) (hk _ _ _ ⟨hdel h g.nb, ?_, hdel_le h g.nb, ?_, ?_⟩)
    · intro b o hb
      have hne : b ≠ g.nb := fun e => by rw [e, (g3 g hg).1] at hb; cases hb
      unfold hdel; rw [if_neg hne]; exact l0 b o hb
    · exact (g3 g hg).2.buf (hdel_self h g.nb) rfl
    · intro h' v' x l' b' k' hk'
      have hne : g.nb ≠ m := mp_ne g1 (g3 g hg).2
      have kp := hdel_kp l'
      have g1' : Mp h' m (.int .i64) _ := g1.kp kp (by simpa using Ne.symm hne)
      rcases b'.out with ⟨b0, e1, e2⟩ | ⟨nb, cap, e1, e2, o⟩
      · have := congrArg List.length e2; simp at this
      subst e1
      have hin : (G.map fun g => (Value.int .i64 g.a, Value.slice (some ⟨g.nb, 0, none⟩) (succs E g.a).length g.cap))[i]? = some (.int .i64 g.a, .slice (some ⟨g.nb, 0, none⟩) (succs E g.a).length g.cap) := by
        rw [List.getElem?_map, hi]; rfl
      have hoth : ∀ j (g' : RgE), G[j]? = some g' → j ≠ i → g'.a ≠ g.a ∧ g'.nb ≠ g.nb := fun j g' hj hji => by
        obtain ⟨hjl, hje⟩ := List.getElem?_eq_some_iff.1 hj
        constructor
        · intro he
          have p := List.pairwise_iff_getElem.1 hkn
          rcases Nat.lt_or_gt_of_ne hji with hlt | hlt
          · have := p j i (by simpa using hjl) (by simpa using hil) hlt
            simp [hje, hie, he] at this
          · have := p i j (by simpa using hil) (by simpa using hjl) hlt
            simp [hje, hie, he] at this
        · intro he
          have p := List.pairwise_iff_getElem.1 g2
          rcases Nat.lt_or_gt_of_ne hji with hlt | hlt
          · have := p j i (by simpa using hjl) (by simpa using hil) hlt
            simp [hje, hie, he] at this
          · have := p i j (by simpa using hil) (by simpa using hjl) hlt
            simp [hje, hie, he] at this
      refine sem_upd u271 u3 g1' (key := .int .i64 g.a) rfl hin (fun h'' mp2 k2 t2 => hk' h'' ⟨G.set i ⟨g.a, nb, cap⟩, ?_, ?_, ?_, ?_⟩ k2 t2)
      · have : (G.set i ⟨g.a, nb, cap⟩).map (fun (g' : RgE) => (Value.int .i64 g'.a, Value.slice (some ⟨g'.nb, 0, none⟩) (succs (E ++ [(g.a, x)]) g'.a).length g'.cap)) =
            (G.map fun g => (Value.int .i64 g.a, Value.slice (some ⟨g.nb, 0, none⟩) (succs E g.a).length g.cap)).set i (.int .i64 g.a, .slice (some ⟨nb, 0, none⟩) (succs E g.a ++ [x]).length cap) := by
          apply List.ext_getElem?
          intro j
          rw [List.getElem?_map, List.getElem?_set, List.getElem?_set, List.length_map, List.getElem?_map]
          by_cases hji : i = j
          · subst hji
            rw [if_pos rfl, if_pos rfl, if_pos hil]
            simp [succs_hit, hil]
          · rw [if_neg hji, if_neg hji]
            cases hj : G[j]? with
            | none => rfl
            | some g' => simp [succs_miss (hoth j g' hj (Ne.symm hji)).1]
        rw [this]; exact mp2
      · rw [List.map_set]
        refine List.pairwise_iff_getElem.2 (fun p r hp hr hpr => ?_)
        have hfresh : ∀ j (g' : RgE), G[j]? = some g' → j ≠ i → g'.nb ≠ nb := fun j g' hj hji e => by
          rcases hdel_none e2 with e3 | e3
          · exact (hoth j g' hj hji).2 (e.trans e3)
          · exact (g3 g' (List.mem_of_getElem? hj)).2.has (by rw [e]; exact e3)
        simp only [List.length_set, List.length_map] at hp hr
        rw [List.getElem_set, List.getElem_set]
        by_cases h1 : i = p
        · subst h1
          rw [if_pos rfl, if_neg (by omega), List.getElem_map]
          exact Ne.symm (hfresh r G[r] (by simp [hr]) (by omega))
        · rw [if_neg h1]
          by_cases h2 : i = r
          · subst h2
            rw [if_pos rfl, List.getElem_map]
            exact hfresh p G[p] (by simp [hp]) (by omega)
          · rw [if_neg h2]
            exact List.pairwise_iff_getElem.1 g2 p r (by simpa using hp) (by simpa using hr) hpr
      · intro g' hg'
        obtain ⟨j, hj⟩ := List.getElem?_of_mem hg'
        rw [List.getElem?_set] at hj
        by_cases hji : i = j
        · subst hji
          rw [if_pos rfl, if_pos hil] at hj
          cases hj
          refine ⟨?_, ?_⟩
          · rcases hdel_none e2 with e3 | e3
            · rw [e3]; exact (g3 g hg).1
            · exact l0.none e3
          · rw [succs_hit]
            exact o.kp k2 (by simpa using mp_ne g1' o) (t2 _)
        · rw [if_neg hji] at hj
          obtain ⟨f1, f2⟩ := hoth j g' hj (Ne.symm hji)
          obtain ⟨f3, f4⟩ := g3 g' (List.mem_of_getElem? hj)
          have o' := f4.kp kp (by simpa using f2) (fun _ _ _ _ hx => by cases hx)
          refine ⟨f3, ?_⟩
          rw [succs_miss f1]
          exact o'.kp k2 (by simpa using mp_ne g1' o') (t2 _)
      · intro c hc
        by_cases hca : c = g.a
        · exact ⟨⟨g.a, nb, cap⟩, List.mem_of_getElem? (i := i) (by rw [List.getElem?_set, if_pos rfl, if_pos hil]), hca.symm⟩
        · rw [succs_miss hca] at hc
          obtain ⟨g', hg', he⟩ := g4 c hc
          obtain ⟨j, hj⟩ := List.getElem?_of_mem hg'
          have hji : i ≠ j := fun e => by subst e; rw [hi] at hj; cases hj; exact hca he.symm
          exact ⟨g', List.mem_of_getElem? (i := j) (by rw [List.getElem?_set, if_neg hji]; exact hj), he⟩
  · have hmiss : succs E a = [] := Classical.byContradiction fun hne => ha (g4 a hne)
    have hnk : ∀ p ∈ (G.map fun g => (Value.int .i64 g.a, Value.slice (some ⟨g.nb, 0, none⟩) (succs E g.a).length g.cap)), p.1 ≠ .int .i64 a := fun p hp e => by
      obtain ⟨g, hg, rfl⟩ := List.mem_map.1 hp
      simp at e
      exact ha ⟨g, hg, e⟩
    refine sem_miss u271 u3 zero22 g1 (key := .int .i64 a) rfl hnk (hk _ _ _ ⟨h, l0, Le.refl _, by rw [hmiss]; exact Buf.nil, ?_⟩)
    intro h' v' x l' b' k' hk'
    have g1' := g1.kp (l'.kp []) (by simp)
    rcases b'.out with ⟨b0, e1, e2⟩ | ⟨nb, cap, e1, e2, o⟩
    · have := congrArg List.length e2; simp at this
    subst e1
    refine sem_put u271 u3 g1' (key := .int .i64 a) rfl hnk (fun h'' mp2 k2 t2 => hk' h'' ⟨G ++ [⟨a, nb, cap⟩], ?_, ?_, ?_, ?_⟩ k2 t2)
    · have : (G ++ [(⟨a, nb, cap⟩ : RgE)]).map (fun (g' : RgE) => (Value.int .i64 g'.a, Value.slice (some ⟨g'.nb, 0, none⟩) (succs (E ++ [(a, x)]) g'.a).length g'.cap)) =
          (G.map fun g => (Value.int .i64 g.a, Value.slice (some ⟨g.nb, 0, none⟩) (succs E g.a).length g.cap)) ++ [(.int .i64 a, .slice (some ⟨nb, 0, none⟩) (succs E a ++ [x]).length cap)] := by
        rw [List.map_append]
        congr 1
        · refine List.map_congr_left (fun g hg => ?_)
          rw [succs_miss (fun e => ha ⟨g, hg, e⟩)]
        · simp [succs_hit]
      rw [this]; exact mp2
    · rw [List.map_append]
      refine List.nodup_append.2 ⟨g2, by simp, ?_⟩
      intro p hp r hr e
      simp at hr
      obtain ⟨g, hg, rfl⟩ := List.mem_map.1 hp
      exact (g3 g hg).2.has (by rw [e, hr]; exact e2)
    · intro g' hg'
      rcases List.mem_append.1 hg' with hg' | hg'
      · obtain ⟨f3, f4⟩ := g3 g' hg'
        have o' := f4.mono (l'.t _)
        refine ⟨f3, ?_⟩
        rw [succs_miss (fun e => ha ⟨g', hg', e⟩)]
        exact o'.kp k2 (by simpa using mp_ne g1' o') (t2 _)
      · simp at hg'
        subst hg'
        refine ⟨l0.none e2, ?_⟩
        rw [succs_hit]
        exact o.kp k2 (by simpa using mp_ne g1' o) (t2 _)
    · intro c hc
      by_cases hca : c = a
      · exact ⟨⟨a, nb, cap⟩, by simp, hca.symm⟩
      · rw [succs_miss hca] at hc
        obtain ⟨g', hg', he⟩ := g4 c hc
        exact ⟨g', by simp [hg'], he⟩
end Go.S

set_option maxRecDepth 100000
set_option linter.unusedVariables false
set_option linter.unusedSimpArgs false
namespace Go.S
open Go.Sx Go.Proofs

theorem edges_take {H W : List Hld} {i : Nat} {w : Hld} (h : W[i]? = some w) : edges H (W.take (i + 1)) = edges H (W.take i) ++ edgesW w H := by
  unfold edges; rw [List.take_add_one, h]; simp
theorem edgesW_hit {w o : Hld} {H : List Hld} {j : Nat} (h : H[j]? = some o) (ha : agst w o = true) : edgesW w (H.take (j + 1)) = edgesW w (H.take j) ++ [(w.s, o.s)] := by
  unfold edgesW; rw [List.take_add_one, h, List.filter_append]; simp [ha]
theorem edgesW_miss {w o : Hld} {H : List Hld} {j : Nat} (h : H[j]? = some o) (ha : agst w o = false) : edgesW w (H.take (j + 1)) = edgesW w (H.take j) := by
  unfold edgesW; rw [List.take_add_one, h, List.filter_append]; simp [ha]
theorem edgesW_len (w : Hld) (H : List Hld) : (edgesW w H).length ≤ H.length := by
  unfold edgesW; rw [List.length_map]; exact List.length_filter_le _ _
theorem edges_len (H W : List Hld) : (edges H W).length ≤ W.length * H.length := by
  induction W with
  | nil => simp [edges]
  | cons w r ih =>
    have : edges H (w :: r) = edgesW w H ++ edges H r := by simp [edges]
    rw [this, List.length_append, List.length_cons, Nat.succ_mul]
    have := edgesW_len w H
    omega
theorem small_mul {a b : Nat} (ha : a ≤ 2 ^ 18) (hb : b ≤ 2 ^ 18) : a * b ≤ 2 ^ 36 := by
  have := Nat.mul_le_mul ha hb
  have e : (2 : Nat) ^ 18 * 2 ^ 18 = 2 ^ 36 := by decide
  omega

theorem rings155 {H W : List Hld} {h : Heap} {b1 b2 : Option Addr} {n1 c1 n2 c2 : Nat} (q1 : Sl 188 shHld h (.slice b1 n1 c1) H) (q2 : Sl 188 shHld h (.slice b2 n2 c2) W) (hn1 : n1 ≤ 2 ^ 18) (hn2 : n2 ≤ 2 ^ 18) :
    Ct 155 [.agg #[.slice b1 n1 c1, .slice b2 n2 c2]] h (fun v h' => Le h h' ∧ ∃ rb m, v = .pointer (some ⟨rb, 0, none⟩) ∧ h rb = none ∧ h m = none ∧ h' rb = some (.cells #[.map (some m), .int .i64 0] 276 (0, 0)) ∧ Rg h h' m (edges H W)) := by
  obtain ⟨A, hA⟩ := Ar.ex
  have hl1 := q1.len
  have hl2 := q2.len
  have hE : ∀ i, (edges H (W.take i)).length ≤ 2 ^ 36 := fun i => by
    have := edges_len H (W.take i)
    have h2 : (W.take i).length ≤ 2 ^ 18 := by rw [List.length_take]; omega
    have := small_mul h2 (show H.length ≤ 2 ^ 18 by omega)
    omega
  refine fn_of_sx A (tabOk T155.plan T155.pub) Tryz.func155 rfl (by kernel_rfl) ?_
  cbv
  intro m h1 hm e1
  have l1 : Le h h1 := by rw [e1]; exact Le.set hm
  have g1 := (congrFun e1 m).trans hset_self
  cbv
  intro rb h2 hrb e2
  have l2 : Le h1 h2 := by rw [e2]; exact Le.set hrb
  have gr := (congrFun e2 rb).trans hset_self
  have gm := l2 _ _ g1
  have l02 := l1.trans l2
  have rg0 : Rg h h2 m (edges H (W.take 0)) := ⟨[], Mp.new gm, by simp, by simp, fun a ha => absurd rfl ha⟩
  cbv
  refine LoopX.go (G := Int) (fun z => [(14, .v (.int .i64 z))]) (fun _ => [(1, [.slice b1 n1 c1, .slice b2 n2 c2])])
    (fun k z h' => ∃ i : Nat, IsN z i ∧ k = n2 - i ∧ i ≤ n2 ∧ Le h h' ∧ h' rb = some (.cells #[.map (some m), .int .i64 0] 276 (0, 0)) ∧ Rg h h' m (edges H (W.take i))) n2 0 ⟨?_, ?_, ?_⟩ ⟨0, ⟨rfl⟩, by omega, by omega, l02, gr, rg0⟩ ?_
  · cbv
  · cbv
  · cbv
  · intro k z h' hI
    cbv
    obtain ⟨i, hz, hk, hi, hle, gr', rg⟩ := hI
    refine bsel_mk (fun hc => ?_) (fun hc => ?_)
    · have hlt := hz.lt hc
      clear hc
      cbv
      obtain ⟨w, hw⟩ := get_ex (xs := W) (i := i) (by omega)
      refine ⟨⟨q2.isSm (by omega), hz.ix hlt⟩, ?_⟩
      cbv
      refine (q2.mono (hle.t _)).load hw hz.eq (fun cs hcs => ?_)
      have hcs : cs = [.int .i64 w.s, .string w.table, .bool w.x] := hcs
      subst hcs
      have hEi := edges_take (H := H) hw
      have hEl := hE (i + 1)
      rw [hEi] at hEl
      have rg0 : Rg h h' m (edges H (W.take i) ++ edgesW w (H.take 0)) := by simpa [edgesW] using rg
      cbv
      refine LoopX.go (G := Int) (fun z => [(21, .v (.int .i64 z))]) (fun _ => [(5, [.int .i64 w.s, .string w.table, .bool w.x]), (1, [.slice b1 n1 c1, .slice b2 n2 c2])])
        (fun k z h' => ∃ j : Nat, IsN z j ∧ k = n1 - j ∧ j ≤ n1 ∧ Le h h' ∧ h' rb = some (.cells #[.map (some m), .int .i64 0] 276 (0, 0)) ∧ Rg h h' m (edges H (W.take i) ++ edgesW w (H.take j))) n1 0 ⟨?_, ?_, ?_⟩ ⟨0, ⟨rfl⟩, by omega, by omega, hle, gr', rg0⟩ ?_
      · cbv
      · cbv
      · cbv
      · intro k2 z2 h3 hI
        cbv
        obtain ⟨j, hz2, hk2, hj, hle3, gr3, rg3⟩ := hI
        refine bsel_mk (fun hc => ?_) (fun hc => ?_)
        · have hlt2 := hz2.lt hc
          clear hc
          cbv
          obtain ⟨o, ho⟩ := get_ex (xs := H) (i := j) (by omega)
          refine ⟨⟨q1.isSm (by omega), hz2.ix hlt2⟩, ?_⟩
          cbv
          refine (q1.mono (hle3.t _)).load ho hz2.eq (fun cs hcs => ?_)
          have hcs : cs = [.int .i64 o.s, .string o.table, .bool o.x] := hcs
          subst hcs
          cbv
          refine (against152 (a := w) (b := o)).mono (fun v h4 hR => ?_)
          obtain ⟨l4, t, rfl, et⟩ := hR
          have gr4 := l4 _ _ gr3
          have rg4 := rg3.kp (l4.kp []) (by simp) (by simp)
          have lh4 := hle3.trans l4
          cases t with
          | true =>
            have hEh := edgesW_hit ho et.symm
            have hEb : (edges H (W.take i) ++ edgesW w (H.take j)).length ≤ 2 ^ 38 := by
              have := edgesW_len w (H.take j)
              have h5 := hE i
              rw [List.length_take] at this
              rw [List.length_append]; omega
            cbv
            rw [offm A]
            refine ldb gr4 rfl rfl ?_
            cbv
            rw [offm A]
            refine ldb gr4 rfl rfl ?_
            cbv
            refine ⟨?_, ?_⟩
            · refine rg4.tk lh4 hm w.s (fun bb nn cc tk => ?_)
              obtain ⟨hb, t1, t2, t3, t4⟩ := tk.out
              have hnn : nn ≤ 2 ^ 38 := by
                have := t3.sl.len
                have := succs_le (edges H (W.take i) ++ edgesW w (H.take j)) w.s
                omega
              cbv
              refine ldb gr4 rfl rfl ?_
              cbv
              refine ⟨⟨_, rfl, rfl⟩, ?_⟩
              cbv
              intro nb5 h5 hnb5 e5
              have l5 : Le h4 h5 := by rw [e5]; exact Le.set hnb5
              have g5 := (congrFun e5 nb5).trans hset_self
              have gr5 := l5 _ _ gr4
              cbv
              refine ldb gr5 rfl rfl ?_
              cbv
              refine ⟨⟨_, rfl, rfl⟩, ?_⟩
              cbv
              refine (t3.mono (l5.t _)).append (one_sl (s := shInt) g5 (x := o.s) rfl) (by decide) rfl (by decide) (by omega) (t2.trans l5) (fun mm b' c' h6 hmm l6 t6 k6 hb6 => ?_)
              have gr6 := t6 [276] (by decide) _ _ _ _ (by decide) gr5
              cbv
              refine ldb gr6 rfl rfl ?_
              cbv
              refine ⟨⟨_, rfl, rfl⟩, ?_⟩
              cbv
              refine t4 h6 _ o.s l6 hb6 _ (fun h7 rg7 k7 t7 => ?_)
              have l7 : Le h h7 := (t1.trans l6).kpNew (by simpa using hm) k7
              have gr7 := t7 [276] _ _ _ _ (by decide) gr6
              rw [List.append_assoc, ← hEh] at rg7
              cbv
              refine ⟨n1 - (j + 1), _, by omega, ⟨?_, ?_, ?_⟩, j + 1, hz2.succ (A := A) (by omega), rfl, by omega, l7, gr7, rg7⟩
              · cbv
              · cbv
              · cbv
            · intro nb5 h5 hnb5 e5
              have l5 : Le h4 h5 := by rw [e5]; exact Le.set hnb5
              have g5 := (congrFun e5 nb5).trans hset_self
              have gr5 := l5 _ _ gr4
              have rg5 := rg4.kp (l5.kp []) (by simp) (by simp)
              cbv
              refine ldb gr5 rfl rfl ?_
              cbv
              refine ⟨⟨_, rfl, rfl⟩, ?_⟩
              cbv
              refine ldb gr5 rfl rfl ?_
              cbv
              refine ⟨⟨_, rfl, rfl⟩, ?_⟩
              cbv
              refine rg5.tk (lh4.trans l5) hm w.s (fun bb nn cc tk => ?_)
              obtain ⟨hb, t1, t2, t3, t4⟩ := tk.out
              have hnn : nn ≤ 2 ^ 38 := by
                have := t3.sl.len
                have := succs_le (edges H (W.take i) ++ edgesW w (H.take j)) w.s
                omega
              cbv
              refine ldb gr5 rfl rfl ?_
              cbv
              refine ⟨⟨_, rfl, rfl⟩, ?_⟩
              cbv
              refine (t3).append (one_sl (s := shInt) g5 (x := o.s) rfl) (by decide) rfl (by decide) (by omega) t2 (fun mm b' c' h6 hmm l6 t6 k6 hb6 => ?_)
              have gr6 := t6 [276] (by decide) _ _ _ _ (by decide) gr5
              cbv
              refine ldb gr6 rfl rfl ?_
              cbv
              refine ⟨⟨_, rfl, rfl⟩, ?_⟩
              cbv
              refine t4 h6 _ o.s l6 hb6 _ (fun h7 rg7 k7 t7 => ?_)
              have l7 : Le h h7 := (t1.trans l6).kpNew (by simpa using hm) k7
              have gr7 := t7 [276] _ _ _ _ (by decide) gr6
              rw [List.append_assoc, ← hEh] at rg7
              cbv
              refine ⟨n1 - (j + 1), _, by omega, ⟨?_, ?_, ?_⟩, j + 1, hz2.succ (A := A) (by omega), rfl, by omega, l7, gr7, rg7⟩
              · cbv
              · cbv
              · cbv
          | false =>
            have hEh := edgesW_miss ho et.symm
            cbv
            refine ⟨n1 - (j + 1), _, by omega, ⟨?_, ?_, ?_⟩, j + 1, hz2.succ (A := A) (by omega), rfl, by omega, lh4, gr4, ?_⟩
            · cbv
            · cbv
            · cbv
            · rw [hEh]; exact rg4
        · have hge := hz2.ge hc
          rw [show H.take j = H from List.take_of_length_le (by omega), ← hEi] at rg3
          cbv
          refine ⟨n2 - (i + 1), _, by omega, ⟨?_, ?_, ?_⟩, i + 1, hz.succ (A := A) (by omega), rfl, by omega, hle3, gr3, rg3⟩
          · cbv
          · cbv
          · cbv
    · have hge := hz.ge hc
      rw [List.take_of_length_le (by omega)] at rg
      cbv
      exact ⟨hle, rb, m, rfl, l1.none hrb, hm, gr', rg⟩
end Go.S

set_option maxRecDepth 100000
set_option linter.unusedVariables false
set_option linter.unusedSimpArgs false
namespace Go.S
open Go.Sx Go.Proofs

/-! The plain part: who is reached. -/
def bfsAdd (st : List Int × List Int) (k : Int) : List Int × List Int := if decide (k ∈ st.1) = true then st else (st.1 ++ [k], st.2 ++ [k])
def bfs (E : List (Int × Int)) : Nat → List Int × List Int → List Int
  | 0, st => st.1
  | n + 1, st => match st.2 with
    | [] => st.1
    | a :: r => bfs E n ((succs E a).foldl bfsAdd (st.1, r))
def over (E : List (Int × Int)) (s : Int) : List Int := bfs E (E.length + 2) ([], [s])
def pot (E : List (Int × Int)) (seen : List Int) : Nat := (E.filter fun p => !decide (p.2 ∈ seen)).length

theorem pot_mono (seen : List Int) (y : Int) : ∀ L : List (Int × Int), pot L (seen ++ [y]) ≤ pot L seen
  | [] => Nat.le_refl _
  | e :: r => by
    have ih := pot_mono seen y r
    unfold pot at ih ⊢
    by_cases h1 : e.2 ∈ seen
    · have h2 : e.2 ∈ seen ++ [y] := by simp [h1]
      rw [List.filter_cons_of_neg (by rw [decide_eq_true h2]; simp), List.filter_cons_of_neg (by rw [decide_eq_true h1]; simp)]; exact ih
    · rw [List.filter_cons_of_pos (p := fun p : Int × Int => !decide (p.2 ∈ seen)) (by rw [decide_eq_false h1]; simp)]
      by_cases h2 : e.2 ∈ seen ++ [y]
      · rw [List.filter_cons_of_neg (by rw [decide_eq_true h2]; simp), List.length_cons]; omega
      · rw [List.filter_cons_of_pos (by rw [decide_eq_false h2]; simp), List.length_cons, List.length_cons]; omega
theorem pot_lt (seen : List Int) (x y : Int) (hk : y ∉ seen) : ∀ L : List (Int × Int), (x, y) ∈ L → pot L (seen ++ [y]) + 1 ≤ pot L seen
  | [], h => by cases h
  | e :: r, h => by
    by_cases he : e = (x, y)
    · subst he
      have hmon := pot_mono seen y r
      unfold pot at hmon ⊢
      rw [List.filter_cons_of_neg (by simp), List.filter_cons_of_pos (p := fun p : Int × Int => !decide (p.2 ∈ seen)) (by simpa using hk), List.length_cons]
      omega
    · have hr : (x, y) ∈ r := by
        rcases List.mem_cons.1 h with h | h
        · exact absurd h.symm he
        · exact h
      have ih := pot_lt seen x y hk r hr
      unfold pot at ih ⊢
      by_cases h1 : e.2 ∈ seen
      · have h2 : e.2 ∈ seen ++ [y] := by simp [h1]
        rw [List.filter_cons_of_neg (by rw [decide_eq_true h2]; simp), List.filter_cons_of_neg (by rw [decide_eq_true h1]; simp)]; exact ih
      · rw [List.filter_cons_of_pos (p := fun p : Int × Int => !decide (p.2 ∈ seen)) (by rw [decide_eq_false h1]; simp)]
        by_cases h2 : e.2 ∈ seen ++ [y]
        · rw [List.filter_cons_of_neg (by rw [decide_eq_true h2]; simp), List.length_cons]; omega
        · rw [List.filter_cons_of_pos (by rw [decide_eq_false h2]; simp), List.length_cons, List.length_cons]; omega
theorem pot_add {E : List (Int × Int)} {seen : List Int} {k : Int} (hk : k ∉ seen) {a : Int} (hE : k ∈ succs E a) : pot E (seen ++ [k]) + 1 ≤ pot E seen := by
  unfold succs at hE
  obtain ⟨⟨x, y⟩, hm, rfl⟩ := List.mem_map.1 hE
  exact pot_lt seen x y hk E (List.mem_filter.1 hm).1
theorem ext195 : ExtOk Tryz.prog 195 Tryz.f195 := ⟨Tryz.func195, by kernel_rfl, by kernel_rfl, by kernel_rfl⟩
theorem add185 {h : Heap} {b o : Nat} {x : Int} (q : Cel h ⟨b, o, none⟩ (.int .i64 x)) : Ct 185 [.pointer (some ⟨b, o, none⟩), .int .i64 1] h (fun v h' => ∃ z y, v = .int .i64 z ∧ Up h b o (.int .i64 y) h') := by
  obtain ⟨A, hA⟩ := Ar.ex
  refine fn_of_sx A (tabOk T185.plan T185.pub) Tryz.func185 rfl (by kernel_rfl) ?_
  cbv
  rw [offm A]
  refine ext_add ext195 (by kernel_rfl) q (fun c e h1 e1 e2 => ?_)
  have hu : Up h b o (.int .i64 _) h1 := ⟨c, e, e1, e2⟩
  generalize IntKind.i64.wrap (x + 1) = y at *
  cbv
  exact ⟨_, y, rfl, hu⟩

/-- The edges' map, as it was; looked up in a heap in which nothing but another block has changed. -/
theorem Rg.lookK {h0 h h' : Heap} {m rb : Nat} {E : List (Int × Int)} {cs : List Value} (q : Rg h0 h m E) (gr : h rb = some (.cells (List.toArray cs) 276 (0, 0))) (kp : Kp [rb] h h') (a : Int) {k : Value → Heap → Prop} (hk : ∀ b n c, Sl 3 shInt h (.slice b n c) (succs E a) → k (.slice b n c) h') :
    SemX (fun _ => Tryz.prog) (fun _ => Instr.lookup 271 (.map (some m)) (.int .i64 a) false) h' k := by
  obtain ⟨G, g1, g2, g3, g4⟩ := q.out
  have hm : m ∉ [rb] := by
    intro e
    simp at e
    obtain ⟨es, clock, g, -⟩ := g1.out
    rw [e, gr] at g; cases g
  have g1' := g1.kp kp hm
  by_cases ha : ∃ g ∈ G, g.a = a
  · obtain ⟨g, hg, rfl⟩ := ha
    exact sem_hit u271 u3 g1' (key := .int .i64 g.a) rfl (List.mem_map.2 ⟨g, hg, rfl⟩) (hk _ _ _ ((g3 g hg).2.sl rfl))
  · refine sem_miss u271 u3 zero22 g1' (key := .int .i64 a) rfl (fun p hp e => ?_) (hk _ _ _ ?_)
    · obtain ⟨g, hg, rfl⟩ := List.mem_map.1 hp
      simp at e
      exact ha ⟨g, hg, e⟩
    · have : succs E a = [] := Classical.byContradiction fun hne => ha (g4 a hne)
      rw [this]; exact Sl.nil

abbrev setM (l : List Int) : List (Value × Value) := l.map fun k => (.int .i64 k, .bool true)
theorem setM_mem {l : List Int} {k : Int} : (Value.int .i64 k, Value.bool true) ∈ setM l ↔ k ∈ l := by simp [setM]
theorem look244 {h : Heap} {m : Nat} {l : List Int} (q : Mp h m (.int .i64) (setM l)) (a : Int) {k : Value → Heap → Prop} (hk : ∀ t, t = decide (a ∈ l) → k (.bool t) h) :
    SemX (fun _ => Tryz.prog) (fun _ => Instr.lookup 244 (.map (some m)) (.int .i64 a) false) h k := by
  by_cases ha : a ∈ l
  · exact sem_hit u244 u3 q (key := .int .i64 a) rfl (setM_mem.2 ha) (hk true (by simp [ha]))
  · refine sem_miss u244 u3 zero4 q (key := .int .i64 a) rfl (fun p hp e => ?_) (hk false (by simp [ha]))
    obtain ⟨k, hk, rfl⟩ := List.mem_map.1 hp
    simp at e
    exact ha (e ▸ hk)
theorem put244 {h : Heap} {m : Nat} {l : List Int} (q : Mp h m (.int .i64) (setM l)) {a : Int} (ha : a ∉ l) {k : Value → Heap → Prop} (hK : ∀ h', Mp h' m (.int .i64) (setM (l ++ [a])) → Kp [m] h h' → (∀ tys, LeT tys h h') → k undef h') :
    SemX (fun _ => Tryz.prog) (fun _ => do Instr.mapUpdate 244 (.map (some m)) (.int .i64 a) (.bool true); pure undef) h k := by
  refine sem_put u244 u3 q (key := .int .i64 a) rfl (fun p hp e => ?_) (fun h' mp k' t' => hK h' ?_ k' t')
  · obtain ⟨k, hk, rfl⟩ := List.mem_map.1 hp
    simp at e
    exact ha (e ▸ hk)
  · simpa [setM] using mp
end Go.S

set_option maxRecDepth 100000
set_option linter.unusedVariables false
set_option linter.unusedSimpArgs false
namespace Go.S
open Go.Sx Go.Proofs

theorem cel_ne {h : Heap} {rb m : Nat} {c : List Value} {d : TypeDesc} {l : List (Value × Value)} {e : Nat} (g : h rb = some (.cells (List.toArray c) e (0, 0))) (q : Mp h m d l) : m ≠ rb := fun he => by
  obtain ⟨es, clock, g', -⟩ := q.out
  rw [he, g] at g'; cases g'

theorem Mp.obj {h h' : Heap} {m : Nat} {d : TypeDesc} {l : List (Value × Value)} {e : Nat} (q : Mp h m d l) (k : ∀ j o, h j = some o → (∀ c fr, o ≠ .cells c e fr) → h' j = some o) : Mp h' m d l := by
  obtain ⟨es, clock, g, g2⟩ := q.out
  exact ⟨es, clock, k _ _ g (fun c fr e => by cases e), g2⟩

theorem over156 {h0 h : Heap} {rb mr : Nat} {x : Int} {E : List (Int × Int)} (gr : h rb = some (.cells #[.map (some mr), .int .i64 x] 276 (0, 0))) (rg : Rg h0 h mr E) (hE : E.length ≤ 2 ^ 37) (s : Int) :
    Ct 156 [.pointer (some ⟨rb, 0, none⟩), .int .i64 s] h (fun v h' => Kp [rb] h h' ∧ ∃ m x', v = .map (some m) ∧ h m = none ∧ h' rb = some (.cells #[.map (some mr), .int .i64 x'] 276 (0, 0)) ∧ Mp h' m (.int .i64) (setM (over E s))) := by
  obtain ⟨A, hA⟩ := Ar.ex
  have hrb : hdel h rb rb = none := hdel_self h rb
  refine fn_of_sx A (tabOk T156.plan T156.pub) Tryz.func156 rfl (by kernel_rfl) ?_
  cbv
  intro m h1 hm e1
  have l1 : Le h h1 := by rw [e1]; exact Le.set hm
  have g1 := (congrFun e1 m).trans hset_self
  have mp1 : Mp h1 m (.int .i64) (setM []) := Mp.new g1
  cbv
  intro nb h2 hnb e2
  have l2 : Le h1 h2 := by rw [e2]; exact Le.set hnb
  have g2 := (congrFun e2 nb).trans hset_self
  have l02 := l1.trans l2
  have gr2 := l02 _ _ gr
  have mp2 := mp1.kp (l2.kp []) (by simp)
  have hbl : Le (hdel h rb) h2 := (hdel_le h rb).trans l02
  have hnb0 : hdel h rb nb = none := ((hdel_le h rb).trans l1).none hnb
  have hb2 : BufT 3 shInt (hdel h rb) h2 (.slice (some ⟨nb, 0, none⟩) 1 1) [s] 1 :=
    ((one_own (s := shInt) g2 (x := s) rfl).buf hnb0 rfl).t (by simp)
  have hpot : pot E [] = E.length := by simp [pot]
  cbv
  refine LoopX.go (G := Option Addr × Nat × Nat) (fun g => [(6, .v (.slice g.1 g.2.1 g.2.2))]) (fun _ => [])
    (fun k g h' => ∃ seen todo n p x', Kp [rb] h h' ∧ h' rb = some (.cells #[.map (some mr), .int .i64 x'] 276 (0, 0)) ∧ Mp h' m (.int .i64) (setM seen) ∧ BufT 3 shInt (hdel h rb) h' (.slice g.1 g.2.1 g.2.2) todo p ∧
      k = pot E seen + todo.length ∧ k ≤ n ∧ bfs E n (seen, todo) = over E s ∧ p + pot E seen ≤ E.length + 1 ∧ todo.length ≤ p) (E.length + 1) (some ⟨nb, 0, none⟩, 1, 1) ⟨?_, ?_, ?_⟩ ⟨[], [s], E.length + 2, 1, x, hdel_kp hbl, gr2, mp2, hb2, by rw [hpot]; rfl, by omega, rfl, by rw [hpot]; omega, by simp⟩ ?_
  · cbv
  · cbv
  · cbv
  · intro k g h' hI
    cbv
    obtain ⟨seen, todo, n, p, x', kp, gr', mp, hb, hk, hkn, hbfs, hp, htp⟩ := hI
    obtain ⟨gb, gl, gc⟩ := g
    have hb : BufT 3 shInt (hdel h rb) h' (.slice gb gl gc) todo p := hb
    have hgl : gl = todo.length := hb.sl.len
    generalize egt : A .icm .gtr (A .nat gl) 0 = u
    have fgt := egt
    rw [icm_gtr A, hA.nat] at egt
    simp only [Int.ofNat_eq_natCast] at egt
    have hu : u = true → 0 < gl := fun e => by rw [e] at egt; have := of_decide_eq_true egt; omega
    have hu2 : u = false → gl = 0 := fun e => by rw [e] at egt; have := of_decide_eq_false egt; omega

    cases u with
    | false =>
      have h0 := hu2 rfl
      have ht : todo = [] := List.eq_nil_of_length_eq_zero (by omega)
      subst ht
      have hov : over E s = seen := by
        rw [← hbfs]; cases n <;> rfl
      cbv
      exact ⟨kp, m, x', rfl, hm, gr', by rw [hov]; exact mp⟩
    | true =>
      have h0 := hu rfl
      cases todo with
      | nil => simp at hgl; omega
      | cons a r =>
        cbv
        rw [offm A]
        refine (add185 (cel_exp gr' rfl)).mono (fun v h3 hR => ?_)
        obtain ⟨z, y, rfl, hup⟩ := hR
        have e3 := hup.exp gr'
        have gr3 : h3 rb = some (.cells #[.map (some mr), .int .i64 y] 276 (0, 0)) := (congrFun e3 rb).trans hset_self
        have hcr := cel_ne gr' mp
        have k3 : Kp [rb] h' h3 := by rw [e3]; exact Kp.set (by simp)
        have t3 : LeT [3] h' h3 := by rw [e3]; exact LeT.set gr' (by decide)
        have kp3 := kp.trans k3
        have mp3 := mp.kp k3 (by simpa using hcr)
        have hb3 := hb.mono t3
        have hck : gb.isSome = true ∧ (0 : Int) ≤ 0 ∧ (0 : Int) < (gl : Int) := ⟨hb3.sl.isSm (by omega), by omega, by omega⟩
        cbv
        rw [offm A]
        refine ldb gr3 rfl rfl ?_
        cbv
        refine ⟨hck, ?_⟩
        cbv
        refine hb3.sl.load (i := 0) (x := a) rfl (n := 0) rfl (fun cs hcs => ?_)
        have hcs : cs = [.int .i64 a] := hcs
        subst hcs
        cbv
        refine rg.lookK gr kp3 a (fun bb nn cc qs => ?_)
        have hnn : nn = (succs E a).length := qs.len
        have hnb40 := qs.bound
        obtain ⟨n', hn'⟩ : ∃ n', n = n' + 1 := ⟨n - 1, by simp at hk; omega⟩
        subst hn'
        have hbfs' : bfs E n' ((succs E a).foldl bfsAdd (seen, r)) = over E s := hbfs
        simp only [List.length_cons] at hk htp
        cbv
        refine LoopX.go (G := Int × Option Addr × Nat × Nat) (fun g => [(30, .v (.int .i64 g.1)), (6, .v (.slice g.2.1 g.2.2.1 g.2.2.2))]) (fun _ => [])
          (fun k2 g h4 => ∃ j p, IsN g.1 j ∧ k2 = nn - j ∧ j ≤ nn ∧ Kp [rb] h h4 ∧ h4 rb = some (.cells #[.map (some mr), .int .i64 y] 276 (0, 0)) ∧ Mp h4 m (.int .i64) (setM (((succs E a).take j).foldl bfsAdd (seen, r)).1) ∧
            BufT 3 shInt (hdel h rb) h4 (.slice g.2.1 g.2.2.1 g.2.2.2) (a :: (((succs E a).take j).foldl bfsAdd (seen, r)).2) p ∧
            pot E (((succs E a).take j).foldl bfsAdd (seen, r)).1 + (((succs E a).take j).foldl bfsAdd (seen, r)).2.length ≤ pot E seen + r.length ∧
            p + pot E (((succs E a).take j).foldl bfsAdd (seen, r)).1 ≤ E.length + 1 ∧ (((succs E a).take j).foldl bfsAdd (seen, r)).2.length + 1 ≤ p) nn (0, gb, gl, gc) ⟨?_, ?_, ?_⟩
            ⟨0, p, ⟨rfl⟩, by omega, by omega, kp3, gr3, mp3, hb3, Nat.le_refl _, hp, htp⟩ ?_
        · cbv
        · cbv
        · cbv
        · intro k2 g h4 hI
          cbv
          obtain ⟨j, p4, hz, hk2, hj, kp4, gr4, mp4, hb4, hM, hp4, htp4⟩ := hI
          obtain ⟨z4, gb4, gl4, gc4⟩ := g
          have hz : IsN z4 j := hz
          generalize est : ((succs E a).take j).foldl bfsAdd (seen, r) = st at *
          have hb4 : BufT 3 shInt (hdel h rb) h4 (.slice gb4 gl4 gc4) (a :: st.2) p4 := hb4
          have hgl4 : gl4 = st.2.length + 1 := hb4.sl.len
          refine bsel_mk (fun hc => ?_) (fun hc => ?_)
          · have hlt := hz.lt hc
            clear hc
            obtain ⟨w, hw⟩ := get_ex (xs := succs E a) (i := j) (by omega)
            have hws : w ∈ succs E a := List.mem_of_getElem? hw
            have hft : ((succs E a).take (j + 1)).foldl bfsAdd (seen, r) = bfsAdd st w := by
              rw [List.take_add_one, hw, List.foldl_append, est]; rfl
            cbv
            refine ⟨⟨qs.isSm (by omega), hz.ix hlt⟩, ?_⟩
            cbv
            refine (qs.mono (Kp.leT kp4 gr (by decide))).load hw hz.eq (fun cs hcs => ?_)
            have hcs : cs = [.int .i64 w] := hcs
            subst hcs
            cbv
            refine look244 mp4 w (fun t ht => ?_)
            cases t with
            | true =>
              have hno : A .not true = false := by rw [hA.not]; rfl
              have hadd : bfsAdd st w = st := by unfold bfsAdd; rw [← ht]; rfl
              cbv
              rw [hno]
              cbv
              refine ⟨nn - (j + 1), (_, gb4, gl4, gc4), by omega, ⟨?_, ?_, ?_⟩, j + 1, p4, hz.succ (A := A) (by omega), rfl, by omega, kp4, gr4, ?_⟩
              · cbv
              · cbv
              · cbv
              · rw [hft, hadd]; exact ⟨mp4, hb4, hM, hp4, htp4⟩
            | false =>
              have hno : A .not false = true := by rw [hA.not]; rfl
              have hni : w ∉ st.1 := of_decide_eq_false ht.symm
              have hadd : bfsAdd st w = (st.1 ++ [w], st.2 ++ [w]) := by unfold bfsAdd; rw [← ht]; rfl
              have hpl := pot_add hni hws
              cbv
              rw [hno]
              cbv
              refine put244 mp4 hni (fun h5 mp5 k5 t5 => ?_)
              have hmr := cel_ne gr4 mp4
              have gr5 := t5 [276] _ _ _ _ (by decide) gr4
              have kp5 : Kp [rb] h h5 := fun b o hbo hbn => by
                have := kp4 b o hbo hbn
                refine k5 b o this ?_
                intro e
                simp at e
                rw [e, hm] at hbo; cases hbo
              have hb5 := hb4.mono (t5 _)
              cbv
              intro nb6 h6 hnb6 e6
              have l6 : Le h5 h6 := by rw [e6]; exact Le.set hnb6
              have g6 := (congrFun e6 nb6).trans hset_self
              have gr6 := l6 _ _ gr5
              have mp6 := mp5.kp (l6.kp []) (by simp)
              have kp6 := kp5.trans (l6.kp _)
              have hl6 : Le (hdel h rb) h6 := fun b o hbo => by
                unfold hdel at hbo
                split at hbo
                · cases hbo
                · rename_i hne; exact kp6 b o hbo (by simpa using hne)
              cbv
              refine (hb5.mono (l6.t _)).append (one_sl (s := shInt) g6 (x := w) rfl) (by decide) rfl (by decide) (by omega) (by omega) (by omega) hl6 (fun mm b' c' h7 hmm l7 t7 hb7 k7 => ?_)
              have gr7 := t7 [276] (by decide) _ _ _ _ (by decide) gr6
              have mp7 := Mp.obj mp6 k7
              have kp7 : Kp [rb] h h7 := hdel_kp l7
              cbv
              refine ⟨nn - (j + 1), (_, b', mm, c'), by omega, ⟨?_, ?_, ?_⟩, j + 1, p4 + 1, hz.succ (A := A) (by omega), rfl, by omega, kp7, gr7, ?_⟩
              · cbv
              · cbv
              · cbv
              · rw [hft, hadd]
                refine ⟨mp7, by simpa using hb7, ?_, ?_, ?_⟩
                · simp only [List.length_append, List.length_singleton]; omega
                · simp only; omega
                · simp only [List.length_append, List.length_singleton]; omega
          · have hge := hz.ge hc
            have hjn : j = nn := by omega
            rw [show (succs E a).take j = succs E a from List.take_of_length_le (by omega)] at est
            have h1N : IsN (1 : Int) 1 := ⟨rfl⟩
            have hck1 : (0 : Int) ≤ 1 ∧ (1 : Int) ≤ (gl4 : Int) := by omega
            have htl := hb4.tail (A := A) h1N (dif_nz (A := A) (n := gl4) h1N) (dif_nz (A := A) (n := gc4) h1N)
            rw [est] at hbfs'
            cbv
            refine ⟨hck1, ?_⟩
            cbv
            refine ⟨pot E st.1 + st.2.length, (_, _, _), by omega, ⟨?_, ?_, ?_⟩, st.1, st.2, n', p4, y, kp4, gr4, mp4, htl, rfl, by omega, hbfs', hp4, by omega⟩
            · cbv
              exact ⟨rfl, True.intro⟩
            · cbv
            · cbv
end Go.S

set_option maxRecDepth 100000
set_option linter.unusedVariables false
set_option linter.unusedSimpArgs false
namespace Go.S
open Go.Sx Go.Proofs

/-- Who is to go. -/
structure Vic (E : List (Int × Int)) (s v : Int) (t : Bool) : Prop where
  out : (t = false ∧ v = 0 ∧ s ∉ over E s) ∨ (t = true ∧ s ∈ over E s ∧ s ≤ v ∧ (v = s ∨ (v ∈ over E s ∧ s ∈ over E v)) ∧ ∀ k ∈ over E s, s ∈ over E k → k ≤ v)
theorem Vic.det {E : List (Int × Int)} {s v v' : Int} {t t' : Bool} (a : Vic E s v t) (b : Vic E s v' t') : v = v' ∧ t = t' := by
  rcases a.out with ⟨a1, a2, a3⟩ | ⟨a1, a2, a3, a4, a5⟩
  · rcases b.out with ⟨b1, b2, b3⟩ | ⟨b1, b2, b3, b4, b5⟩
    · exact ⟨by rw [a2, b2], by rw [a1, b1]⟩
    · exact absurd b2 a3
  · rcases b.out with ⟨b1, b2, b3⟩ | ⟨b1, b2, b3, b4, b5⟩
    · exact absurd a2 b3
    · refine ⟨?_, by rw [a1, b1]⟩
      have h1 : v ≤ v' := by
        rcases a4 with rfl | ⟨h1, h2⟩
        · exact b3
        · exact b5 v h1 h2
      have h2 : v' ≤ v := by
        rcases b4 with rfl | ⟨h1, h2⟩
        · exact a3
        · exact a5 v' h1 h2
      omega
def vicMax (E : List (Int × Int)) (s : Int) (l : List Int) (m : Int) : Int := l.foldl (fun m k => if decide (k > m) && decide (s ∈ over E k) then k else m) m
def victim (E : List (Int × Int)) (s : Int) : Int × Bool := if decide (s ∈ over E s) = true then (vicMax E s (over E s) s, true) else (0, false)
theorem vicMax_spec (E : List (Int × Int)) (s : Int) : ∀ (l : List Int) (m : Int), m ≤ vicMax E s l m ∧ (vicMax E s l m = m ∨ (vicMax E s l m ∈ l ∧ s ∈ over E (vicMax E s l m))) ∧ ∀ k ∈ l, s ∈ over E k → k ≤ vicMax E s l m
  | [], m => ⟨Int.le_refl _, .inl rfl, fun k hk => by cases hk⟩
  | x :: r, m => by
    have e : vicMax E s (x :: r) m = vicMax E s r (if decide (x > m) && decide (s ∈ over E x) then x else m) := rfl
    rw [e]
    by_cases hc : (decide (x > m) && decide (s ∈ over E x)) = true
    · rw [if_pos hc]
      simp at hc
      obtain ⟨h1, h2, h3⟩ := vicMax_spec E s r x
      refine ⟨by omega, ?_, fun k hk hs => ?_⟩
      · rcases h2 with h2 | ⟨h2, h2'⟩
        · right; rw [h2]; exact ⟨by simp, hc.2⟩
        · right; exact ⟨by simp [h2], h2'⟩
      · rcases List.mem_cons.1 hk with rfl | hk
        · exact h1
        · exact h3 k hk hs
    · rw [if_neg hc]
      simp at hc
      obtain ⟨h1, h2, h3⟩ := vicMax_spec E s r m
      refine ⟨h1, ?_, fun k hk hs => ?_⟩
      · rcases h2 with h2 | ⟨h2, h2'⟩
        · exact .inl h2
        · right; exact ⟨by simp [h2], h2'⟩
      · rcases List.mem_cons.1 hk with rfl | hk
        · rcases Int.lt_or_le m k with hlt | hle
          · exact absurd hs (hc hlt)
          · omega
        · exact h3 k hk hs
theorem victim_vic (E : List (Int × Int)) (s : Int) : Vic E s (victim E s).1 (victim E s).2 := by
  constructor
  unfold victim
  by_cases h : s ∈ over E s
  · rw [if_pos (by simpa using h)]
    obtain ⟨h1, h2, h3⟩ := vicMax_spec E s (over E s) s
    exact .inr ⟨rfl, h, h1, h2, h3⟩
  · rw [if_neg (by simpa using h)]
    exact .inl ⟨rfl, rfl, h⟩
theorem Vic.eq {E : List (Int × Int)} {s v : Int} {t : Bool} (a : Vic E s v t) : v = (victim E s).1 ∧ t = (victim E s).2 := a.det (victim_vic E s)

theorem Rg.gen {h0 h h' : Heap} {m : Nat} {E : List (Int × Int)} (q : Rg h0 h m E) {bs : List Nat} (k : Kp bs h h') (hm : m ∉ bs) (t : LeT [3] h h') : Rg h0 h' m E := by
  obtain ⟨G, g1, g2, g3, g4⟩ := q.out
  exact ⟨G, g1.kp k hm, g2, fun g hg => ⟨(g3 g hg).1, (g3 g hg).2.mono t⟩, g4⟩
theorem Rg.map {h0 h : Heap} {m : Nat} {E : List (Int × Int)} (q : Rg h0 h m E) : ∃ l, Mp h m (.int .i64) l := by
  obtain ⟨G, g1, -⟩ := q.out
  exact ⟨_, g1⟩

theorem victim117 {H W : List Hld} {h : Heap} {b1 b2 : Option Addr} {n1 c1 n2 c2 : Nat} (q1 : Sl 188 shHld h (.slice b1 n1 c1) H) (q2 : Sl 188 shHld h (.slice b2 n2 c2) W) (hn1 : n1 ≤ 2 ^ 18) (hn2 : n2 ≤ 2 ^ 18) (s : Int) :
    Ct 117 [.agg #[.slice b1 n1 c1, .slice b2 n2 c2], .int .i64 s] h (fun v h' => Le h h' ∧ ∃ z t, v = .tuple #[.int .i64 z, .bool t] ∧ Vic (edges H W) s z t) := by
  obtain ⟨A, hA⟩ := Ar.ex
  have hE : (edges H W).length ≤ 2 ^ 37 := by
    have := edges_len H W
    have := small_mul (show W.length ≤ 2 ^ 18 by rw [← q2.len]; exact hn2) (show H.length ≤ 2 ^ 18 by rw [← q1.len]; exact hn1)
    omega
  generalize hEe : edges H W = E at *
  refine fn_of_sx A (tabOk T117.plan T117.pub) Tryz.func117 rfl (by kernel_rfl) ?_
  cbv
  refine (rings155 q1 q2 hn1 hn2).mono (fun v h1 hR => ?_)
  obtain ⟨l1, rb, mr, rfl, hrb, hmr, gr, rg⟩ := hR
  rw [hEe] at rg
  cbv
  refine (over156 gr rg hE s).mono (fun v h2 hR => ?_)
  obtain ⟨k2, m, x2, rfl, hm, gr2, mp2⟩ := hR
  have l2 : Le h h2 := l1.kpNew (by simpa using hrb) k2
  have rg2 : Rg h h2 mr E := by
    obtain ⟨l, ml⟩ := rg.map
    exact rg.gen k2 (by simpa using cel_ne gr ml) (Kp.leT k2 gr (by decide))
  cbv
  refine look244 mp2 s (fun t ht => ?_)
  cases t with
  | false =>
    have hno : A .not false = true := by rw [hA.not]; rfl
    have hs : s ∉ over E s := of_decide_eq_false ht.symm
    cbv
    rw [hno]
    cbv
    exact ⟨l2, 0, false, rfl, ⟨.inl ⟨rfl, rfl, hs⟩⟩⟩
  | true =>
    have hno : A .not true = false := by rw [hA.not]; rfl
    have hs : s ∈ over E s := of_decide_eq_true ht.symm
    cbv
    rw [hno]
    cbv
    refine sem_range u244 mp2 (fun it h3 hit l3 it3 => ?_)
    have gr3 := l3 _ _ gr2
    have mp3 := mp2.kp (l3.kp []) (by simp)
    have rg3 := rg2.gen (l3.kp []) (by simp) (l3.t _)
    have l03 := l2.trans l3
    cbv
    refine LoopX.go (G := Int) (fun z => [(8, .v (.int .i64 z))]) (fun _ => [(2, [.slice b1 n1 c1, .slice b2 n2 c2])])
      (fun k z h' => ∃ left last x', Le h h' ∧ It h' it m left last ∧ k = left.length ∧ h' rb = some (.cells #[.map (some mr), .int .i64 x'] 276 (0, 0)) ∧ Rg h h' mr E ∧
        s ≤ z ∧ (z = s ∨ (z ∈ over E s ∧ s ∈ over E z)) ∧ (∀ p ∈ left, p ∈ setM (over E s)) ∧ ∀ k ∈ over E s, s ∈ over E k → k ≤ z ∨ (Value.int .i64 k, Value.bool true) ∈ left) _ s ⟨?_, ?_, ?_⟩
        ⟨_, _, x2, l03, it3, rfl, gr3, rg3, Int.le_refl _, .inl rfl, fun p hp => hp, fun k hk _ => .inr (setM_mem.2 hk)⟩ ?_
    · cbv
    · cbv
    · cbv
    · intro k z h' hI
      cbv
      obtain ⟨left, last, x', hle, hit', hk, gr', rg', hz1, hz2, hz3, hz4⟩ := hI
      have hir : it ≠ rb := fun e => by
        obtain ⟨_, _, _, _, _, _, g, _⟩ := hit'.out
        rw [e, gr'] at g; cases g
      have him : m ≠ rb := fun e => by
        obtain ⟨_, _, _, _, _, g, _⟩ := hit'.out
        rw [e, gr'] at g; cases g
      have himr : mr ≠ it := fun e => by
        obtain ⟨_, _, _, _, _, _, g, _⟩ := hit'.out
        obtain ⟨l, ml⟩ := rg'.map
        obtain ⟨_, _, g', _⟩ := ml.out
        rw [e, g] at g'; cases g'
      refine sem_next hit' (fun hl => ?_) (fun key val left' h4 hin hleft hsub hlt hit4 k4 t4 => ?_)
      · cbv
        refine ⟨hle, z, true, rfl, ⟨.inr ⟨rfl, hs, hz1, hz2, fun k hk hsk => ?_⟩⟩⟩
        rcases hz4 k hk hsk with h1 | h1
        · exact h1
        · rw [hl] at h1; cases h1
      · have gr4 := t4 [276] _ _ _ _ (by decide) gr'
        have hmem := hz3 _ hin
        obtain ⟨w, hw, he⟩ := List.mem_map.1 hmem
        cases he
        have l4 : Le h h4 := hle.kpNew (by simpa using l2.none hit) k4
        have rg4 := rg'.gen k4 (by simpa using himr) (t4 _)
        have stay : ∀ (h5 : Heap) (x5 : Int), Le h h5 → It h5 it m left' (some (.int .i64 w, .bool true)) → h5 rb = some (.cells #[.map (some mr), .int .i64 x5] 276 (0, 0)) → Rg h h5 mr E → ((s ∈ over E w) → w ≤ z) →
            ∃ left last x', Le h h5 ∧ It h5 it m left last ∧ left'.length = left.length ∧ h5 rb = some (.cells #[.map (some mr), .int .i64 x'] 276 (0, 0)) ∧ Rg h h5 mr E ∧
              s ≤ z ∧ (z = s ∨ (z ∈ over E s ∧ s ∈ over E z)) ∧ (∀ p ∈ left, p ∈ setM (over E s)) ∧ ∀ k ∈ over E s, s ∈ over E k → k ≤ z ∨ (Value.int .i64 k, Value.bool true) ∈ left :=
          fun h5 x5 a1 a2 a3 a4 a5 => ⟨left', _, x5, a1, a2, rfl, a3, a4, hz1, hz2, fun p hp => hz3 p (hsub p hp), fun k hk hsk => by
            rcases hz4 k hk hsk with h1 | h1
            · exact .inl h1
            · rcases hleft _ h1 with h2 | h2
              · have : k = w := by cases h2; rfl
                subst this
                exact .inl (a5 hsk)
              · exact .inr h2⟩
        have more : ∀ (h5 : Heap) (x5 : Int), Le h h5 → It h5 it m left' (some (.int .i64 w, .bool true)) → h5 rb = some (.cells #[.map (some mr), .int .i64 x5] 276 (0, 0)) → Rg h h5 mr E → s ∈ over E w → z < w →
            ∃ left last x', Le h h5 ∧ It h5 it m left last ∧ left'.length = left.length ∧ h5 rb = some (.cells #[.map (some mr), .int .i64 x'] 276 (0, 0)) ∧ Rg h h5 mr E ∧
              s ≤ w ∧ (w = s ∨ (w ∈ over E s ∧ s ∈ over E w)) ∧ (∀ p ∈ left, p ∈ setM (over E s)) ∧ ∀ k ∈ over E s, s ∈ over E k → k ≤ w ∨ (Value.int .i64 k, Value.bool true) ∈ left :=
          fun h5 x5 a1 a2 a3 a4 a5 a6 => ⟨left', _, x5, a1, a2, rfl, a3, a4, by omega, .inr ⟨hw, a5⟩, fun p hp => hz3 p (hsub p hp), fun k hk hsk => by
            rcases hz4 k hk hsk with h1 | h1
            · left; omega
            · rcases hleft _ h1 with h2 | h2
              · have : k = w := by cases h2; rfl
                subst this
                exact .inl (Int.le_refl _)
              · exact .inr h2⟩
        generalize eg : A .icm .gtr w z = u
        have fg := eg
        rw [icm_gtr A] at eg
        cbv
        refine sem_entry hit4 ?_
        cbv
        rw [fg]
        cases u with
        | false =>
          have hle2 := stay h4 x' l4 hit4 gr4 rg4 (fun _ => by have := of_decide_eq_false eg; omega)
          cbv
          refine ⟨left'.length, _, by omega, ⟨?_, ?_, ?_⟩, hle2⟩
          · cbv
          · cbv
          · cbv
        | true =>
          have hzw : z < w := of_decide_eq_true eg
          cbv
          refine (over156 gr4 rg4 hE w).mono (fun v h5 hR => ?_)
          obtain ⟨k5, m5, x5, rfl, hm5, gr5, mp5⟩ := hR
          have l5 : Le h h5 := l4.kpNew (by simpa using hrb) k5
          have rg5 : Rg h h5 mr E := by
            obtain ⟨l, ml⟩ := rg4.map
            exact rg4.gen k5 (by simpa using cel_ne gr4 ml) (Kp.leT k5 gr4 (by decide))
          have it5 := hit4.kp k5 (by simpa using hir) (by simpa using him)
          cbv
          refine look244 mp5 s (fun t ht => ?_)
          cases t with
          | true =>
            have hle2 := more h5 x5 l5 it5 gr5 rg5 (of_decide_eq_true ht.symm) hzw
            cbv
            refine ⟨left'.length, _, by omega, ⟨?_, ?_, ?_⟩, hle2⟩
            · cbv
            · cbv
            · cbv
          | false =>
            have hns : s ∉ over E w := of_decide_eq_false ht.symm
            have hle2 := stay h5 x5 l5 it5 gr5 rg5 (fun hsw => absurd hsw hns)
            cbv
            refine ⟨left'.length, _, by omega, ⟨?_, ?_, ?_⟩, hle2⟩
            · cbv
            · cbv
            · cbv
end Go.S

set_option maxRecDepth 100000
set_option linter.unusedVariables false
set_option linter.unusedSimpArgs false
namespace Go.S
open Go.Sx Go.Proofs

/-- A call's state with other holds and waits. -/
theorem Cst.locks {h h' : Heap} {c tb wb ct cw : Nat} {T : List Tbl} {W : List (Wrk × Bool)} {H' Wt' : List Hld} {e : Int} {n1 n2 : Nat} {b3 b4 b5 b6 : Option Addr} {n3 c3 n4 c4 n5 c5 n6 c6 : Nat} {o : Int}
    (g0 : h c = some (.cells #[.slice (some ⟨tb, 0, none⟩) n1 ct, .slice (some ⟨wb, 0, none⟩) n2 cw, .slice b3 n3 c3, .slice b4 n4 c4, .int .u32 o, .int .i32 0, .int .u32 0, .int .i64 e] 124 (0, 0)))
    (ho : (o = 0 ∧ e = 0) ∨ (o = 1 ∧ e ≠ 0)) (g1 : n1 = T.length) (g2 : Own 43 shTbl h tb ct T) (g3 : n2 = W.length) (g4 : Own 60 shWrkG h wb cw W) (q5 : Sl 188 shHld h (.slice b5 n5 c5) H') (q6 : Sl 188 shHld h (.slice b6 n6 c6) Wt')
    (hh : h' = hset h c (.cells #[.slice (some ⟨tb, 0, none⟩) n1 ct, .slice (some ⟨wb, 0, none⟩) n2 cw, .slice b5 n5 c5, .slice b6 n6 c6, .int .u32 o, .int .i32 0, .int .u32 0, .int .i64 e] 124 (0, 0))) :
    Kp [c] h h' ∧ Cst h' c tb wb ct cw T W H' Wt' e := by
  have lt : ∀ tys, 124 ∉ tys → LeT tys h h' := fun tys hn => by rw [hh]; exact LeT.set g0 hn
  refine ⟨by rw [hh]; exact Kp.set (by simp), n1, n2, b5, n5, c5, b6, n6, c6, o, by rw [hh]; exact hset_self, ho, g1, g2.mono (lt _ (by decide)), g3, g4.mono (lt _ (by decide)), q5.mono (lt _ (by decide)), q6.mono (lt _ (by decide))⟩

theorem Cst.elim {h : Heap} {c tb wb ct cw : Nat} {T : List Tbl} {W : List (Wrk × Bool)} {H Wt : List Hld} {e : Int} (q : Cst h c tb wb ct cw T W H Wt e) {p : Prop}
    (k : ∀ (n1 n2 : Nat) (b3 : Option Addr) (n3 c3 : Nat) (b4 : Option Addr) (n4 c4 : Nat) (o : Int), h c = some (.cells #[.slice (some ⟨tb, 0, none⟩) n1 ct, .slice (some ⟨wb, 0, none⟩) n2 cw, .slice b3 n3 c3, .slice b4 n4 c4, .int .u32 o, .int .i32 0, .int .u32 0, .int .i64 e] 124 (0, 0)) →
      ((o = 0 ∧ e = 0) ∨ (o = 1 ∧ e ≠ 0)) → n1 = T.length → Own 43 shTbl h tb ct T → n2 = W.length → Own 60 shWrkG h wb cw W → Sl 188 shHld h (.slice b3 n3 c3) H → Sl 188 shHld h (.slice b4 n4 c4) Wt →
      RDB h (.agg #[.slice (some ⟨tb, 0, none⟩) n1 ct, .slice (some ⟨wb, 0, none⟩) n2 cw, .slice b3 n3 c3, .slice b4 n4 c4]) ⟨T, W.map (·.1), H, Wt⟩ → p) : p := by
  obtain ⟨n1, n2, b3, n3, c3, b4, n4, c4, o, g0, g1, g2, g3, g4, g5, g6, g7⟩ := q.out
  exact k n1 n2 b3 n3 c3 b4 n4 c4 o g0 g1 g2 g3 g4 g5 g6 g7 ⟨_, _, _, _, _, _, _, _, _, _, _, _, W, rfl, g3.sl g2, g5.sl g4, g6, g7, rfl⟩

/-- 'own', for what goes on. -/
theorem own47K {d : DB} {h : Heap} {v : Value} (q : RDB h v d) {k : Value → Heap → Prop}
    (hk : ∀ h' b1 n1 c1 b2 n2 c2 b3 n3 c3 b4 n4 c4, Le h h' → RDB h' (.agg #[.slice b1 n1 c1, .slice b2 n2 c2, .slice b3 n3 c3, .slice b4 n4 c4]) d → k (.agg #[.slice b1 n1 c1, .slice b2 n2 c2, .slice b3 n3 c3, .slice b4 n4 c4]) h') : Ct 47 [v] h k :=
  (own47' q).mono (fun v h' hR => by
    obtain ⟨l, hd⟩ := hR
    obtain ⟨b1, n1, c1, b2, n2, c2, b3, n3, c3, b4, n4, c4, hv⟩ := hd.form
    rw [hv] at hd ⊢
    exact hk h' _ _ _ _ _ _ _ _ _ _ _ _ l hd)

/-- 'begun', for what goes on. -/
theorem begun43K {d : DB} {h : Heap} {v : Value} (q : RDB h v d) {k : Value → Heap → Prop}
    (hk : ∀ h' c tb wb ct cw W, Le h h' → h c = none → h tb = none → h wb = none → c ≠ tb → c ≠ wb → W = (d.works.map fun w => (w, true)) → ct = d.tabs.length → cw = W.length → Cst h' c tb wb ct cw d.tabs W d.holds d.waits 0 → k (.pointer (some ⟨c, 0, none⟩)) h') : Ct 43 [v] h k :=
  (begun43 q).mono (fun v h' hR => by
    obtain ⟨l1, c, tb, wb, ct, cw, W, hv, hc, htb, hwb, hct, hcw, hW, ect, ecw, cs⟩ := hR
    rw [hv]
    exact hk h' c tb wb ct cw W l1 hc htb hwb hct hcw hW ect ecw cs)

theorem tbl_elim {h : Heap} {cs : List Value} {t : Tbl} (q : shTbl.R h cs t) {p : List Value → Prop} (k : ∀ (b1 : Option Addr) (n1 c1 : Nat) (b2 : Option Addr) (n2 c2 : Nat), Sl 104 shCol h (.slice b1 n1 c1) t.S.cols → Sl 63 shRow h (.slice b2 n2 c2) t.rows → p [.string t.S.name, .slice b1 n1 c1, .int .i64 t.S.key, .bool t.S.only, .slice b2 n2 c2]) : p cs := by
  obtain ⟨b1, n1, c1, b2, n2, c2, rfl, q1, q2⟩ := q
  exact k b1 n1 c1 b2 n2 c2 q1 q2
theorem ld_tbl {A : Ar} [ArOk A] {h : Heap} {b : Option Addr} {len cap : Nat} {xs : List Tbl} (q : Sl 43 shTbl h (.slice b len cap) xs) {i : Nat} {t : Tbl} (hx : xs[i]? = some t) {n : Int} (hn : n = (i : Int)) {k : List Value → Prop}
    (hk : ∀ (b1 : Option Addr) (n1 c1 : Nat) (b2 : Option Addr) (n2 c2 : Nat), Sl 104 shCol h (.slice b1 n1 c1) t.S.cols → Sl 63 shRow h (.slice b2 n2 c2) t.rows → k [.string t.S.name, .slice b1 n1 c1, .int .i64 t.S.key, .bool t.S.only, .slice b2 n2 c2]) : LdX h (A.elt b n shTbl.n) shTbl.n k :=
  q.load hx hn (fun cs hcs => tbl_elim hcs hk)
/-- The log of a session's work is read. -/
theorem ld_log {A : Ar} [ArOk A] {h : Heap} {b : Option Addr} {len cap : Nat} {xs : List (Wrk × Bool)} (q : Sl 60 shWrkG h (.slice b len cap) xs) {i : Nat} {w : Wrk × Bool} (hx : xs[i]? = some w) {n : Int} (hn : n = (i : Int)) {k : List Value → Prop}
    (hk : ∀ (b1 : Option Addr) (n1 c1 : Nat), Sl 77 shChg h (.slice b1 n1 c1) w.1.log → (w.2 = true → c1 = n1) → (∀ h' k', Le h h' → k' [.slice b1 n1 c1] → LdX h' (A .off (A .elt b n 3) 1) 1 k') → k [.slice b1 n1 c1]) : LdX h (A .off (A .elt b n 3) 1) 1 k :=
  q.loadFP (s := shWrkG) hx hn (o := 1) (m := 1) (by decide) (fun cs hcs ag => by
    obtain ⟨b1, n1, c1, b2, n2, c2, rfl, q1, q2, q3⟩ := hcs
    exact hk b1 n1 c1 q1 q3 ag)
/-- The marks. -/
theorem ld_marks {A : Ar} [ArOk A] {h : Heap} {b : Option Addr} {len cap : Nat} {xs : List (Wrk × Bool)} (q : Sl 60 shWrkG h (.slice b len cap) xs) {i : Nat} {w : Wrk × Bool} (hx : xs[i]? = some w) {n : Int} (hn : n = (i : Int)) {k : List Value → Prop}
    (hk : ∀ (b1 : Option Addr) (n1 c1 : Nat), Sl 145 shMrk h (.slice b1 n1 c1) w.1.marks → (∀ h' k', Le h h' → k' [.slice b1 n1 c1] → LdX h' (A .off (A .elt b n 3) 2) 1 k') → k [.slice b1 n1 c1]) : LdX h (A .off (A .elt b n 3) 2) 1 k :=
  q.loadFP (s := shWrkG) hx hn (o := 2) (m := 1) (by decide) (fun cs hcs ag => by
    obtain ⟨b1, n1, c1, b2, n2, c2, rfl, q1, q2, q3⟩ := hcs
    exact hk b2 n2 c2 q2 ag)

theorem hold115 {h : Heap} {c tb wb ct cw : Nat} {T : List Tbl} {W : List (Wrk × Bool)} {H Wt : List Hld} {e : Int} (q : Cst h c tb wb ct cw T W H Wt e) {p4 p5 p6 p7 : Nat} {hd : Hld}
    (g4 : h p4 = some (.cells #[.pointer (some ⟨c, 0, none⟩)] 105 (0, 0))) (g5 : h p5 = some (.cells #[.int .i64 hd.s] 3 (0, 0))) (g6 : h p6 = some (.cells #[.string hd.table] 9 (0, 0))) (g7 : h p7 = some (.cells #[.bool hd.x] 4 (0, 0)))
    (hH : H.length ≤ 2 ^ 18) (hWt : Wt.length ≤ 2 ^ 18) :
    Ct 115 [.pointer (some ⟨p4, 0, none⟩), .pointer (some ⟨p5, 0, none⟩), .pointer (some ⟨p6, 0, none⟩), .pointer (some ⟨p7, 0, none⟩)] h
      (fun v h' => Kp [c] h h' ∧ ∃ t, v = .bool t ∧ t = askFree H hd ∧ Cst h' c tb wb ct cw T W (askH H hd) (askW H Wt hd) e) := by
  obtain ⟨A, hA⟩ := Ar.ex
  obtain ⟨n1, n2, b3, n3, c3, b4, n4, c4, o, f0, f1, f2, f3, f4, f5, f6, f7⟩ := q.out
  obtain ⟨hs, ht, hx⟩ := hd
  refine fn_of_sx A (tabOk T115.plan T115.pub) Tryz.func115 rfl (by kernel_rfl) ?_
  cbv
  refine ldb g4 rfl rfl ?_
  cbv
  refine ldb g4 rfl rfl ?_
  cbv
  rw [offm A]
  rw [offm A]
  refine ldb f0 rfl rfl ?_
  cbv
  refine ldb g5 rfl rfl ?_
  cbv
  refine ldb g6 rfl rfl ?_
  cbv
  refine ldb g7 rfl rfl ?_
  cbv
  refine (ask116 f6 f7 (by have := f6.len; omega) (by have := f7.len; omega) ⟨hs, ht, hx⟩).mono (fun v h1 hR => ?_)
  obtain ⟨l1, b5, n5, c5, b6, n6, c6, t, rfl, r5, r6, et⟩ := hR
  cbv
  refine ldb (l1 _ _ g4) rfl rfl ?_
  cbv
  refine ⟨⟨_, rfl, rfl⟩, ?_⟩
  cbv
  rw [offm A]
  rw [offm A]
  refine stb (l1 _ _ f0) (by simp) (fun h2 e2 => ?_)
  have hfin := Cst.locks (l1 _ _ f0) f1 f2 (f3.mono (l1.t _)) f4 (f5.mono (l1.t _)) r5 r6 e2
  cbv
  exact ⟨(l1.kp _).trans hfin.1, t, rfl, et, hfin.2⟩

def wrkCmps (W : List (Wrk × Bool)) (s : Int) : List Int := W.map fun x => IntKind.i64.wrap (x.1.s - s)
def tabCmps (T : List Tbl) (name : ByteArray) : List Int := T.map fun x => cmpB x.S.name name
def holdOn (T : List Tbl) (W : List (Wrk × Bool)) (s : Int) (name : ByteArray) : Bool := bsB (wrkCmps W s) && bsB (tabCmps T name)
def holdH (T : List Tbl) (W : List (Wrk × Bool)) (H : List Hld) (hd : Hld) : List Hld := if holdOn T W hd.s hd.table = true then askH H hd else H
def holdW (T : List Tbl) (W : List (Wrk × Bool)) (H Wt : List Hld) (hd : Hld) : List Hld := if holdOn T W hd.s hd.table = true then askW H Wt hd else Wt
def holdE (T : List Tbl) (W : List (Wrk × Bool)) (H : List Hld) (hd : Hld) : Int := if holdOn T W hd.s hd.table = true then if askFree H hd = true then 0 else 16 else 2

theorem askH_len {H : List Hld} {hd : Hld} : (askH H hd).length ≤ H.length + 1 := by
  unfold askH
  split
  · split
    · omega
    · split
      · rw [List.length_set]; omega
      · simp
  · omega
theorem wout_len (l : List Hld) (s : Int) : (wout l s).length ≤ l.length := List.length_filter_le _ _
theorem askW_len {H W : List Hld} {hd : Hld} : (askW H W hd).length ≤ W.length + 1 := by
  unfold askW
  have := wout_len W hd.s
  split
  · omega
  · simp; omega

/-- 'hold', where nobody waits in a ring. -/
theorem hold53 {h : Heap} {c tb wb ct cw : Nat} {T : List Tbl} {W : List (Wrk × Bool)} {H Wt : List Hld} {e : Int} (q : Cst h c tb wb ct cw T W H Wt e) (hd : Hld)
    (hH : H.length < 2 ^ 18) (hWt : Wt.length < 2 ^ 18) (hct : c ≠ tb) (hcw : c ≠ wb) (hv : askFree H hd = false → (victim (edges (askH H hd) (askW H Wt hd)) hd.s).2 = false) :
    Ct 53 [.pointer (some ⟨c, 0, none⟩), .int .i64 hd.s, .string hd.table, .bool hd.x] h (fun v h' => Kp [c] h h' ∧ ∃ z, v = .int .i64 z ∧ z = holdE T W H hd ∧ Cst h' c tb wb ct cw T W (holdH T W H hd) (holdW T W H Wt hd) e) := by
  obtain ⟨A, hA⟩ := Ar.ex
  obtain ⟨hs, ht, hx⟩ := hd
  have hnot1 : A .not true = false := by rw [hA.not]; rfl
  have hnot0 : A .not false = true := by rw [hA.not]; rfl
  refine fn_of_sx A (tabOk T53.plan T53.pub) Tryz.func53 rfl (by kernel_rfl) ?_
  cbv
  intro p4 h1 hp4 e1
  cbv
  intro p5 h2 hp5 e2
  cbv
  intro p6 h3 hp6 e3
  cbv
  intro p7 h4 hp7 e4
  have l1 : Le h h1 := by rw [e1]; exact Le.set hp4
  have l2 : Le h1 h2 := by rw [e2]; exact Le.set hp5
  have l3 : Le h2 h3 := by rw [e3]; exact Le.set hp6
  have l4 : Le h3 h4 := by rw [e4]; exact Le.set hp7
  have g4 : h4 p4 = some (.cells #[.pointer (some ⟨c, 0, none⟩)] 105 (0, 0)) := ((l2.trans l3).trans l4) _ _ ((congrFun e1 p4).trans hset_self)
  have g5 : h4 p5 = some (.cells #[.int .i64 hs] 3 (0, 0)) := (l3.trans l4) _ _ ((congrFun e2 p5).trans hset_self)
  have g6 : h4 p6 = some (.cells #[.string ht] 9 (0, 0)) := l4 _ _ ((congrFun e3 p6).trans hset_self)
  have g7 : h4 p7 = some (.cells #[.bool hx] 4 (0, 0)) := (congrFun e4 p7).trans hset_self
  have l04 := ((l1.trans l2).trans l3).trans l4
  have q4 := q.mono l04
  cbv
  refine ldb g4 rfl rfl ?_
  cbv
  refine ldb g5 rfl rfl ?_
  cbv
  refine (work50 q4 hs).mono (fun v h5 hR => ?_)
  obtain ⟨l5, z1, t1, rfl, hb1⟩ := hR
  obtain ⟨hz1, ht1⟩ := hb1.at_
  have ht1 : t1 = bsB (wrkCmps W hs) := ht1
  have l05 := l04.trans l5
  have none2 : ∀ {hh : Heap} (l : Le h hh), holdOn T W hs ht = false → Kp [c] h hh ∧ ∃ z, Value.int .i64 2 = .int .i64 z ∧ z = holdE T W H ⟨hs, ht, hx⟩ ∧ Cst hh c tb wb ct cw T W (holdH T W H ⟨hs, ht, hx⟩) (holdW T W H Wt ⟨hs, ht, hx⟩) e := fun {hh} l hoff => by
    have a1 : holdE T W H ⟨hs, ht, hx⟩ = 2 := by unfold holdE; rw [hoff]; rfl
    have a2 : holdH T W H ⟨hs, ht, hx⟩ = H := by unfold holdH; rw [hoff]; rfl
    have a3 : holdW T W H Wt ⟨hs, ht, hx⟩ = Wt := by unfold holdW; rw [hoff]; rfl
    exact ⟨l.kp _, 2, rfl, a1.symm, by rw [a2, a3]; exact q.mono l⟩
  cases t1 with
  | false =>
    have hoff : holdOn T W hs ht = false := by unfold holdOn; rw [← ht1]; rfl
    have hfin := none2 l05 hoff
    cbv
    rw [hnot0]
    cbv
    exact hfin
  | true =>
    cbv
    rw [hnot1]
    cbv
    refine ldb (l5 _ _ g4) rfl rfl ?_
    cbv
    refine ldb (l5 _ _ g6) rfl rfl ?_
    cbv
    refine (table46 (q4.mono l5) ht).mono (fun v h6 hR => ?_)
    obtain ⟨l6, z2, t2, rfl, hb2⟩ := hR
    obtain ⟨hz2, ht2⟩ := hb2.at_
    have ht2 : t2 = bsB (tabCmps T ht) := ht2
    have l06 := l05.trans l6
    have l46 := l5.trans l6
    cases t2 with
    | false =>
      have hoff : holdOn T W hs ht = false := by unfold holdOn; rw [← ht1, ← ht2]; rfl
      have hfin := none2 l06 hoff
      cbv
      rw [hnot0]
      cbv
      exact hfin
    | true =>
      have hon : holdOn T W hs ht = true := by unfold holdOn; rw [← ht1, ← ht2]; rfl
      have a1 : holdE T W H ⟨hs, ht, hx⟩ = if askFree H ⟨hs, ht, hx⟩ = true then 0 else 16 := by unfold holdE; rw [hon]; rfl
      have a2 : holdH T W H ⟨hs, ht, hx⟩ = askH H ⟨hs, ht, hx⟩ := by unfold holdH; rw [hon]; rfl
      have a3 : holdW T W H Wt ⟨hs, ht, hx⟩ = askW H Wt ⟨hs, ht, hx⟩ := by unfold holdW; rw [hon]; rfl
      rw [a1, a2, a3]
      cbv
      rw [hnot1]
      cbv
      refine LoopX.go (G := Unit) (fun _ => []) (fun _ => []) (fun n g h' => h' = h6) 0 () ⟨?_, ?_, ?_⟩ rfl ?_
      · cbv
      · cbv
      · cbv
      · intro n g h' hI
        cbv
        subst hI
        refine (hold115 (hd := ⟨hs, ht, hx⟩) (q4.mono l46) (l46 _ _ g4) (l46 _ _ g5) (l46 _ _ g6) (l46 _ _ g7) (by omega) (by omega)).mono (fun v h7 hR => ?_)
        obtain ⟨k7, t, rfl, et, q7⟩ := hR
        have k07 : Kp [c] h h7 := (l06.kp _).trans k7
        cases t with
        | true =>
          cbv
          rw [hnot1]
          cbv
          exact ⟨k07, 0, rfl, by rw [← et]; rfl, q7⟩
        | false =>
          have hne : ∀ p, h p = none → p ≠ c := fun p hp e => by
            obtain ⟨n1, n2, b3, n3, c3, b4, n4, c4, o, g0, -⟩ := q.out
            rw [e, g0] at hp; cases hp
          have k4 := k7 _ _ (l46 _ _ g4) (by simpa using hne p4 hp4)
          have k5 := k7 _ _ (l46 _ _ g5) (by simpa using hne p5 (l1.none hp5))
          obtain ⟨n1, n2, b3, n3, c3, b4, n4, c4, o, f0, f1, f2, f3, f4, f5, f6, f7⟩ := q7.out
          have hvv := hv et.symm
          have hl1 := askH_len (H := H) (hd := ⟨hs, ht, hx⟩)
          have hl2 := askW_len (H := H) (W := Wt) (hd := ⟨hs, ht, hx⟩)
          have hf6 := f6.len
          have hf7 := f7.len
          cbv
          rw [hnot0]
          cbv
          refine ldb k4 rfl rfl ?_
          cbv
          rw [offm A]
          rw [offm A]
          refine ldb f0 rfl rfl ?_
          cbv
          refine ldb k5 rfl rfl ?_
          cbv
          refine (victim117 f6 f7 (by omega) (by omega) hs).mono (fun v h8 hR => ?_)
          obtain ⟨l8, zv, tv, rfl, hvic⟩ := hR
          have htv := hvic.eq.2
          rw [hvv] at htv
          subst htv
          cbv
          rw [hnot0]
          cbv
          exact ⟨k07.trans (l8.kp _), 16, rfl, by rw [← et]; rfl, q7.mono l8⟩
end Go.S

set_option maxRecDepth 100000
set_option linter.unusedVariables false
set_option linter.unusedSimpArgs false
namespace Go.S
open Go.Sx Go.Proofs

def noName : ByteArray := ⟨#[]⟩
def doPut (r : Row) (t : Tbl) : Tbl × Chg × Int := ((tblPut t r).1, ⟨noName, 1, r⟩, (tblPut t r).2)
def doTake (k : Val) (t : Tbl) : Tbl × Chg × Int := if t.S.only = true then (t, ⟨noName, 0, []⟩, 19) else ((tblTake t k).1, ⟨noName, 2, (tblTake t k).2.1⟩, (tblTake t k).2.2)

theorem put55 {nm : ByteArray} {cols : List Col} {key : Int} {only : Bool} {rows : List Row} {r : Row} {h : Heap} {sb b4 b : Option Addr} {sn sc n4 c4 n c rb : Nat} (qs : Sl 104 shCol h (.slice sb sn sc) cols) (q4 : Sl 63 shRow h (.slice b4 n4 c4) rows)
    (gr : h rb = some (.cells #[.slice b n c] 63 (0, 0))) (q : Sl 68 shVal h (.slice b n c) r) (hn : n4 ≤ 2 ^ 37) :
    Ct 55 [.agg #[.string nm, .slice sb sn sc, .int .i64 key, .bool only, .slice b4 n4 c4], .pointer (some ⟨rb, 0, none⟩)] h (fun v h' => Le h h' ∧ ∃ b1 n1 k1 b2 n2 k2 b3 n3 k3 e T C, v = .tuple #[.agg #[.string nm, .slice b1 n1 k1, .int .i64 key, .bool only, .slice b2 n2 k2], .agg #[.string noName, .int .i64 C.op, .slice b3 n3 k3], .int .i64 e] ∧
      Sl 104 shCol h' (.slice b1 n1 k1) cols ∧ Sl 63 shRow h' (.slice b2 n2 k2) T ∧ Sl 68 shVal h' (.slice b3 n3 k3) C.row ∧ (⟨⟨⟨nm, cols, key, only⟩, T⟩, C, e⟩ : Tbl × Chg × Int) = doPut r ⟨⟨nm, cols, key, only⟩, rows⟩) := by
  obtain ⟨A, hA⟩ := Ar.ex
  refine fn_of_sx A (tabOk T55.plan T55.pub) Tryz.func55 rfl (by kernel_rfl) ?_
  cbv
  refine ldb gr rfl rfl ?_
  cbv
  refine (put56 (nm := nm) (key := key) (only := only) qs q4 q hn).mono (fun v h1 hR => ?_)
  obtain ⟨l1, b1, n1, k1, b2, n2, k2, e, T, rfl, r1, r2, r3⟩ := hR
  cbv
  refine ldb (l1 _ _ gr) rfl rfl ?_
  cbv
  refine (own57 (q.mono (l1.t _))).mono (fun v h2 hR => ?_)
  obtain ⟨l2, b3, k3, rfl, r4⟩ := hR
  cbv
  exact ⟨l1.trans l2, _, _, _, _, _, _, _, _, _, e, T, ⟨noName, 1, r⟩, rfl, r1.mono (l2.t _), r2.mono (l2.t _), r4, by unfold doPut; rw [← r3]⟩

theorem take59 {nm : ByteArray} {cols : List Col} {key : Int} {only : Bool} {rows : List Row} {h : Heap} {sb b4 : Option Addr} {sn sc n4 c4 rb : Nat} (qs : Sl 104 shCol h (.slice sb sn sc) cols) (q4 : Sl 63 shRow h (.slice b4 n4 c4) rows) {kv : Val}
    (gr : h rb = some (.cells #[.int .i64 kv.k, .int .i64 kv.n, .string kv.s] 68 (0, 0))) (hn : n4 ≤ 2 ^ 37) :
    Ct 59 [.agg #[.string nm, .slice sb sn sc, .int .i64 key, .bool only, .slice b4 n4 c4], .pointer (some ⟨rb, 0, none⟩)] h (fun v h' => Le h h' ∧ ∃ b1 n1 k1 b2 n2 k2 b3 n3 k3 e T C, v = .tuple #[.agg #[.string nm, .slice b1 n1 k1, .int .i64 key, .bool only, .slice b2 n2 k2], .agg #[.string noName, .int .i64 C.op, .slice b3 n3 k3], .int .i64 e] ∧
      Sl 104 shCol h' (.slice b1 n1 k1) cols ∧ Sl 63 shRow h' (.slice b2 n2 k2) T ∧ Sl 68 shVal h' (.slice b3 n3 k3) C.row ∧ (⟨⟨⟨nm, cols, key, only⟩, T⟩, C, e⟩ : Tbl × Chg × Int) = doTake kv ⟨⟨nm, cols, key, only⟩, rows⟩) := by
  obtain ⟨A, hA⟩ := Ar.ex
  generalize hD : doTake kv ⟨⟨nm, cols, key, only⟩, rows⟩ = D
  refine fn_of_sx A (tabOk T59.plan T59.pub) Tryz.func59 rfl (by kernel_rfl) ?_
  cases only with
  | true =>
    cbv
    exact ⟨Le.refl _, _, _, _, _, _, _, _, _, _, 19, rows, ⟨noName, 0, []⟩, rfl, qs, q4, Sl.nil, by rw [← hD]; rfl⟩
  | false =>
    cbv
    refine ldb gr rfl rfl ?_
    cbv
    refine (take60 (nm := nm) (key := key) (only := false) qs q4 hn kv).mono (fun v h1 hR => ?_)
    obtain ⟨l1, b1, n1, k1, b2, n2, k2, b3, n3, k3, e, T, R, hv, r1, r2, r3, r4⟩ := hR
    rw [hv]
    cbv
    exact ⟨l1, _, _, _, _, _, _, _, _, _, e, T, ⟨noName, 2, R⟩, rfl, r1, r2, r3, by rw [← hD]; unfold doTake; rw [← r4]; rfl⟩

theorem put55e {nm : ByteArray} {cols : List Col} {key : Int} {only : Bool} {rows : List Row} {r : Row} {h : Heap} {sb b4 b : Option Addr} {sn sc n4 c4 n c rb : Nat} (qs : Sl 104 shCol h (.slice sb sn sc) cols) (q4 : Sl 63 shRow h (.slice b4 n4 c4) rows)
    (gr : h rb = some (.cells #[.slice b n c] 63 (0, 0))) (q : Sl 68 shVal h (.slice b n c) r) (hn : n4 ≤ 2 ^ 37) {k : Value → Heap → Prop}
    (hk : ∀ h' b1 n1 k1 b2 n2 k2 b3 n3 k3 e T C, Le h h' → Sl 104 shCol h' (.slice b1 n1 k1) cols → Sl 63 shRow h' (.slice b2 n2 k2) T → Sl 68 shVal h' (.slice b3 n3 k3) C.row → (⟨⟨⟨nm, cols, key, only⟩, T⟩, C, e⟩ : Tbl × Chg × Int) = doPut r ⟨⟨nm, cols, key, only⟩, rows⟩ →
      k (.tuple #[.agg #[.string nm, .slice b1 n1 k1, .int .i64 key, .bool only, .slice b2 n2 k2], .agg #[.string noName, .int .i64 C.op, .slice b3 n3 k3], .int .i64 e]) h') :
    Ct 55 [.agg #[.string nm, .slice sb sn sc, .int .i64 key, .bool only, .slice b4 n4 c4], .pointer (some ⟨rb, 0, none⟩)] h k :=
  (put55 (nm := nm) (key := key) (only := only) qs q4 gr q hn).mono (fun v h' hR => by
    obtain ⟨l, b1, n1, k1, b2, n2, k2, b3, n3, k3, e, T, C, hv, r1, r2, r3, r4⟩ := hR
    rw [hv]
    exact hk h' b1 n1 k1 b2 n2 k2 b3 n3 k3 e T C l r1 r2 r3 r4)

theorem take59e {nm : ByteArray} {cols : List Col} {key : Int} {only : Bool} {rows : List Row} {h : Heap} {sb b4 : Option Addr} {sn sc n4 c4 rb : Nat} (qs : Sl 104 shCol h (.slice sb sn sc) cols) (q4 : Sl 63 shRow h (.slice b4 n4 c4) rows) {kv : Val}
    (gr : h rb = some (.cells #[.int .i64 kv.k, .int .i64 kv.n, .string kv.s] 68 (0, 0))) (hn : n4 ≤ 2 ^ 37) {k : Value → Heap → Prop}
    (hk : ∀ h' b1 n1 k1 b2 n2 k2 b3 n3 k3 e T C, Le h h' → Sl 104 shCol h' (.slice b1 n1 k1) cols → Sl 63 shRow h' (.slice b2 n2 k2) T → Sl 68 shVal h' (.slice b3 n3 k3) C.row → (⟨⟨⟨nm, cols, key, only⟩, T⟩, C, e⟩ : Tbl × Chg × Int) = doTake kv ⟨⟨nm, cols, key, only⟩, rows⟩ →
      k (.tuple #[.agg #[.string nm, .slice b1 n1 k1, .int .i64 key, .bool only, .slice b2 n2 k2], .agg #[.string noName, .int .i64 C.op, .slice b3 n3 k3], .int .i64 e]) h') :
    Ct 59 [.agg #[.string nm, .slice sb sn sc, .int .i64 key, .bool only, .slice b4 n4 c4], .pointer (some ⟨rb, 0, none⟩)] h k :=
  (take59 (nm := nm) (key := key) (only := only) qs q4 gr hn).mono (fun v h' hR => by
    obtain ⟨l, b1, n1, k1, b2, n2, k2, b3, n3, k3, e, T, C, hv, r1, r2, r3, r4⟩ := hR
    rw [hv]
    exact hk h' b1 n1 k1 b2 n2 k2 b3 n3 k3 e T C l r1 r2 r3 r4)
end Go.S

