import Derived.Test.YtnfijhlegoagjaaGreatLB
import Derived.Test.YtnfijhlegoagjaaGreatJ1
import Derived.Test.YtnfijhlegoagjaaGreatI1
set_option linter.unusedVariables false
set_option linter.unusedSimpArgs false
set_option linter.unusedSectionVars false
set_option maxRecDepth 100000
set_option maxHeartbeats 8000000
set_option linter.unusedVariables false
set_option linter.unusedSimpArgs false
namespace Go.S
open Go.Sx Go.Proofs
/-- Two lists of numbers, each in a block of its own. -/
structure Q2 (h0 h : Heap) (sb : Option Addr) (sl sc : Nat) (tb : Option Addr) (tl tc : Nat) (seen todo : List Int) (p : Nat) : Prop where
  le : Le h0 h
  seen : Buf 3 shInt h0 h (.slice sb sl sc) seen
  todo : BufT 3 shInt h0 h (.slice tb tl tc) todo p
  sal : ∀ a, sb = some a → h a.block ≠ none
  tal : ∀ a, tb = some a → h a.block ≠ none
  dj : ∀ a a', sb = some a → tb = some a' → a.block ≠ a'.block
theorem Q2.mono {h0 h h' : Heap} {sb tb : Option Addr} {sl sc tl tc p : Nat} {seen todo : List Int} (q : Q2 h0 h sb sl sc tb tl tc seen todo p) (l : Le h h') : Q2 h0 h' sb sl sc tb tl tc seen todo p :=
  ⟨q.le.trans l, q.seen.mono (l.t _), q.todo.mono (l.t _), fun a ha hn => q.sal a ha (l.none hn), fun a ha hn => q.tal a ha (l.none hn), q.dj⟩
theorem own_at {h h' : Heap} {nb cap : Nat} {xs : List Int} (o : Own 3 shInt h nb cap xs) (k : ∀ o, h nb = some o → h' nb = some o) : Own 3 shInt h' nb cap xs := by
  obtain ⟨c, h1, h2, h3⟩ := o.out
  exact ⟨⟨c, k _ h1, h2.mono (fun _ _ _ _ m => by cases m), h3⟩, o.le, o.bd⟩
theorem own_some {h : Heap} {nb cap : Nat} {xs : List Int} (o : Own 3 shInt h nb cap xs) : h nb ≠ none := by
  obtain ⟨c, h1, h2, h3⟩ := o.out
  rw [h1]; exact fun h => by cases h
theorem buf_at {h0 h h' : Heap} {b : Option Addr} {l c : Nat} {xs : List Int} (q : Buf 3 shInt h0 h (.slice b l c) xs) (k : ∀ a o, b = some a → h a.block = some o → h' a.block = some o) : Buf 3 shInt h0 h' (.slice b l c) xs := by
  rcases q.out with g | ⟨nb, cap, g1, g2, o⟩
  · exact ⟨.inl g⟩
  · cases g1
    exact ⟨.inr ⟨nb, c, rfl, g2, own_at o (fun o => k _ o rfl)⟩⟩
theorem bufT_at {h0 h h' : Heap} {b : Option Addr} {l c p : Nat} {xs : List Int} (q : BufT 3 shInt h0 h (.slice b l c) xs p) (k : ∀ a o, b = some a → h a.block = some o → h' a.block = some o) : BufT 3 shInt h0 h' (.slice b l c) xs p := by
  rcases q.out with g | ⟨nb, cap, pre, g1, g2, o, hp⟩
  · exact ⟨.inl g⟩
  · cases g1
    exact ⟨.inr ⟨nb, cap, pre, rfl, g2, own_at o (fun o => k _ o rfl), hp⟩⟩
theorem buf_there {h0 h : Heap} {b : Option Addr} {l c : Nat} {xs : List Int} (q : Buf 3 shInt h0 h (.slice b l c) xs) (hl : l ≠ 0) : ∀ a, b = some a → h a.block ≠ none := fun a ha => by
  rcases q.out with ⟨b0, g1, g2⟩ | ⟨nb, cap, g1, g2, o⟩
  · cases g1; exact absurd rfl hl
  · cases g1; cases ha; exact own_some o
theorem bufT_there {h0 h : Heap} {b : Option Addr} {l c p : Nat} {xs : List Int} (q : BufT 3 shInt h0 h (.slice b l c) xs p) (hl : l ≠ 0) : ∀ a, b = some a → h a.block ≠ none := fun a ha => by
  rcases q.out with ⟨b0, g1, g2⟩ | ⟨nb, cap, pre, g1, g2, o, hp⟩
  · cases g1; exact absurd rfl hl
  · cases g1; cases ha; exact own_some o
theorem Q2.addSeen {h0 h : Heap} {sb tb x : Option Addr} {sl sc tl tc p cx : Nat} {seen todo : List Int} {w : Int} (q : Q2 h0 h sb sl sc tb tl tc seen todo p) (qv : Sl 3 shInt h (.slice x 1 cx) [w]) {size bytes : Nat} (hsz : size = 1) (hby : bytes ≤ 128) (hn : sl + 1 ≤ 2 ^ 39)
    {k : Value → Heap → Prop} (hk : ∀ m b' c' h', m = sl + 1 → Q2 h0 h' b' m c' tb tl tc (seen ++ [w]) todo p → k (.slice b' m c') h') : AppendX h sb sl sc x 1 size bytes 3 k := by
  refine q.seen.appendK qv (by decide) hsz hby hn q.le (fun m b' c' h' em l keep hb hb' => ?_)
  have ft : ∀ a o, tb = some a → h a.block = some o → h' a.block = some o := fun a o ha ho => keep a.block o ho (fun e => q.dj _ _ e ha rfl)
  refine hk m b' c' h' em ⟨l, hb, bufT_at q.todo ft, buf_there hb (by omega), fun a ha hnn => ?_, fun a a' ha ha' he => ?_⟩
  · have := q.tal a ha
    cases ho : h a.block with
    | none => exact this ho
    | some o => rw [ft a o ha ho] at hnn; cases hnn
  · rcases hb.out with ⟨b0, g1, g2⟩ | ⟨nb, cap, g1, g2, o⟩
    · cases g1; omega
    · cases g1; cases ha
      rcases hb' nb rfl with h1 | h1 | h1
      · exact q.dj _ _ h1 ha' he
      · exact q.tal a' ha' (he ▸ h1)
      · omega
theorem Q2.addTodo {h0 h : Heap} {sb tb x : Option Addr} {sl sc tl tc p cx : Nat} {seen todo : List Int} {w : Int} (q : Q2 h0 h sb sl sc tb tl tc seen todo p) (qv : Sl 3 shInt h (.slice x 1 cx) [w]) {size bytes : Nat} (hsz : size = 1) (hby : bytes ≤ 128) (hn : tl + 1 ≤ 2 ^ 39) (hp : p + 1 ≤ 2 ^ 40) (hlp : tl ≤ p)
    {k : Value → Heap → Prop} (hk : ∀ m b' c' h', m = tl + 1 → Q2 h0 h' sb sl sc b' m c' seen (todo ++ [w]) (p + 1) → k (.slice b' m c') h') : AppendX h tb tl tc x 1 size bytes 3 k := by
  refine q.todo.appendK qv (by decide) hsz hby hn hp hlp q.le (fun m b' c' h' em l keep hb hb' => ?_)
  have ft : ∀ a o, sb = some a → h a.block = some o → h' a.block = some o := fun a o ha ho => keep a.block o ho (fun a' e he => q.dj _ _ ha e he.symm)
  refine hk m b' c' h' em ⟨l, buf_at q.seen ft, hb, fun a ha hnn => ?_, bufT_there hb (by omega), fun a a' ha ha' he => ?_⟩
  · have := q.sal a ha
    cases ho : h a.block with
    | none => exact this ho
    | some o => rw [ft a o ha ho] at hnn; cases hnn
  · rcases hb' a' ha' with ⟨a2, h1, h2⟩ | h1 | h1
    · exact q.dj _ _ ha h1 (by rw [he, h2])
    · exact q.sal a ha (by rw [he]; exact h1)
    · omega
theorem cut_block {A : Ar} [hA : ArOk A] {b : Option Addr} {z m : Int} {n : Nat} {a : Addr} (h : A .cut b z m n = some a) : ∃ a', b = some a' ∧ a'.block = a.block := by
  rw [hA.cut] at h
  simp only at h
  split at h
  · exact ⟨a, h, rfl⟩
  · cases b with
    | none => cases h
    | some a' =>
      cases h
      refine ⟨a', rfl, ?_⟩
      unfold Addr.add
      split <;> rfl
theorem Q2.tail {A : Ar} [hA : ArOk A] {h0 h : Heap} {sb tb : Option Addr} {sl sc tl tc p : Nat} {seen todo : List Int} {x : Int} (q : Q2 h0 h sb sl sc tb tl tc seen (x :: todo) p) {z : Int} (hz : IsN z 1) {m c' : Nat} (hm : m = tl - 1) (hc : c' = tc - 1) :
    Q2 h0 h sb sl sc (A .cut tb z (A .nat tc) 1) m c' seen todo p := by
  refine ⟨q.le, q.seen, q.todo.tail (A := A) (s := shInt) hz hm hc, q.sal, fun a ha => ?_, fun a a' ha ha' => ?_⟩
  · obtain ⟨a', h1, h2⟩ := cut_block ha
    rw [← h2]; exact q.tal a' h1
  · obtain ⟨a2, h1, h2⟩ := cut_block ha'
    rw [← h2]; exact q.dj a a2 ha h1
end Go.S

set_option maxRecDepth 100000
set_option maxHeartbeats 8000000
set_option linter.unusedVariables false
set_option linter.unusedSimpArgs false
namespace Go.S
open Go.Sx Go.Proofs
structure Fx (E : List (Int × Int)) (M : Nat) (st : List Int × List Int) (p : Nat) : Prop where
  fm : pot E st.1 + st.2.length ≤ M
  fp : p + pot E st.1 ≤ E.length + 1
  ft : st.2.length ≤ p
  fs : st.1.length + pot E st.1 ≤ E.length
theorem Fx.add {E : List (Int × Int)} {M p : Nat} {st : List Int × List Int} (q : Fx E M st p) {w a : Int} (hn : w ∉ st.1) (hs : w ∈ succs E a) : Fx E M (st.1 ++ [w], st.2 ++ [w]) (p + 1) := by
  have h := pot_add hn hs
  have h1 := q.fm
  have h2 := q.fp
  have h3 := q.ft
  have h4 := q.fs
  constructor <;> simp only [List.length_append, List.length_singleton] <;> omega
theorem bfs_nil (E : List (Int × Int)) (n : Nat) (seen : List Int) : bfs E n (seen, []) = seen := by cases n <;> rfl
theorem sucW_mem {H W : List Hld} {a : Int} {w x : Hld} (hw : w ∈ W) (hx : x ∈ H) (ha : agst w x = true) (hs : w.s = a) : x.s ∈ succs (edges H W) a := by
  rw [succs_edges]
  refine List.mem_flatMap.2 ⟨w, hw, ?_⟩
  unfold sucW
  rw [if_pos hs]
  exact List.mem_map.2 ⟨x, List.mem_filter.2 ⟨hx, ha⟩, rfl⟩
theorem from166 {H W : List Hld} {h : Heap} {b1 b2 : Option Addr} {n1 c1 n2 c2 : Nat} (q1 : Sl 209 shHld h (.slice b1 n1 c1) H) (q2 : Sl 209 shHld h (.slice b2 n2 c2) W) (hn1 : n1 ≤ 2 ^ 18) (hn2 : n2 ≤ 2 ^ 18) (s : Int) {k : Value → Heap → Prop}
    (hk : ∀ h' b n c, Le h h' → Sl 3 shInt h' (.slice b n c) (over (edges H W) s) → k (.slice b n c) h') :
    Ct 166 [.agg #[.slice b1 n1 c1, .slice b2 n2 c2], .int .i64 s] h k := by
  obtain ⟨A, hA⟩ := Ar.ex
  have hl1 := q1.len
  have hl2 := q2.len
  obtain ⟨E, hEe⟩ : ∃ E, edges H W = E := ⟨_, rfl⟩
  have hE : E.length ≤ 2 ^ 37 := by
    have := edges_len H W
    have := small_mul (show W.length ≤ 2 ^ 18 by omega) (show H.length ≤ 2 ^ 18 by omega)
    rw [← hEe]; omega
  have hmem : ∀ (a : Int) (w x : Hld) (i j : Nat), W[i]? = some w → H[j]? = some x → agst w x = true → w.s = a → x.s ∈ succs E a := fun a w x i j hw hx ha hs => by
    rw [← hEe]; exact sucW_mem (List.mem_of_getElem? hw) (List.mem_of_getElem? hx) ha hs
  have hsuc : ∀ a, succs E a = W.flatMap (sucW H a) := fun a => by rw [← hEe]; exact succs_edges H a W
  rw [hEe] at hk
  have hpot : pot E [] = E.length := by simp [pot]
  obtain ⟨I1, hI1⟩ : ∃ I1 : Nat → (Option Addr × Nat × Nat) × (Option Addr × Nat × Nat) → Heap → Prop, ∀ m g h', I1 m g h' = ∃ seen todo n p, Q2 h h' g.1.1 g.1.2.1 g.1.2.2 g.2.1 g.2.2.1 g.2.2.2 seen todo p ∧ m = pot E seen + todo.length ∧ m ≤ n ∧ bfs E n (seen, todo) = over E s ∧ p + pot E seen ≤ E.length + 1 ∧ todo.length ≤ p ∧ seen.length + pot E seen ≤ E.length := ⟨_, fun _ _ _ => rfl⟩
  refine fn_of_sx A (tabOk T166.plan T166.pub) Tryz.func166 rfl (by kernel_rfl) ?_
  cbv
  intro nb h2 hnb e2
  have l2 : Le h h2 := by rw [e2]; exact Le.set hnb
  have g2 := (congrFun e2 nb).trans hset_self
  have hb2 : BufT 3 shInt h h2 (.slice (some ⟨nb, 0, none⟩) 1 1) [s] 1 := ((one_own (s := shInt) g2 (x := s) rfl).buf hnb rfl).t (by simp)
  have hq0 : Q2 h h2 none 0 0 (some ⟨nb, 0, none⟩) 1 1 [] [s] 1 := ⟨l2, Buf.nil, hb2, (fun a ha => by cases ha), bufT_there hb2 (by omega), (fun a a' ha => by cases ha)⟩
  have hJ0 : I1 (E.length + 1) ((none, 0, 0), (some ⟨nb, 0, none⟩, 1, 1)) h2 := by
    rw [hI1]
    exact ⟨[], [s], E.length + 2, 1, hq0, by rw [hpot]; rfl, by omega, rfl, by rw [hpot]; omega, by simp, by rw [hpot]; simp⟩
  cbv
  refine LoopX.go (G := (Option Addr × Nat × Nat) × (Option Addr × Nat × Nat)) (fun g => [(5, .v (.slice g.1.1 g.1.2.1 g.1.2.2)), (6, .v (.slice g.2.1 g.2.2.1 g.2.2.2))]) (fun _ => [(2, [.slice b1 n1 c1, .slice b2 n2 c2])]) (fun m g h' => I1 m g h') (E.length + 1) ((none, 0, 0), (some ⟨nb, 0, none⟩, 1, 1)) ⟨?_, ?_, ?_⟩ hJ0 ?_
  · cbv
  · cbv
  · cbv
  · intro m g h' hI
    rw [hI1] at hI
    cbv
    obtain ⟨seen, todo, n, p, qq, hm, hmn, hbfs, hp, htp, hsp⟩ := hI
    obtain ⟨⟨sb, sl, sc⟩, ⟨tb, tl, tc⟩⟩ := g
    have qq : Q2 h h' sb sl sc tb tl tc seen todo p := qq
    have hgl : tl = todo.length := qq.todo.sl.len
    have f0 : A .icm .gtr (A .nat tl) 0 = decide (0 < tl) := by
      rw [icm_gtr A, hA.nat]
      simp only [Int.ofNat_eq_natCast]
      rw [decide_eq_decide]
      omega
    rw [f0]
    by_cases h0 : 0 < tl
    · cases todo with
      | nil => simp at hgl; omega
      | cons a r =>
        have hck : tb.isSome = true ∧ (0 : Int) ≤ 0 ∧ (0 : Int) < (tl : Int) := ⟨qq.todo.sl.isSm (by omega), by omega, by omega⟩
        have h1N : IsN (1 : Int) 1 := ⟨rfl⟩
        have hck1 : (0 : Int) ≤ 1 ∧ (1 : Int) ≤ (tl : Int) := by omega
        have qt := qq.tail (A := A) h1N (dif_nz (A := A) (n := tl) h1N) (dif_nz (A := A) (n := tc) h1N)
        rw [decide_eq_true h0]
        cbv
        refine ⟨hck, ?_⟩
        cbv
        refine qq.todo.sl.load (i := 0) (x := a) rfl (n := 0) rfl (fun cs hcs => ?_)
        have hcs : cs = [.int .i64 a] := hcs
        subst hcs
        cbv
        refine ⟨hck1, ?_⟩
        have hbfs' : ∃ n', n = n' + 1 ∧ bfs E n' ((succs E a).foldl bfsAdd (seen, r)) = over E s := by
          simp only [List.length_cons] at hm
          obtain ⟨n', hn'⟩ : ∃ n', n = n' + 1 := ⟨n - 1, by omega⟩
          subst hn'
          exact ⟨n', rfl, hbfs⟩
        obtain ⟨n', rfl, hbfs'⟩ := hbfs'
        rw [hsuc a] at hbfs'
        obtain ⟨M, hM⟩ : ∃ M, M = pot E seen + r.length := ⟨_, rfl⟩
        have hfx0 : Fx E M (seen, r) p := ⟨by rw [hM]; exact Nat.le_refl _, hp, by simp only [List.length_cons] at htp; simp only; omega, hsp⟩
        have hMm : M < m := by simp only [List.length_cons] at hm; omega
        have hMn : M ≤ n' := by omega
        have hE2 : M ≤ E.length := by simp only [List.length_cons] at htp; omega
        obtain ⟨st0, hst0⟩ : ∃ st0, st0 = (seen, r) := ⟨_, rfl⟩
        have qt : Q2 h h' sb sl sc (A .cut tb 1 (A .nat tc) 1) (A .dif (A .nat tl) 1) (A .dif (A .nat tc) 1) st0.1 st0.2 p := by rw [hst0]; exact qt
        rw [← hst0] at hfx0 hbfs'
        clear hbfs hp htp hsp hm hmn hgl hck hck1 hst0 hM h1N qq f0
        obtain ⟨I2, hI2⟩ : ∃ I2 : Nat → Int × (Option Addr × Nat × Nat) × (Option Addr × Nat × Nat) → Heap → Prop, ∀ m g h4, I2 m g h4 = ∃ (i p : Nat) (st : List Int × List Int), IsN g.1 i ∧ m = n2 - i ∧ i ≤ n2 ∧ st = ((W.take i).flatMap (sucW H a)).foldl bfsAdd st0 ∧ Q2 h h4 g.2.1.1 g.2.1.2.1 g.2.1.2.2 g.2.2.1 g.2.2.2.1 g.2.2.2.2 st.1 st.2 p ∧ Fx E M st p := ⟨_, fun _ _ _ => rfl⟩
        have hJ2 : I2 n2 (0, (sb, sl, sc), (A .cut tb 1 (A .nat tc) 1, A .dif (A .nat tl) 1, A .dif (A .nat tc) 1)) h' := by
          rw [hI2]
          exact ⟨0, p, st0, ⟨rfl⟩, rfl, by omega, by simp, qt, hfx0⟩
        cbv
        refine LoopX.go (G := Int × (Option Addr × Nat × Nat) × (Option Addr × Nat × Nat)) (fun g => [(8, .v (.int .i64 g.1)), (5, .v (.slice g.2.1.1 g.2.1.2.1 g.2.1.2.2)), (6, .v (.slice g.2.2.1 g.2.2.2.1 g.2.2.2.2))]) (fun _ => [(2, [.slice b1 n1 c1, .slice b2 n2 c2])]) (fun m g h' => I2 m g h') n2 (0, (sb, sl, sc), (A .cut tb 1 (A .nat tc) 1, A .dif (A .nat tl) 1, A .dif (A .nat tc) 1)) ⟨?_, ?_, ?_⟩ hJ2 ?_
        · cbv
        · cbv
        · cbv
        · intro m2 g h4 hI
          rw [hI2] at hI
          cbv
          obtain ⟨i, p, st, hz, hm2, hi, hst, qq, hfx⟩ := hI
          obtain ⟨z, ⟨sb, sl, sc⟩, ⟨tb, tl, tc⟩⟩ := g
          have hz : IsN z i := hz
          have qq : Q2 h h4 sb sl sc tb tl tc st.1 st.2 p := qq
          have f1 : A .icm .lss z (A .nat n2) = decide (i < n2) := hz.lt2 (IsN.nat n2)
          rw [f1]
          by_cases hlt : i < n2
          · obtain ⟨⟨ws, wt, wx⟩, hw⟩ := get_ex (xs := W) (i := i) (by omega)
            have hck : b2.isSome = true ∧ 0 ≤ z ∧ z < (n2 : Int) := ⟨q2.isSm (by omega), hz.ix hlt⟩
            have hze := hz.eq
            have hnx := hz.succ (A := A) (by omega)
            have fws : A .icm .eql ws a = decide (ws = a) := icm_eql A ..
            have hstn : ((W.take (i + 1)).flatMap (sucW H a)).foldl bfsAdd st0 = (sucW H a ⟨ws, wt, wx⟩).foldl bfsAdd st := by
              rw [List.take_add_one, hw, List.flatMap_append, List.foldl_append, ← hst]; simp
            have hmem' := hmem a ⟨ws, wt, wx⟩
            have hmem' : ∀ (x : Hld) (j : Nat), H[j]? = some x → agst ⟨ws, wt, wx⟩ x = true → ws = a → x.s ∈ succs E a := fun x j hx ha hs => hmem' x i j hw hx ha hs
            have hnil : ws ≠ a → ∀ l, sucW l a ⟨ws, wt, wx⟩ = [] := fun hne l => by unfold sucW; rw [if_neg hne]
            have htake : ws = a → ∀ (kk : Nat) (x : Hld), H[kk]? = some x → sucW (H.take (kk + 1)) a ⟨ws, wt, wx⟩ = sucW (H.take kk) a ⟨ws, wt, wx⟩ ++ if agst ⟨ws, wt, wx⟩ x = true then [x.s] else [] := fun e kk x hx => sucW_take H (w := ⟨ws, wt, wx⟩) e hx
            obtain ⟨I3, hI3⟩ : ∃ I3 : Nat → Int × (Option Addr × Nat × Nat) × (Option Addr × Nat × Nat) → Heap → Prop, ∀ m g h4, I3 m g h4 = ∃ (kk p : Nat) (st3 : List Int × List Int), IsN g.1 kk ∧ m = n1 - kk ∧ kk ≤ n1 ∧ st3 = (sucW (H.take kk) a ⟨ws, wt, wx⟩).foldl bfsAdd st ∧ Q2 h h4 g.2.1.1 g.2.1.2.1 g.2.1.2.2 g.2.2.1 g.2.2.2.1 g.2.2.2.2 st3.1 st3.2 p ∧ Fx E M st3 p := ⟨_, fun _ _ _ => rfl⟩
            have hJ3 : I3 n1 (0, (sb, sl, sc), (tb, tl, tc)) h4 := by
              rw [hI3]
              exact ⟨0, p, st, ⟨rfl⟩, rfl, by omega, by simp [sucW], qq, hfx⟩
            have hexit : ∀ st3, st3 = (sucW H a ⟨ws, wt, wx⟩).foldl bfsAdd st → ∀ h5 p sb sl sc tb tl tc, Q2 h h5 sb sl sc tb tl tc st3.1 st3.2 p → Fx E M st3 p → I2 (n2 - (i + 1)) (A .ari .add .i64 z 1, (sb, sl, sc), (tb, tl, tc)) h5 := fun st3 h3 h5 p sb sl sc tb tl tc h6 h7 => by
              rw [hI2]
              exact ⟨i + 1, p, st3, hnx, rfl, hlt, by rw [hstn, h3], h6, h7⟩
            have hm2' : n2 - (i + 1) < m2 := by omega
            clear hI2 hst hstn hJ2 hbfs' hfx qq hmem
            rw [decide_eq_true hlt]
            cbv
            refine LoopX.go (G := Int × (Option Addr × Nat × Nat) × (Option Addr × Nat × Nat)) (fun g => [(9, .v (.int .i64 g.1)), (5, .v (.slice g.2.1.1 g.2.1.2.1 g.2.1.2.2)), (6, .v (.slice g.2.2.1 g.2.2.2.1 g.2.2.2.2))]) (fun _ => [(2, [.slice b1 n1 c1, .slice b2 n2 c2])]) (fun m g h' => I3 m g h') n1 (0, (sb, sl, sc), (tb, tl, tc)) ⟨?_, ?_, ?_⟩ hJ3 ?_
            · cbv
            · cbv
            · cbv
            · intro m3 g h5 hI
              rw [hI3] at hI
              cbv
              obtain ⟨kk, p, st3, hz3, hm3, hk3, hst3, qq, hfx⟩ := hI
              obtain ⟨z3, ⟨sb, sl, sc⟩, ⟨tb, tl, tc⟩⟩ := g
              have hz3 : IsN z3 kk := hz3
              have qq : Q2 h h5 sb sl sc tb tl tc st3.1 st3.2 p := qq
              have f3 : A .icm .lss z3 (A .nat n1) = decide (kk < n1) := hz3.lt2 (IsN.nat n1)
              rw [f3]
              by_cases hlt3 : kk < n1
              · obtain ⟨⟨xs, xt, xx⟩, hx⟩ := get_ex (xs := H) (i := kk) (by omega)
                rw [decide_eq_true hlt3]
                cbv
                refine ⟨hck, ?_⟩
                cbv
                refine q2.mono (qq.le.t _) |>.loadF hw hze (o := 0) (m := 1) (by decide) (fun cs hcs => ?_)
                have hcs : cs = [.int .i64 ws, .string wt, .bool wx] := hcs
                subst hcs
                cbv
                rw [fws]
                have hck3 : b1.isSome = true ∧ 0 ≤ z3 ∧ z3 < (n1 : Int) := ⟨q1.isSm (by omega), hz3.ix hlt3⟩
                have hze3 := hz3.eq
                have hnx3 := hz3.succ (A := A) (by omega)
                by_cases hwa : ws = a
                · have ht3 := htake hwa kk ⟨xs, xt, xx⟩ hx
                  have hms := fun ha => hmem' ⟨xs, xt, xx⟩ kk hx ha hwa
                  have hms : agst ⟨ws, wt, wx⟩ ⟨xs, xt, xx⟩ = true → xs ∈ succs E a := hms
                  have hstay : (sucW (H.take (kk + 1)) a ⟨ws, wt, wx⟩ = sucW (H.take kk) a ⟨ws, wt, wx⟩ ∨ ∃ (_ : xs ∈ st3.1), sucW (H.take (kk + 1)) a ⟨ws, wt, wx⟩ = sucW (H.take kk) a ⟨ws, wt, wx⟩ ++ [xs]) → I3 (n1 - (kk + 1)) (A .ari .add .i64 z3 1, (sb, sl, sc), (tb, tl, tc)) h5 := fun hh => by
                    rw [hI3]
                    refine ⟨kk + 1, p, st3, hnx3, rfl, hlt3, ?_, qq, hfx⟩
                    rcases hh with hh | ⟨hin, hh⟩
                    · rw [hh, ← hst3]
                    · rw [hh, List.foldl_append, ← hst3]
                      simp only [List.foldl_cons, List.foldl_nil]
                      unfold bfsAdd
                      rw [if_pos (by simpa using hin)]
                  have hadd : xs ∉ st3.1 → sucW (H.take (kk + 1)) a ⟨ws, wt, wx⟩ = sucW (H.take kk) a ⟨ws, wt, wx⟩ ++ [xs] → ∀ h6 sb sl sc tb tl tc, Q2 h h6 sb sl sc tb tl tc (st3.1 ++ [xs]) (st3.2 ++ [xs]) (p + 1) → Fx E M (st3.1 ++ [xs], st3.2 ++ [xs]) (p + 1) → I3 (n1 - (kk + 1)) (A .ari .add .i64 z3 1, (sb, sl, sc), (tb, tl, tc)) h6 := fun hni hh h6 sb sl sc tb tl tc hq hf => by
                    rw [hI3]
                    refine ⟨kk + 1, p + 1, (st3.1 ++ [xs], st3.2 ++ [xs]), hnx3, rfl, hlt3, ?_, hq, hf⟩
                    rw [hh, List.foldl_append, ← hst3]
                    simp only [List.foldl_cons, List.foldl_nil]
                    unfold bfsAdd
                    rw [if_neg (by simpa using hni)]
                  have hm3' : n1 - (kk + 1) < m3 := by omega
                  have hsl := qq.seen.sl.len
                  have htl := qq.todo.sl.len
                  have hfs := hfx.fs
                  have hft := hfx.ft
                  have hfp := hfx.fp
                  clear hI3 hexit htake hst3 hnil hmem'
                  rw [decide_eq_true hwa]
                  cbv
                  refine ⟨hck3, ?_⟩
                  cbv
                  refine q1.mono (qq.le.t _) |>.loadF hx hze3 (o := 0) (m := 1) (by decide) (fun cs hcs => ?_)
                  have hcs : cs = [.int .i64 xs, .string xt, .bool xx] := hcs
                  subst hcs
                  cbv
                  refine ⟨hck, ?_⟩
                  cbv
                  refine q2.mono (qq.le.t _) |>.load hw hze (fun cs hcs => ?_)
                  have hcs : cs = [.int .i64 ws, .string wt, .bool wx] := hcs
                  subst hcs
                  cbv
                  refine ⟨hck3, ?_⟩
                  cbv
                  refine q1.mono (qq.le.t _) |>.load hx hze3 (fun cs hcs => ?_)
                  have hcs : cs = [.int .i64 xs, .string xt, .bool xx] := hcs
                  subst hcs
                  cbv
                  refine against164 ws xs wt xt wx xx (fun ta hta => ?_)
                  cases ta with
                  | false =>
                    rw [← hta] at ht3
                    simp only [Bool.false_eq_true, if_false, List.append_nil] at ht3
                    have hI := hstay (.inl ht3)
                    clear hstay hadd
                    cbv
                    refine ⟨n1 - (kk + 1), (_, (sb, sl, sc), (tb, tl, tc)), hm3', ⟨?_, ?_, ?_⟩, hI⟩
                    · cbv
                    · cbv
                    · cbv
                  | true =>
                    rw [← hta] at ht3
                    simp only [if_true] at ht3
                    have hms := hms hta.symm
                    cbv
                    refine in167 qq.seen.sl xs (fun tn htn => ?_)
                    cases tn with
                    | true =>
                      have hno : A .not true = false := by rw [hA.not]; rfl
                      have hI := hstay (.inr ⟨of_decide_eq_true htn.symm, ht3⟩)
                      clear hstay hadd
                      cbv
                      rw [hno]
                      cbv
                      refine ⟨n1 - (kk + 1), (_, (sb, sl, sc), (tb, tl, tc)), hm3', ⟨?_, ?_, ?_⟩, hI⟩
                      · cbv
                      · cbv
                      · cbv
                    | false =>
                      have hno : A .not false = true := by rw [hA.not]; rfl
                      have hni : xs ∉ st3.1 := of_decide_eq_false htn.symm
                      have hadd := hadd hni ht3
                      have hfx2 := hfx.add hni hms
                      clear hstay
                      cbv
                      rw [hno]
                      cbv
                      intro n6 h6 g6 e6
                      have l6 : Le h5 h6 := by rw [e6]; exact Le.set g6
                      have f6 := (congrFun e6 n6).trans hset_self
                      have v6 : Sl 3 shInt h6 (.slice (some ⟨n6, 0, none⟩) 1 1) [xs] := one_sl (s := shInt) f6 rfl
                      cbv
                      refine (qq.mono l6).addSeen v6 rfl (by decide) (by omega) (fun m7 b7 c7 h7 em7 q7 => ?_)
                      cbv
                      intro n8 h8 g8 e8
                      have l8 : Le h7 h8 := by rw [e8]; exact Le.set g8
                      have f8 := (congrFun e8 n8).trans hset_self
                      have v8 : Sl 3 shInt h8 (.slice (some ⟨n8, 0, none⟩) 1 1) [xs] := one_sl (s := shInt) f8 rfl
                      cbv
                      refine (q7.mono l8).addTodo v8 rfl (by decide) (by omega) (by omega) (by omega) (fun m9 b9 c9 h9 em9 q9 => ?_)
                      have hI := hadd h9 _ _ _ _ _ _ q9 hfx2
                      clear hadd
                      cbv
                      refine ⟨n1 - (kk + 1), (_, (b7, m7, c7), (b9, m9, c9)), hm3', ⟨?_, ?_, ?_⟩, hI⟩
                      · cbv
                      · cbv
                      · cbv
                · have hst3 : st3 = (sucW H a ⟨ws, wt, wx⟩).foldl bfsAdd st := by rw [hst3, hnil hwa, hnil hwa]
                  have hI := hexit st3 hst3 h5 p sb sl sc tb tl tc qq hfx
                  clear hI3 hexit
                  rw [decide_eq_false hwa]
                  cbv
                  refine ⟨n2 - (i + 1), (_, (sb, sl, sc), (tb, tl, tc)), hm2', ⟨?_, ?_, ?_⟩, hI⟩
                  · cbv
                  · cbv
                  · cbv
              · have hst3 : st3 = (sucW H a ⟨ws, wt, wx⟩).foldl bfsAdd st := by rw [hst3, List.take_of_length_le (by omega)]
                have hI := hexit st3 hst3 h5 p sb sl sc tb tl tc qq hfx
                clear hI3 hexit
                rw [decide_eq_false hlt3]
                cbv
                refine ⟨n2 - (i + 1), (_, (sb, sl, sc), (tb, tl, tc)), hm2', ⟨?_, ?_, ?_⟩, hI⟩
                · cbv
                · cbv
                · cbv
          · have hin : i = n2 := by omega
            have hst : st = (W.flatMap (sucW H a)).foldl bfsAdd st0 := by rw [hst, List.take_of_length_le (by omega)]
            rw [← hst] at hbfs'
            have hI : I1 (pot E st.1 + st.2.length) ((sb, sl, sc), (tb, tl, tc)) h4 := by
              rw [hI1]
              have := hfx.fm
              exact ⟨st.1, st.2, n', p, qq, rfl, by omega, hbfs', hfx.fp, hfx.ft, hfx.fs⟩
            have hml : pot E st.1 + st.2.length < m := by have := hfx.fm; omega
            clear hI1 hI2
            rw [decide_eq_false hlt]
            cbv
            refine ⟨pot E st.1 + st.2.length, ((sb, sl, sc), (tb, tl, tc)), hml, ⟨?_, ?_, ?_⟩, hI⟩
            · cbv
            · cbv
            · cbv
    · have ht : todo = [] := List.eq_nil_of_length_eq_zero (by omega)
      subst ht
      rw [bfs_nil] at hbfs
      have hfin := hk h' sb sl sc qq.le (by rw [← hbfs]; exact qq.seen.sl)
      rw [decide_eq_false h0]
      cbv
      exact hfin
end Go.S

set_option maxRecDepth 100000
set_option maxHeartbeats 8000000
set_option linter.unusedVariables false
set_option linter.unusedSimpArgs false
namespace Go.S
open Go.Sx Go.Proofs
theorem vicMax_take {E : List (Int × Int)} {s m : Int} {l : List Int} {i : Nat} {y : Int} (hy : l[i]? = some y) : vicMax E s (l.take (i + 1)) m = if decide (y > vicMax E s (l.take i) m) && decide (s ∈ over E y) then y else vicMax E s (l.take i) m := by
  unfold vicMax
  rw [List.take_add_one, hy, List.foldl_append]
  rfl
theorem victim128 {H W : List Hld} {h : Heap} {b1 b2 : Option Addr} {n1 c1 n2 c2 : Nat} (q1 : Sl 209 shHld h (.slice b1 n1 c1) H) (q2 : Sl 209 shHld h (.slice b2 n2 c2) W) (hn1 : n1 ≤ 2 ^ 18) (hn2 : n2 ≤ 2 ^ 18) (s : Int) {k : Value → Heap → Prop}
    (hk : ∀ h' v t, Le h h' → victim (edges H W) s = (v, t) → k (.tuple #[.int .i64 v, .bool t]) h') :
    Ct 128 [.agg #[.slice b1 n1 c1, .slice b2 n2 c2], .int .i64 s] h k := by
  obtain ⟨A, hA⟩ := Ar.ex
  obtain ⟨E, hEe⟩ : ∃ E, edges H W = E := ⟨_, rfl⟩
  rw [hEe] at hk
  refine fn_of_sx A (tabOk T128.plan T128.pub) Tryz.func128 rfl (by kernel_rfl) ?_
  cbv
  refine from166 q1 q2 hn1 hn2 s (fun h1 b n c l1 qv => ?_)
  rw [hEe] at qv
  obtain ⟨V, hV⟩ : ∃ V, over E s = V := ⟨_, rfl⟩
  have hvic : victim E s = if decide (s ∈ V) = true then (vicMax E s V s, true) else (0, false) := by unfold victim; rw [hV]
  rw [hV] at qv
  have hvl := qv.len
  have hvb := qv.bound
  cbv
  refine in167 qv s (fun t ht => ?_)
  cases t with
  | false =>
    have hno : A .not false = true := by rw [hA.not]; rfl
    have hv : victim E s = (0, false) := by rw [hvic, ← ht]; rfl
    have hfin := hk h1 0 false l1 hv
    cbv
    rw [hno]
    cbv
    exact hfin
  | true =>
    have hno : A .not true = false := by rw [hA.not]; rfl
    have hv : victim E s = (vicMax E s V s, true) := by rw [hvic, ← ht]; rfl
    obtain ⟨I, hI0⟩ : ∃ I : Nat → Int × Int → Heap → Prop, ∀ m g h', I m g h' = ∃ i : Nat, IsN g.1 i ∧ m = n - i ∧ i ≤ n ∧ Le h1 h' ∧ g.2 = vicMax E s (V.take i) s := ⟨_, fun _ _ _ => rfl⟩
    have hJ : I n (0, s) h1 := by rw [hI0]; exact ⟨0, ⟨rfl⟩, rfl, by omega, Le.refl _, rfl⟩
    cbv
    rw [hno]
    cbv
    refine LoopX.go (G := Int × Int) (fun g => [(8, .v (.int .i64 g.1)), (7, .v (.int .i64 g.2))]) (fun _ => [(2, [.slice b1 n1 c1, .slice b2 n2 c2])]) (fun m g h' => I m g h') n (0, s) ⟨?_, ?_, ?_⟩ hJ ?_
    · cbv
    · cbv
    · cbv
    · intro m g h' hI
      rw [hI0] at hI
      cbv
      obtain ⟨i, hz, hm, hi, hle, hg⟩ := hI
      obtain ⟨z, v⟩ := g
      have hz : IsN z i := hz
      have hg : v = vicMax E s (V.take i) s := hg
      have f1 : A .icm .lss z (A .nat n) = decide (i < n) := hz.lt2 (IsN.nat n)
      rw [f1]
      by_cases hlt : i < n
      · obtain ⟨y, hy⟩ := get_ex (xs := V) (i := i) (by omega)
        have hck : b.isSome = true ∧ 0 ≤ z ∧ z < (n : Int) := ⟨qv.isSm (by omega), hz.ix hlt⟩
        have hze := hz.eq
        have hnx := hz.succ (A := A) (by omega)
        have f2 : A .icm .gtr y v = decide (y > v) := icm_gtr A ..
        have hst := vicMax_take (E := E) (s := s) (m := s) hy
        rw [← hg] at hst
        have hI2 : ∀ v2 h2, Le h1 h2 → v2 = vicMax E s (V.take (i + 1)) s → I (n - (i + 1)) (A .ari .add .i64 z 1, v2) h2 := fun v2 h2 hl hh => by
          rw [hI0]; exact ⟨i + 1, hnx, rfl, hlt, hl, hh⟩
        have hm' : n - (i + 1) < m := by omega
        clear hI0 hg hvic
        rw [decide_eq_true hlt]
        cbv
        refine ⟨hck, ?_⟩
        cbv
        refine (qv.mono (hle.t _)).load hy hze (fun cs hcs => ?_)
        have hcs : cs = [.int .i64 y] := hcs
        subst hcs
        cbv
        rw [f2]
        by_cases hyv : y > v
        · rw [decide_eq_true hyv, Bool.true_and] at hst
          rw [decide_eq_true hyv]
          cbv
          refine ⟨hck, ?_⟩
          cbv
          refine (qv.mono (hle.t _)).load hy hze (fun cs hcs => ?_)
          have hcs : cs = [.int .i64 y] := hcs
          subst hcs
          cbv
          refine from166 (q1.mono ((l1.trans hle).t _)) (q2.mono ((l1.trans hle).t _)) hn1 hn2 y (fun h2 b2 n2 c2 l2 qv2 => ?_)
          rw [hEe] at qv2
          cbv
          refine in167 qv2 s (fun t2 ht2 => ?_)
          cases t2 with
          | true =>
            have hst : vicMax E s (V.take (i + 1)) s = y := by rw [hst, ← ht2]; rfl
            have hI := hI2 y h2 (hle.trans l2) hst.symm
            clear hI2
            cbv
            refine ⟨hck, ?_⟩
            cbv
            refine (qv.mono ((hle.trans l2).t _)).load hy hze (fun cs hcs => ?_)
            have hcs : cs = [.int .i64 y] := hcs
            subst hcs
            cbv
            refine ⟨n - (i + 1), (_, y), hm', ⟨?_, ?_, ?_⟩, hI⟩
            · cbv
            · cbv
            · cbv
          | false =>
            have hst : vicMax E s (V.take (i + 1)) s = v := by rw [hst, ← ht2]; rfl
            have hI := hI2 v h2 (hle.trans l2) hst.symm
            clear hI2
            cbv
            refine ⟨n - (i + 1), (_, v), hm', ⟨?_, ?_, ?_⟩, hI⟩
            · cbv
            · cbv
            · cbv
        · rw [decide_eq_false hyv, Bool.false_and] at hst
          have hst : vicMax E s (V.take (i + 1)) s = v := hst
          have hI := hI2 v h' hle hst.symm
          clear hI2
          rw [decide_eq_false hyv]
          cbv
          refine ⟨n - (i + 1), (_, v), hm', ⟨?_, ?_, ?_⟩, hI⟩
          · cbv
          · cbv
          · cbv
      · have hg : v = vicMax E s V s := by rw [hg, List.take_of_length_le (by omega)]
        rw [← hg] at hv
        have hfin := hk h' v true (l1.trans hle) hv
        rw [decide_eq_false hlt]
        cbv
        exact hfin
end Go.S

set_option maxRecDepth 100000
set_option maxHeartbeats 8000000
set_option linter.unusedVariables false
set_option linter.unusedSimpArgs false
namespace Go.S
open Go.Sx Go.Proofs
theorem rsame139 {cols : List Col} {nm : ByteArray} {key : Int} {only : Bool} {h : Heap} {b1 b2 : Option Addr} {n1 c1 n2 c2 : Nat} (q1 : Sl 104 shCol h (.slice b1 n1 c1) cols) (q2 : Sl 104 shCol h (.slice b2 n2 c2) cols) {k : Value → Heap → Prop} (hk : k (.bool true) h) :
    Ct 139 [.agg #[.string nm, .slice b1 n1 c1, .int .i64 key, .bool only], .agg #[.string nm, .slice b2 n2 c2, .int .i64 key, .bool only]] h k := by
  obtain ⟨A, hA⟩ := Ar.ex
  have hl1 := q1.len
  have hl2 := q2.len
  have hbd := q1.bound.1
  have nn1 : A .icm .neq (A .nat n1) (A .nat n2) = false := by rw [hl1, hl2, icm_neq A]; simp
  have sn : A .scm .neq nm nm = false := by rw [hA.scm]; simp [Go.Sx.scm]
  have inn : A .icm .neq key key = false := by rw [icm_neq A]; simp
  have bn : A .not (A .bcm .eql only only) = false := by rw [hA.bcm, hA.not]; cases only <;> rfl
  have ie : ∀ a : Int, A .icm .eql a a = true := fun a => by rw [icm_eql A]; simp
  have se : ∀ s : ByteArray, A .scm .eql s s = true := fun s => by rw [scm_eql A]; simp
  have be : ∀ x : Bool, A .bcm .eql x x = true := fun x => by rw [hA.bcm]; cases x <;> rfl
  have veq : ∀ (s : ByteArray) (a : Int) (b : Bool), A .not (A .and (A .scm .eql s s) (A .and (A .icm .eql a a) (A .and (A .bcm .eql b b) true))) = false := by
    intros
    simp only [ie, se, be]
    rw [hA.not, hA.and]; rfl
  refine fn_of_sx A (tabOk T139.plan T139.pub) Tryz.func139 rfl (by kernel_rfl) ?_
  cbv
  rw [sn]
  cbv
  rw [nn1]
  cbv
  rw [inn]
  cbv
  rw [bn]
  cbv
  refine LoopX.go (G := Int) (fun g => [(5, .v (.int .i64 g))]) (fun _ => [(2, [.string nm, .slice b1 n1 c1, .int .i64 key, .bool only]), (3, [.string nm, .slice b2 n2 c2, .int .i64 key, .bool only])]) (fun m g h' => h' = h ∧ ∃ i, IsN g i ∧ m = n1 - i ∧ i ≤ n1) n1 0 ⟨?_, ?_, ?_⟩ ⟨rfl, 0, ⟨rfl⟩, by omega, by omega⟩ ?_
  · cbv
  · cbv
  · cbv
  · intro m g h' hI
    cbv
    obtain ⟨rfl, i, hz, hm, hi⟩ := hI
    refine bsel_mk (fun hc => ?_) (fun hc => ?_)
    · have hlt := hz.lt hc
      clear hc
      have hze := hz.eq
      have hnx := hz.succ (A := A) (by omega)
      obtain ⟨⟨va, vb, vc⟩, hx⟩ := get_ex (xs := cols) (i := i) (by omega)
      have ck1 : b1.isSome = true ∧ 0 ≤ g ∧ g < (n1 : Int) := ⟨q1.isSm (by omega), hz.ix (by omega)⟩
      have ck2 : b2.isSome = true ∧ 0 ≤ g ∧ g < (n2 : Int) := ⟨q2.isSm (by omega), hz.ix (by omega)⟩
      cbv
      refine ⟨ck1, ?_⟩
      cbv
      refine q1.load hx hze (fun cs hcs => ?_)
      have hcs : cs = [.string va, .int .i64 vb, .bool vc] := hcs
      subst hcs
      cbv
      refine ⟨ck2, ?_⟩
      cbv
      refine q2.load hx hze (fun cs hcs => ?_)
      have hcs : cs = [.string va, .int .i64 vb, .bool vc] := hcs
      subst hcs
      cbv
      rw [veq]
      cbv
      refine ⟨n1 - (i + 1), _, by omega, ⟨?_, ?_, ?_⟩, rfl, i + 1, hnx, rfl, by omega⟩
      · cbv
      · cbv
      · cbv
    · cbv
      exact hk
theorem rsame92 {cols : List Col} {rows : List Row} {nm : ByteArray} {key : Int} {only : Bool} {h : Heap} {b1 b2 b3 b4 : Option Addr} {n1 c1 n2 c2 n3 c3 n4 c4 : Nat} (q1 : Sl 104 shCol h (.slice b1 n1 c1) cols) (q2 : Sl 104 shCol h (.slice b2 n2 c2) cols) (q3 : Sl 63 shRow h (.slice b3 n3 c3) rows) (q4 : Sl 63 shRow h (.slice b4 n4 c4) rows) {k : Value → Heap → Prop} (hk : k (.bool true) h) :
    Ct 92 [.agg #[.string nm, .slice b1 n1 c1, .int .i64 key, .bool only, .slice b3 n3 c3], .agg #[.string nm, .slice b2 n2 c2, .int .i64 key, .bool only, .slice b4 n4 c4]] h k := by
  obtain ⟨A, hA⟩ := Ar.ex
  have hl3 := q3.len
  have hl4 := q4.len
  have hbd := q3.bound.1
  have nn3 : A .icm .neq (A .nat n3) (A .nat n4) = false := by rw [hl3, hl4, icm_neq A]; simp
  have hnot1 : A .not true = false := by rw [hA.not]; rfl
  refine fn_of_sx A (tabOk T92.plan T92.pub) Tryz.func92 rfl (by kernel_rfl) ?_
  cbv
  refine rsame139 (cols := cols) q1 q2 ?_
  cbv
  rw [hnot1]
  cbv
  rw [nn3]
  cbv
  refine LoopX.go (G := Int) (fun g => [(5, .v (.int .i64 g))]) (fun _ => [(2, [.string nm, .slice b1 n1 c1, .int .i64 key, .bool only, .slice b3 n3 c3]), (3, [.string nm, .slice b2 n2 c2, .int .i64 key, .bool only, .slice b4 n4 c4])]) (fun m g h' => h' = h ∧ ∃ i, IsN g i ∧ m = n3 - i ∧ i ≤ n3) n3 0 ⟨?_, ?_, ?_⟩ ⟨rfl, 0, ⟨rfl⟩, by omega, by omega⟩ ?_
  · cbv
  · cbv
  · cbv
  · intro m g h' hI
    cbv
    obtain ⟨rfl, i, hz, hm, hi⟩ := hI
    refine bsel_mk (fun hc => ?_) (fun hc => ?_)
    · have hlt := hz.lt hc
      clear hc
      have hze := hz.eq
      have hnx := hz.succ (A := A) (by omega)
      obtain ⟨x, hx⟩ := get_ex (xs := rows) (i := i) (by omega)
      have ck1 : b3.isSome = true ∧ 0 ≤ g ∧ g < (n3 : Int) := ⟨q3.isSm (by omega), hz.ix (by omega)⟩
      have ck2 : b4.isSome = true ∧ 0 ≤ g ∧ g < (n4 : Int) := ⟨q4.isSm (by omega), hz.ix (by omega)⟩
      cbv
      refine ⟨ck1, ?_⟩
      cbv
      refine q3.load hx hze (fun cs hcs => ?_)
      obtain ⟨r1, rfl, s1⟩ := hcs
      obtain ⟨x1, x2, x3, rfl⟩ := s1.form
      cbv
      refine ⟨ck2, ?_⟩
      cbv
      refine q4.load hx hze (fun cs hcs => ?_)
      obtain ⟨r2, rfl, s2⟩ := hcs
      obtain ⟨y1, y2, y3, rfl⟩ := s2.form
      cbv
      refine samerow69 (xr := x) s1 s2 ?_
      cbv
      rw [hnot1]
      cbv
      refine ⟨n3 - (i + 1), _, by omega, ⟨?_, ?_, ?_⟩, rfl, i + 1, hnx, rfl, by omega⟩
      · cbv
      · cbv
      · cbv
    · cbv
      exact hk
end Go.S

set_option maxRecDepth 100000
set_option maxHeartbeats 8000000
set_option linter.unusedVariables false
set_option linter.unusedSimpArgs false
namespace Go.S
open Go.Sx Go.Proofs
theorem rsame91 {H W : List Hld} {h : Heap} {b1 b2 b3 b4 : Option Addr} {n1 c1 n2 c2 n3 c3 n4 c4 : Nat} (q1 : Sl 209 shHld h (.slice b1 n1 c1) H) (q2 : Sl 209 shHld h (.slice b2 n2 c2) H) (q3 : Sl 209 shHld h (.slice b3 n3 c3) W) (q4 : Sl 209 shHld h (.slice b4 n4 c4) W) {k : Value → Heap → Prop} (hk : k (.bool true) h) :
    Ct 91 [.agg #[.slice b1 n1 c1, .slice b3 n3 c3], .agg #[.slice b2 n2 c2, .slice b4 n4 c4]] h k := by
  obtain ⟨A, hA⟩ := Ar.ex
  have hl1 := q1.len
  have hl2 := q2.len
  have hl3 := q3.len
  have hl4 := q4.len
  have hbd := q1.bound.1
  have hbd3 := q3.bound.1
  have nn1 : A .icm .neq (A .nat n1) (A .nat n2) = false := by rw [hl1, hl2, icm_neq A]; simp
  have nn3 : A .icm .neq (A .nat n3) (A .nat n4) = false := by rw [hl3, hl4, icm_neq A]; simp
  have ie : ∀ a : Int, A .icm .eql a a = true := fun a => by rw [icm_eql A]; simp
  have se : ∀ s : ByteArray, A .scm .eql s s = true := fun s => by rw [scm_eql A]; simp
  have be : ∀ x : Bool, A .bcm .eql x x = true := fun x => by rw [hA.bcm]; cases x <;> rfl
  have veq : ∀ (a : Int) (s : ByteArray) (b : Bool), A .not (A .and (A .icm .eql a a) (A .and (A .scm .eql s s) (A .and (A .bcm .eql b b) true))) = false := by
    intros
    simp only [ie, se, be]
    rw [hA.not, hA.and]; rfl
  refine fn_of_sx A (tabOk T91.plan T91.pub) Tryz.func91 rfl (by kernel_rfl) ?_
  cbv
  rw [nn1]
  cbv
  rw [nn3]
  cbv
  refine LoopX.go (G := Int) (fun g => [(5, .v (.int .i64 g))]) (fun _ => [(2, [.slice b1 n1 c1, .slice b3 n3 c3]), (3, [.slice b2 n2 c2, .slice b4 n4 c4])]) (fun m g h' => h' = h ∧ ∃ i, IsN g i ∧ m = n1 - i ∧ i ≤ n1) n1 0 ⟨?_, ?_, ?_⟩ ⟨rfl, 0, ⟨rfl⟩, by omega, by omega⟩ ?_
  · cbv
  · cbv
  · cbv
  · intro m g h' hI
    cbv
    obtain ⟨rfl, i, hz, hm, hi⟩ := hI
    refine bsel_mk (fun hc => ?_) (fun hc => ?_)
    · have hlt := hz.lt hc
      clear hc
      have hze := hz.eq
      have hnx := hz.succ (A := A) (by omega)
      obtain ⟨⟨va, vb, vc⟩, hx⟩ := get_ex (xs := H) (i := i) (by omega)
      have ck1 : b1.isSome = true ∧ 0 ≤ g ∧ g < (n1 : Int) := ⟨q1.isSm (by omega), hz.ix (by omega)⟩
      have ck2 : b2.isSome = true ∧ 0 ≤ g ∧ g < (n2 : Int) := ⟨q2.isSm (by omega), hz.ix (by omega)⟩
      cbv
      refine ⟨ck1, ?_⟩
      cbv
      refine q1.load hx hze (fun cs hcs => ?_)
      have hcs : cs = [.int .i64 va, .string vb, .bool vc] := hcs
      subst hcs
      cbv
      refine ⟨ck2, ?_⟩
      cbv
      refine q2.load hx hze (fun cs hcs => ?_)
      have hcs : cs = [.int .i64 va, .string vb, .bool vc] := hcs
      subst hcs
      cbv
      rw [veq]
      cbv
      refine ⟨n1 - (i + 1), _, by omega, ⟨?_, ?_, ?_⟩, rfl, i + 1, hnx, rfl, by omega⟩
      · cbv
      · cbv
      · cbv
    · cbv
      refine LoopX.go (G := Int) (fun g => [(6, .v (.int .i64 g))]) (fun _ => [(2, [.slice b1 n1 c1, .slice b3 n3 c3]), (3, [.slice b2 n2 c2, .slice b4 n4 c4])]) (fun m g h2 => h2 = h' ∧ ∃ i, IsN g i ∧ m = n3 - i ∧ i ≤ n3) n3 0 ⟨?_, ?_, ?_⟩ ⟨rfl, 0, ⟨rfl⟩, by omega, by omega⟩ ?_
      · cbv
      · cbv
      · cbv
      · intro m g h2 hI
        cbv
        obtain ⟨rfl, i, hz, hm, hi⟩ := hI
        refine bsel_mk (fun hc => ?_) (fun hc => ?_)
        · have hlt := hz.lt hc
          clear hc
          have hze := hz.eq
          have hnx := hz.succ (A := A) (by omega)
          obtain ⟨⟨va, vb, vc⟩, hx⟩ := get_ex (xs := W) (i := i) (by omega)
          have ck1 : b3.isSome = true ∧ 0 ≤ g ∧ g < (n3 : Int) := ⟨q3.isSm (by omega), hz.ix (by omega)⟩
          have ck2 : b4.isSome = true ∧ 0 ≤ g ∧ g < (n4 : Int) := ⟨q4.isSm (by omega), hz.ix (by omega)⟩
          cbv
          refine ⟨ck1, ?_⟩
          cbv
          refine q3.load hx hze (fun cs hcs => ?_)
          have hcs : cs = [.int .i64 va, .string vb, .bool vc] := hcs
          subst hcs
          cbv
          refine ⟨ck2, ?_⟩
          cbv
          refine q4.load hx hze (fun cs hcs => ?_)
          have hcs : cs = [.int .i64 va, .string vb, .bool vc] := hcs
          subst hcs
          cbv
          rw [veq]
          cbv
          refine ⟨n3 - (i + 1), _, by omega, ⟨?_, ?_, ?_⟩, rfl, i + 1, hnx, rfl, by omega⟩
          · cbv
          · cbv
          · cbv
        · cbv
          exact hk
end Go.S

set_option maxRecDepth 100000
set_option maxHeartbeats 8000000
set_option linter.unusedVariables false
set_option linter.unusedSimpArgs false
namespace Go.S
open Go.Sx Go.Proofs
theorem rsame93 {s : Int} {L : List Chg} {M : List Mrk} {h : Heap} {b1 b2 b3 b4 : Option Addr} {n1 c1 n2 c2 n3 c3 n4 c4 : Nat} (q1 : Sl 77 shChg h (.slice b1 n1 c1) L) (q2 : Sl 77 shChg h (.slice b2 n2 c2) L) (q3 : Sl 146 shMrk h (.slice b3 n3 c3) M) (q4 : Sl 146 shMrk h (.slice b4 n4 c4) M) {k : Value → Heap → Prop} (hk : k (.bool true) h) :
    Ct 93 [.agg #[.int .i64 s, .slice b1 n1 c1, .slice b3 n3 c3], .agg #[.int .i64 s, .slice b2 n2 c2, .slice b4 n4 c4]] h k := by
  obtain ⟨A, hA⟩ := Ar.ex
  have hl1 := q1.len
  have hl2 := q2.len
  have hl3 := q3.len
  have hl4 := q4.len
  have hbd := q1.bound.1
  have hbd3 := q3.bound.1
  have hnot1 : A .not true = false := by rw [hA.not]; rfl
  have nns : A .icm .neq s s = false := by rw [icm_neq A]; simp
  have nn1 : A .icm .neq (A .nat n1) (A .nat n2) = false := by rw [hl1, hl2, icm_neq A]; simp
  have nn3 : A .icm .neq (A .nat n3) (A .nat n4) = false := by rw [hl3, hl4, icm_neq A]; simp
  have ie : ∀ a : Int, A .icm .eql a a = true := fun a => by rw [icm_eql A]; simp
  have se : ∀ s : ByteArray, A .scm .eql s s = true := fun s => by rw [scm_eql A]; simp
  have veq : ∀ (s : ByteArray) (a : Int), A .not (A .and (A .scm .eql s s) (A .and (A .icm .eql a a) true)) = false := by
    intros
    simp only [ie, se]
    rw [hA.not, hA.and]; rfl
  refine fn_of_sx A (tabOk T93.plan T93.pub) Tryz.func93 rfl (by kernel_rfl) ?_
  cbv
  rw [nns]
  cbv
  rw [nn1]
  cbv
  rw [nn3]
  cbv
  refine LoopX.go (G := Int) (fun g => [(5, .v (.int .i64 g))]) (fun _ => [(2, [.int .i64 s, .slice b1 n1 c1, .slice b3 n3 c3]), (3, [.int .i64 s, .slice b2 n2 c2, .slice b4 n4 c4])]) (fun m g h' => h' = h ∧ ∃ i, IsN g i ∧ m = n1 - i ∧ i ≤ n1) n1 0 ⟨?_, ?_, ?_⟩ ⟨rfl, 0, ⟨rfl⟩, by omega, by omega⟩ ?_
  · cbv
  · cbv
  · cbv
  · intro m g h' hI
    cbv
    obtain ⟨rfl, i, hz, hm, hi⟩ := hI
    refine bsel_mk (fun hc => ?_) (fun hc => ?_)
    · have hlt := hz.lt hc
      clear hc
      have hze := hz.eq
      have hnx := hz.succ (A := A) (by omega)
      obtain ⟨x, hx⟩ := get_ex (xs := L) (i := i) (by omega)
      have ck1 : b1.isSome = true ∧ 0 ≤ g ∧ g < (n1 : Int) := ⟨q1.isSm (by omega), hz.ix (by omega)⟩
      have ck2 : b2.isSome = true ∧ 0 ≤ g ∧ g < (n2 : Int) := ⟨q2.isSm (by omega), hz.ix (by omega)⟩
      cbv
      refine ⟨ck1, ?_⟩
      cbv
      refine q1.load hx hze (fun cs hcs => ?_)
      obtain ⟨x1, x2, x3, rfl, s1⟩ := hcs
      cbv
      refine ⟨ck2, ?_⟩
      cbv
      refine q2.load hx hze (fun cs hcs => ?_)
      obtain ⟨y1, y2, y3, rfl, s2⟩ := hcs
      cbv
      refine samechg66 (x := x) s1 s2 ?_
      cbv
      rw [hnot1]
      cbv
      refine ⟨n1 - (i + 1), _, by omega, ⟨?_, ?_, ?_⟩, rfl, i + 1, hnx, rfl, by omega⟩
      · cbv
      · cbv
      · cbv
    · cbv
      refine LoopX.go (G := Int) (fun g => [(6, .v (.int .i64 g))]) (fun _ => [(2, [.int .i64 s, .slice b1 n1 c1, .slice b3 n3 c3]), (3, [.int .i64 s, .slice b2 n2 c2, .slice b4 n4 c4])]) (fun m g h2 => h2 = h' ∧ ∃ i, IsN g i ∧ m = n3 - i ∧ i ≤ n3) n3 0 ⟨?_, ?_, ?_⟩ ⟨rfl, 0, ⟨rfl⟩, by omega, by omega⟩ ?_
      · cbv
      · cbv
      · cbv
      · intro m g h2 hI
        cbv
        obtain ⟨rfl, i, hz, hm, hi⟩ := hI
        refine bsel_mk (fun hc => ?_) (fun hc => ?_)
        · have hlt := hz.lt hc
          clear hc
          have hze := hz.eq
          have hnx := hz.succ (A := A) (by omega)
          obtain ⟨⟨va, vb⟩, hx⟩ := get_ex (xs := M) (i := i) (by omega)
          have ck1 : b3.isSome = true ∧ 0 ≤ g ∧ g < (n3 : Int) := ⟨q3.isSm (by omega), hz.ix (by omega)⟩
          have ck2 : b4.isSome = true ∧ 0 ≤ g ∧ g < (n4 : Int) := ⟨q4.isSm (by omega), hz.ix (by omega)⟩
          cbv
          refine ⟨ck1, ?_⟩
          cbv
          refine q3.load hx hze (fun cs hcs => ?_)
          have hcs : cs = [.string va, .int .i64 vb] := hcs
          subst hcs
          cbv
          refine ⟨ck2, ?_⟩
          cbv
          refine q4.load hx hze (fun cs hcs => ?_)
          have hcs : cs = [.string va, .int .i64 vb] := hcs
          subst hcs
          cbv
          rw [veq]
          cbv
          refine ⟨n3 - (i + 1), _, by omega, ⟨?_, ?_, ?_⟩, rfl, i + 1, hnx, rfl, by omega⟩
          · cbv
          · cbv
          · cbv
        · cbv
          exact hk
end Go.S

