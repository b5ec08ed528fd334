import Derived.Test.YtkpikackiemhbaaGreatCB
set_option linter.all false
set_option maxRecDepth 1000000
set_option maxHeartbeats 8000000
namespace Go.Cx
open Go.Sx

/-! Heavy operations. -/
inductive Res where
  | ret (v : CV)
  | pan (v : CV)
structure D where
  cf : Nat → List CV → HP → P5 → (Res → HP → P5 → Bool) → Bool
  kp : CV → E → LocE → HP → P5 → Bool
structure HV where
  run : D → E → LocE → HP → P5 → (CV → LocE → HP → P5 → Bool) → Bool
noncomputable def HV.fail : HV := ⟨fun _ _ _ _ _ _ => false⟩

section
variable {A : Ar} [hA : ArOk A] {T : Tab} {P : Program} {nt : Nat} {ρ : Rn} {e : E} {l : LocE} {H : HP} {env : Sx.Env} {L : Sx.Loc} {h : Heap} {n : P5}

structure DOk (T : Tab) (P : Program) (nt : Nat) (ρ : Rn) (d : D) : Prop where
  cf : ∀ {ρ' : Rn} {g : Nat} {args : List CV} {H : HP} {n : P5} {k : Res → HP → P5 → Bool} {h : Heap} {xs : List Value} {R : Value → Heap → Prop} {Kp : List PanicEntry → Heap → Prop}, RL ρ' args xs → HRel ρ' H h → d.cf g args H n k = true →
    (∀ ρ'' v x H' h' n', Ext ρ' ρ'' → RV ρ'' v x → HRel ρ'' H' h' → k (.ret v) H' n' = true → R x h') →
    (∀ ρ'' v x H' h' n', Ext ρ' ρ'' → RV ρ'' v x → HRel ρ'' H' h' → k (.pan v) H' n' = true → Kp [{ v := x, recovered := false }] h') → FnPX (fun _ => P) g xs h R Kp
  kp : ∀ {ρ' : Rn} {v : CV} {x : Value} {e : E} {l : LocE} {H : HP} {n : P5} {env : Sx.Env} {L : Sx.Loc} {h : Heap}, Ext ρ ρ' → RSt nt ρ' e l H env L h → RV ρ' v x → d.kp v e l H n = true → T.kp [{ v := x, recovered := false }] (T.rs.map fun t => sev env (.tmp t)) h
theorem DOk.mono {ρ' : Rn} {d : D} (x : DOk T P nt ρ d) (hx : Ext ρ ρ') : DOk T P nt ρ' d := ⟨x.cf, fun h1 h2 h3 h4 => x.kp (hx.trans h1) h2 h3 h4⟩

/-- What is asked of a heavy operation. -/
def HvOk (A : Ar) (T : Tab) (P : Program) (nt : Nat) (o : Oper) (x : HV) : Prop :=
  ∀ {ρ : Rn} {d : D} {e : E} {l : LocE} {H : HP} {n : P5} {env : Sx.Env} {L : Sx.Loc} {h : Heap} {k : CV → LocE → HP → P5 → Bool} {K : SV → Sx.Loc → Heap → Prop}, DOk T P nt ρ d → RSt nt ρ e l H env L h → x.run d e l H n k = true →
    (∀ ρ' v y l' L' H' h' n', Ext ρ ρ' → RS ρ' l' v y → RSt nt ρ' e l' H' env L' h' → k v l' H' n' = true → K y L' h') → hx A T (fun _ => P) o (sev env) L h K
theorem HvOk.fail {o : Oper} : HvOk A T P nt o HV.fail := fun _ _ h _ => (Bool.false_ne_true h).elim

/-- Cells that are one each; how many. -/
noncomputable def one1 (v : CV) (b : Bool) : Bool :=
  @CV.rec (fun _ => Bool) (fun _ => Bool) false (fun _ => b) (fun n => b) (fun n => b) (fun n => b) (fun n => b) (fun n => b) (fun _ _ => b) b (fun _ _ => b) (fun _ _ => false) b (fun _ _ _ _ => b) (fun _ _ _ _ => b) b b (fun _ => b) (fun _ _ _ _ _ => b) b (fun _ _ _ => b) b (fun _ _ => false) (fun _ _ => false) (fun _ _ => false) false (fun _ _ _ _ => false) v
theorem one1_inv {v : CV} {b : Bool} (h : one1 v b = true) {x : Value} (hx : RV ρ v x) : one x = true ∧ b = true := by
  cases v with
  | u => exact (Bool.false_ne_true h).elim
  | loc a c => exact (Bool.false_ne_true h).elim
  | agg c => exact (Bool.false_ne_true h).elim
  | tup c => exact (Bool.false_ne_true h).elim
  | mod c q => exact (Bool.false_ne_true h).elim
  | ptr a o => obtain ⟨r, h1, rfl⟩ := hx; exact ⟨rfl, h⟩
  | slc a o q c => obtain ⟨r, h1, rfl, h2⟩ := hx; exact ⟨rfl, h⟩
  | slu a o q z => obtain ⟨r, c, h1, rfl, h2⟩ := hx; exact ⟨rfl, h⟩
  | emp => obtain ⟨r, c, rfl⟩ := hx; exact ⟨rfl, h⟩
  | map a => obtain ⟨r, h1, rfl⟩ := hx; exact ⟨rfl, h⟩
  | fn f a c => obtain ⟨r, q, h1, h2, rfl⟩ := hx; exact ⟨rfl, h⟩
  | ifc t y => obtain ⟨r, h1, rfl⟩ := hx; exact ⟨rfl, h⟩
  | _ => cases hx; exact ⟨rfl, h⟩
noncomputable def onesK (vs : List CV) (k : Nat → Bool) : Bool := @List.rec CV (fun _ => Nat → Bool) (fun n => k n) (fun v _ ih n => one1 v (fN (Nat.succ n) ih)) vs 0
theorem onesK_inv {vs : List CV} {k : Nat → Bool} (h : onesK vs k = true) {xs : List Value} (hx : RL ρ vs xs) : ones xs = true ∧ k xs.length = true := by
  have : ∀ (vs : List CV) (xs : List Value) (n : Nat), RL ρ vs xs → @List.rec CV (fun _ => Nat → Bool) (fun n => k n) (fun v _ ih n => one1 v (fN (Nat.succ n) ih)) vs n = true → ones xs = true ∧ k (xs.length + n) = true := by
    intro vs
    induction vs with
    | nil => intro xs n hx h; cases hx; exact ⟨rfl, by simpa using h⟩
    | cons v vs ih =>
      intro xs n hx h
      obtain ⟨y, ys, rfl, h1, h2⟩ := hx
      obtain ⟨h3, h4⟩ := one1_inv (show one1 v (fN (Nat.succ n) _) = true from h) h1
      rw [fN_eq] at h4
      obtain ⟨h5, h6⟩ := ih ys (n + 1) h2 h4
      refine ⟨by unfold ones; rw [h3]; exact h5, ?_⟩
      have : (y :: ys).length + n = ys.length + (n + 1) := by simp; omega
      rwa [this]
  simpa using this vs xs 0 hx h

/-! New blocks. -/
theorem RAt.of_RL {c : List CV} {cs : List Value} (g : RL ρ c cs) : RAt ρ c cs.toArray 0 := fun i v hv => by
  obtain ⟨x, h1, h2⟩ := g.get hv
  exact ⟨x, by simpa using h1, h2⟩
theorem RSt.new (s : RSt nt ρ e l H env L h) (hn : lkH H n = .none) {c : List CV} {cs rest : List Value} (g : RL ρ c cs) {nb t : Nat} (hb : h nb = none) (h7 : n.e = .d7 ∨ rest = []) :
    Ext ρ (ins ρ n ⟨nb, 0, (cs ++ rest).length⟩) ∧ RSt nt (ins ρ n ⟨nb, 0, (cs ++ rest).length⟩) e l (stH H n (.cells c t)) env L (hset h nb (.cells (cs ++ rest).toArray t (0, 0))) := by
  have hx : Ext ρ (ins ρ n ⟨nb, 0, (cs ++ rest).length⟩) := ins_ext (s.heap.dom n hn)
  have hl := g.len
  refine ⟨hx, s.ext hx (s.heap.fresh hn hb rfl (by simp) (show RO _ (.cells c t) _ _ from ⟨_, (cs ++ rest).toArray, (0, 0), rfl, ?_, ?_, ?_, ?_⟩) ?_)⟩
  · unfold Sx.hset; rw [if_pos rfl]
  · simp
  · intro i v hv
    obtain ⟨x, h1, h2⟩ := g.get hv
    refine ⟨x, ?_, h2.mono hx⟩
    have hi : i < cs.length := by
      rcases Nat.lt_or_ge i cs.length with h | h
      · exact h
      · rw [List.getElem?_eq_none h] at h1; cases h1
    simp only [Nat.zero_add, List.getElem?_toArray]
    rw [List.getElem?_append_left hi]
    exact h1
  · intro i _; simp
  · rcases h7 with h7 | h7
    · exact .inl h7
    · subst h7
      refine .inr fun l e he => ⟨rfl, ?_⟩
      cases he
      simp [hl]
theorem ins_self {p : P5} {r : RB} : ins ρ p r p = some r := by unfold ins; rw [if_pos rfl]

noncomputable def hvAssign (x : GB) : HV := ⟨fun _ e l H n k => fV (x.run e) fun v => k v l H n⟩
theorem assign_sound {o : Oper} {x : Operand} (ho : o.op = .assign x) : HvOk A T P nt o (hvAssign (opG nt x)) := by
  intro ρ d e l H n env L h k K hd s hk hK
  unfold hx
  rw [ho]
  exact hK ρ _ _ _ _ _ _ _ (.refl ρ) (s.op x) s ((fV_eq ((opG nt x).run e) fun v => k v l H n).symm.trans hk)

noncomputable def upK (l : LocE) (s : Nat) (c : List CV) (k : LocE → Bool) : Bool := @List.rec (Nat × List CV) (fun _ => (LocE → Bool) → Bool) (fun k => k []) (fun x r ih k => @Prod.rec Nat (List CV) (fun _ => Bool) (fun t d => ite' (Nat.beq t s) (k ((t, c) :: r)) (ih fun r => k ((t, d) :: r))) x) l k
theorem upK_eq : ∀ (l : LocE) (s : Nat) (c : List CV) (k : LocE → Bool), upK l s c k = k (upE l s c)
  | [], _, _, _ => rfl
  | (t, d) :: r, s, c, k => by
    show ite' (Nat.beq t s) (k ((t, c) :: r)) (upK r s c fun r => k ((t, d) :: r)) = _
    rw [upK_eq r]
    simp only [upE]
    by_cases e : t = s
    · subst e; rw [Nat.beq_refl, if_pos rfl]; rfl
    · rw [if_neg e]
      cases hb : Nat.beq t s with
      | true => exact absurd (Nat.eq_of_beq_eq_true hb) e
      | false => rfl
theorem upd_keys (s : Nat) (c : List Value) : ∀ L : Sx.Loc, (Sx.upd L s c).map (·.1) = L.map (·.1)
  | [] => rfl
  | (t, d) :: r => by
    unfold Sx.upd
    by_cases e : t = s
    · rw [if_pos e, e]; rfl
    · rw [if_neg e]; simp only [List.map_cons, upd_keys s c r]

/-- A block is written over. -/
theorem RSt.wr (s : RSt nt ρ e l H env L h) {b : P5} {r : RB} (hb : ρ b = some r) {c : List CV} {t : Nat} (hc : lkH H b = .cells c t) {vs : List CV} {xs : List Value} (g : RL ρ vs xs) (hone : ones xs = true) (hp : 0 < vs.length) {off : Nat} (hl : off + vs.length ≤ c.length) {k : Heap → Prop}
    (hk : ∀ h', RSt nt ρ e l (stH H b (.cells (over off vs c) t)) env L h' → k h') : StX h ⟨r.blk, r.bas + off, none⟩ xs k := by
  have hro := s.heap.blk b
  rw [hc, hb] at hro
  obtain ⟨r', c', fr, h1, h2, h3, h4, h5⟩ := hro
  cases h1
  have hlen := g.len
  have hfit : r.bas + off + xs.length ≤ c'.size := by
    by_cases h0 : off + vs.length = 0
    · omega
    · obtain ⟨x, h6, -⟩ := h4 (off + vs.length - 1) (c[off + vs.length - 1]'(by omega)) (by simp)
      have := (Array.getElem?_eq_some_iff.1 h6).1
      omega
  refine ⟨c', t, fr, rfl, h2, hfit, fun i hi => h5 (r.bas + off + i) (by omega), fun h' he => hk h' ?_⟩
  subst he
  refine s.ext (.refl ρ) (s.heap.write hb (by rw [hc]; rfl) (by simp) (show RO _ (.cells _ t) _ _ from ⟨r, _, fr, rfl, by unfold Sx.hset; rw [if_pos rfl], ?_, ?_, h5⟩) (fun l e he => by cases he; exact ⟨c, hc, over_len hl⟩))
  · rw [setN_eq _ _ _ (by simpa using hfit)]
    simp; omega
  · intro i v hv
    rw [setN_eq _ _ _ (by simpa using hfit)]
    rw [over_get hl] at hv
    split at hv
    · rename_i hi
      obtain ⟨x, h6, h7⟩ := g.get hv
      refine ⟨x, ?_, h7⟩
      have hi2 : i - off < xs.length := by omega
      simp only [List.getElem?_toArray]
      rw [List.append_assoc, List.getElem?_append_right (by simp; omega), List.getElem?_append_left (by simp; omega)]
      rw [← h6]
      congr 1
      simp; omega
    · rename_i hi
      obtain ⟨x, h6, h7⟩ := h4 i v hv
      refine ⟨x, ?_, h7⟩
      simp only [List.getElem?_toArray]
      have h8 := (Array.getElem?_eq_some_iff.1 h6).1
      by_cases h9 : i < off
      · rw [List.append_assoc, List.getElem?_append_left (by simp; omega), List.getElem?_take, if_pos (by omega)]
        simpa using h6
      · rw [List.getElem?_append_right (by simp; omega), List.getElem?_drop]
        rw [← h6, ← Array.getElem?_toList]
        congr 1
        simp; omega

end
end Go.Cx
namespace Go.Cx
open Go.Sx

section
variable {A : Ar} [hA : ArOk A] {T : Tab} {P : Program} {nt : Nat} {ρ : Rn} {e : E} {l : LocE} {H : HP} {env : Sx.Env} {L : Sx.Loc} {h : Heap} {n : P5}

theorem RS.undef {v : CV} : RS ρ l .u (.v undef) := trivial

noncomputable def hvStore (ty : Nat → Ti) (t : Nat) (a x : GB) : HV := match (ty t).kd.isNone, (ty t).size with
  | false, z + 1 => ⟨fun _ e l H n k => cellsK (x.run e) fun vs => onesK vs fun m => chk (Nat.beq m (z + 1)) (asA (a.run e) (fun b off => hmod H b (fun o k => asCells o fun c t => ovK off vs c fun c => k (.cells c t)) fun H => k .u l H n) (fun s off => lkK l s fun c => ovK off vs c fun c => upK l s c fun l => k .u l H n))⟩
  | _, _ => .fail
theorem store_sound {o : Oper} {t : Nat} {a x : Operand} (ho : o.op = .store t a x) : HvOk A T P nt o (hvStore T.ty t (opG nt a) (opG nt x)) := by
  intro ρ d e l H n env L h k K hd s hk hK
  unfold hvStore at hk
  split at hk
  · rename_i z hn hz
    unfold hx
    rw [ho]
    simp only [hn]
    dsimp only at hk
    obtain ⟨vs, y, h1, h2, h3⟩ := (s.op x).cells hk
    obtain ⟨h4, h5⟩ := onesK_inv h3 h2
    obtain ⟨h6, h7⟩ := chk_inv h5
    have h6 : y.cells.toList.length = z + 1 := Nat.eq_of_beq_eq_true h6
    have hlen := h2.len
    have e1 : (y.cells.toList.length == (T.ty t).size) = true := by rw [hz]; simpa using h6
    simp only [h1, e1, h4]
    rcases (s.op a).place h7 with ⟨b, off, r, g1, g2, g3⟩ | ⟨u, off, g2, g3⟩
    · rw [hmod_eq] at g3
      obtain ⟨c, t', g4, g5⟩ := asCells_inv g3
      obtain ⟨g6, g7⟩ := ovK_inv g5
      simp only [g2]
      exact s.wr g1 g4 h2 h4 (by omega) g6 fun h' s' => hK ρ .u _ _ _ _ _ _ (.refl ρ) trivial s' g7
    · obtain ⟨c, g4, g5⟩ := lkK_inv g3
      obtain ⟨g6, g7⟩ := ovK_inv g5
      rw [upK_eq] at g7
      simp only [g2.1]
      have h9 := s.loc.lk (s := u)
      rw [g4] at h9
      obtain ⟨q, h10, h11⟩ := h9
      have hl2 := h11.len
      simp only [h10]
      have e2 : decide (off + y.cells.toList.length ≤ q.length) = true := decide_eq_true (by omega)
      simp only [e2]
      refine hK ρ .u _ _ _ _ _ _ (.refl ρ) trivial ⟨s.lim, s.len, fun t v ht hv => (s.env t v ht hv).up, ?_, ?_, s.heap⟩ g7
      · rw [setN_eq _ _ _ (by omega)]
        exact s.loc.up (h11.over h2 off)
      · rw [upd_keys]; exact s.sub
  · exact (Bool.false_ne_true hk).elim

noncomputable def hvAlloc (ty : Nat → Ti) (t : Nat) : HV := match (ty t).kd.isNone with
  | true => .fail
  | false => match (ty t).zero.map ofV1 with
    | z => ⟨fun _ e l H n k => hnew H n (.cells z t) fun H => nextP n fun n' => k (.ptr n 0) l H n'⟩
theorem alloc_sound {o : Oper} {t : Nat} (ho : o.op = .alloc t) : HvOk A T P nt o (hvAlloc T.ty t) := by
  intro ρ d e l H n env L h k K hd s hk hK
  unfold hvAlloc at hk
  split at hk
  · exact (Bool.false_ne_true hk).elim
  · rename_i hn
    unfold hx
    rw [ho]
    simp only [hn]
    intro nb h' hb he
    subst he
    obtain ⟨h1, h2⟩ := hnew_inv (show hnew H n (.cells ((T.ty t).zero.map ofV1) t) (fun H => nextP n fun n' => k (.ptr n 0) l H n') = true from hk)
    obtain ⟨n', h3⟩ := nextP_inv h2
    obtain ⟨h4, h5⟩ := s.new h1 (ofV1s_ok ρ (T.ty t).zero) (rest := []) (t := t) hb (.inr rfl)
    rw [List.append_nil] at h4 h5
    exact hK _ (.ptr n 0) _ _ _ _ _ _ h4 (.of ⟨_, ins_self, rfl⟩) h5 h3

noncomputable def hvBox (t : Nat) (x : GB) : HV := ⟨fun _ e l H n k => cellsK (x.run e) fun c => hnew H n (.cells c t) fun H => nextP n fun n' => k (.ptr n 0) l H n'⟩
theorem box_sound {o : Oper} {t : Nat} {x : Operand} (ho : o.op = .box t x) : HvOk A T P nt o (hvBox t (opG nt x)) := by
  intro ρ d e l H n env L h k K hd s hk hK
  unfold hx
  rw [ho]
  unfold hvBox at hk
  dsimp only at hk
  obtain ⟨c, y, h1, h2, h3⟩ := (s.op x).cells hk
  simp only [h1]
  intro nb h' hb he
  subst he
  obtain ⟨h4, h5⟩ := hnew_inv h3
  obtain ⟨n', h6⟩ := nextP_inv h5
  obtain ⟨h7, h8⟩ := s.new h4 h2 (rest := []) (t := t) hb (.inr rfl)
  rw [List.append_nil] at h7 h8
  have e1 : y.cells.toList.toArray = y.cells := by simp
  rw [e1] at h8
  exact hK _ (.ptr n 0) _ _ _ _ _ _ h7 (.of ⟨_, ins_self, rfl⟩) h8 h6

noncomputable def hvBuildS (nt : Nat) (ty : Nat → Ti) (t len : Nat) (ps : List (Nat × Operand)) : HV := match (ty t).kd with
  | .slc el => match (ty el).kd.isNone with
    | true => .fail
    | false => match decide (len * (ty el).size ≤ 2 ^ 24), (ty el).zero.length == (ty el).size with
      | true, true => match ptsOf nt (fun i => some (i * (ty el).size, (ty el).size)) ps with
        | some q => match (zeros len (ty el).zero).map ofV1 with
          | z => ⟨fun _ e l H n k => fillE q e z fun c => hnew H n (.cells c el) fun H => nextP n fun n' => k (.slc n 0 len len) l H n'⟩
        | none => .fail
      | _, _ => .fail
  | _ => .fail
theorem buildS_sound {o : Oper} {t len : Nat} {ps : Array (Nat × Operand)} (ho : o.op = .buildSlice t len ps) : HvOk A T P nt o (hvBuildS nt T.ty t len ps.toList) := by
  intro ρ d e l H n env L h k K hd s hk hK
  unfold hvBuildS at hk
  split at hk
  · rename_i el hkd
    split at hk
    · exact (Bool.false_ne_true hk).elim
    · rename_i hn
      split at hk
      · rename_i hl1 hl2
        split at hk
        · rename_i q hq
          unfold hx
          rw [ho]
          obtain ⟨ys, cs, zs, a1, a2, a3, a4⟩ := fill_sound s hq (ofV1s_ok ρ (zeros len (T.ty el).zero)) hk
          simp only [hkd, hn, a1, hl1, hl2, a2]
          intro nb h' hb he
          subst he
          obtain ⟨h4, h5⟩ := hnew_inv a4
          obtain ⟨n', h6⟩ := nextP_inv h5
          obtain ⟨h7, h8⟩ := s.new h4 a3 (rest := []) (t := el) hb (.inr rfl)
          rw [List.append_nil] at h7 h8
          exact hK _ (.slc n 0 len len) _ _ _ _ _ _ h7 (.of ⟨_, ins_self, rfl, Nat.le_refl _⟩) h8 h6
        · exact (Bool.false_ne_true hk).elim
      · exact (Bool.false_ne_true hk).elim
  · exact (Bool.false_ne_true hk).elim

noncomputable def hvMakeS (ty : Nat → Ti) (t : Nat) (x y : GB) : HV := match (ty t).kd with
  | .slc el => match (ty el).kd.isNone with
    | true => .fail
    | false => match (ty el).zero.length == (ty el).size with
      | true => match (ty el).zero.map ofV1, (ty el).bytes with
        | z, q => ⟨fun _ e l H n k => asIx (x.run e) fun i => asIx (y.run e) fun c => chk (Nat.ble i c) (chk (Nat.ble c 281474976710656) (chk (Nat.ble (Nat.mul q c) 281474976710656) (repK c z fun cs => hnew H n (.cells cs el) fun H => nextP n fun n' => k (.slc n 0 i c) l H n')))⟩
      | false => .fail
  | _ => .fail
theorem map_rep (z : List Value) (c : Nat) : RL ρ (List.replicate c (z.map ofV1)).flatten (zeros c z) := (ofV1s_ok ρ z).rep c
theorem makeS_sound {o : Oper} {t : Nat} {x y : Operand} (ho : o.op = .makeSlice t x y) : HvOk A T P nt o (hvMakeS T.ty t (opG nt x) (opG nt y)) := by
  intro ρ d e l H n env L h k K hd s hk hK
  unfold hvMakeS at hk
  split at hk
  · rename_i el hkd
    split at hk
    · exact (Bool.false_ne_true hk).elim
    · rename_i hn
      split at hk
      · rename_i hz
        obtain ⟨k1, i, h1, h2⟩ := (s.op x).ix (show asIx _ _ = true from hk)
        obtain ⟨k2, c, h3, h4⟩ := (s.op y).ix h2
        obtain ⟨h5, h6⟩ := chk_inv h4
        obtain ⟨h7, h8⟩ := chk_inv h6
        obtain ⟨h9, h10⟩ := chk_inv h8
        rw [repK_eq] at h10
        have h5 : i ≤ c := by simpa using h5
        have h7 : c ≤ 281474976710656 := by simpa using h7
        have h9 : (T.ty el).bytes * c ≤ 281474976710656 := by simpa using h9
        unfold hx
        rw [ho]
        simp only [hkd, hn, h1, h3, hz]
        refine ⟨⟨by omega, by omega⟩, ⟨by omega, ?_⟩, fun nb h' hb he => ?_⟩
        · have : (((T.ty el).bytes * c : Nat) : Int) ≤ 281474976710656 := by omega
          simpa using this
        · subst he
          obtain ⟨b1, b2⟩ := hnew_inv h10
          obtain ⟨n', b3⟩ := nextP_inv b2
          obtain ⟨b4, b5⟩ := s.new b1 (map_rep (T.ty el).zero c) (rest := []) (t := el) hb (.inr rfl)
          rw [List.append_nil] at b4 b5
          simp only [Int.toNat_natCast]
          exact hK _ (.slc n 0 i c) _ _ _ _ _ _ b4 (.of ⟨_, ins_self, rfl, h5⟩) b5 b3
      · exact (Bool.false_ne_true hk).elim
  · exact (Bool.false_ne_true hk).elim

/-! Calls. -/
/-- Functions without a body. -/
abbrev ExtF := Nat → List CV → HP → P5 → (CV → HP → P5 → Bool) → Bool
def ExtFOk (P : Program) (x : ExtF) : Prop := ∀ {ρ : Rn} {g : Nat} {args : List CV} {H : HP} {n : P5} {k : CV → HP → P5 → Bool} {h : Heap} {xs : List Value} {K : Value → Heap → Prop}, RL ρ args xs → HRel ρ H h → x g args H n k = true →
  (∀ ρ' v x H' h' n', Ext ρ ρ' → RV ρ' v x → HRel ρ' H' h' → k v H' n' = true → K x h') → SemX (fun _ => P) (fun _ => extS g xs) h K
noncomputable def hvCall (fn : Nat → Bool) (x : ExtF) (f : GB) (as : List GB) : HV := ⟨fun d e l H n k => as_fn (f.run e) fun g a c => visK as e fun bs => appK bs c fun bs => appK a bs fun bs => ite' (fn g)
  (d.cf g bs H n fun r H n => @Res.rec (fun _ => Bool) (fun v => k v l H n) (fun v => d.kp v e l H n) r)
  (x g bs H n fun v H n => k v l H n)⟩
theorem call_sound (hpan : ∀ g, T.pan g = true) {x : ExtF} (hext : ExtFOk P x) {o : Oper} {f : Operand} {as : Array Operand} {ts : Array Nat} (ho : o.op = .call ⟨.value f, as, ts⟩) : HvOk A T P nt o (hvCall T.fn x (opG nt f) (as.toList.map (opG nt))) := by
  intro ρ d e l H n env L h k K hd s hk hK
  unfold hx
  rw [ho]
  obtain ⟨g, a, c, h1, h2⟩ := as_fn_inv hk
  have hf := s.op f
  rw [h1] at hf
  obtain ⟨v, h3, xs, ys, h4, h5, rfl⟩ := hf
  obtain ⟨bs, zs, h6, h7, h8⟩ := vis_sound s h2
  rw [appK_eq, appK_eq] at h8
  simp only [h3, h6]
  have hargs : RL ρ (a ++ (bs ++ c)) (xs ++ zs ++ ys) := by rw [List.append_assoc]; exact h4.app (h7.app h5)
  have e1 : xs.toArray.toList ++ zs ++ ys.toArray.toList = xs ++ zs ++ ys := by simp
  rcases ite'_inv h8 with ⟨h9, h10⟩ | ⟨h9, h10⟩
  · simp only [h9, hpan, e1]
    refine hd.cf hargs s.heap h10 (fun ρ' v x H' h' n' hx hv hH hk' => ?_) (fun ρ' v x H' h' n' hx hv hH hk' => ?_)
    · exact hK ρ' v _ _ _ _ _ _ hx (.of hv) (s.ext hx hH) hk'
    · exact hd.kp hx (s.ext hx hH) hv hk'
  · simp only [h9, e1]
    exact hext hargs s.heap h10 fun ρ' v x H' h' n' hx hv hH hk' => hK ρ' v _ _ _ _ _ _ hx (.of hv) (s.ext hx hH) hk'

noncomputable def hvPanic (x : GB) : HV := ⟨fun d e l H n k => as_ifc (x.run e) fun t v => d.kp (.ifc t v) e l H n⟩
theorem panic_sound {o : Oper} {x : Operand} (ho : o.op = .panic x) : HvOk A T P nt o (hvPanic (opG nt x)) := by
  intro ρ d e l H n env L h k K hd s hk hK
  unfold hx
  rw [ho]
  obtain ⟨t, v, h1, h2⟩ := as_ifc_inv hk
  have hf := s.op x
  rw [h1] at hf
  obtain ⟨y, h3, z, h4, rfl⟩ := hf
  simp only [h3]
  exact hd.kp (v := .ifc t v) (.refl ρ) s ⟨z, h4, rfl⟩ h2

/-! append, copy -/
/-- A slice's cells. -/
noncomputable def rdS (x : CV) (size : Nat) (H : HP) (k : Nat → List CV → Bool) : Bool := asS x (k 0 []) (fun b off n _ => hget H b fun o => asRead o fun c _ => cutK off (Nat.mul n size) c fun cs => k n cs) (fun b off n _ => hget H b fun o => asRead o fun c _ => cutK off (Nat.mul n size) c fun cs => k n cs) (k 0 [])
theorem rdS_inv {x : CV} {size : Nat} {k : Nat → List CV → Bool} (s : HRel ρ H h) {y : Value} (hv : RV ρ x y) (hk : rdS x size H k = true) : ∃ b n c cs xs, y = .slice b n c ∧ n ≤ c ∧ k n cs = true ∧ RL ρ cs xs ∧ rdo h b (n * size) xs := by
  rcases asS_inv hk with ⟨rfl, h5⟩ | ⟨b, q, n, c, rfl, h5⟩ | ⟨b, q, n, z, rfl, h5⟩ | ⟨rfl, h5⟩
  · cases hv
    exact ⟨none, 0, 0, [], [], rfl, by omega, h5, rfl, .inl ⟨by simp, rfl⟩⟩
  · obtain ⟨r, h6, rfl, h7⟩ := hv
    rw [hget_eq] at h5
    obtain ⟨l, t, h8, h9⟩ := asRead_inv h5
    obtain ⟨h10, h11⟩ := cutK_inv h9
    obtain ⟨cs, h12, h13⟩ := s.read h6 (k := fun _ => true) h8 h10
    exact ⟨_, n, c, _, cs, rfl, h7, h11, h12, .inr ⟨_, rfl, h13⟩⟩
  · obtain ⟨r, c, h6, rfl, h7, -⟩ := hv
    rw [hget_eq] at h5
    obtain ⟨l, t, h8, h9⟩ := asRead_inv h5
    obtain ⟨h10, h11⟩ := cutK_inv h9
    obtain ⟨cs, h12, h13⟩ := s.read h6 (k := fun _ => true) h8 h10
    exact ⟨_, n, c, _, cs, rfl, h7, h11, h12, .inr ⟨_, rfl, h13⟩⟩
  · obtain ⟨a, c, rfl⟩ := hv
    exact ⟨_, 0, c, [], [], rfl, by omega, h5, rfl, .inl ⟨by simp, rfl⟩⟩

/-- The number of a block that grows. -/
noncomputable def growP (p : P5) (k : P5 → Bool) : Bool := @P5.rec (fun _ => Bool) (fun a b c d _ => k ⟨a, b, c, d, .d7⟩) p
theorem growP_inv {p : P5} {k : P5 → Bool} (h : growP p k = true) : ∃ q : P5, q.e = .d7 ∧ k q = true := by
  obtain ⟨a, b, c, d, e⟩ := p
  exact ⟨⟨a, b, c, d, .d7⟩, rfl, h⟩
/-- 'append' of n elements, whose cells are 'new'. -/
noncomputable def appE (z bytes t : Nat) (x : CV) (m : Nat) (new : List CV) (H : HP) (p : P5) (k : CV → HP → P5 → Bool) : Bool :=
  ite' (Nat.beq m 0) (asS x (k .nils H p) (fun b o n c => k (.slc b o n c) H p) (fun b o n z => k (.slu b o n z) H p) (k .emp H p))
    (chk (Nat.ble 1 z) (asS x
      (chk (Nat.ble m 281474976710656) (chk (Nat.ble (Nat.mul (Nat.mul 2 m) bytes) 281474976710656) (growP p fun g => hnew H g (.cells new t) fun H => nextP p fun p' => k (.slu g 0 m z) H p')))
      (fun b off len cap => fN (Nat.add len m) fun q => ite' (Nat.ble q cap)
        (hmod H b (fun o k => asCells o fun c t => ovK (Nat.add off (Nat.mul len z)) new c fun c => k (.cells c t)) fun H => k (.slc b off q cap) H p)
        (chk (Nat.ble q 281474976710656) (chk (Nat.ble (Nat.mul (Nat.mul 2 q) bytes) 281474976710656) (hget H b fun o => asRead o fun c _ => cutK off (Nat.mul len z) c fun old => appK old new fun cs => growP p fun g => hnew H g (.cells cs t) fun H => nextP p fun p' => k (.slu g 0 q z) H p'))))
      (fun b off len z' => chk (Nat.beq z' z) (fN (Nat.add len m) fun q => hget H b fun o => asCells o fun c t' => lenK c fun cl => ite' (Nat.ble (Nat.add off (Nat.mul q z)) cl)
        (ovK (Nat.add off (Nat.mul len z)) new c fun c => hput H b (.cells c t') fun H => k (.slu b off q z) H p)
        (chk (Nat.beq t' t) (chk (Nat.beq (Nat.add off (Nat.mul len z)) cl) (chk (Nat.ble q 281474976710656) (chk (Nat.ble (Nat.mul (Nat.mul 2 q) bytes) 281474976710656) (cutK off (Nat.mul len z) c fun old => appK old new fun cs => growP p fun g => hput H b .dead fun H => hnew H g (.cells cs t) fun H => nextP p fun p' => k (.slu g 0 q z) H p')))))))
      false))

theorem appX_none {b : Option Addr} {len cap size bytes t : Nat} {k : Value → Heap → Prop} (hl : len ≤ cap) (hk : k (.slice b len cap) h) : AppX h b len cap 0 size bytes t [] k :=
  ⟨rfl, fun _ => .inl ⟨rfl, hk⟩, fun hc => by omega⟩

/-- A slice that grows: its old cells, the new ones, and what is drawn behind. -/
theorem grow_new (s : RSt nt ρ e l H env L h) {p : P5} (hp : lkH H p = .none) (hp7 : p.e = .d7) {old new : List CV} {xs ys : List Value} (h1 : RL ρ old xs) (h2 : RL ρ new ys) {q z t nb c : Nat} {rest : List Value} (hb : h nb = none) (hx : xs.length + ys.length = q * z) (hq : q ≤ c) (hr : rest.length = (c - q) * z) :
    ∃ ρ', Ext ρ ρ' ∧ RSt nt ρ' e l (stH H p (.cells (old ++ new) t)) env L (hset h nb (.cells (xs ++ ys ++ rest).toArray t (0, 0))) ∧ RV ρ' (.slu p 0 q z) (.slice (some ⟨nb, 0, none⟩) q c) := by
  obtain ⟨g1, g2⟩ := s.new hp (h1.app h2) (rest := rest) (t := t) hb (.inl hp7)
  refine ⟨_, g1, g2, _, c, ins_self, rfl, hq, ?_⟩
  simp only [List.length_append]
  rw [hr, hx, ← Nat.add_mul]
  simp only [Nat.zero_add]
  congr 1
  omega

end
end Go.Cx
namespace Go.Cx
open Go.Sx

section
variable {A : Ar} [hA : ArOk A] {T : Tab} {P : Program} {nt : Nat} {ρ : Rn} {e : E} {l : LocE} {H : HP} {env : Sx.Env} {L : Sx.Loc} {h : Heap} {n : P5}

theorem appE_sound (s : RSt nt ρ e l H env L h) {z bytes t m : Nat} {x : CV} {y : Value} (hx : RV ρ x y) {new : List CV} {ys : List Value} (hn : RL ρ new ys) (hone : ones ys = true) (hlen : ys.length = m * z) {p : P5} {k : CV → HP → P5 → Bool} (hk : appE z bytes t x m new H p k = true) {K : Value → Heap → Prop}
    (hK : ∀ ρ' v w H' h' n', Ext ρ ρ' → RV ρ' v w → RSt nt ρ' e l H' env L h' → k v H' n' = true → K w h') :
    ∃ b len cap, y = .slice b len cap ∧ AppX h b len cap m z bytes t ys K := by
  unfold appE at hk
  rcases ite'_inv hk with ⟨h1, h2⟩ | ⟨h1, h2⟩
  · have h1 : m = 0 := Nat.eq_of_beq_eq_true h1
    subst h1
    have : ys = [] := by
      cases ys with
      | nil => rfl
      | cons a b => simp at hlen
    subst this
    rcases asS_inv h2 with ⟨rfl, h5⟩ | ⟨b, q, n, c, rfl, h5⟩ | ⟨b, q, n, z', rfl, h5⟩ | ⟨rfl, h5⟩
    · cases hx
      exact ⟨_, _, _, rfl, appX_none (Nat.le_refl _) (hK ρ .nils _ _ _ _ (.refl ρ) rfl s h5)⟩
    · obtain ⟨r, h6, rfl, h7⟩ := hx
      exact ⟨_, _, _, rfl, appX_none h7 (hK ρ _ _ _ _ _ (.refl ρ) (show RV ρ (.slc b q n c) _ from ⟨r, h6, rfl, h7⟩) s h5)⟩
    · obtain ⟨r, c, h6, rfl, h7, h8⟩ := hx
      exact ⟨_, _, _, rfl, appX_none h7 (hK ρ _ _ _ _ _ (.refl ρ) (show RV ρ (.slu b q n z') _ from ⟨r, c, h6, rfl, h7, h8⟩) s h5)⟩
    · obtain ⟨a, c, rfl⟩ := hx
      exact ⟨_, _, _, rfl, appX_none (Nat.zero_le _) (hK ρ .emp _ _ _ _ (.refl ρ) ⟨_, _, rfl⟩ s h5)⟩
  · have hm : m ≠ 0 := fun e => by subst e; cases h1
    obtain ⟨hz, h3⟩ := chk_inv h2
    have hz : 1 ≤ z := by simpa using hz
    have hmz : 1 ≤ m * z := Nat.mul_pos (by omega) (by omega)
    have hnl := hn.len
    rcases asS_inv h3 with ⟨rfl, h5⟩ | ⟨b, q, len, c, rfl, h5⟩ | ⟨b, q, len, z', rfl, h5⟩ | ⟨-, h5⟩
    · cases hx
      obtain ⟨a1, h5⟩ := chk_inv h5
      obtain ⟨a2, h5⟩ := chk_inv h5
      have a1 : m ≤ 281474976710656 := by simpa using a1
      have a2 : 2 * m * bytes ≤ 281474976710656 := by simpa using a2
      obtain ⟨p, hp7, h5⟩ := growP_inv h5
      obtain ⟨b1, b2⟩ := hnew_inv h5
      obtain ⟨n', b3⟩ := nextP_inv b2
      refine ⟨_, _, _, rfl, hone, fun hc => by omega, fun hc => ⟨by simpa using a2, by omega, [], .inl ⟨by simp, rfl⟩, fun nb c h' rest hb hc2 hr he => ?_⟩⟩
      subst he
      obtain ⟨ρ', c1, c2, c3⟩ := grow_new (t := t) s b1 hp7 (RL.nil ρ) hn (q := m) (z := z) (c := c) hb (by simpa using hlen) (by omega) (by simpa using hr)
      simp only [Nat.zero_add]
      exact hK ρ' _ _ _ _ _ c1 c3 c2 b3
    · obtain ⟨r, h6, rfl, h7⟩ := hx
      rw [fN_eq] at h5
      rcases ite'_inv h5 with ⟨a1, a2⟩ | ⟨a1, a2⟩
      · have a1 : len + m ≤ c := by simpa using a1
        rw [hmod_eq] at a2
        obtain ⟨l', t', a3, a4⟩ := asCells_inv a2
        obtain ⟨a5, a6⟩ := ovK_inv a4
        refine ⟨_, _, _, rfl, hone, fun _ => .inr ⟨⟨r.blk, r.bas + q + len * z, none⟩, by simp [addr_add], ?_⟩, fun hc => by omega⟩
        rw [Nat.add_assoc]
        refine s.wr h6 a3 hn hone (by omega) a5 fun h' s' => ?_
        exact hK ρ _ _ _ _ _ (.refl ρ) (show RV ρ (.slc b q (len + m) c) _ from ⟨r, h6, rfl, a1⟩) s' a6
      · have a1 : ¬ len + m ≤ c := fun h => by
          have : Nat.ble (len + m) c = true := by simpa using h
          rw [show Nat.ble (Nat.add len m) c = Nat.ble (len + m) c from rfl, this] at a1
          cases a1
        obtain ⟨d1, a2⟩ := chk_inv a2
        obtain ⟨d2, a2⟩ := chk_inv a2
        have d1 : len + m ≤ 281474976710656 := by simpa using d1
        have d2 : 2 * (len + m) * bytes ≤ 281474976710656 := by simpa using d2
        rw [hget_eq] at a2
        obtain ⟨l', t', a3, a4⟩ := asRead_inv a2
        obtain ⟨a5, a6⟩ := cutK_inv a4
        rw [appK_eq] at a6
        obtain ⟨p, hp7, a6⟩ := growP_inv a6
        obtain ⟨cs, a7, a8⟩ := s.heap.read h6 (k := fun _ => true) a3 a5
        obtain ⟨b1, b2⟩ := hnew_inv a6
        obtain ⟨n', b3⟩ := nextP_inv b2
        refine ⟨_, _, _, rfl, hone, fun hc => by omega, fun hc => ⟨by simpa using d2, by simpa using d1, cs, .inr ⟨_, rfl, a8⟩, fun nb c2 h' rest hb hc2 hr he => ?_⟩⟩
        subst he
        have hcl : cs.length = len * z := a8.2.1
        obtain ⟨ρ', c1, c2, c3⟩ := grow_new (t := t) s b1 hp7 a7 hn (q := len + m) (z := z) (c := c2) hb (by rw [hcl, hlen, Nat.add_mul]) hc2 hr
        exact hK ρ' _ _ _ _ _ c1 c3 c2 b3
    · obtain ⟨r, cap, h6, rfl, h7, h8⟩ := hx
      obtain ⟨g1, h5⟩ := chk_inv h5
      have g1 : z' = z := Nat.eq_of_beq_eq_true g1
      subst g1
      rw [fN_eq, hget_eq] at h5
      obtain ⟨cl, t', g3, h5⟩ := asCells_inv h5
      rw [lenK_eq] at h5
      have hro := s.heap.blk b
      rw [g3, h6] at hro
      obtain ⟨r', c', fr, e1, e2, e3, e4, e5⟩ := hro
      cases e1
      rcases ite'_inv h5 with ⟨a1, a2⟩ | ⟨a1, a2⟩
      · have a1 : q + (len + m) * z' ≤ cl.length := by simpa using a1
        obtain ⟨a5, a6⟩ := ovK_inv a2
        rw [hput_eq] at a6
        -- the block is long enough: there is room
        have hroom : len + m ≤ cap := by
          have hp : 1 ≤ (len + m) * z' := Nat.mul_pos (by omega) (by omega)
          obtain ⟨x, f1, -⟩ := e4 (q + (len + m) * z' - 1) (cl[q + (len + m) * z' - 1]'(by omega)) (by simp)
          have f2 := (Array.getElem?_eq_some_iff.1 f1).1
          rcases Nat.lt_or_ge cap (len + m) with hlt | hge
          · have := Nat.mul_le_mul_right z' (show cap + 1 ≤ len + m from hlt)
            rw [Nat.add_mul] at this
            omega
          · exact hge
        refine ⟨_, _, _, rfl, hone, fun _ => .inr ⟨⟨r.blk, r.bas + q + len * z', none⟩, by simp [addr_add], ?_⟩, fun hc => by omega⟩
        rw [Nat.add_assoc]
        refine s.wr h6 g3 hn hone (by omega) a5 fun h' s' => ?_
        exact hK ρ _ _ _ _ _ (.refl ρ) (show RV ρ (.slu b q (len + m) z') _ from ⟨r, cap, h6, rfl, hroom, h8⟩) s' a6
      · obtain ⟨dt, a2⟩ := chk_inv a2
        have dt : t' = t := Nat.eq_of_beq_eq_true dt
        subst dt
        obtain ⟨d0, a2⟩ := chk_inv a2
        obtain ⟨d1, a2⟩ := chk_inv a2
        obtain ⟨d2, a2⟩ := chk_inv a2
        have d0 : q + len * z' = cl.length := Nat.eq_of_beq_eq_true d0
        have d1 : len + m ≤ 281474976710656 := by simpa using d1
        have d2 : 2 * (len + m) * bytes ≤ 281474976710656 := by simpa using d2
        obtain ⟨a5, a6⟩ := cutK_inv a2
        rw [appK_eq] at a6
        obtain ⟨p, hp7, a6⟩ := growP_inv a6
        rw [hput_eq] at a6
        obtain ⟨cs, a7, a8⟩ := s.heap.read h6 (k := fun _ => true) (.inl g3) a5
        have hcl : cs.length = len * z' := a8.2.1
        obtain ⟨b1, b2⟩ := hnew_inv a6
        obtain ⟨n', b3⟩ := nextP_inv b2
        have hlive : live (lkH H b) = true := by rw [g3]; rfl
        have b1' : lkH H p = .none := by
          rw [lkH_stH] at b1
          split at b1
          · cases b1
          · exact b1
        refine ⟨_, _, _, rfl, hone, fun hc => .inr ⟨⟨r.blk, r.bas + q + len * z', none⟩, by simp [addr_add], ?_⟩, fun hc => ⟨by simpa using d2, by simpa using d1, cs, .inr ⟨_, rfl, a8⟩, fun nb c2 h' rest hb hc2 hr he => ?_⟩⟩
        · -- in its place: the block goes on under the new number
          have hfit : r.bas + q + len * z' + ys.length ≤ c'.size := by
            have := Nat.mul_le_mul_right z' hc
            rw [Nat.add_mul] at this
            omega
          refine ⟨c', t', fr, rfl, e2, hfit, fun i hi => e5 (r.bas + q + len * z' + i) (by omega), fun h' he => ?_⟩
          subst he
          have hxx : Ext ρ (ins ρ p ⟨r.blk, r.bas + q, r.tot⟩) := ins_ext (s.heap.dom p b1')
          refine hK (ins ρ p ⟨r.blk, r.bas + q, r.tot⟩) (.slu p 0 (len + m) z') _ _ _ _ hxx ⟨_, cap, ins_self, rfl, hc, by simpa using h8⟩ (s.ext hxx ?_) b3
          refine s.heap.move (s := ⟨r.blk, r.bas + q, r.tot⟩) hlive h6 rfl b1' (by simp) (show RO _ (.cells _ t') _ _ from ⟨_, _, fr, rfl, by unfold Sx.hset; rw [if_pos rfl], ?_, ?_, e5⟩) hp7
          · rw [setN_eq _ _ _ (by simpa using hfit)]
            simp; omega
          · intro i v hv
            have hl1 : ((cl.drop q).take (len * z')).length = len * z' := by simp; omega
            rw [setN_eq _ _ _ (by simpa using hfit)]
            simp only [List.getElem?_toArray]
            by_cases hi : i < len * z'
            · have hv : ((cl.drop q).take (len * z') ++ new)[i]? = some v := hv
              rw [List.getElem?_append_left (by omega), List.getElem?_take, if_pos hi, List.getElem?_drop] at hv
              obtain ⟨x, f1, f2⟩ := e4 (q + i) v hv
              refine ⟨x, ?_, f2.mono hxx⟩
              have := (Array.getElem?_eq_some_iff.1 f1).1
              rw [List.append_assoc, List.getElem?_append_left (by simp; omega), List.getElem?_take, if_pos (by omega), Array.getElem?_toList, ← f1]
              congr 1
              omega
            · have hv : ((cl.drop q).take (len * z') ++ new)[i]? = some v := hv
              rw [List.getElem?_append_right (by omega), hl1] at hv
              obtain ⟨x, f1, f2⟩ := hn.get hv
              refine ⟨x, ?_, f2.mono hxx⟩
              have hi2 : i - len * z' < ys.length := by
                rcases Nat.lt_or_ge (i - len * z') ys.length with h | h
                · exact h
                · rw [List.getElem?_eq_none h] at f1; cases f1
              rw [List.append_assoc, List.getElem?_append_right (by simp; omega), List.getElem?_append_left (by simp; omega), ← f1]
              congr 1
              simp; omega
        · subst he
          have s2 : RSt nt ρ e l (stH H b .dead) env L h := s.ext (.refl ρ) (s.heap.kill hlive)
          obtain ⟨ρ', c1, c2, c3⟩ := grow_new (t := t') s2 b1 hp7 a7 hn (q := len + m) (z := z') (c := c2) hb (by rw [hcl, hlen, Nat.add_mul]) hc2 hr
          exact hK ρ' _ _ _ _ _ c1 c3 c2 b3
    · exact (Bool.false_ne_true h5).elim

/-- A string's bytes. -/
noncomputable def bytesK (n s : Nat) (k : List CV → Bool) : Bool := @Nat.rec (fun _ => Nat → (List CV → Bool) → Bool) (fun _ k => k []) (fun _ ih s k => fN (Nat.mod s 256) fun b => fN (Nat.div s 256) fun s => ih s fun r => k (.u8 b :: r)) n s k
def bytesL : Nat → Nat → List CV
  | 0, _ => []
  | n + 1, s => .u8 (s % 256) :: bytesL n (s / 256)
theorem bytesK_eq : ∀ (n s : Nat) (k : List CV → Bool), bytesK n s k = k (bytesL n s)
  | 0, _, _ => rfl
  | n + 1, s, k => bytesK_eq n (s / 256) fun r => k (.u8 (s % 256) :: r)
theorem bytesL_ok (ρ : Rn) (n s : Nat) : RL ρ (bytesL n s) (strCells (bytes n s)) := by
  have : ∀ (n s : Nat), RL ρ (bytesL n s) ((digs n s).map fun b => Value.int .u8 b.toNat) := by
    intro n
    induction n with
    | zero => intro s; rfl
    | succ n ih =>
      intro s
      simp only [bytesL, digs, List.map_cons]
      refine .cons ?_ (ih _)
      show Value.int .u8 _ = Value.int .u8 _
      have h3 : (UInt8.ofNat s).toNat = s % 256 := UInt8.toNat_ofNat' ..
      rw [h3]
  exact this n s
noncomputable def hvAppend (nt : Nat) (ty : Nat → Ti) (args : List Operand) (ts : List Nat) : HV := match args, ts with
  | [a, x], t :: u :: _ => match (ty t).kd, (ty u).kd with
    | .slc el, .slc _ => match (ty el).kd.isNone, (ty el).zero.length == (ty el).size with
      | false, true => match opG nt a, opG nt x, (ty el).size, (ty el).bytes with
        | a, x, z, q => ⟨fun _ e l H n k => rdS (x.run e) z H fun m new => onesK new fun _ => appE z q el (a.run e) m new H n fun v H n => k v l H n⟩
      | _, _ => .fail
    | .slc el, .int _ => match (ty el).kd.isNone, (ty el).zero.length == (ty el).size with
      | false, true => match opG nt a, opG nt x, (ty el).size, (ty el).bytes, (ty el).zero.map ofV1 with
        | a, x, z, q, ze => ⟨fun _ e l H n k => asIx (x.run e) fun m => chk (Nat.ble m 281474976710656) (chk (Nat.ble (Nat.mul m q) 281474976710656) (repK m ze fun new => onesK new fun _ => appE z q el (a.run e) m new H n fun v H n => k v l H n))⟩
      | _, _ => .fail
    | .slc el, .str => match (ty el).kd.isNone, (ty el).zero.length == (ty el).size with
      | false, true => match opG nt a, opG nt x, (ty el).size, (ty el).bytes with
        | a, x, z, q => ⟨fun _ e l H n k => as_str (x.run e) fun m s => chk (Nat.beq z 1) (bytesK m s fun new => appE z q el (a.run e) m new H n fun v H n => k v l H n)⟩
      | _, _ => .fail
    | _, _ => .fail
  | _, _ => .fail
theorem RS.slice {v : CV} {s : SV} (h : RS ρ l v s) {k0 : Bool} {k1 k2 : P5 → Nat → Nat → Nat → Bool} {k3 : Bool} (hk : asS v k0 k1 k2 k3 = true) : ∃ y, s = .v y ∧ RV ρ v y := by
  rcases asS_inv hk with ⟨rfl, h5⟩ | ⟨b, q, n, c, rfl, h5⟩ | ⟨b, q, n, z', rfl, h5⟩ | ⟨rfl, h5⟩ <;> exact h
theorem appE_val {z bytes t m : Nat} {x : CV} {new : List CV} {p : P5} {k : CV → HP → P5 → Bool} (hk : appE z bytes t x m new H p k = true) {s : SV} (h : RS ρ l x s) : ∃ y, s = .v y ∧ RV ρ x y := by
  unfold appE at hk
  rcases ite'_inv hk with ⟨h1, h2⟩ | ⟨h1, h2⟩
  · exact h.slice h2
  · obtain ⟨-, h3⟩ := chk_inv h2
    exact h.slice h3
theorem append_sound {o : Oper} {args : Array Operand} {ts : Array Nat} (ho : o.op = .call ⟨.builtin .append, args, ts⟩) : HvOk A T P nt o (hvAppend nt T.ty args.toList ts.toList) := by
  intro ρ d e l H n env L h k K hd s hk hK
  unfold hvAppend at hk
  split at hk
  · rename_i a x t u r hargs hts
    split at hk
    · rename_i el el2 hkd hku
      split at hk
      · rename_i hn hz
        dsimp only at hk
        have t0 : ts[0]? = some t := by rw [← Array.getElem?_toList, hts]; rfl
        have t1 : ts[1]? = some u := by rw [← Array.getElem?_toList, hts]; rfl
        obtain ⟨y, h1, h2⟩ := (s.op x).slice (show asS _ _ _ _ _ = true from hk)
        obtain ⟨b, m, c, cs, xs, rfl, h3, h4, h5, h6⟩ := rdS_inv s.heap h2 hk
        obtain ⟨h7, h8⟩ := onesK_inv h4 h5
        obtain ⟨w, h9, h10⟩ := appE_val h8 (s.op a)
        have hlen : xs.length = m * (T.ty el).size := by
          rcases h6 with ⟨g1, rfl⟩ | ⟨_, -, g2⟩
          · simp [g1]
          · exact g2.2.1
        obtain ⟨b2, len, cap, rfl, h11⟩ := appE_sound (K := fun v h' => K (.v v) L h') s h10 h5 h7 hlen h8 fun ρ' v w H' h' n' hx hv s' hk' => hK ρ' v _ _ _ _ _ _ hx (.of hv) s' hk'
        unfold hx
        rw [ho]
        simp only [t0, t1, hkd, hku, hn, hz, hargs, vals2 h9 h1]
        exact ⟨xs, h6, h11⟩
      · exact (Bool.false_ne_true hk).elim
    · rename_i el kd2 hkd hku
      split at hk
      · rename_i hn hz
        dsimp only at hk
        have t0 : ts[0]? = some t := by rw [← Array.getElem?_toList, hts]; rfl
        have t1 : ts[1]? = some u := by rw [← Array.getElem?_toList, hts]; rfl
        obtain ⟨k2, m, h1, h2⟩ := (s.op x).ix hk
        obtain ⟨c1, h3⟩ := chk_inv h2
        obtain ⟨c2, h4⟩ := chk_inv h3
        rw [repK_eq] at h4
        have c1 : m ≤ 281474976710656 := by simpa using c1
        have c2 : m * (T.ty el).bytes ≤ 281474976710656 := by simpa using c2
        have h5 : RL ρ (List.replicate m ((T.ty el).zero.map ofV1)).flatten (zeros m (T.ty el).zero) := map_rep _ _
        obtain ⟨h7, h8⟩ := onesK_inv h4 h5
        obtain ⟨w, h9, h10⟩ := appE_val h8 (s.op a)
        have hzl : (T.ty el).zero.length = (T.ty el).size := by simpa using hz
        have hlen : (zeros m (T.ty el).zero).length = m * (T.ty el).size := by
          unfold zeros
          rw [List.length_flatten, List.map_replicate, List.sum_replicate_nat, hzl]
        obtain ⟨b2, len, cap, rfl, h11⟩ := appE_sound (K := fun v h' => K (.v v) L h') s h10 h5 h7 hlen h8 fun ρ' v w H' h' n' hx hv s' hk' => hK ρ' v _ _ _ _ _ _ hx (.of hv) s' hk'
        unfold hx
        rw [ho]
        simp only [t0, t1, hkd, hku, hn, hz, hargs, vals2 h9 h1]
        refine ⟨⟨by omega, by omega, ?_⟩, ?_⟩
        · have : ((m * (T.ty el).bytes : Nat) : Int) ≤ 281474976710656 := by omega
          simpa using this
        · have e0 : A.dif (m : Int) 0 = m := by have := dif_nat (A := A) m 0; simpa using this
          rw [e0]
          exact ⟨h11⟩
      · exact (Bool.false_ne_true hk).elim
    · rename_i el hkd hku
      split at hk
      · rename_i hn hz
        dsimp only at hk
        have t0 : ts[0]? = some t := by rw [← Array.getElem?_toList, hts]; rfl
        have t1 : ts[1]? = some u := by rw [← Array.getElem?_toList, hts]; rfl
        obtain ⟨m, q, h1, h2⟩ := (s.op x).str hk
        obtain ⟨c1, h3⟩ := chk_inv h2
        rw [bytesK_eq] at h3
        have c1 : (T.ty el).size = 1 := Nat.eq_of_beq_eq_true c1
        obtain ⟨w, h9, h10⟩ := appE_val h3 (s.op a)
        have hb := bytesL_ok ρ m q
        have hlen : (strCells (bytes m q)).length = m * (T.ty el).size := by
          rw [c1]
          unfold strCells bytes
          simp [digs_len]
        have hone : ones (strCells (bytes m q)) = true := by
          unfold strCells
          generalize (bytes m q).data.toList = l
          induction l with
          | nil => rfl
          | cons x r ih => exact ih
        obtain ⟨b2, len, cap, rfl, h11⟩ := appE_sound (K := fun v h' => K (.v v) L h') s h10 hb hone hlen h3 fun ρ' v w H' h' n' hx hv s' hk' => hK ρ' v _ _ _ _ _ _ hx (.of hv) s' hk'
        unfold hx
        rw [ho]
        simp only [t0, t1, hkd, hku, hn, hz, hargs, vals2 h9 h1, bytes_size]
        exact h11
      · exact (Bool.false_ne_true hk).elim
    · exact (Bool.false_ne_true hk).elim
  · exact (Bool.false_ne_true hk).elim

/-- 'copy'. -/
noncomputable def minN (a b : Nat) : Nat := @Bool.rec (fun _ => Nat) b a (Nat.ble a b)
theorem minN_eq (a b : Nat) : minN a b = min a b := by
  unfold minN
  cases h : Nat.ble a b with
  | true => have : a ≤ b := by simpa using h
            show a = _; omega
  | false => have : ¬ a ≤ b := fun g => by have : Nat.ble a b = true := by simpa using g
                                           rw [this] at h; cases h
             show b = _; omega
noncomputable def hvCopy (nt : Nat) (ty : Nat → Ti) (args : List Operand) (ts : List Nat) : HV := match args, ts with
  | [a, x], t :: _ => match (ty t).kd with
    | .slc el => match (ty el).kd.isNone with
      | false => match opG nt a, opG nt x, (ty el).size with
        | a, x, z => 
          let go (b : P5) (off len : Nat) (H : HP) (xv : CV) (n : P5) (l : LocE) (k : CV → LocE → HP → P5 → Bool) : Bool :=
            let rd (c : P5) (co m : Nat) : Bool := fN (minN m len) fun q => ite' (Nat.beq q 0) (k (.i64 (.ofNat 0)) l H n) (chk (Nat.ble 1 z) (hget H c fun o => asRead o fun cl _ => cutK co (Nat.mul q z) cl fun cs => onesK cs fun _ => hmod H b (fun o k => asCells o fun c t => ovK off cs c fun c => k (.cells c t)) fun H => k (.i64 (.ofNat q)) l H n))
            asS xv (k (.i64 (.ofNat 0)) l H n) (fun c co m _ => rd c co m) (fun c co m _ => rd c co m) (k (.i64 (.ofNat 0)) l H n)
          ⟨fun _ e l H n k => asS (a.run e) false (fun b off len _ => go b off len H (x.run e) n l k) (fun b off len _ => go b off len H (x.run e) n l k) false⟩
      | true => .fail
    | _ => .fail
  | _, _ => .fail
theorem copyZ {b x : Option Addr} {len m size : Nat} {k : Value → Heap → Prop} (hq : min m len = 0) (hk : k (.int .i64 0) h) : CopyX h b len x m size k :=
  ⟨[], .inl ⟨by simp [hq], rfl⟩, rfl, .inl ⟨rfl, by rw [hq]; exact hk⟩⟩
theorem copy_sound {o : Oper} {args : Array Operand} {ts : Array Nat} (ho : o.op = .call ⟨.builtin .copy, args, ts⟩) : HvOk A T P nt o (hvCopy nt T.ty args.toList ts.toList) := by
  intro ρ d e l H n env L h k K hd s hk hK
  unfold hvCopy at hk
  split at hk
  · rename_i a x t r hargs hts
    split at hk
    · rename_i el hkd
      split at hk
      · rename_i hn
        dsimp only at hk
        have t0 : ts[0]? = some t := by rw [← Array.getElem?_toList, hts]; rfl
        obtain ⟨w, h9, h10⟩ := (s.op a).slice hk
        unfold hx
        rw [ho]
        -- what is done, once it is known where
        have rd : ∀ (b : P5) (off len : Nat) (r : RB) (c : P5) (co m : Nat) (r2 : RB), ρ b = some r → ρ c = some r2 →
            fN (minN m len) (fun q => ite' (Nat.beq q 0) (k (.i64 (.ofNat 0)) l H n) (chk (Nat.ble 1 (T.ty el).size) (hget H c fun o => asRead o fun cl _ => cutK co (Nat.mul q (T.ty el).size) cl fun cs => onesK cs fun _ => hmod H b (fun o k => asCells o fun c t => ovK off cs c fun c => k (.cells c t)) fun H => k (.i64 (.ofNat q)) l H n))) = true →
            CopyX h (some ⟨r.blk, r.bas + off, none⟩) len (some ⟨r2.blk, r2.bas + co, none⟩) m (T.ty el).size (fun v h' => K (.v v) L h') := fun b off len r c co m r2 hb hc hq => by
          rw [fN_eq, minN_eq] at hq
          rcases ite'_inv hq with ⟨g1, g2⟩ | ⟨g1, g2⟩
          · exact copyZ (Nat.eq_of_beq_eq_true g1) (hK ρ (.i64 0) _ _ _ _ _ _ (.refl ρ) (.of rfl) s g2)
          · have g1 : min m len ≠ 0 := fun e => by rw [e] at g1; cases g1
            obtain ⟨gz, g2⟩ := chk_inv g2
            have gz : 1 ≤ (T.ty el).size := by simpa using gz
            have hp : 1 ≤ min m len * (T.ty el).size := Nat.mul_pos (by omega) (by omega)
            rw [hget_eq] at g2
            obtain ⟨cl, t', a3, a4⟩ := asRead_inv g2
            obtain ⟨a5, a6⟩ := cutK_inv a4
            obtain ⟨cs, a7, a8⟩ := s.heap.read hc (k := fun _ => true) a3 a5
            obtain ⟨a9, a10⟩ := onesK_inv a6 a7
            rw [hmod_eq] at a10
            obtain ⟨cl2, t2, b3, b4⟩ := asCells_inv a10
            obtain ⟨b5, b6⟩ := ovK_inv b4
            have hl := a7.len
            have hl2 : cs.length = min m len * (T.ty el).size := a8.2.1
            exact ⟨cs, .inr ⟨_, rfl, a8⟩, a9, .inr ⟨_, rfl, s.wr hb b3 a7 a9 (by omega) b5 fun h' s' => hK ρ (.i64 (.ofNat (min m len))) _ _ _ _ _ _ (.refl ρ) (.of rfl) s' b6⟩⟩
        have rd2 : ∀ (b : P5) (off len : Nat) (r : RB), ρ b = some r → 
            asS ((opG nt x).run e) (k (.i64 (.ofNat 0)) l H n) (fun c co m _ => fN (minN m len) (fun q => ite' (Nat.beq q 0) (k (.i64 (.ofNat 0)) l H n) (chk (Nat.ble 1 (T.ty el).size) (hget H c fun o => asRead o fun cl _ => cutK co (Nat.mul q (T.ty el).size) cl fun cs => onesK cs fun _ => hmod H b (fun o k => asCells o fun c t => ovK off cs c fun c => k (.cells c t)) fun H => k (.i64 (.ofNat q)) l H n))))
              (fun c co m _ => fN (minN m len) (fun q => ite' (Nat.beq q 0) (k (.i64 (.ofNat 0)) l H n) (chk (Nat.ble 1 (T.ty el).size) (hget H c fun o => asRead o fun cl _ => cutK co (Nat.mul q (T.ty el).size) cl fun cs => onesK cs fun _ => hmod H b (fun o k => asCells o fun c t => ovK off cs c fun c => k (.cells c t)) fun H => k (.i64 (.ofNat q)) l H n)))) (k (.i64 (.ofNat 0)) l H n) = true →
            ∃ x' m' c', sev env x = .v (.slice x' m' c') ∧ CopyX h (some ⟨r.blk, r.bas + off, none⟩) len x' m' (T.ty el).size (fun v h' => K (.v v) L h') := fun b off len r hb hq => by
          have hv := s.op x
          rcases asS_inv hq with ⟨h4, h5⟩ | ⟨b', q, m, c, h4, h5⟩ | ⟨b', q, m, z, h4, h5⟩ | ⟨h4, h5⟩ <;> rw [h4] at hv
          · obtain ⟨_, h6, rfl⟩ := hv
            exact ⟨_, _, _, h6, copyZ (by omega) (hK ρ (.i64 0) _ _ _ _ _ _ (.refl ρ) (.of rfl) s h5)⟩
          · obtain ⟨_, h6, r2, h7, rfl, -⟩ := hv
            exact ⟨_, _, _, h6, rd b off len r b' q m r2 hb h7 h5⟩
          · obtain ⟨_, h6, r2, c, h7, rfl, -⟩ := hv
            exact ⟨_, _, _, h6, rd b off len r b' q m r2 hb h7 h5⟩
          · obtain ⟨_, h6, a', c, rfl⟩ := hv
            exact ⟨_, _, _, h6, copyZ (by omega) (hK ρ (.i64 0) _ _ _ _ _ _ (.refl ρ) (.of rfl) s h5)⟩
        rcases asS_inv hk with ⟨-, h5⟩ | ⟨b, q, m, c, h4, h5⟩ | ⟨b, q, m, z, h4, h5⟩ | ⟨-, h5⟩
        · exact (Bool.false_ne_true h5).elim
        · rw [h4] at h10
          obtain ⟨r, h6, rfl, -⟩ := h10
          obtain ⟨x', m', c', h7, h8⟩ := rd2 b q m r h6 h5
          simp only [t0, hkd, hn, hargs, vals2 h9 h7]
          exact h8
        · rw [h4] at h10
          obtain ⟨r, c, h6, rfl, -⟩ := h10
          obtain ⟨x', m', c', h7, h8⟩ := rd2 b q m r h6 h5
          simp only [t0, hkd, hn, hargs, vals2 h9 h7]
          exact h8
        · exact (Bool.false_ne_true h5).elim
      · exact (Bool.false_ne_true hk).elim
    · exact (Bool.false_ne_true hk).elim
  · exact (Bool.false_ne_true hk).elim

noncomputable def hvClear (nt : Nat) (ty : Nat → Ti) (args : List Operand) (ts : List Nat) : HV := match args, ts with
  | [a], t :: _ => match (ty t).kd with
    | .slc el => match (ty el).kd.isNone, (ty el).zero.length == (ty el).size, ones (ty el).zero with
      | false, true, true => match opG nt a, (ty el).zero.map ofV1, (ty el).size with
        | a, ze, z =>
          let go (b : P5) (off len : Nat) (H : HP) (n : P5) (l : LocE) (k : CV → LocE → HP → P5 → Bool) : Bool :=
            ite' (Nat.beq len 0) (k (.tup []) l H n) (chk (Nat.ble 1 z) (repK len ze fun cs => onesK cs fun _ => hmod H b (fun o k => asCells o fun c t => ovK off cs c fun c => k (.cells c t)) fun H => k (.tup []) l H n))
          ⟨fun _ e l H n k => asS (a.run e) (k (.tup []) l H n) (fun b off len _ => go b off len H n l k) (fun b off len _ => go b off len H n l k) (k (.tup []) l H n)⟩
      | _, _, _ => .fail
    | _ => .fail
  | _, _ => .fail
theorem clear_sound {o : Oper} {args : Array Operand} {ts : Array Nat} (ho : o.op = .call ⟨.builtin .clear, args, ts⟩) : HvOk A T P nt o (hvClear nt T.ty args.toList ts.toList) := by
  intro ρ d e l H n env L h k K hd s hk hK
  unfold hvClear at hk
  split at hk
  · rename_i a t r hargs hts
    split at hk
    · rename_i el hkd
      split at hk
      · rename_i hn hz hone
        dsimp only at hk
        have t0 : ts[0]? = some t := by rw [← Array.getElem?_toList, hts]; rfl
        unfold hx
        rw [ho]
        have hzl : (T.ty el).zero.length = (T.ty el).size := by simpa using hz
        have zl : ∀ m, (zeros m (T.ty el).zero).length = m * (T.ty el).size := fun m => by
          unfold zeros
          rw [List.length_flatten, List.map_replicate, List.sum_replicate_nat, hzl]
        have hv := s.op a
        have fin : k (.tup []) l H n = true → K (.v (.tuple #[])) L h := fun hq => hK ρ (.tup []) _ _ _ _ _ _ (.refl ρ) (.of ⟨[], rfl, rfl⟩) s hq
        have nul : ∀ b : Option Addr, k (.tup []) l H n = true → ClearX h b 0 (T.ty el).zero (fun h' => K (.v (.tuple #[])) L h') := fun b hq => ⟨hone, .inl ⟨rfl, fin hq⟩⟩
        have go : ∀ (b : P5) (off len : Nat) (r : RB), ρ b = some r → ite' (Nat.beq len 0) (k (.tup []) l H n) (chk (Nat.ble 1 (T.ty el).size) (repK len ((T.ty el).zero.map ofV1) fun cs => onesK cs fun _ => hmod H b (fun o k => asCells o fun c t => ovK off cs c fun c => k (.cells c t)) fun H => k (.tup []) l H n)) = true →
            ClearX h (some ⟨r.blk, r.bas + off, none⟩) len (T.ty el).zero (fun h' => K (.v (.tuple #[])) L h') := fun b off len r hb hq => by
          rcases ite'_inv hq with ⟨g1, g2⟩ | ⟨g1, g2⟩
          · have g1 : len = 0 := Nat.eq_of_beq_eq_true g1
            subst g1
            exact nul _ g2
          · have g1 : len ≠ 0 := fun e => by rw [e] at g1; cases g1
            obtain ⟨gz, g2⟩ := chk_inv g2
            have gz : 1 ≤ (T.ty el).size := by simpa using gz
            rw [repK_eq] at g2
            have hrl : RL ρ (List.replicate len ((T.ty el).zero.map ofV1)).flatten (zeros len (T.ty el).zero) := map_rep _ _
            obtain ⟨a9, a10⟩ := onesK_inv g2 hrl
            rw [hmod_eq] at a10
            obtain ⟨cl2, t2, b3, b4⟩ := asCells_inv a10
            obtain ⟨b5, b6⟩ := ovK_inv b4
            have hl := hrl.len
            have hp : 1 ≤ len * (T.ty el).size := Nat.mul_pos (by omega) (by omega)
            exact ⟨hone, .inr ⟨_, rfl, s.wr hb b3 hrl a9 (by rw [hl, zl]; omega) b5 fun h' s' => hK ρ (.tup []) _ _ _ _ _ _ (.refl ρ) (.of ⟨[], rfl, rfl⟩) s' b6⟩⟩
        rcases asS_inv hk with ⟨h4, h5⟩ | ⟨b, q, m, c, h4, h5⟩ | ⟨b, q, m, z, h4, h5⟩ | ⟨h4, h5⟩ <;> rw [h4] at hv
        · obtain ⟨_, h6, rfl⟩ := hv
          simp only [t0, hkd, hn, hz, hargs, vals1 h6]
          exact nul _ h5
        · obtain ⟨_, h6, r, h7, rfl, -⟩ := hv
          simp only [t0, hkd, hn, hz, hargs, vals1 h6]
          exact go b q m r h7 h5
        · obtain ⟨_, h6, r, c, h7, rfl, -⟩ := hv
          simp only [t0, hkd, hn, hz, hargs, vals1 h6]
          exact go b q m r h7 h5
        · obtain ⟨_, h6, a', c, rfl⟩ := hv
          simp only [t0, hkd, hn, hz, hargs, vals1 h6]
          exact nul _ h5
      · exact (Bool.false_ne_true hk).elim
    · exact (Bool.false_ne_true hk).elim
  · exact (Bool.false_ne_true hk).elim

end
end Go.Cx
namespace Go.Cx
open Go.Sx

structure StB where
  run : D → E → LocE → HP → P5 → (E → LocE → HP → P5 → Bool) → Bool
noncomputable def StB.fail : StB := ⟨fun _ _ _ _ _ _ => false⟩
abbrev Sm := (Sx.Env → Sx.Loc → Heap → Prop) → Sx.Env → Sx.Loc → Heap → Prop

section
variable {A : Ar} [hA : ArOk A] {T : Tab} {P : Program} {nt : Nat} {ρ : Rn} {e : E} {l : LocE} {H : HP} {env : Sx.Env} {L : Sx.Loc} {h : Heap} {n : P5}

def StOk (T : Tab) (P : Program) (nt : Nat) (x : StB) (m : Sm) : Prop :=
  ∀ {ρ : Rn} {d : D} {e : E} {l : LocE} {H : HP} {n : P5} {env : Sx.Env} {L : Sx.Loc} {h : Heap} {k : E → LocE → HP → P5 → Bool} {K : Sx.Env → Sx.Loc → Heap → Prop}, DOk T P nt ρ d → RSt nt ρ e l H env L h → x.run d e l H n k = true →
    (∀ ρ' e' l' H' n' env' L' h', Ext ρ ρ' → RSt nt ρ' e' l' H' env' L' h' → k e' l' H' n' = true → K env' L' h') → m K env L h
theorem StOk.fail {m : Sm} : StOk T P nt .fail m := fun _ _ h _ => (Bool.false_ne_true h).elim

/-! The light ones. -/
noncomputable def isInts (ty : Nat → Ti) (s t : Nat) : Bool := match (ty t).kd, (ty s).kd with
  | .int _, .int _ => true
  | _, _ => false
noncomputable def liV (oth : Oth) (nt : Nat) (ty : Nat → Ti) (o : Oper) : LV := match o.op with
  | .move x => lvMove (opG nt x)
  | .pick c a b => lvPick (opG nt c) (opG nt a) (opG nt b)
  | .load t a => match (ty t).kd.isNone with
    | true => .fail
    | false => lvLoad (ty t) (opG nt a)
  | .nilCheck x => lvNilCheck (opG nt x)
  | .fieldAddr t x f => lvFieldAddrB ty t f (opG nt x)
  | .field t x f => lvField ty t f (opG nt x)
  | .indexAddr t x i => lvIndexAddr ty t (opG nt x) (opG nt i)
  | .index t x i => lvIndex ty t (opG nt x) (opG nt i)
  | .extract x i => lvExtract i (opG nt x)
  | .build t ps => lvBuild nt ty t ps.toList
  | .binOp op t x y _ => lvBin (oth nt o.op) ty op t (opG nt x) (opG nt y)
  | .unOp op _ x => lvUn op (opG nt x)
  | .convert s t x => match isInts ty s t with
    | true => lvConv ty s t (opG nt x)
    | false => oth nt o.op
  | .makeInterface t x => lvIfc ty t (opG nt x)
  | .makeFunc f a c => lvFunc nt f a.toList c.toList
  | .slice t x lo hi m => lvSlice nt ty t (opG nt x) lo hi m
  | .call ⟨.builtin b, args, ts⟩ => lvBI nt ty b args.toList ts[0]?
  | _ => oth nt o.op
theorem liV_sound {oth : Oth} (hoth : OthOk A T (fun _ => P) nt oth) (o : Oper) : LvOk A T (fun _ => P) nt o (liV oth nt T.ty o) := by
  intro ρ e l H env L h k K s hk hK
  unfold liV at hk
  split at hk
  · rename_i x ho; exact move_sound ho s hk hK
  · rename_i c a b ho; exact pick_sound ho s hk hK
  · rename_i t a ho
    split at hk
    · exact (Bool.false_ne_true hk).elim
    · rename_i hn; exact load_sound ho hn s hk hK
  · rename_i x ho; exact nilCheck_sound ho s hk hK
  · rename_i t x f ho; exact fieldAddr_sound ho s hk hK
  · rename_i t x f ho; exact field_sound ho s hk hK
  · rename_i t x i ho; exact indexAddr_sound ho s hk hK
  · rename_i t x i ho; exact index_sound ho s hk hK
  · rename_i x i ho; exact extract_sound ho s hk hK
  · rename_i t ps ho; exact build_sound ho s hk hK
  · rename_i op t x y tt ho; exact binOp_sound hoth ho s hk hK
  · rename_i op t x ho; exact unOp_sound ho s hk hK
  · rename_i a b x ho
    split at hk
    · exact convert_sound ho s hk hK
    · exact hoth o s hk hK
  · rename_i t x ho; exact ifc_sound ho s hk hK
  · rename_i f a c ho; exact func_sound ho s hk hK
  · rename_i t x lo hi m ho; exact slice_sound ho s hk hK
  · rename_i b args ts ho; exact builtin_sound ho s hk hK
  · exact hoth o s hk hK

noncomputable def stLight (x : LV) (q : PB) : StB := ⟨fun _ e l H n k => x.run e l H fun v => q.run e v fun e => k e l H n⟩
theorem stLight_ok {o : Oper} {x : LV} (hx : LvOk A T (fun _ => P) nt o x) : StOk T P nt (stLight x (pB nt o.dst)) fun K env L h => lightx A T (fun _ => P) o (sev env) L h (fun x nb => K (put env o.dst x) (addL L o.dst nb) h) := by
  intro ρ d e l H n env L h k K hd s hk hK
  refine hx s hk fun v y hv hq => ?_
  obtain ⟨e', h1, h2⟩ := put_sound s hv hq
  have : addL L o.dst none = L := by unfold addL; split <;> first | rfl | simp_all
  rw [this]
  exact hK ρ e' l H n _ _ _ (.refl ρ) h2 h1

/-- A box of the function's own. -/
noncomputable def noK (l : LocE) (t : Nat) (k : Bool) : Bool := @List.rec (Nat × List CV) (fun _ => Bool) k (fun x _ ih => @Prod.rec Nat (List CV) (fun _ => Bool) (fun s _ => ite' (Nat.beq s t) false ih) x) l
theorem noK_inv {k : Bool} : ∀ {l : LocE} {t : Nat}, noK l t k = true → lkE l t = none ∧ k = true
  | [], t, h => ⟨rfl, h⟩
  | (s, c) :: r, t, h => by
    rcases ite'_inv (show ite' (Nat.beq s t) false (noK r t k) = true from h) with ⟨-, h2⟩ | ⟨h1, h2⟩
    · cases h2
    · have e : s ≠ t := fun e => by subst e; rw [Nat.beq_refl] at h1; cases h1
      unfold lkE; rw [if_neg e]
      exact noK_inv h2
theorem RSt.push (s : RSt nt ρ e l H env L h) {t : Nat} (ht : t < nt) (hl : lkE l t = none) {c : List CV} {xs : List Value} (g : RL ρ c xs) : RSt nt ρ (setE t e (.loc t 0)) ((t, c) :: l) H (env.set t (.loc t 0)) ((t, xs) :: L) h := by
  have h0 : lkp L t = none := by have := s.loc.lk (s := t); rw [hl] at this; exact this
  have hk : ∀ (L : Sx.Loc), lkp L t = none → t ∉ L.map (·.1) := by
    intro L
    induction L with
    | nil => intro _; simp
    | cons x r ih =>
      obtain ⟨a, b⟩ := x
      intro h
      unfold lkp at h
      by_cases e : a = t
      · rw [if_pos e] at h; cases h
      · rw [if_neg e] at h
        simp only [List.map_cons, List.mem_cons, not_or]
        exact ⟨fun x => e x.symm, ih h⟩
  have up : ∀ v y, RS ρ l v y → RS ρ ((t, c) :: l) v y := fun v y hv => by
    cases v with
    | u => trivial
    | loc a o =>
      refine ⟨hv.1, ?_⟩
      unfold lkE
      by_cases e : t = a
      · rw [if_pos e]; rfl
      · rw [if_neg e]; exact hv.2
    | _ => exact hv
  refine ⟨s.lim, by simpa using s.len, fun u y hu hy => ?_, ⟨xs, L, rfl, g, s.loc⟩, ?_, s.heap⟩
  · have := s.lim
    rw [getE_setE (by omega) hu]
    rw [List.getElem?_set] at hy
    by_cases e : t = u
    · rw [if_pos e] at hy ⊢
      split at hy
      · cases hy
        exact ⟨rfl, by unfold lkE; rw [if_pos rfl]; rfl⟩
      · cases hy
    · rw [if_neg e] at hy ⊢
      exact up _ _ (s.env u y hu hy)
  · simp only [List.map_cons, List.nodup_cons]
    exact ⟨hk L h0, s.sub⟩
noncomputable def stLocA (nt t : Nat) (z : List CV) : StB := match decide (t < nt) with
  | true => ⟨fun _ e l H n k => noK l t (putE t e (.loc t 0) fun e => k e ((t, z) :: l) H n)⟩
  | false => .fail
noncomputable def stLocB (nt t : Nat) (x : GB) : StB := match decide (t < nt) with
  | true => ⟨fun _ e l H n k => noK l t (cellsK (x.run e) fun c => putE t e (.loc t 0) fun e => k e ((t, c) :: l) H n)⟩
  | false => .fail
noncomputable def stLi (oth : Oth) (nt : Nat) (ty : Nat → Ti) (o : Oper) : StB := match o.op, o.dst with
  | .alloc t, some d => match (ty t).kd.isNone with
    | true => .fail
    | false => stLocA nt d ((ty t).zero.map ofV1)
  | .box _ x, some d => stLocB nt d (opG nt x)
  | _, _ => stLight (liV oth nt ty o) (pB nt o.dst)
theorem stLi_ok {oth : Oth} (hoth : OthOk A T (fun _ => P) nt oth) (o : Oper) : StOk T P nt (stLi oth nt T.ty o) fun K env L h => lightx A T (fun _ => P) o (sev env) L h (fun x nb => K (put env o.dst x) (addL L o.dst nb) h) := by
  intro ρ d e l H n env L h k K hd s hk hK
  unfold stLi at hk
  split at hk
  · rename_i t q ho hq
    split at hk
    · exact (Bool.false_ne_true hk).elim
    · rename_i hn
      unfold stLocA at hk
      split at hk
      · rename_i ht
        dsimp only at hk
        obtain ⟨h1, h2⟩ := noK_inv hk
        rw [putE_eq] at h2
        have h3 := s.loc.lk (s := q)
        rw [h1] at h3
        unfold lightx
        rw [ho]
        simp only [hn, hq, show lkp L q = none from h3]
        exact hK ρ _ _ H n _ _ _ (.refl ρ) (s.push (of_decide_eq_true ht) h1 (ofV1s_ok ρ (T.ty t).zero)) h2
      · exact (Bool.false_ne_true hk).elim
  · rename_i t x q ho hq
    unfold stLocB at hk
    split at hk
    · rename_i ht
      dsimp only at hk
      obtain ⟨h1, h2⟩ := noK_inv hk
      obtain ⟨c, y, h3, h4, h5⟩ := (s.op x).cells h2
      rw [putE_eq] at h5
      have h6 := s.loc.lk (s := q)
      rw [h1] at h6
      unfold lightx
      rw [ho]
      simp only [hq, h3, show lkp L q = none from h6]
      exact hK ρ _ _ H n _ _ _ (.refl ρ) (s.push (of_decide_eq_true ht) h1 h4) h5
    · exact (Bool.false_ne_true hk).elim
  · exact stLight_ok (liV_sound hoth o) hd s hk hK

/-! The heavy ones. -/
/-- Heavy operations that are left to the seat: conversions, maps. -/
abbrev OtH := Nat → Op → Nat → HV
noncomputable def hvV (ext : ExtF) (oh : OtH) (nt : Nat) (ty : Nat → Ti) (fn : Nat → Bool) (o : Oper) : HV := match o.op with
  | .assign x => hvAssign (opG nt x)
  | .store t a x => hvStore ty t (opG nt a) (opG nt x)
  | .alloc t => hvAlloc ty t
  | .box t x => hvBox t (opG nt x)
  | .buildSlice t len ps => hvBuildS nt ty t len ps.toList
  | .makeSlice t x y => hvMakeS ty t (opG nt x) (opG nt y)
  | .panic x => hvPanic (opG nt x)
  | .call ⟨.value f, as, _⟩ => hvCall fn ext (opG nt f) (as.toList.map (opG nt))
  | .call ⟨.builtin b, args, ts⟩ => match b with
    | .append => hvAppend nt ty args.toList ts.toList
    | .copy => hvCopy nt ty args.toList ts.toList
    | .clear => hvClear nt ty args.toList ts.toList
    | _ => oh nt o.op o.type
  | _ => oh nt o.op o.type
def OtHOk (A : Ar) (T : Tab) (P : Program) (nt : Nat) (oh : OtH) : Prop := ∀ o : Oper, HvOk A T P nt o (oh nt o.op o.type)
theorem hvV_sound (hpan : ∀ g, T.pan g = true) {ext : ExtF} (hext : ExtFOk P ext) {oh : OtH} (hoh : OtHOk A T P nt oh) (o : Oper) : HvOk A T P nt o (hvV ext oh nt T.ty T.fn o) := by
  intro ρ d e l H n env L h k K hd s hk hK
  unfold hvV at hk
  split at hk
  · rename_i x ho; exact assign_sound ho hd s hk hK
  · rename_i t a x ho; exact store_sound ho hd s hk hK
  · rename_i t ho; exact alloc_sound ho hd s hk hK
  · rename_i t x ho; exact box_sound ho hd s hk hK
  · rename_i t len ps ho; exact buildS_sound ho hd s hk hK
  · rename_i t x y ho; exact makeS_sound ho hd s hk hK
  · rename_i x ho; exact panic_sound ho hd s hk hK
  · rename_i f as ts ho; exact call_sound hpan hext ho hd s hk hK
  · rename_i b args ts ho
    split at hk
    · exact append_sound ho hd s hk hK
    · exact copy_sound ho hd s hk hK
    · exact clear_sound ho hd s hk hK
    · exact hoh o hd s hk hK
  · exact hoh o hd s hk hK
noncomputable def stHeavy (x : HV) (q : PB) : StB := ⟨fun d e l H n k => x.run d e l H n fun v l H n => q.run e v fun e => k e l H n⟩
theorem stHeavy_ok {o : Oper} {x : HV} (hx : HvOk A T P nt o x) : StOk T P nt (stHeavy x (pB nt o.dst)) fun K env L h => Sx.hx A T (fun _ => P) o (sev env) L h (fun x L' h' => K (put env o.dst x) L' h') := by
  intro ρ d e l H n env L h k K hd s hk hK
  refine hx hd s hk fun ρ' v y l' L' H' h' n' hext hv s' hq => ?_
  obtain ⟨e', h1, h2⟩ := put_sound s' hv hq
  exact hK ρ' e' l' H' n' _ _ _ hext h2 h1

/-! Guards, sequences. -/
noncomputable def stSkip (q : PB) : StB := ⟨fun _ e l H n k => q.run e (.tup []) fun e => k e l H n⟩
theorem stSkip_ok {d : Option Nat} : StOk T P nt (stSkip (pB nt d)) fun K env L h => K (put env d (.v undef)) L h := by
  intro ρ q e l H n env L h k K hd s hk hK
  obtain ⟨e', h1, h2⟩ := put_sound s (v := .tup []) (x := .v undef) (.of ⟨[], rfl, rfl⟩) hk
  exact hK ρ e' l H n _ _ _ (.refl ρ) h2 h1
/-- A guard's value: true, false, or not run. -/
noncomputable def guK (v : CV) (yes no : Bool) : Bool :=
  @CV.rec (fun _ => Bool) (fun _ => Bool) false (fun b => ite' b yes no) (fun _ => false) (fun _ => false) (fun _ => false) (fun _ => false) (fun _ => false) (fun _ _ => false) false (fun _ _ => false) (fun _ _ => false) false (fun _ _ _ _ => false) (fun _ _ _ _ => false) false false (fun _ => false) (fun _ _ _ _ _ => false) false (fun _ _ _ => false) false (fun _ _ => false) (fun _ _ => no) (fun _ _ => false) false (fun _ _ _ _ => false) v
noncomputable def guN (v : CV) (yes no : Bool) : Bool :=
  @CV.rec (fun _ => Bool) (fun _ => Bool) false (fun b => ite' b no yes) (fun _ => false) (fun _ => false) (fun _ => false) (fun _ => false) (fun _ => false) (fun _ _ => false) false (fun _ _ => false) (fun _ _ => false) false (fun _ _ _ _ => false) (fun _ _ _ _ => false) false false (fun _ => false) (fun _ _ _ _ _ => false) false (fun _ _ _ => false) false (fun _ _ => false) (fun _ _ => no) (fun _ _ => false) false (fun _ _ _ _ => false) v
noncomputable def stGd (nt : Nat) (all : List Oper) (o : Oper) (yes no : StB) : StB := match o.guard with
  | none => yes
  | some (j, want) => match all[j]? with
    | some oj => match oj.dst with
      | some d => match gB nt d with
        | g => match want with
          | true => ⟨fun q e l H n k => guK (g.run e) (yes.run q e l H n k) (no.run q e l H n k)⟩
          | false => ⟨fun q e l H n k => guN (g.run e) (yes.run q e l H n k) (no.run q e l H n k)⟩
      | none => no
    | none => no
theorem stGd_ok {all : List Oper} {o : Oper} {yes no : StB} {my mn : Sm} (hy : StOk T P nt yes my) (hn : StOk T P nt no mn) : StOk T P nt (stGd nt all o yes no) fun K env L h => gd all env o (fun _ => my K env L h) (fun _ => mn K env L h) := by
  intro ρ q e l H n env L h k K hd s hk hK
  unfold stGd at hk
  show gd all env o _ _
  unfold gd
  split at hk
  · rename_i hg
    simp only [hg]
    exact hy hd s hk hK
  · rename_i j want hg
    simp only [hg]
    split at hk
    · rename_i oj hj
      simp only [hj]
      split at hk
      · rename_i d hd2
        simp only [hd2]
        dsimp only at hk
        have hv := s.tmp d
        split at hk
        · dsimp only at hk
          cases hc : (gB nt d).run e <;> rw [hc] at hk hv <;> first | exact (Bool.false_ne_true hk).elim | skip
          · obtain ⟨x, h1, rfl⟩ := hv
            simp only [h1]
            rcases ite'_inv (show ite' _ _ _ = true from hk) with ⟨rfl, h2⟩ | ⟨rfl, h2⟩
            · exact hy hd s h2 hK
            · exact hn hd s h2 hK
          · obtain ⟨x, h1, xs, -, rfl⟩ := hv
            simp only [h1]
            exact hn hd s hk hK
        · dsimp only at hk
          cases hc : (gB nt d).run e <;> rw [hc] at hk hv <;> first | exact (Bool.false_ne_true hk).elim | skip
          · obtain ⟨x, h1, rfl⟩ := hv
            simp only [h1]
            rcases ite'_inv (show ite' _ _ _ = true from hk) with ⟨rfl, h2⟩ | ⟨rfl, h2⟩
            · exact hn hd s h2 hK
            · exact hy hd s h2 hK
          · obtain ⟨x, h1, xs, -, rfl⟩ := hv
            simp only [h1]
            exact hn hd s hk hK
      · rename_i hd2
        simp only [hd2]
        exact hn hd s hk hK
    · rename_i hj
      simp only [hj]
      exact hn hd s hk hK
noncomputable def stSeq (a b : StB) : StB := ⟨fun d e l H n k => a.run d e l H n fun e l H n => b.run d e l H n k⟩
theorem stSeq_ok {a b : StB} {ma mb : Sm} (ha : StOk T P nt a ma) (hb : StOk T P nt b mb) : StOk T P nt (stSeq a b) fun K env L h => ma (fun env L h => mb K env L h) env L h := by
  intro ρ d e l H n env L h k K hd s hk hK
  exact ha hd s hk fun ρ' e' l' H' n' env' L' h' hx s' hk' => hb (hd.mono hx) s' hk' fun ρ'' e'' l'' H'' n'' env'' L'' h'' hx2 s'' hk'' => hK _ _ _ _ _ _ _ _ (hx.trans hx2) s'' hk''

end
end Go.Cx
namespace Go.Cx
open Go.Sx

/-! Equal values. -/
noncomputable def dEq (a b : D8) : Bool := @D8.rec (fun _ => Bool) (@D8.rec (fun _ => Bool) true false false false false false false false b) (@D8.rec (fun _ => Bool) false true false false false false false false b) (@D8.rec (fun _ => Bool) false false true false false false false false b) (@D8.rec (fun _ => Bool) false false false true false false false false b) (@D8.rec (fun _ => Bool) false false false false true false false false b) (@D8.rec (fun _ => Bool) false false false false false true false false b) (@D8.rec (fun _ => Bool) false false false false false false true false b) (@D8.rec (fun _ => Bool) false false false false false false false true b) a
theorem dEq_eq {a b : D8} (h : dEq a b = true) : a = b := by cases a <;> cases b <;> first | rfl | exact (Bool.false_ne_true h).elim
noncomputable def pEq (p q : P5) : Bool := @P5.rec (fun _ => Bool) (fun a b c d e => @P5.rec (fun _ => Bool) (fun a' b' c' d' e' => chk (dEq a a') (chk (dEq b b') (chk (dEq c c') (chk (dEq d d') (dEq e e'))))) q) p
theorem pEq_eq {p q : P5} (h : pEq p q = true) : p = q := by
  obtain ⟨a, b, c, d, e⟩ := p
  obtain ⟨a', b', c', d', e'⟩ := q
  obtain ⟨h1, h⟩ := chk_inv (show chk (dEq a a') _ = true from h)
  obtain ⟨h2, h⟩ := chk_inv h
  obtain ⟨h3, h⟩ := chk_inv h
  obtain ⟨h4, h⟩ := chk_inv h
  rw [dEq_eq h1, dEq_eq h2, dEq_eq h3, dEq_eq h4, dEq_eq h]
noncomputable def ceq1 (v w : CV) (k : Bool) : Bool :=
  @CV.rec (fun _ => Bool) (fun _ => Bool) false (fun a => as_bool w fun b => chk (bEq a b) k) (fun a => as_i64 w fun b => chk (iEq a b) k) (fun a => as_i32 w fun b => chk (iEq a b) k) (fun a => as_u8 w fun b => chk (Nat.beq a b) k) (fun a => as_u32 w fun b => chk (Nat.beq a b) k) (fun a => as_u64 w fun b => chk (Nat.beq a b) k) (fun n a => as_str w fun m b => chk (sEq n a m b) k) (as_nilp w k) (fun b o => as_ptr w fun b' o' => chk (pEq b b') (chk (Nat.beq o o') k)) (fun _ _ => false) (as_nils w k) (fun b o l c => as_slc w fun b' o' l' c' => chk (pEq b b') (chk (Nat.beq o o') (chk (Nat.beq l l') (chk (Nat.beq c c') k)))) (fun b o l z => as_slu w fun b' o' l' z' => chk (pEq b b') (chk (Nat.beq o o') (chk (Nat.beq l l') (chk (Nat.beq z z') (chk (Nat.ble 1 z) k))))) false (as_nilm w k) (fun b => as_map w fun b' => chk (pEq b b') k) (fun _ _ _ _ _ => false) (as_nilf w k) (fun _ _ _ => false) (as_nili w k) (fun _ _ => false) (fun _ _ => false) (fun _ _ => false) false (fun _ _ _ _ => false) v
section
variable {A : Ar} [hA : ArOk A] {T : Tab} {P : Program} {nt : Nat} {ρ : Rn} {e : E} {l : LocE} {H : HP} {env : Sx.Env} {L : Sx.Loc} {h : Heap} {n : P5}
theorem ceq1_sound {v w : CV} {k : Bool} (hk : ceq1 v w k = true) {x y : Value} (hx : RV ρ v x) (hy : RV ρ w y) : x = y ∧ k = true := by
  cases v with
  | bool a =>
    obtain ⟨b, rfl, h1⟩ := as_bool_inv (show as_bool w _ = true from hk)
    obtain ⟨h2, h3⟩ := chk_inv h1
    rw [bEq_eq] at h2
    cases hx; cases hy
    exact ⟨by rw [eq_of_beq h2], h3⟩
  | i64 a =>
    obtain ⟨b, rfl, h1⟩ := as_i64_inv (show as_i64 w _ = true from hk)
    obtain ⟨h2, h3⟩ := chk_inv h1
    rw [iEq_iff] at h2
    cases hx; cases hy
    exact ⟨by rw [of_decide_eq_true h2], h3⟩
  | i32 a =>
    obtain ⟨b, rfl, h1⟩ := as_i32_inv (show as_i32 w _ = true from hk)
    obtain ⟨h2, h3⟩ := chk_inv h1
    rw [iEq_iff] at h2
    cases hx; cases hy
    exact ⟨by rw [of_decide_eq_true h2], h3⟩
  | u8 a =>
    obtain ⟨b, rfl, h1⟩ := as_u8_inv (show as_u8 w _ = true from hk)
    obtain ⟨h2, h3⟩ := chk_inv h1
    cases hx; cases hy
    exact ⟨by rw [Nat.eq_of_beq_eq_true h2], h3⟩
  | u32 a =>
    obtain ⟨b, rfl, h1⟩ := as_u32_inv (show as_u32 w _ = true from hk)
    obtain ⟨h2, h3⟩ := chk_inv h1
    cases hx; cases hy
    exact ⟨by rw [Nat.eq_of_beq_eq_true h2], h3⟩
  | u64 a =>
    obtain ⟨b, rfl, h1⟩ := as_u64_inv (show as_u64 w _ = true from hk)
    obtain ⟨h2, h3⟩ := chk_inv h1
    cases hx; cases hy
    exact ⟨by rw [Nat.eq_of_beq_eq_true h2], h3⟩
  | str n a =>
    obtain ⟨m, b, rfl, h1⟩ := as_str_inv (show as_str w _ = true from hk)
    obtain ⟨h2, h3⟩ := chk_inv h1
    rw [sEq_eq, bytes_toList, bytes_toList] at h2
    cases hx; cases hy
    have h4 : digs n a = digs m b := eq_of_beq h2
    exact ⟨by unfold bytes; rw [h4], h3⟩
  | nilp =>
    obtain ⟨rfl, h1⟩ := as_nilp_inv (show as_nilp w _ = true from hk)
    cases hx; cases hy
    exact ⟨rfl, h1⟩
  | nils =>
    obtain ⟨rfl, h1⟩ := as_nils_inv (show as_nils w _ = true from hk)
    cases hx; cases hy
    exact ⟨rfl, h1⟩
  | nilm =>
    obtain ⟨rfl, h1⟩ := as_nilm_inv (show as_nilm w _ = true from hk)
    cases hx; cases hy
    exact ⟨rfl, h1⟩
  | nilf =>
    obtain ⟨rfl, h1⟩ := as_nilf_inv (show as_nilf w _ = true from hk)
    cases hx; cases hy
    exact ⟨rfl, h1⟩
  | nili =>
    obtain ⟨rfl, h1⟩ := as_nili_inv (show as_nili w _ = true from hk)
    cases hx; cases hy
    exact ⟨rfl, h1⟩
  | ptr b o =>
    obtain ⟨b', o', rfl, h1⟩ := as_ptr_inv (show as_ptr w _ = true from hk)
    obtain ⟨h2, h3⟩ := chk_inv h1
    obtain ⟨h4, h5⟩ := chk_inv h3
    obtain rfl := pEq_eq h2
    obtain rfl := Nat.eq_of_beq_eq_true h4
    obtain ⟨r, h6, rfl⟩ := hx
    obtain ⟨r', h7, rfl⟩ := hy
    rw [h6] at h7; cases h7
    exact ⟨rfl, h5⟩
  | map b =>
    obtain ⟨b', rfl, h1⟩ := as_map_inv (show as_map w _ = true from hk)
    obtain ⟨h2, h3⟩ := chk_inv h1
    obtain rfl := pEq_eq h2
    obtain ⟨r, h6, rfl⟩ := hx
    obtain ⟨r', h7, rfl⟩ := hy
    rw [h6] at h7; cases h7
    exact ⟨rfl, h3⟩
  | slc b o q c =>
    obtain ⟨b', o', q', c', rfl, h1⟩ := as_slc_inv (show as_slc w _ = true from hk)
    obtain ⟨h2, g1⟩ := chk_inv h1
    obtain ⟨h3, g2⟩ := chk_inv g1
    obtain ⟨h4, g3⟩ := chk_inv g2
    obtain ⟨h5, g4⟩ := chk_inv g3
    obtain rfl := pEq_eq h2
    obtain rfl := Nat.eq_of_beq_eq_true h3
    obtain rfl := Nat.eq_of_beq_eq_true h4
    obtain rfl := Nat.eq_of_beq_eq_true h5
    obtain ⟨r, h6, rfl, -⟩ := hx
    obtain ⟨r', h7, rfl, -⟩ := hy
    rw [h6] at h7; cases h7
    exact ⟨rfl, g4⟩
  | slu b o q z =>
    obtain ⟨b', o', q', z', rfl, h1⟩ := as_slu_inv (show as_slu w _ = true from hk)
    obtain ⟨h2, g1⟩ := chk_inv h1
    obtain ⟨h3, g2⟩ := chk_inv g1
    obtain ⟨h4, g3⟩ := chk_inv g2
    obtain ⟨h5, g4⟩ := chk_inv g3
    obtain ⟨h8, g5⟩ := chk_inv g4
    obtain rfl := pEq_eq h2
    obtain rfl := Nat.eq_of_beq_eq_true h3
    obtain rfl := Nat.eq_of_beq_eq_true h4
    obtain rfl := Nat.eq_of_beq_eq_true h5
    obtain ⟨r, c, h6, rfl, -, e1⟩ := hx
    obtain ⟨r', c', h7, rfl, -, e2⟩ := hy
    rw [h6] at h7; cases h7
    have h8 : 1 ≤ z := by simpa using h8
    have : c * z = c' * z := by omega
    have : c = c' := Nat.eq_of_mul_eq_mul_right (by omega) this
    exact ⟨by rw [this], g5⟩
  | _ => exact (Bool.false_ne_true hk).elim
noncomputable def ceqL (a b : List CV) (k : Bool) : Bool := @List.rec CV (fun _ => List CV → Bool) (fun b => @List.rec CV (fun _ => Bool) k (fun _ _ _ => false) b) (fun v _ ih b => @List.rec CV (fun _ => Bool) false (fun w r _ => ceq1 v w (ih r)) b) a b
theorem ceqL_sound {k : Bool} : ∀ {a b : List CV}, ceqL a b k = true → ∀ {xs ys : List Value}, RL ρ a xs → RL ρ b ys → xs = ys ∧ k = true
  | [], [], hk, xs, ys, h1, h2 => by cases h1; cases h2; exact ⟨rfl, hk⟩
  | [], _ :: _, hk, xs, ys, h1, h2 => (Bool.false_ne_true hk).elim
  | _ :: _, [], hk, xs, ys, h1, h2 => (Bool.false_ne_true hk).elim
  | v :: a, w :: b, hk, xs, ys, ⟨x, xs', e1, h1, h2⟩, ⟨y, ys', e2, h3, h4⟩ => by
    obtain ⟨h5, h6⟩ := ceq1_sound (show ceq1 v w (ceqL a b k) = true from hk) h1 h3
    obtain ⟨h7, h8⟩ := ceqL_sound h6 h2 h4
    subst e1; subst e2; subst h5; subst h7
    exact ⟨rfl, h8⟩
noncomputable def ceq (v w : CV) (k : Bool) : Bool :=
  @CV.rec (fun _ => Bool) (fun _ => Bool) false (fun _ => ceq1 v w k) (fun _ => ceq1 v w k) (fun _ => ceq1 v w k) (fun _ => ceq1 v w k) (fun _ => ceq1 v w k) (fun _ => ceq1 v w k) (fun _ _ => ceq1 v w k) (ceq1 v w k) (fun _ _ => ceq1 v w k) (fun _ _ => false) (ceq1 v w k) (fun _ _ _ _ => ceq1 v w k) (fun _ _ _ _ => ceq1 v w k) (ceq1 v w k) (ceq1 v w k) (fun _ => ceq1 v w k) (fun _ _ _ _ _ => ceq1 v w k) (ceq1 v w k) (fun _ _ _ => ceq1 v w k) (ceq1 v w k) (fun a _ => as_agg w fun b => ceqL a b k) (fun _ _ => false) (fun _ _ => false) false (fun _ _ _ _ => false) v
theorem ceq_one {v w : CV} {k : Bool} (hv : ∀ a, v ≠ .agg a) (hk : ceq v w k = true) : ceq1 v w k = true := by
  cases v <;> first | exact hk | exact absurd rfl (hv _) | exact (Bool.false_ne_true hk).elim
theorem ceq_sound {v w : CV} {k : Bool} (hk : ceq v w k = true) {x y : Value} (hx : RV ρ v x) (hy : RV ρ w y) : x = y ∧ k = true := by
  cases v with
  | agg a =>
    obtain ⟨b, rfl, h1⟩ := as_agg_inv (show as_agg w _ = true from hk)
    obtain ⟨xs, h2, rfl⟩ := hx
    obtain ⟨ys, h3, rfl⟩ := hy
    obtain ⟨rfl, h4⟩ := ceqL_sound h1 h2 h3
    exact ⟨rfl, h4⟩
  | u => exact (Bool.false_ne_true hk).elim
  | loc a b => exact (Bool.false_ne_true hk).elim
  | tup a => exact (Bool.false_ne_true hk).elim
  | _ => exact ceq1_sound (ceq_one (fun a => by simp) hk) hx hy

/-! What is asked of loads ahead of a heavy operation. -/
structure ChB where
  run : E → LocE → HP → Bool → Bool
noncomputable def ChB.ok : ChB := ⟨fun _ _ _ k => k⟩
noncomputable def ChB.fail : ChB := ⟨fun _ _ _ _ => false⟩
noncomputable def pinB (nt : Nat) (ty : Nat → Ti) (strict : Bool) (o : Oper) : ChB := match o.op with
  | .load t a => match o.dst with
    | some d => match opG nt a, gB nt d, ty t with
      | a, g, i => match strict with
        | false => ⟨fun e l H k => asA (a.run e) (fun b off => hget H b fun o => asRead o fun c _ => rdK i.agg i.size off c fun v => okV (g.run e) fun w => ceq v w k) (fun _ _ => k)⟩
        | true => ⟨fun e l H k => asA (a.run e) (fun b off => hget H b fun o => asRead o fun c _ => rdK i.agg i.size off c fun v => okV (g.run e) fun w => ceq v w k) (fun s off => lkK l s fun c => rdK i.agg i.size off c fun v => okV (g.run e) fun w => ceq v w k)⟩
    | none => .fail
  | _ => .ok
theorem okSlot (s : RSt nt ρ e l H env L h) {d : Nat} {k : CV → Bool} (hk : okV ((gB nt d).run e) k = true) : ∃ y, env[d]? = some (.v y) ∧ RV ρ ((gB nt d).run e) y ∧ k ((gB nt d).run e) = true := by
  obtain ⟨y, h1, h2, h3⟩ := (s.tmp d).ok hk
  refine ⟨y, ?_, h2, h3⟩
  rw [List.getD_eq_getElem?_getD] at h1
  cases hd : env[d]? with
  | none => rw [hd] at h1; cases h1
  | some z => rw [hd] at h1; simp at h1; rw [h1]
theorem pin_sound (s : RSt nt ρ e l H env L h) {strict : Bool} {o : Oper} {k : Bool} {rest : Unit → Prop} (hk : (pinB nt T.ty strict o).run e l H k = true) (hr : k = true → rest ()) : pinOk T strict h L env o rest := by
  unfold pinB at hk
  unfold pinOk
  have rd : ∀ {v : CV} {y x : Value} {d : Nat}, o.dst = some d → RV ρ v x → okV ((gB nt d).run e) (fun w => ceq v w k) = true → Chk (fun _ => ∃ d, o.dst = some d ∧ env[d]? = some (.v x)) rest := fun {v y x d} hd hv hq => by
    obtain ⟨y, h1, h2, h3⟩ := okSlot s hq
    obtain ⟨rfl, h4⟩ := ceq_sound h3 hv h2
    exact ⟨⟨d, hd, h1⟩, hr h4⟩
  split at hk
  · rename_i t a ho
    simp only [ho]
    split at hk
    · rename_i d hd
      dsimp only at hk
      have heapcase : ∀ b off r, ρ b = some r → hget H b (fun o => asRead o fun c _ => rdK (T.ty t).agg (T.ty t).size off c fun v => okV ((gB nt d).run e) fun w => ceq v w k) = true →
          LdX h ⟨r.blk, r.bas + off, none⟩ (T.ty t).size (fun cs => rdvk (T.ty t).agg cs (fun x => Chk (fun _ => ∃ d, o.dst = some d ∧ env[d]? = some (.v x)) rest)) := fun b off r h1 h3 => by
        rw [hget_eq] at h3
        obtain ⟨c, t', h4, h5⟩ := asRead_inv h3
        obtain ⟨h6, v, h7, h8⟩ := rdK_sound (ρ := ρ) h5
        obtain ⟨cs, h9, h10⟩ := s.heap.read h1 (k := fun _ => true) h4 h6
        exact ⟨cs, h10, h8 h9 fun x hx => rd (y := x) hd hx h7⟩
      split at hk
      · rcases (s.op a).place hk with ⟨b, off, r, h1, h2, h3⟩ | ⟨u, off, h2, h3⟩
        · simp only [h2]; exact heapcase b off r h1 h3
        · simp only [h2.1]; exact hr h3
      · rcases (s.op a).place hk with ⟨b, off, r, h1, h2, h3⟩ | ⟨u, off, h2, h3⟩
        · simp only [h2]; exact heapcase b off r h1 h3
        · simp only [h2.1]
          obtain ⟨c, h4, h5⟩ := lkK_inv h3
          obtain ⟨h6, v, h7, h8⟩ := rdK_sound (ρ := ρ) h5
          have h9 := s.loc.lk (s := u)
          rw [h4] at h9
          obtain ⟨q, h10, h11⟩ := h9
          have hl := h11.len
          simp only [h10]
          unfold takeN
          rw [if_pos (by omega)]
          exact h8 ((h11.drop off).take _) fun x hx => rd (y := x) hd hx h7
    · exact (Bool.false_ne_true hk).elim
  · rename_i ho
    split
    · rename_i t a ho2; exact absurd ho2 (ho t a)
    · exact hr hk
noncomputable def gdPin (nt : Nat) (all : List Oper) (o : Oper) (yes : ChB) : ChB := match o.guard with
  | none => yes
  | some (j, want) => match all[j]? with
    | some oj => match oj.dst with
      | some d => match gB nt d with
        | g => match want with
          | true => ⟨fun e l H k => guK (g.run e) (yes.run e l H k) k⟩
          | false => ⟨fun e l H k => guN (g.run e) (yes.run e l H k) k⟩
      | none => .ok
    | none => .ok
theorem gdPin_sound (s : RSt nt ρ e l H env L h) {all : List Oper} {o : Oper} {yes : ChB} {k : Bool} {ky kn : Unit → Prop} (hk : (gdPin nt all o yes).run e l H k = true) (hy : yes.run e l H k = true → ky ()) (hn : k = true → kn ()) : gd all env o ky kn := by
  unfold gdPin at hk
  unfold gd
  split at hk
  · rename_i hg
    simp only [hg]
    exact hy hk
  · rename_i j want hg
    simp only [hg]
    split at hk
    · rename_i oj hj
      simp only [hj]
      split at hk
      · rename_i d hd2
        simp only [hd2]
        dsimp only at hk
        have hv := s.tmp d
        split at hk
        · dsimp only at hk
          cases hc : (gB nt d).run e <;> rw [hc] at hk hv <;> first | exact (Bool.false_ne_true hk).elim | skip
          · obtain ⟨x, h1, rfl⟩ := hv
            simp only [h1]
            rcases ite'_inv (show ite' _ _ _ = true from hk) with ⟨rfl, h2⟩ | ⟨rfl, h2⟩
            · exact hy h2
            · exact hn h2
          · obtain ⟨x, h1, xs, -, rfl⟩ := hv
            simp only [h1]
            exact hn hk
        · dsimp only at hk
          cases hc : (gB nt d).run e <;> rw [hc] at hk hv <;> first | exact (Bool.false_ne_true hk).elim | skip
          · obtain ⟨x, h1, rfl⟩ := hv
            simp only [h1]
            rcases ite'_inv (show ite' _ _ _ = true from hk) with ⟨rfl, h2⟩ | ⟨rfl, h2⟩
            · exact hn h2
            · exact hy h2
          · obtain ⟨x, h1, xs, -, rfl⟩ := hv
            simp only [h1]
            exact hn hk
      · rename_i hd2
        simp only [hd2]
        exact hn hk
    · rename_i hj
      simp only [hj]
      exact hn hk
noncomputable def pinsB (nt : Nat) (ty : Nat → Ti) (strict : Bool) (all : List Oper) (l : List Nat) : ChB := @List.rec Nat (fun _ => ChB) .ok (fun i _ ih => match all[i]? with
  | some o => match gdPin nt all o (pinB nt ty strict o) with
    | q => ⟨fun e l H k => q.run e l H (ih.run e l H k)⟩
  | none => .fail) l
theorem pins_sound (s : RSt nt ρ e l H env L h) {strict : Bool} {all : List Oper} {kk : Unit → Prop} {k : Bool} (hr : k = true → kk ()) : ∀ {ps : List Nat}, (pinsB nt T.ty strict all ps).run e l H k = true → pins T strict all h L env ps kk
  | [], hk => hr hk
  | i :: r, hk => by
    unfold pins
    have hk : (match all[i]? with
      | some o => match gdPin nt all o (pinB nt T.ty strict o) with
        | q => (⟨fun e l H k => q.run e l H ((pinsB nt T.ty strict all r).run e l H k)⟩ : ChB)
      | none => .fail).run e l H k = true := hk
    cases ha : all[i]? with
    | none => rw [ha] at hk; exact (Bool.false_ne_true hk).elim
    | some o =>
      rw [ha] at hk
      dsimp only at hk ⊢
      exact gdPin_sound s hk (fun h1 => pin_sound s h1 fun h2 => pins_sound s hr h2) (fun h2 => pins_sound s hr h2)

end
end Go.Cx
