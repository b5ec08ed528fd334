import Derived.Test.YtficmdggjjepmaaGreatSxA
import Derived.Tactics
import Derived.Deep.LoopGhost
import Derived.Scope
import Derived.Defers
import Derived.RangeFuncRecord
set_option linter.all false
namespace Go.Sx
variable {ro : Option Nat} {n : Nat}
variable {P : Program} {T : Tab} {A : Ar} [ArOk A]
variable {ds : List Deferred} {h0 : Heap} {w0 : World} {β : Nat → Nat} {env : Env} {L : Loc} {h : Heap} {a : Act} {w : World}

/-! The guard. -/

theorem gd_mono {ops : List Oper} {env : Env} {o : Oper} {y n y' n' : Unit → Prop} (hg : gd ops env o y n) (hy : y () → y' ()) (hn : n () → n' ()) : gd ops env o y' n' := by
  unfold gd at *
  repeat' split at hg
  all_goals first
    | exact hy hg
    | exact hn hg
    | exact hg.elim
    | (rcases bsel_cases hg with ⟨rfl, hg⟩ | ⟨rfl, hg⟩ <;> first | exact hy hg | exact hn hg)

theorem gd_sound (hs : SRel ds h0 w0 β env L h a w) {ops : Array Oper} {o : Oper} {y n : Unit → Prop} (hg : gd ops.toList env o y n) :
    (Region.wanted o (yielded ops a.tmps) = true ∧ y ()) ∨ (Region.wanted o (yielded ops a.tmps) = false ∧ n ()) := by
  unfold gd at hg
  split at hg
  · rename_i hgn
    exact .inl ⟨by simp [Region.wanted, hgn], hg⟩
  · rename_i j want hgs
    split at hg
    · rename_i oj hoj
      have hoj' : ops[j]? = some oj := by simpa using hoj
      split at hg
      · rename_i d hd
        split at hg
        · rename_i b hb
          have he := getD_some hb (by simp)
          have hsl := hs.slot d _ he
          have hlt : d < a.tmps.size := by rw [hs.size]; exact (List.getElem?_eq_some_iff.1 he).1
          have hsl : a.tmps.getD d undef = .bool b := hsl
          have hv : a.tmps[d]? = some (.bool b) := by
            rw [Array.getD_eq_getD_getElem?] at hsl
            rw [Array.getElem?_eq_getElem hlt] at hsl ⊢
            simpa using hsl
          have hw : Region.wanted o (yielded ops a.tmps) = (b == want) := by
            simp [Region.wanted, hgs, yielded, hoj', hd, hv]
          rw [hw]
          split at hg
          · rcases bsel_cases hg with ⟨rfl, hg⟩ | ⟨rfl, hg⟩
            · exact .inl ⟨rfl, hg⟩
            · exact .inr ⟨rfl, hg⟩
          · rcases bsel_cases hg with ⟨rfl, hg⟩ | ⟨rfl, hg⟩
            · exact .inr ⟨rfl, hg⟩
            · exact .inl ⟨rfl, hg⟩
        · rename_i vs hb
          have he := getD_some hb (by simp)
          have hsl := hs.slot d _ he
          have hlt : d < a.tmps.size := by rw [hs.size]; exact (List.getElem?_eq_some_iff.1 he).1
          have hsl : a.tmps.getD d undef = .tuple vs := hsl
          have hv : a.tmps[d]? = some (.tuple vs) := by
            rw [Array.getD_eq_getD_getElem?] at hsl
            rw [Array.getElem?_eq_getElem hlt] at hsl ⊢
            simpa using hsl
          exact .inr ⟨by simp [Region.wanted, hgs, yielded, hoj', hd, hv], hg⟩
        · exact hg.elim
      · rename_i hd
        exact .inr ⟨by simp [Region.wanted, hgs, yielded, hoj', hd], hg⟩
    · rename_i hoj
      have hoj' : ops[j]? = none := by simpa using hoj
      exact .inr ⟨by simp [Region.wanted, hgs, yielded, hoj'], hg⟩

/-! A region in the order of its text. -/

theorem sxOps_sound (hT : TabOk P T) {ops : Array Oper} {K : Env → Loc → Heap → Prop} {Q : Exit → Act → World → Prop}
    (hpo : PanOk T ds h0 w0 Q) (hK : ∀ env' L' h' β' a' w', K env' L' h' → SRel ds h0 w0 β' env' L' h' a' w' → Q .normal a' w') :
    ∀ (l : List Oper) (env : Env) (L : Loc) (h : Heap) (β : Nat → Nat) (a : Act) (w : World), SRel ds h0 w0 β env L h a w →
      sxOps A T (fun _ => P) ops.toList K l env L h → wpListIn (FW ro) n P ops Q l a w
  | [], env, L, h, β, a, w, hs, hx => hK _ _ _ _ _ _ hx hs
  | o :: r, env, L, h, β, a, w, hs, hx => by
    unfold sxOps at hx
    unfold wpListIn
    rcases gd_sound hs hx with ⟨hw, hx⟩ | ⟨hw, hx⟩
    · rw [if_pos hw]
      split at hx
      · obtain ⟨sv, nb, h1, h2⟩ := lightx_det hx
        obtain ⟨v, w', β', h3, h4⟩ := light_run hT hs (h2 (fun x y => x = sv ∧ y = nb) ⟨rfl, rfl⟩)
        refine wpIn_val h3 ?_
        exact sxOps_sound hT hpo hK r _ _ _ _ _ _ h4 h1
      · refine hx_run hT hs (Lc := L) (fun _ _ q => q) hx hpo fun sv v Lc' L' h' w' h1 h2 h3 => ?_
        have : Lc' = L' := by
          rcases h3 with ⟨e1, e2⟩ | ⟨s, c, x, y, -, -, e1, e2⟩
          · rw [e1, e2]
          · rw [e1, e2]
        subst this
        exact sxOps_sound hT hpo hK r _ _ _ _ _ _ h2 h1
    · rw [if_neg (by simp [hw])]
      refine ⟨fun _ _ => trivial, ?_⟩
      exact sxOps_sound hT hpo hK r _ _ _ _ _ _ (hs.put (x := .v undef) (v := undef) rfl) hx

/-! Regions that draw their order. -/

def isLoad (o : Oper) : Bool := match o.op with
  | .load .. => true
  | _ => false
def isBox (o : Oper) : Bool := match o.op with
  | .alloc _ | .box .. => true
  | _ => false
def isAssign (o : Oper) : Bool := match o.op with
  | .assign _ => true
  | _ => false

/-- What a light operation comes to, in another state that looks the same to it. -/
theorem lightx_transfer {p : Unit → Program} {o : Oper} {ρ ρ' : Operand → SV} {L L' : Loc} {h h' : Heap} {k : SV → Option (List Value) → Prop} (hk : lightx A T p o ρ L h k)
    (hρ : ∀ x ∈ o.op.operands.toList, ρ' x = ρ x) (hL : isLoad o = true → ∀ x ∈ o.op.operands.toList, ∀ s off, ρ x = .loc s off → ∀ c, lkp L s = some c → lkp L' s = some c)
    (hb : isBox o = true → ∀ d, o.dst = some d → lkp L' d = none) (hh : isLoad o = true → h' = h) : lightx A T p o ρ' L' h' k := by
  unfold lightx at hk ⊢
  split at hk
  case h_1 x ho => simp only [ho] at hρ ⊢; rw [hρ x (by simp [Op.operands])]; exact hk
  case h_2 c x y ho =>
    simp only [ho] at hρ ⊢
    rw [hρ c (by simp [Op.operands]), hρ x (by simp [Op.operands]), hρ y (by simp [Op.operands])]; exact hk
  case h_3 e ho =>
    have hb' := hb (by simp [isBox, ho])
    simp only [ho] at hρ ⊢
    split at hk
    · exact hk.elim
    · split at hk
      · exact hk.elim
      · rename_i d hd
        split at hk
        · simp only [hb' d hd]; exact hk
        · exact hk.elim
  case h_4 e x ho =>
    have hb' := hb (by simp [isBox, ho])
    simp only [ho] at hρ ⊢
    rw [hρ x (by simp [Op.operands])]
    split at hk
    · exact hk.elim
    · rename_i d hd
      split at hk
      · split at hk
        · simp only [hb' d hd]; exact hk
        · exact hk.elim
      · exact hk.elim
  case h_5 t x ho =>
    have hL' := hL (by simp [isLoad, ho])
    have hh' := hh (by simp [isLoad, ho])
    subst hh'
    simp only [ho] at hρ hL' ⊢
    rw [hρ x (by simp [Op.operands])]
    split at hk
    · exact hk.elim
    · split at hk
      · rename_i s off hx
        split at hk
        · rename_i c hc
          simp only [hL' x (by simp [Op.operands]) s off hx c hc]; exact hk
        · exact hk.elim
      · exact hk
      · exact hk.elim
  case h_6 x ho => simp only [ho] at hρ ⊢; rw [hρ x (by simp [Op.operands])]; exact hk
  case h_7 t x f ho => simp only [ho] at hρ ⊢; rw [hρ x (by simp [Op.operands])]; exact hk
  case h_8 t x i ho => simp only [ho] at hρ ⊢; rw [hρ x (by simp [Op.operands]), hρ i (by simp [Op.operands])]; exact hk
  case h_9 t x i ho => simp only [ho] at hρ ⊢; rw [hρ x (by simp [Op.operands]), hρ i (by simp [Op.operands])]; exact hk
  case h_10 t x f ho => simp only [ho] at hρ ⊢; rw [hρ x (by simp [Op.operands])]; exact hk
  case h_11 x i ho => simp only [ho] at hρ ⊢; rw [hρ x (by simp [Op.operands])]; exact hk
  case h_12 t parts ho =>
    simp only [ho] at hρ ⊢
    have : ∀ l : List (Nat × Operand), (∀ q ∈ l, ρ' q.2 = ρ q.2) → partsV ρ' l = partsV ρ l := fun l => by
      induction l with
      | nil => intro _; rfl
      | cons q r ih =>
        intro hq
        obtain ⟨i, x⟩ := q
        unfold partsV
        rw [hq (i, x) (by simp), ih (fun q hq' => hq q (by simp [hq']))]
    rw [this parts.toList (fun q hq => hρ q.2 (by simp only [Op.operands, List.mem_map]; exact ⟨q, hq, rfl⟩))]
    exact hk
  case h_13 op t x y ty ho => simp only [ho] at hρ ⊢; rw [hρ x (by simp [Op.operands]), hρ y (by simp [Op.operands])]; exact hk
  case h_14 op t x ho => simp only [ho] at hρ ⊢; rw [hρ x (by simp [Op.operands])]; exact hk
  case h_15 s d x ho => simp only [ho] at hρ ⊢; rw [hρ x (by simp [Op.operands])]; exact hk
  case h_16 t x ho => simp only [ho] at hρ ⊢; rw [hρ x (by simp [Op.operands])]; exact hk
  case h_17 fn f c ho =>
    simp only [ho] at hρ ⊢
    rw [List.map_congr_left (g := ρ) (fun x hx => hρ x (by simp only [Op.operands, Array.toList_append, List.mem_append]; exact .inl hx)),
      List.map_congr_left (l := c.toList) (g := ρ) (fun x hx => hρ x (by simp only [Op.operands, Array.toList_append, List.mem_append]; exact .inr hx))]
    exact hk
  case h_18 t x lo hi mx ho =>
    simp only [ho] at hρ ⊢
    have hs : ∀ y : Option Operand, (∀ z, y = some z → ρ' z = ρ z) → slx ρ' y = slx ρ y := fun y hy => by
      cases y with
      | none => rfl
      | some z => simp only [slx, hy z rfl]
    rw [hs lo (fun z hz => hρ z (by simp [Op.operands, hz])), hs hi (fun z hz => hρ z (by simp [Op.operands, hz])), hs mx (fun z hz => hρ z (by simp [Op.operands, hz])),
      hρ x (by simp [Op.operands])]
    exact hk
  case h_19 b args argTypes ho =>
    simp only [ho] at hρ ⊢
    rw [List.map_congr_left (g := ρ) (fun x hx => hρ x (by simp [Op.operands, Call.operands]; simpa using hx))]
    exact hk
  case h_20 x q as ok ho => simp only [ho] at hρ ⊢; rw [hρ x (by simp [Op.operands])]; exact hk
  case h_21 => exact hk.elim

theorem hx_congr {p : Unit → Program} {o : Oper} {ρ ρ' : Operand → SV} {L : Loc} {h : Heap} {k : SV → Loc → Heap → Prop} (hk : hx A T p o ρ L h k)
    (hρ : ∀ x ∈ o.op.operands.toList, ρ' x = ρ x) (hρr : ∀ t ∈ T.rs, ρ' (.tmp t) = ρ (.tmp t)) : hx A T p o ρ' L h k := by
  have hrs : (T.rs.map fun t => ρ' (.tmp t)) = (T.rs.map fun t => ρ (.tmp t)) := List.map_congr_left hρr
  unfold hx at hk ⊢
  split at hk
  case h_1 x ho => simp only [ho] at hρ ⊢; rw [hρ x (by simp [Op.operands])]; exact hk
  case h_2 t x y ho => simp only [ho] at hρ ⊢; rw [hρ x (by simp [Op.operands]), hρ y (by simp [Op.operands])]; exact hk
  case h_3 e ho => simp only [ho] at hρ ⊢; exact hk
  case h_4 e x ho => simp only [ho] at hρ ⊢; rw [hρ x (by simp [Op.operands])]; exact hk
  case h_5 t len parts ho =>
    simp only [ho] at hρ ⊢
    have : ∀ l : List (Nat × Operand), (∀ q ∈ l, ρ' q.2 = ρ q.2) → partsV ρ' l = partsV ρ l := fun l => by
      induction l with
      | nil => intro _; rfl
      | cons q r ih =>
        intro hq
        obtain ⟨i, x⟩ := q
        unfold partsV
        rw [hq (i, x) (by simp), ih (fun q hq' => hq q (by simp [hq']))]
    rw [this parts.toList (fun q hq => hρ q.2 (by simp only [Op.operands, List.mem_map]; exact ⟨q, hq, rfl⟩))]
    exact hk
  case h_6 t x y ho => simp only [ho] at hρ ⊢; rw [hρ x (by simp [Op.operands]), hρ y (by simp [Op.operands])]; exact hk
  case h_7 t r ho => simp only [ho] at hρ ⊢; exact hk
  case h_8 f args argTypes ho =>
    simp only [ho] at hρ ⊢
    rw [hρ f (by simp [Op.operands, Call.operands]), List.map_congr_left (g := ρ) (fun x hx => hρ x (by simp [Op.operands, Call.operands]; right; simpa using hx)), hrs]
    exact hk
  case h_9 b args argTypes ho =>
    simp only [ho] at hρ ⊢
    rw [List.map_congr_left (g := ρ) (fun x hx => hρ x (by simp [Op.operands, Call.operands]; simpa using hx))]
    exact hk
  case h_10 src dst x ho => simp only [ho] at hρ ⊢; rw [hρ x (by simp [Op.operands])]; exact hk
  case h_11 t x i b ho => simp only [ho] at hρ ⊢; rw [hρ x (by simp [Op.operands]), hρ i (by simp [Op.operands])]; exact hk
  case h_12 t m i x ho => simp only [ho] at hρ ⊢; rw [hρ m (by simp [Op.operands]), hρ i (by simp [Op.operands]), hρ x (by simp [Op.operands])]; exact hk
  case h_13 t m i ho => simp only [ho] at hρ ⊢; rw [hρ m (by simp [Op.operands]), hρ i (by simp [Op.operands])]; exact hk
  case h_14 t m i x ho => simp only [ho] at hρ ⊢; rw [hρ m (by simp [Op.operands]), hρ i (by simp [Op.operands]), hρ x (by simp [Op.operands])]; exact hk
  case h_15 t x ho => simp only [ho] at hρ ⊢; rw [hρ x (by simp [Op.operands])]; exact hk
  case h_16 it str ho => simp only [ho] at hρ ⊢; rw [hρ it (by simp [Op.operands])]; exact hk
  case h_17 it ho => simp only [ho] at hρ ⊢; rw [hρ it (by simp [Op.operands])]; exact hk
  case h_18 t m i x ho => simp only [ho] at hρ ⊢; rw [hρ m (by simp [Op.operands]), hρ i (by simp [Op.operands]), hρ x (by simp [Op.operands])]; exact hk
  case h_19 x ho => simp only [ho] at hρ ⊢; rw [hρ x (by simp [Op.operands]), hrs]; exact hk
  case h_20 => exact hk.elim

end Go.Sx

namespace Go.Sx
variable {P : Program} {T : Tab} {A : Ar} [ArOk A]
variable {ds : List Deferred} {h0 : Heap} {w0 : World}

/-! The check of a plan, closed. -/

def preds (o : Oper) : List Nat := (o.after.toList.filter fun e => Region.binds .any e).map (·.on)

def regOK (T : Tab) (ops : Array Oper) : Bool :=
  (List.range ops.size).all fun i => match ops[i]? with
    | none => false
    | some oi => (preds oi).all (fun e => decide (e < i)) &&
      (match oi.dst with | none => true | some d => !isLight T oi || !(oi.looksAt ops).contains d) &&
      (List.range ops.size).all fun j => i == j || match ops[j]? with
        | none => false
        | some oj => match oi.dst with
          | none => true
          | some d => oj.dst != some d && (!(oj.looksAt ops).contains d || (preds oj).contains i || (!isLight T oi && (preds oi).contains j))

/-- The slots that a panic is asked for are not written here. -/
def rsOK (T : Tab) (ops : Array Oper) : Bool := ops.toList.all fun o => match o.dst with
  | some d => !T.rs.contains d
  | none => true
theorem rsOK_spec {T : Tab} {ops : Array Oper} (h : rsOK T ops = true) {i : Nat} {o : Oper} (hi : ops[i]? = some o) {t : Nat} (ht : t ∈ T.rs) : o.dst ≠ some t := fun hd => by
  unfold rsOK at h
  rw [List.all_eq_true] at h
  have h1 := h o (by
    obtain ⟨hl, rfl⟩ := Array.getElem?_eq_some_iff.1 hi
    simp)
  rw [hd] at h1
  simp [ht] at h1

def cloPass (ops : Array Oper) : Nat → List Nat → List Nat
  | 0, s => s
  | i + 1, s => cloPass ops i (if s.contains i then (match ops[i]? with | some o => preds o | none => []) ++ s else s)

def heads : Plan → List Nat
  | .heavy i _ _ => [i]
  | .fork l r => heads l ++ heads r
  | _ => []

def covers (ops : Array Oper) (p : Plan) (listed : List Nat) : Bool :=
  (List.range ops.size).all fun j => listed.contains j || (heads p).contains j || match ops[j]? with
    | some o => !(preds o).all listed.contains
    | none => true

def okP (T : Tab) (ops : Array Oper) : Plan → Bool → List Nat → List Nat → List Nat → Bool
  | .done, br, listed, _, _ => !br && (List.range ops.size).all listed.contains
  | .light i rest, br, listed, pend, known => !br && !listed.contains i && (match ops[i]? with
      | some o => isLight T o && (preds o).all listed.contains
      | none => false) && okP T ops rest false (i :: listed) (i :: pend) known
  | .heavy i pn rest, br, listed, pend, known => (br || covers ops (.heavy i pn rest) listed) && !listed.contains i && (match ops[i]? with
      | some o => !isLight T o && (isAssign o || pend.all fun j => (cloPass ops ops.size (i :: known)).contains j || pn.contains j || (match ops[j]? with
          | some oj => !isLoad oj
          | none => true))
      | none => false) &&
      okP T ops rest false (i :: listed) (pend.filter fun j => !(cloPass ops ops.size (i :: known)).contains j) (cloPass ops ops.size (i :: known))
  | .fork l r, br, listed, pend, known => (br || covers ops (.fork l r) listed) && okP T ops l true listed pend known && okP T ops r true listed pend known

/-! What the check says. -/

theorem regOK_spec {ops : Array Oper} (hr : regOK T ops = true) {i : Nat} {oi : Oper} (hi : ops[i]? = some oi) :
    (∀ e ∈ preds oi, e < i) ∧ (isLight T oi = true → ∀ d, oi.dst = some d → d ∉ oi.looksAt ops) ∧ ∀ j oj, i ≠ j → ops[j]? = some oj → ∀ d, oi.dst = some d → oj.dst ≠ some d ∧
      (d ∈ oj.looksAt ops → i ∈ preds oj ∨ (isLight T oi = false ∧ j ∈ preds oi)) := by
  unfold regOK at hr
  rw [List.all_eq_true] at hr
  have hlt : i < ops.size := (Array.getElem?_eq_some_iff.1 hi).1
  have h1 := hr i (by simpa using hlt)
  simp only [hi, Bool.and_eq_true, List.all_eq_true, decide_eq_true_eq] at h1
  refine ⟨h1.1.1, fun hl d hd => ?_, fun j oj hne hj d hd => ?_⟩
  · have := h1.1.2
    simp only [hd, hl, Bool.not_true, Bool.false_or, Bool.not_eq_true', List.contains_eq_mem, decide_eq_false_iff_not] at this
    exact this
  have h2 := h1.2 j (by simpa using (Array.getElem?_eq_some_iff.1 hj).1)
  simp only [hj, hd, Bool.or_eq_true, beq_iff_eq, Bool.and_eq_true, bne_iff_ne, Bool.not_eq_true', List.contains_eq_mem, decide_eq_true_eq, decide_eq_false_iff_not] at h2
  rcases h2 with h2 | ⟨h2, h3⟩
  · exact absurd h2 hne
  · refine ⟨h2, fun hm => ?_⟩
    rcases h3 with (h3 | h3) | ⟨h3, h4⟩
    · exact absurd hm h3
    · exact .inl h3
    · exact .inr ⟨h3, h4⟩

def In (X : Array Bool) (i : Nat) : Prop := X.getD i false = true

theorem In.set {X : Array Bool} {i j : Nat} (hi : i < X.size) : In (X.setIfInBounds i true) j ↔ i = j ∨ In X j := by
  unfold In
  simp only [Array.getD_eq_getD_getElem?, Array.getElem?_setIfInBounds]
  by_cases h : i = j
  · subst h; simp [hi]
  · simp [h]

theorem mem_preds {o : Oper} {i : Nat} : i ∈ preds o ↔ ∃ e ∈ o.after, Region.binds .any e = true ∧ e.on = i := by
  simp [preds, and_assoc]

theorem ready_iff {ops : Array Oper} {X : Array Bool} (hX : X.size = ops.size) {j : Nat} :
    j ∈ Region.ready .any ops X ↔ ¬ In X j ∧ ∃ o, ops[j]? = some o ∧ ∀ e ∈ preds o, In X e := by
  rw [mem_ready]
  constructor
  · rintro ⟨h1, o, ho, h2⟩
    have hlt : j < X.size := by rw [hX]; exact (Array.getElem?_eq_some_iff.1 ho).1
    refine ⟨?_, o, ho, fun e he => ?_⟩
    · unfold In
      rw [Array.getD_eq_getD_getElem?, Array.getElem?_eq_getElem hlt] at h1 ⊢
      simp at h1 ⊢; exact h1
    · obtain ⟨e', h3, h4, rfl⟩ := mem_preds.1 he
      exact h2 e' h3 h4
  · rintro ⟨h1, o, ho, h2⟩
    have hlt : j < X.size := by rw [hX]; exact (Array.getElem?_eq_some_iff.1 ho).1
    refine ⟨?_, o, ho, fun e he hb => h2 e.on (mem_preds.2 ⟨e, he, hb, rfl⟩)⟩
    unfold In at h1
    rw [Array.getD_eq_getD_getElem?, Array.getElem?_eq_getElem hlt] at h1 ⊢
    simp at h1 ⊢; exact h1

theorem cloPass_in {ops : Array Oper} {X : Array Bool} (hd : ∀ i o, In X i → ops[i]? = some o → ∀ e ∈ preds o, In X e) :
    ∀ (n : Nat) (s : List Nat), (∀ i ∈ s, In X i) → ∀ i ∈ cloPass ops n s, In X i
  | 0, s, hs => hs
  | n + 1, s, hs => by
    unfold cloPass
    refine cloPass_in hd n _ fun i hi => ?_
    split at hi
    · rename_i hc
      rcases List.mem_append.1 hi with hi | hi
      · cases ho : ops[n]? with
        | none => rw [ho] at hi; cases hi
        | some o =>
          rw [ho] at hi
          exact hd n o (hs n (by simpa using hc)) ho i hi
      · exact hs i hi
    · exact hs i hi

/-! The state of a run that may be behind the walk: 'D' are the light operations that the walk has taken and the run has not come to. -/

structure Pend where
  i : Nat
  o : Oper
  sv : SV
  nb : Option (List Value)

/-- What the walk knows of an operation that it has taken. -/
def Pend.fact (A : Ar) (T : Tab) (P : Program) (ops : Array Oper) (env : Env) (L : Loc) (h : Heap) (x : Pend) : Prop :=
  gd ops.toList env x.o (fun _ => lightx A T (fun _ => P) x.o (sev env) (if isBox x.o then [] else L) h (fun a b => a = x.sv ∧ b = x.nb)) (fun _ => x.sv = .v undef ∧ x.nb = none)

structure Behind (A : Ar) (T : Tab) (P : Program) (ops : Array Oper) (X : Array Bool) (D : List Pend) (listed pend known : List Nat) (envc : Env) (Lc : Loc) (enva : Env) (La : Loc) (h : Heap) : Prop where
  size : X.size = ops.size
  lst : ∀ j, j ∈ listed ↔ In X j ∨ ∃ x ∈ D, x.i = j
  apart : ∀ x ∈ D, ¬ In X x.i
  down : ∀ i o, In X i → ops[i]? = some o → ∀ e ∈ preds o, In X e
  known : ∀ i ∈ known, In X i
  pend : ∀ x ∈ D, x.i ∈ pend
  len : enva.length = envc.length
  env : ∀ t, (∀ x ∈ D, x.o.dst ≠ some t) → enva[t]? = envc[t]?
  dst : ∀ x ∈ D, ∀ t, x.o.dst = some t → t < envc.length → envc[t]? = some x.sv
  loc : ∀ s, (∀ x ∈ D, x.nb.isSome = true → x.o.dst ≠ some s) → lkp La s = lkp Lc s
  box : ∀ x ∈ D, ∀ s c, x.nb = some c → x.o.dst = some s → lkp La s = none ∧ lkp Lc s = some c
  op : ∀ x ∈ D, ops[x.i]? = some x.o ∧ isLight T x.o = true
  prd : ∀ x ∈ D, ∀ e ∈ preds x.o, e ∈ listed
  uniq : ∀ x ∈ D, ∀ y ∈ D, x.i = y.i → x = y
  fact : ∀ x ∈ D, x.fact A T P ops envc Lc h


theorem gd_split {ops : List Oper} {env : Env} {o : Oper} {y n : Unit → Prop} (hg : gd ops env o y n) :
    (y () ∧ ∀ y' n' : Unit → Prop, gd ops env o y' n' ↔ y' ()) ∨ (n () ∧ ∀ y' n' : Unit → Prop, gd ops env o y' n' ↔ n' ()) := by
  unfold gd at *
  repeat' split at hg
  all_goals first
    | exact hg.elim
    | exact .inl ⟨hg, fun _ _ => Iff.rfl⟩
    | exact .inr ⟨hg, fun _ _ => Iff.rfl⟩
    | (rcases bsel_cases hg with ⟨rfl, hg⟩ | ⟨rfl, hg⟩ <;> first
        | exact .inl ⟨hg, fun _ _ => Iff.rfl⟩
        | exact .inr ⟨hg, fun _ _ => Iff.rfl⟩)

theorem gd_env {ops : Array Oper} {env env' : Env} {o : Oper} {y n : Unit → Prop} (hg : gd ops.toList env o y n) (he : ∀ t ∈ o.looksAt ops, env'[t]? = env[t]?) :
    gd ops.toList env' o y n := by
  have key : ∀ (j : Nat) (want : Bool), o.guard = some (j, want) → ∀ oj, ops.toList[j]? = some oj → ∀ d, oj.dst = some d → env'.getD d .u = env.getD d .u := fun j want hgs oj hoj d hd => by
    rw [List.getD_eq_getElem?_getD, List.getD_eq_getElem?_getD, he d ?_]
    unfold Oper.looksAt
    refine List.mem_append_right _ ?_
    have hoj' : ops[j]? = some oj := by simpa using hoj
    simp [hgs, hoj', hd]
  unfold gd at hg ⊢
  cases hgs : o.guard with
  | none => simp only [hgs] at hg; exact hg
  | some jw =>
    obtain ⟨j, want⟩ := jw
    simp only [hgs] at hg ⊢
    cases hoj : ops.toList[j]? with
    | none => simp only [hoj] at hg; exact hg
    | some oj =>
      simp only [hoj] at hg ⊢
      cases hd : oj.dst with
      | none => simp only [hd] at hg; exact hg
      | some d =>
        simp only [hd] at hg ⊢
        rw [key j want hgs oj hoj d hd]
        exact hg

theorem sev_env {ops : Array Oper} {env env' : Env} {o : Oper} (he : ∀ t ∈ o.looksAt ops, env'[t]? = env[t]?) : ∀ x ∈ o.op.operands.toList, sev env' x = sev env x := fun x hx => by
  cases x with
  | tmp t =>
    show env'.getD t .u = env.getD t .u
    rw [List.getD_eq_getElem?_getD, List.getD_eq_getElem?_getD, he t ?_]
    unfold Oper.looksAt
    exact List.mem_append_left _ (List.mem_filterMap.2 ⟨.tmp t, hx, rfl⟩)
  | const v => rfl
  | global g => rfl
  | func f => rfl

theorem put_get {env : Env} {d : Option Nat} {x : SV} {t : Nat} (h : d ≠ some t) : (put env d x)[t]? = env[t]? := by
  cases d with
  | none => rfl
  | some u => simp only [put]; rw [List.getElem?_set_ne (fun e => h (by rw [e]))]

theorem put_same {env : Env} {t : Nat} {x : SV} (h : t < env.length) : (put env (some t) x)[t]? = some x := by
  simp only [put]; rw [List.getElem?_set_self h]

theorem put_len {env : Env} {d : Option Nat} {x : SV} : (put env d x).length = env.length := by
  cases d <;> simp [put]

theorem rdvk_c {g : Bool} {cs : List Value} {q : Prop} (h : rdvk g cs (fun _ => q)) : q := (rdvk_det h).elim fun _ h => h.2
theorem ldx_c {h : Heap} {x : Addr} {n : Nat} {g : Bool} {q : Prop} (hk : LdX h x n (fun cs => rdvk g cs (fun _ => q))) : q := hk.out.elim fun _ h => rdvk_c h.2
theorem runx_c {p : Unit → Program} {s : Unit → Sem Value} {q : Prop} (h : RunX p s (fun _ => q)) : q := h.out.elim fun _ h => h.2
theorem chk_c {p : Unit → Prop} {q : Prop} (h : Chk p (fun _ => q)) : q := h.out
theorem sliceX_c {b : Option Addr} {len cap size : Nat} {l hh m : Option Int} {q : Prop} (h : sliceX A b len cap size l hh m (fun _ => q)) : q := (sliceX_det h).elim fun _ h => h.1
theorem sliceS_c {s : ByteArray} {l hh : Option Int} {q : Prop} (h : sliceS A s l hh (fun _ => q)) : q := (sliceS_det h).elim fun _ h => h.1

theorem binC_c {op : BinOp} {a b : Value} {e : (Value → Prop) → Unit → Prop} (he : ∀ k, e k () → ∃ v, k v ∧ ∀ k' : Value → Prop, k' v → e k' ()) {q : Prop} (hk : binC A op a b (fun _ => q) (e (fun _ => q))) : q := (binC_det he hk).elim fun _ h => h.1
theorem binR_c {op : BinOp} {a b : Value} {p : Unit → Program} {s : Unit → Sem Value} {q : Prop} (hk : binC A op a b (fun _ => q) (fun _ => RunX p s (fun _ => q))) : q :=
  binC_c (e := fun k _ => RunX p s k) (fun k h => by
    obtain ⟨v, g1, g2⟩ := h.out
    exact ⟨v, g2, fun k' h' => ⟨v, g1, h'⟩⟩) hk

theorem lightx_box {p : Unit → Program} {o : Oper} {ρ : Operand → SV} {L : Loc} {h : Heap} {sv : SV} {nb : Option (List Value)} (hk : lightx A T p o ρ L h (fun a b => a = sv ∧ b = nb)) :
    (isBox o = true → nb.isSome = true ∧ ∃ d, o.dst = some d ∧ lkp L d = none) ∧ (isBox o = false → nb = none) := by
  obtain ⟨sv', nb', ⟨rfl, rfl⟩, hall⟩ := lightx_det hk
  clear hk
  have h1 := hall (fun a b => b = nb') rfl
  clear hall
  unfold lightx at h1
  split at h1
  case h_3 e ho =>
    refine ⟨fun _ => ?_, fun hb => by simp [isBox, ho] at hb⟩
    split at h1
    · exact h1.elim
    · split at h1
      · exact h1.elim
      · rename_i d hd
        split at h1
        · rename_i hl; subst h1; exact ⟨rfl, d, hd, hl⟩
        · exact h1.elim
  case h_4 e x ho =>
    refine ⟨fun _ => ?_, fun hb => by simp [isBox, ho] at hb⟩
    split at h1
    · exact h1.elim
    · rename_i d hd
      split at h1
      · split at h1
        · rename_i hl; subst h1; exact ⟨rfl, d, hd, hl⟩
        · exact h1.elim
      · exact h1.elim
  case h_21 => exact h1.elim
  all_goals
    rename_i ho
    refine ⟨fun hb => by simp [isBox, ho] at hb, fun _ => ?_⟩
    clear ho
    repeat' split at h1
    all_goals first
      | exact h1.elim
      | exact Eq.symm h1
      | exact Eq.symm (ldx_c h1)
      | exact Eq.symm (rdvk_c h1)
      | exact Eq.symm (runx_c h1)
      | exact Eq.symm (chk_c h1)
      | exact Eq.symm (binR_c h1)
      | exact Eq.symm (sliceX_c h1)
      | exact Eq.symm (sliceS_c h1)

end Go.Sx

namespace Go.Sx
variable {ro : Option Nat} {n : Nat}
variable {P : Program} {T : Tab} {A : Ar} [ArOk A]
variable {ds : List Deferred} {h0 : Heap} {w0 : World} {β : Nat → Nat} {h : Heap} {a : Act} {w : World}
variable {ops : Array Oper} {X : Array Bool} {D : List Pend} {listed pend known : List Nat} {envc enva : Env} {Lc La : Loc}

theorem addL_lkp {L : Loc} {d : Option Nat} {nb : Option (List Value)} {s : Nat} : lkp (addL L d nb) s = if d = some s ∧ nb.isSome = true then nb else lkp L s := by
  cases d with
  | none => simp [addL]
  | some t =>
    cases nb with
    | none => simp [addL]
    | some c =>
      simp only [addL, lkp]
      by_cases h : t = s <;> simp [h]

/-- A fact in another state that looks the same to it. -/
theorem Pend.fact_env {x : Pend} {env env' : Env} {L L' : Loc} {h h' : Heap} (hf : x.fact A T P ops env L h) (he : ∀ t ∈ x.o.looksAt ops, env'[t]? = env[t]?)
    (hL : isLoad x.o = true → ∀ s c, lkp L s = some c → lkp L' s = some c) (hh : isLoad x.o = true → h' = h) : x.fact A T P ops env' L' h' := by
  unfold Pend.fact at *
  refine gd_mono (gd_env hf he) (fun q => ?_) id
  refine lightx_transfer q (sev_env he) (fun hl y hy s off hs c hc => ?_) (fun hb d hd => ?_) hh
  · split at hc
    · cases hc
    · rename_i hb
      rw [if_neg hb]
      exact hL hl s c hc
  · rw [if_pos hb]; rfl

/-- The slots that an operation looks at and that come of what the run is behind with. -/
theorem Behind.look (hB : Behind A T P ops X D listed pend known envc Lc enva La h) (hr : regOK T ops = true) {k : Nat} {ok : Oper} (hk : ops[k]? = some ok) (hp : ∀ e ∈ preds ok, In X e) :
    ∀ t ∈ ok.looksAt ops, enva[t]? = envc[t]? := fun t ht => hB.env t fun x hx hd => by
  obtain ⟨ho, hl⟩ := hB.op x hx
  obtain ⟨-, h1, h2⟩ := regOK_spec hr ho
  by_cases he : x.i = k
  · rw [he, hk] at ho
    cases ho
    exact h1 hl t hd ht
  · rcases (h2 k ok he hk t hd).2 ht with h3 | ⟨h3, -⟩
    · exact hB.apart x hx (hp _ h3)
    · rw [hl] at h3; cases h3

theorem Behind.sub (hB : Behind A T P ops X D listed pend known envc Lc enva La h) {s : Nat} {c : List Value} (hl : lkp La s = some c) : lkp Lc s = some c := by
  rw [← hB.loc s (fun x hx hn hd => ?_)]
  · exact hl
  · obtain ⟨c', hc'⟩ := Option.isSome_iff_exists.1 hn
    rw [(hB.box x hx s c' hc' hd).1] at hl; cases hl

theorem Behind.inX (hB : Behind A T P ops X D listed pend known envc Lc enva La h) {j : Nat} (h : In X j) : j ∈ listed := (hB.lst j).2 (.inl h)

/-- The walk takes a light operation. -/
theorem Behind.take (hB : Behind A T P ops X D listed pend known envc Lc enva La h) (hr : regOK T ops = true) {i : Nat} {o : Oper} (hi : ops[i]? = some o) (hni : i ∉ listed) (hlt : isLight T o = true)
    (hp : ∀ e ∈ preds o, e ∈ listed) {K : SV → Option (List Value) → Prop} {N : Prop}
    (hx : gd ops.toList envc o (fun _ => lightx A T (fun _ => P) o (sev envc) Lc h K) (fun _ => N)) :
    ∃ sv nb, (K sv nb ∨ (N ∧ sv = .v undef ∧ nb = none)) ∧ Behind A T P ops X (⟨i, o, sv, nb⟩ :: D) (i :: listed) (i :: pend) known (put envc o.dst sv) (addL Lc o.dst nb) enva La h := by
  obtain ⟨-, hself, hreg⟩ := regOK_spec hr hi
  have hne : ∀ x ∈ D, i ≠ x.i := fun x hx e => hni ((hB.lst i).2 (.inr ⟨x, hx, e.symm⟩))
  -- what comes of it
  have hmain : ∃ sv nb, (K sv nb ∨ (N ∧ sv = .v undef ∧ nb = none)) ∧ Pend.fact A T P ops envc Lc h ⟨i, o, sv, nb⟩ ∧ (∀ d c, o.dst = some d → nb = some c → lkp Lc d = none) := by
    rcases gd_split hx with ⟨h1, h2⟩ | ⟨h1, h2⟩
    · obtain ⟨sv, nb, h3, h4⟩ := lightx_det h1
      have h5 := h4 (fun a b => a = sv ∧ b = nb) ⟨rfl, rfl⟩
      refine ⟨sv, nb, .inl h3, (h2 _ _).2 ?_, fun d c hd hc => ?_⟩
      · exact lightx_transfer h5 (fun _ _ => rfl) (fun hl y _ s off _ c hc => by
          have : isBox o = false := by
            cases hq : o.op <;> simp [isLoad, isBox, hq] at hl ⊢
          simp [this, hc]) (fun hb d hd => by simp [hb, lkp]) (fun _ => rfl)
      · have hb := lightx_box h5
        cases hbx : isBox o with
        | true => obtain ⟨-, d', hd', hn⟩ := hb.1 hbx; rw [hd] at hd'; cases hd'; exact hn
        | false => rw [hb.2 hbx] at hc; cases hc
    · exact ⟨.v undef, none, .inr ⟨h1, rfl, rfl⟩, (h2 _ _).2 ⟨rfl, rfl⟩, fun d c _ hc => by cases hc⟩
  obtain ⟨sv, nb, hK, hf, hfresh⟩ := hmain
  have hux : ∀ x ∈ D, ∀ t, o.dst = some t → x.o.dst ≠ some t := fun x hx t ht => (hreg x.i x.o (hne x hx) (hB.op x hx).1 t ht).1
  have hLsub : ∀ s c, lkp Lc s = some c → lkp (addL Lc o.dst nb) s = some c := fun s c hc => by
    rw [addL_lkp]
    split
    · rename_i hcond
      obtain ⟨c', hc'⟩ := Option.isSome_iff_exists.1 hcond.2
      rw [hfresh s c' hcond.1 hc'] at hc; cases hc
    · exact hc
  refine ⟨sv, nb, hK, ⟨hB.size, fun j => ?_, fun x hx => ?_, hB.down, hB.known, fun x hx => ?_, by rw [put_len]; exact hB.len, fun t ht => ?_, fun x hx t hd hlen => ?_, fun s hs => ?_, fun x hx s c hn hd => ?_,
    fun x hx => ?_, fun x hx e he => ?_, fun x hx y hy hxy => ?_, fun x hx => ?_⟩⟩
  · simp only [List.mem_cons, hB.lst j]
    constructor
    · rintro (rfl | h1 | ⟨x, hx, e⟩)
      · exact .inr ⟨_, .inl rfl, rfl⟩
      · exact .inl h1
      · exact .inr ⟨x, .inr hx, e⟩
    · rintro (h1 | ⟨x, rfl | hx, e⟩)
      · exact .inr (.inl h1)
      · exact .inl e.symm
      · exact .inr (.inr ⟨x, hx, e⟩)
  · rcases List.mem_cons.1 hx with rfl | hx
    · exact fun hin => hni (hB.inX hin)
    · exact hB.apart x hx
  · rcases List.mem_cons.1 hx with rfl | hx
    · exact List.mem_cons_self
    · exact List.mem_cons_of_mem _ (hB.pend x hx)
  · rw [put_get (ht ⟨i, o, sv, nb⟩ (by simp))]
    exact hB.env t fun x hx => ht x (by simp [hx])
  · rw [put_len] at hlen
    rcases List.mem_cons.1 hx with rfl | hx
    · simp only at hd; rw [hd, put_same hlen]
    · rw [put_get (fun e => hux x hx t e hd)]
      exact hB.dst x hx t hd hlen
  · rw [addL_lkp, if_neg (fun hc => hs ⟨i, o, sv, nb⟩ (by simp) hc.2 hc.1)]
    exact hB.loc s fun x hx => hs x (by simp [hx])
  · rcases List.mem_cons.1 hx with rfl | hx
    · simp only at hn hd
      refine ⟨?_, by rw [addL_lkp, if_pos ⟨hd, by simp [hn]⟩]; exact hn⟩
      rw [hB.loc s (fun y hy _ hdy => hux y hy s hd hdy)]
      exact hfresh s c hd hn
    · obtain ⟨h1, h2⟩ := hB.box x hx s c hn hd
      exact ⟨h1, hLsub s c h2⟩
  · rcases List.mem_cons.1 hx with rfl | hx
    · exact ⟨hi, hlt⟩
    · exact hB.op x hx
  · rcases List.mem_cons.1 hx with rfl | hx
    · exact List.mem_cons_of_mem _ (hp e he)
    · exact List.mem_cons_of_mem _ (hB.prd x hx e he)
  · rcases List.mem_cons.1 hx with rfl | hx <;> rcases List.mem_cons.1 hy with rfl | hy
    · rfl
    · exact absurd hxy (hne y hy)
    · exact absurd hxy.symm (hne x hx)
    · exact hB.uniq x hx y hy hxy
  · rcases List.mem_cons.1 hx with rfl | hx
    · exact Pend.fact_env hf (fun t ht => put_get (fun e => hself hlt t e ht)) (fun _ => hLsub) (fun _ => rfl)
    · refine Pend.fact_env (hB.fact x hx) (fun t ht => put_get (fun e => ?_)) (fun _ => hLsub) (fun _ => rfl)
      rcases (hreg x.i x.o (hne x hx) (hB.op x hx).1 t e).2 ht with h3 | ⟨h3, -⟩
      · exact hni (hB.prd x hx i h3)
      · rw [hlt] at h3; cases h3

/-- The run comes to one that the walk has taken. -/
theorem Behind.catch (hT : TabOk P T) (hB : Behind A T P ops X D listed pend known envc Lc enva La h) (hr : regOK T ops = true) (hs : SRel ds h0 w0 β enva La h a w) {x : Pend} (hx : x ∈ D)
    (hp : ∀ e ∈ preds x.o, In X e) {Q : Exit → Act → World → Prop} {K : Act → World → Prop}
    (hK : ∀ β' a' w' enva' La', SRel ds h0 w0 β' enva' La' h a' w' → Behind A T P ops (X.setIfInBounds x.i true) (D.filter fun y => y.i != x.i) listed pend known envc Lc enva' La' h → K a' w') :
    wpOpIn (FW ro) n P ops Q x.i K a w := by
  obtain ⟨ho, hlt⟩ := hB.op x hx
  have hlook := hB.look hr ho hp
  have hxi : x.i < X.size := by rw [hB.size]; exact (Array.getElem?_eq_some_iff.1 ho).1
  have hmem : ∀ y, (y ∈ D.filter fun y => y.i != x.i) ↔ y ∈ D ∧ y.i ≠ x.i := fun y => by simp
  have hgo : ∀ β' v, SRel ds h0 w0 β' (put enva x.o.dst x.sv) (addL La x.o.dst x.nb) h (a.put x.o.dst v) w → True := fun _ _ _ => trivial
  have fin : Behind A T P ops (X.setIfInBounds x.i true) (D.filter fun y => y.i != x.i) listed pend known envc Lc (put enva x.o.dst x.sv) (addL La x.o.dst x.nb) h := by
    obtain ⟨-, -, hreg⟩ := regOK_spec hr ho
    have hux : ∀ y ∈ D, y.i ≠ x.i → ∀ t, x.o.dst = some t → y.o.dst ≠ some t := fun y hy hne t ht => (hreg y.i y.o (Ne.symm hne) (hB.op y hy).1 t ht).1
    refine ⟨by simp [hB.size], fun j => ?_, fun y hy => ?_, fun i o hin hio e he => ?_, fun i hi => ?_, fun y hy => hB.pend y ((hmem y).1 hy).1, by rw [put_len]; exact hB.len, fun t ht => ?_,
      fun y hy => hB.dst y ((hmem y).1 hy).1, fun s hs' => ?_, fun y hy s c hn hd => ?_, fun y hy => hB.op y ((hmem y).1 hy).1, fun y hy => hB.prd y ((hmem y).1 hy).1,
      fun y hy z hz => hB.uniq y ((hmem y).1 hy).1 z ((hmem z).1 hz).1, fun y hy => hB.fact y ((hmem y).1 hy).1⟩
    · rw [hB.lst j, In.set hxi]
      constructor
      · rintro (h1 | ⟨y, hy, e⟩)
        · exact .inl (.inr h1)
        · by_cases hyx : y.i = x.i
          · exact .inl (.inl (by rw [← hyx, e]))
          · exact .inr ⟨y, (hmem y).2 ⟨hy, hyx⟩, e⟩
      · rintro ((h1 | h1) | ⟨y, hy, e⟩)
        · exact .inr ⟨x, hx, h1⟩
        · exact .inl h1
        · exact .inr ⟨y, ((hmem y).1 hy).1, e⟩
    · rw [In.set hxi]
      obtain ⟨h1, h2⟩ := (hmem y).1 hy
      rintro (e | e)
      · exact h2 e.symm
      · exact hB.apart y h1 e
    · rw [In.set hxi] at hin ⊢
      rcases hin with e' | hin
      · subst e'
        rw [ho] at hio; cases hio
        exact .inr (hp e he)
      · exact .inr (hB.down i o hin hio e he)
    · rw [In.set hxi]; exact .inr (hB.known i hi)
    · by_cases hd : x.o.dst = some t
      · by_cases hlen : t < envc.length
        · rw [hd, put_same (by rw [hB.len]; exact hlen), hB.dst x hx t hd hlen]
        · have e1 : (put enva x.o.dst x.sv).length ≤ t := by rw [put_len, hB.len]; exact Nat.le_of_not_lt hlen
          rw [List.getElem?_eq_none e1, List.getElem?_eq_none (Nat.le_of_not_lt hlen)]
      · rw [put_get hd]
        refine hB.env t fun y hy hdy => ?_
        by_cases hyx : y.i = x.i
        · rw [hB.uniq y hy x hx hyx] at hdy; exact hd hdy
        · exact ht y ((hmem y).2 ⟨hy, hyx⟩) hdy
    · rw [addL_lkp]
      split
      · rename_i hc
        obtain ⟨c, hc'⟩ := Option.isSome_iff_exists.1 hc.2
        rw [(hB.box x hx s c hc' hc.1).2, hc']
      · rename_i hc
        refine hB.loc s fun y hy hn hdy => ?_
        by_cases hyx : y.i = x.i
        · rw [hB.uniq y hy x hx hyx] at hdy hn; exact hc ⟨hdy, hn⟩
        · exact hs' y ((hmem y).2 ⟨hy, hyx⟩) hn hdy
    · obtain ⟨h1, h2⟩ := (hmem y).1 hy
      obtain ⟨h3, h4⟩ := hB.box y h1 s c hn hd
      refine ⟨?_, h4⟩
      rw [addL_lkp, if_neg (fun hc => hux y h1 h2 s hc.1 hd)]
      exact h3
  have hf := hB.fact x hx
  unfold Pend.fact at hf
  have hf' := gd_env hf hlook
  unfold wpOpIn
  simp only [ho]
  rcases gd_sound hs hf' with ⟨hw, hl⟩ | ⟨hw, hl⟩
  · rw [if_pos hw]
    have hl' : lightx A T (fun _ => P) x.o (sev enva) La h (fun a b => a = x.sv ∧ b = x.nb) := by
      refine lightx_transfer hl (sev_env hlook) (fun hld y hy s off hsv c hc => ?_) (fun hb d hd => ?_) (fun _ => rfl)
      · have : isBox x.o = false := by cases hq : x.o.op <;> simp [isLoad, isBox, hq] at hld ⊢
        rw [this] at hc
        simp only [Bool.false_eq_true, if_false] at hc
        have hse : sev enva y = .loc s off := by rw [sev_env hlook y hy]; exact hsv
        obtain ⟨⟨c', hc'⟩, -⟩ := hs.eval_loc hse
        have := hB.sub hc'
        rw [hc] at this; cases this
        exact hc'
      · obtain ⟨h1, d', hd', -⟩ := (lightx_box hl).1 hb
        obtain ⟨c, hc⟩ := Option.isSome_iff_exists.1 h1
        exact (hB.box x hx d c hc hd).1
    obtain ⟨v, w', β', h3, h4⟩ := light_run hT hs hl'
    refine wpIn_val h3 ?_
    exact hK _ _ _ _ _ h4 fin
  · rw [if_neg (by simp [hw])]
    obtain ⟨e1, e2⟩ := hl
    have hadd : addL La x.o.dst x.nb = La := by rw [e2]; unfold addL; cases x.o.dst <;> rfl
    rw [hadd, e1] at fin
    refine ⟨fun _ _ => trivial, ?_⟩
    exact hK _ _ _ _ _ (hs.put (x := .v undef) (v := undef) rfl) fin

end Go.Sx

namespace Go.Sx
variable {ro : Option Nat} {n : Nat}
variable {P : Program} {T : Tab} {A : Ar} [ArOk A]
variable {ds : List Deferred} {h0 : Heap} {w0 : World} {β : Nat → Nat} {h : Heap} {a : Act} {w : World}
variable {ops : Array Oper} {X : Array Bool} {D : List Pend} {listed pend known : List Nat} {envc enva : Env} {Lc La : Loc}

theorem StX.mono {h : Heap} {y : Addr} {cs : List Value} {k k' : Heap → Prop} (x : StX h y cs k) (hk : ∀ h', k h' → k' h') : StX h y cs k' := by
  obtain ⟨c, e, fr, g1, g2, g3, g4, g5⟩ := x.out
  exact ⟨c, e, fr, g1, g2, g3, g4, fun h' e => hk _ (g5 h' e)⟩
theorem StO.mono {h : Heap} {y : Option Addr} {cs : List Value} {k k' : Heap → Prop} (x : StO h y cs k) (hk : ∀ h', k h' → k' h') : StO h y cs k' := by
  rcases x with ⟨h1, h2⟩ | ⟨q, h1, h2⟩
  · exact .inl ⟨h1, hk _ h2⟩
  · exact .inr ⟨q, h1, h2.mono hk⟩
theorem AppX.mono {h : Heap} {b : Option Addr} {len cap n size bytes e : Nat} {new : List Value} {k k' : Value → Heap → Prop} (x : AppX h b len cap n size bytes e new k) (hk : ∀ v h', k v h' → k' v h') :
    AppX h b len cap n size bytes e new k' :=
  ⟨x.one, fun hc => (x.fits hc).mono (fun _ q => hk _ _ q), fun hc => by
    obtain ⟨h1, h2, old, h3, h4⟩ := x.grows hc
    exact ⟨h1, h2, old, h3, fun nb c h' rest e1 e2 e3 e4 => hk _ _ (h4 nb c h' rest e1 e2 e3 e4)⟩⟩
theorem MakeX.mono {h : Heap} {e : Nat} {l c : Int} {bytes : Nat} {z : List Value} {k k' : Value → Heap → Prop} (x : MakeX h e l c bytes z k) (hk : ∀ v h', k v h' → k' v h') : MakeX h e l c bytes z k' :=
  ⟨x.len, x.room, fun nb h' e1 e2 => hk _ _ (x.out nb h' e1 e2)⟩

theorem AppendX.mono {h : Heap} {b : Option Addr} {len cap : Nat} {x : Option Addr} {n size bytes e : Nat} {k k' : Value → Heap → Prop} (q : AppendX h b len cap x n size bytes e k) (hk : ∀ v h', k v h' → k' v h') :
    AppendX h b len cap x n size bytes e k' := by
  obtain ⟨new, h1, h2⟩ := q.out
  exact ⟨new, h1, h2.mono hk⟩
theorem CopyX.mono {h : Heap} {b : Option Addr} {len : Nat} {x : Option Addr} {n size : Nat} {k k' : Value → Heap → Prop} (q : CopyX h b len x n size k) (hk : ∀ v h', k v h' → k' v h') :
    CopyX h b len x n size k' := by
  obtain ⟨cs, h1, h2, h3⟩ := q.out
  exact ⟨cs, h1, h2, h3.mono fun h' => hk _ h'⟩
theorem ClearX.mono {h : Heap} {b : Option Addr} {len : Nat} {z : List Value} {k k' : Heap → Prop} (q : ClearX h b len z k) (hk : ∀ h', k h' → k' h') : ClearX h b len z k' :=
  ⟨q.one, q.out.mono hk⟩
theorem SemX.mono {p : Unit → Program} {s : Unit → Sem Value} {h : Heap} {k k' : Value → Heap → Prop} (q : SemX p s h k) (hk : ∀ v h', k v h' → k' v h') : SemX p s h k' :=
  ⟨fun w hw => by
    obtain ⟨v, w', h', h1, h2, h3⟩ := q.out w hw
    exact ⟨v, w', h', h1, hk _ _ h2, h3⟩⟩
theorem Chk.mono {p k k' : Unit → Prop} (q : Chk p k) (hk : k () → k' ()) : Chk p k' := ⟨q.h, hk q.out⟩

theorem YdX.mono {p : Unit → Program} {l : Nat} {args : List Value} {h : Heap} {R R' : Value → Heap → Prop} (x : YdX p l args h R) (hr : ∀ v h', R v h' → R' v h') : YdX p l args h R' :=
  ⟨fun w hw => by
    obtain ⟨fn, tmps, asg, body, h1, h2⟩ := x.out w hw
    exact ⟨fn, tmps, asg, body, h1, fun n => (h2 n).mono fun e w' ⟨v, h', e1, e2, e3⟩ => ⟨v, h', e1, hr _ _ e2, e3⟩⟩⟩
theorem hx_and {p : Unit → Program} {o : Oper} {ρ : Operand → SV} {L : Loc} {h : Heap} {k : SV → Loc → Heap → Prop} (hk : hx A T p o ρ L h k) (F : Loc → Heap → Prop)
    (hA : isAssign o = true → F L h) (hN : isAssign o = false → isStore o = false → ∀ h', F L h') (hS : isStore o = true → ∀ L' h', F L' h') :
    hx A T p o ρ L h (fun x L' h' => k x L' h' ∧ F L' h') := by
  unfold hx at hk ⊢
  split at hk
  case h_1 x ho => try simp only [ho]
                   exact ⟨hk, hA (by simp [isAssign, ho])⟩
  case h_2 t q x ho =>
    have hS' := hS (by simp [isStore, ho])
    try simp only [ho]
    repeat' split at hk
    all_goals first
      | exact hk.elim
      | exact ⟨hk, hS' _ _⟩
      | exact StX.mono hk (fun h' q => ⟨q, hS' _ _⟩)
  case h_3 e ho =>
    have hN' := hN (by simp [isAssign, ho]) (by simp [isStore, ho])
    try simp only [ho]
    split at hk
    · exact hk.elim
    · exact fun n h' e1 e2 => ⟨hk n h' e1 e2, hN' _⟩
  case h_4 e x ho =>
    have hN' := hN (by simp [isAssign, ho]) (by simp [isStore, ho])
    try simp only [ho]
    split at hk
    · exact fun n h' e1 e2 => ⟨hk n h' e1 e2, hN' _⟩
    · exact hk.elim
  case h_5 t len parts ho =>
    have hN' := hN (by simp [isAssign, ho]) (by simp [isStore, ho])
    try simp only [ho]
    repeat' split at hk
    all_goals first
      | exact hk.elim
      | exact fun n h' e1 e2 => ⟨hk n h' e1 e2, hN' _⟩
  case h_6 t l c ho =>
    have hN' := hN (by simp [isAssign, ho]) (by simp [isStore, ho])
    try simp only [ho]
    repeat' split at hk
    all_goals first
      | exact hk.elim
      | exact MakeX.mono hk (fun v h' q => ⟨q, hN' _⟩)
  case h_7 t r ho =>
    have hN' := hN (by simp [isAssign, ho]) (by simp [isStore, ho])
    try simp only [ho]
    split at hk
    · exact fun n h' e1 e2 => ⟨hk n h' e1 e2, hN' _⟩
    · exact hk.elim
  case h_8 f args argTypes ho =>
    have hN' := hN (by simp [isAssign, ho]) (by simp [isStore, ho])
    try simp only [ho]
    repeat' split at hk
    all_goals first
      | exact hk.elim
      | exact FnPX.mono hk (fun v h' q => ⟨q, hN' _⟩) (fun _ _ q => q)
      | exact FnX.mono hk (fun v h' q => ⟨q, hN' _⟩)
      | exact YdX.mono hk (fun v h' q => ⟨q, hN' _⟩)
      | exact SemX.mono hk (fun v h' q => ⟨q, hN' _⟩)
  case h_9 b args argTypes ho =>
    have hN' := hN (by simp [isAssign, ho]) (by simp [isStore, ho])
    try simp only [ho]
    repeat' split at hk
    all_goals first
      | exact hk.elim
      | exact AppendX.mono hk (fun v h' q => ⟨q, hN' _⟩)
      | exact AppX.mono hk (fun v h' q => ⟨q, hN' _⟩)
      | exact Chk.mono hk (fun hq => ⟨AppX.mono hq.out fun v h' q => ⟨q, hN' _⟩⟩)
      | exact CopyX.mono hk (fun v h' q => ⟨q, hN' _⟩)
      | exact ClearX.mono hk (fun h' q => ⟨q, hN' _⟩)
      | exact SemX.mono hk (fun v h' q => ⟨q, hN' _⟩)
  case h_19 x ho => try simp only [ho]
                    exact hk
  case h_20 => exact hk.elim
  all_goals
    rename_i ho
    have hN' := hN (by simp [isAssign, ho]) (by simp [isStore, ho])
    try simp only [ho]
    repeat' split at hk
    all_goals first
      | exact hk.elim
      | exact SemX.mono hk (fun v h' q => ⟨q, hN' _⟩)

theorem hx_imp {p : Unit → Program} {o : Oper} {ρ : Operand → SV} {L : Loc} {h : Heap} {k : SV → Loc → Heap → Prop} (hk : hx A T p o ρ L h k) :
    hx A T p o ρ L h (fun x L' h' => k x L' h' ∧ (isStore o = false → L' = L) ∧ (isAssign o = true → h' = h)) :=
  hx_and hk (fun L' h' => (isStore o = false → L' = L) ∧ (isAssign o = true → h' = h)) (fun _ => ⟨fun _ => rfl, fun _ => rfl⟩) (fun h1 h2 h' => ⟨fun _ => rfl, fun h3 => by rw [h1] at h3; cases h3⟩)
    (fun h1 L' h' => ⟨fun h2 => (by rw [h1] at h2; cases h2), fun h2 => (by
      cases hq : o.op <;> simp [isAssign, isStore, hq] at h1 h2)⟩)

theorem pins_spec {T : Tab} {strict : Bool} {all : List Oper} {h : Heap} {L : Loc} {env : Env} : ∀ {l : List Nat} {k : Unit → Prop}, pins T strict all h L env l k →
    (∀ j ∈ l, ∃ o, all[j]? = some o ∧ gd all env o (fun _ => pinOk T strict h L env o (fun _ => True)) (fun _ => True)) ∧ k ()
  | [], k, hp => ⟨fun _ h => (by cases h), hp⟩
  | i :: r, k, hp => by
    unfold pins at hp
    split at hp
    · rename_i o ho
      have pin_imp : ∀ {R : Unit → Prop}, pinOk T strict h L env o R → pinOk T strict h L env o (fun _ => True) ∧ R () := fun {R} hq => by
        unfold pinOk at hq ⊢
        split at hq
        · rename_i t y hop
          try simp only [hop] at hq ⊢
          split at hq
          · rename_i x hx
            try simp only [hx]
            obtain ⟨cs, h1, h2⟩ := hq.out
            obtain ⟨v, h3, h4⟩ := rdvk_det h2
            exact ⟨⟨cs, h1, rdvk_mono h3 fun v' e => by subst e; exact ⟨h4.h, trivial⟩⟩, h4.out⟩
          · rename_i s off hx
            try simp only [hx]
            split at hq
            · exact ⟨trivial, hq⟩
            · split at hq
              · rename_i c hc
                try simp only [hc]
                split at hq
                · rename_i cs hcs
                  try simp only [hcs]
                  obtain ⟨v, h3, h4⟩ := rdvk_det hq
                  exact ⟨rdvk_mono h3 fun v' e => by subst e; exact ⟨h4.h, trivial⟩, h4.out⟩
                · exact hq.elim
              · exact hq.elim
          · exact hq.elim
        · exact ⟨trivial, hq⟩
      rcases gd_split hp with ⟨h1, h2⟩ | ⟨h1, h2⟩
      · obtain ⟨h3, h4⟩ := pin_imp h1
        obtain ⟨h5, h6⟩ := pins_spec h4
        refine ⟨fun j hj => ?_, h6⟩
        rcases List.mem_cons.1 hj with rfl | hj
        · exact ⟨o, ho, (h2 _ _).2 h3⟩
        · exact h5 j hj
      · obtain ⟨h5, h6⟩ := pins_spec h1
        refine ⟨fun j hj => ?_, h6⟩
        rcases List.mem_cons.1 hj with rfl | hj
        · exact ⟨o, ho, (h2 _ _).2 trivial⟩
        · exact h5 j hj
    · exact hp.elim

/-- The run comes to a heavy operation: the walk stands at it. -/
theorem Behind.heavy (hT : TabOk P T) (hB : Behind A T P ops X D listed pend known envc Lc enva La h) (hr : regOK T ops = true) (hro : rsOK T ops = true) (hs : SRel ds h0 w0 β enva La h a w) {k : Nat} {ok : Oper}
    (hk : ops[k]? = some ok) (hnk : k ∉ listed) (hhv : isLight T ok = false) (hp : ∀ e ∈ preds ok, In X e) {pn : List Nat} {R : Env → Loc → Heap → Prop}
    (hpn : isAssign ok = true ∨ ∀ j ∈ pend, j ∈ cloPass ops ops.size (k :: known) ∨ j ∈ pn ∨ (∀ oj, ops[j]? = some oj → isLoad oj = false))
    (hx : gd ops.toList envc ok (fun _ => hx A T (fun _ => P) ok (sev envc) Lc h (fun x L' h' => pins T (isStore ok) ops.toList h' L' (put envc ok.dst x) pn (fun _ => R (put envc ok.dst x) L' h')))
      (fun _ => R (put envc ok.dst (.v undef)) Lc h)) {Q : Exit → Act → World → Prop} {K : Act → World → Prop} (hpo : PanOk T ds h0 w0 Q)
    (hK : ∀ a' w' envc' enva' Lc' La' h', R envc' Lc' h' → SRel ds h0 w0 β enva' La' h' a' w' →
      Behind A T P ops (X.setIfInBounds k true) D (k :: listed) (pend.filter fun j => !(cloPass ops ops.size (k :: known)).contains j) (cloPass ops ops.size (k :: known)) envc' Lc' enva' La' h' → K a' w') :
    wpOpIn (FW ro) n P ops Q k K a w := by
  obtain ⟨-, -, hreg⟩ := regOK_spec hr hk
  have hlook := hB.look hr hk hp
  have hkX : k < X.size := by rw [hB.size]; exact (Array.getElem?_eq_some_iff.1 hk).1
  have hne : ∀ x ∈ D, k ≠ x.i := fun x hx e => hnk ((hB.lst k).2 (.inr ⟨x, hx, e.symm⟩))
  have hux : ∀ x ∈ D, ∀ t, ok.dst = some t → x.o.dst ≠ some t := fun x hx t ht => (hreg x.i x.o (hne x hx) (hB.op x hx).1 t ht).1
  have hlk : ∀ x ∈ D, ∀ t ∈ x.o.looksAt ops, ok.dst ≠ some t := fun x hx t ht hd => by
    rcases (hreg x.i x.o (hne x hx) (hB.op x hx).1 t hd).2 ht with h3 | ⟨-, h3⟩
    · exact hnk (hB.prd x hx k h3)
    · exact hB.apart x hx (hp _ h3)
  have hdown : ∀ i o, In (X.setIfInBounds k true) i → ops[i]? = some o → ∀ e ∈ preds o, In (X.setIfInBounds k true) e := fun i o hin hio e he => by
    rw [In.set hkX] at hin ⊢
    rcases hin with e' | hin
    · subst e'
      rw [hk] at hio; cases hio
      exact .inr (hp e he)
    · exact .inr (hB.down i o hin hio e he)
  have hclo : ∀ i ∈ cloPass ops ops.size (k :: known), In (X.setIfInBounds k true) i := cloPass_in hdown _ _ fun i hi => by
    rw [In.set hkX]
    rcases List.mem_cons.1 hi with rfl | hi
    · exact .inl rfl
    · exact .inr (hB.known i hi)
  have hnin : ∀ x ∈ D, ¬ In (X.setIfInBounds k true) x.i := fun x hx hin => by
    rw [In.set hkX] at hin
    rcases hin with e | e
    · exact hne x hx e
    · exact hB.apart x hx e
  -- all but the facts
  have fin : ∀ (sv : SV) (Lc' La' : Loc) (h' : Heap), LRel Lc La Lc' La' → (∀ x ∈ D, x.fact A T P ops (put envc ok.dst sv) Lc' h') →
      Behind A T P ops (X.setIfInBounds k true) D (k :: listed) (pend.filter fun j => !(cloPass ops ops.size (k :: known)).contains j) (cloPass ops ops.size (k :: known)) (put envc ok.dst sv) Lc' (put enva ok.dst sv) La' h' := fun sv Lc' La' h' hL hf => by
    refine ⟨by simp [hB.size], fun j => ?_, hnin, hdown, hclo, fun x hx => ?_, by rw [put_len, put_len]; exact hB.len, fun t ht => ?_, fun x hx t hd hlen => ?_, fun s hs' => ?_, fun x hx s c hn hd => ?_, hB.op,
      fun x hx e he => List.mem_cons_of_mem _ (hB.prd x hx e he), hB.uniq, hf⟩
    · rw [List.mem_cons, hB.lst j, In.set hkX]
      constructor
      · rintro (rfl | h1 | h1)
        · exact .inl (.inl rfl)
        · exact .inl (.inr h1)
        · exact .inr h1
      · rintro ((rfl | h1) | h1)
        · exact .inl rfl
        · exact .inr (.inl h1)
        · exact .inr (.inr h1)
    · simp only [List.mem_filter, Bool.not_eq_true', List.contains_eq_mem, decide_eq_false_iff_not]
      exact ⟨hB.pend x hx, fun hc => hnin x hx (hclo _ hc)⟩
    · by_cases hd : ok.dst = some t
      · by_cases hlen : t < envc.length
        · rw [hd, put_same (by rw [hB.len]; exact hlen), put_same hlen]
        · have e1 : (put enva ok.dst sv).length ≤ t := by rw [put_len, hB.len]; exact Nat.le_of_not_lt hlen
          have e2 : (put envc ok.dst sv).length ≤ t := by rw [put_len]; exact Nat.le_of_not_lt hlen
          rw [List.getElem?_eq_none e1, List.getElem?_eq_none e2]
      · rw [put_get hd, put_get hd]; exact hB.env t ht
    · rw [put_len] at hlen
      rw [put_get (fun e => hux x hx t e hd)]
      exact hB.dst x hx t hd hlen
    · rcases hL with ⟨e1, e2⟩ | ⟨s0, c, q1, q2, g1, g2, e1, e2⟩
      · rw [e1, e2]; exact hB.loc s hs'
      · rw [e1, e2, lkp_upd g1, lkp_upd g2, hB.loc s hs']
    · obtain ⟨h1, h2⟩ := hB.box x hx s c hn hd
      rcases hL with ⟨e1, e2⟩ | ⟨s0, c', q1, q2, g1, g2, e1, e2⟩
      · rw [e1, e2]; exact ⟨h1, h2⟩
      · have hs0 : s0 ≠ s := fun e => by rw [e, h1] at g2; cases g2
        rw [e1, e2, lkp_upd g1, lkp_upd g2, if_neg hs0, if_neg hs0]; exact ⟨h1, h2⟩
  unfold wpOpIn
  simp only [hk]
  rcases gd_split hx with ⟨h1, h2⟩ | ⟨h1, h2⟩
  · have hw : Region.wanted ok (yielded ops a.tmps) = true := by
      have hg := gd_env ((h2 (fun _ => True) (fun _ => False)).2 trivial) hlook
      rcases gd_sound hs hg with ⟨hw, -⟩ | ⟨-, hf⟩
      · exact hw
      · exact hf.elim
    rw [if_pos hw]
    have h3 := hx_congr (hx_imp h1) (sev_env hlook) (fun t ht => by
      have := hB.env t (fun x hx => rsOK_spec hro (hB.op x hx).1 ht)
      simp only [sev, List.getD_eq_getElem?_getD, this])
    refine hx_run hT hs (fun s c hc => hB.sub hc) h3 hpo fun sv v Lc' L' h' w' ⟨g1, g2, g3⟩ hs' hL => ?_
    obtain ⟨hpins, hR⟩ := pins_spec g1
    refine hK _ _ _ _ _ _ _ hR hs' (fin sv Lc' L' h' hL fun x hx => ?_)
    have hxe : ∀ t ∈ x.o.looksAt ops, (put envc ok.dst sv)[t]? = envc[t]? := fun t ht => put_get (hlk x hx t ht)
    have hfx := hB.fact x hx
    cases hld : isLoad x.o with
    | false => exact Pend.fact_env hfx hxe (fun e => by rw [hld] at e; cases e) (fun e => by rw [hld] at e; cases e)
    | true =>
      rcases hpn with hpn | hpn
      · have hst : isStore ok = false := by
          cases hq : ok.op <;> simp [isAssign, isStore, hq] at hpn ⊢
        exact Pend.fact_env hfx hxe (fun _ s c hc => by rw [g2 hst]; exact hc) (fun _ => g3 hpn)
      · rcases hpn x.i (hB.pend x hx) with h5 | h5 | h5
        · exact absurd (hclo _ h5) (hnin x hx)
        · obtain ⟨o', ho', hgd⟩ := hpins x.i h5
          have ho'' : ops[x.i]? = some o' := by simpa using ho'
          rw [(hB.op x hx).1] at ho''; cases ho''
          -- the same way at the guard
          have hfx' : gd ops.toList (put envc ok.dst sv) x.o (fun _ => lightx A T (fun _ => P) x.o (sev envc) (if isBox x.o then [] else Lc) h (fun a b => a = x.sv ∧ b = x.nb)) (fun _ => x.sv = .v undef ∧ x.nb = none) :=
            gd_env (by unfold Pend.fact at hfx; exact hfx) hxe
          unfold Pend.fact
          rcases gd_split hfx' with ⟨f1, f2⟩ | ⟨f1, f2⟩
          · refine (f2 _ _).2 ?_
            have hpin := (f2 _ _).1 hgd
            have hbx : isBox x.o = false := by cases hq : x.o.op <;> simp [isLoad, isBox, hq] at hld ⊢
            rw [hbx] at f1 ⊢
            simp only [Bool.false_eq_true, if_false] at f1 ⊢
            have hnb : x.nb = none := (lightx_box f1).2 hbx
            cases hop : x.o.op with
            | load t y =>
              have hyl : y ∈ x.o.op.operands.toList := by rw [hop]; simp [Op.operands]
              have hsy : sev (put envc ok.dst sv) y = sev envc y := sev_env hxe y hyl
              unfold lightx at f1 ⊢
              unfold pinOk at hpin
              simp only [hop] at f1 hpin ⊢
              rw [hsy] at hpin ⊢
              have hdst : ∀ v : Value, (∃ d, x.o.dst = some d ∧ (put envc ok.dst sv)[d]? = some (.v v)) → (SV.v v = x.sv ∧ (none : Option (List Value)) = x.nb) := fun v ⟨d, hd, hv⟩ => by
                have hlen : d < envc.length := by
                  have := (List.getElem?_eq_some_iff.1 hv).1
                  rwa [put_len] at this
                have := hB.dst x hx d hd hlen
                rw [put_get (fun e => hux x hx d e hd), this] at hv
                exact ⟨(Option.some.inj hv).symm, hnb.symm⟩
              split at f1
              · exact f1.elim
              · split at f1
                · rename_i s off hsv
                  simp only [hsv] at hpin
                  split at hpin
                  · rename_i hst
                    have hst' : isStore ok = false := by simpa using hst
                    rw [g2 hst']
                    exact f1
                  · split at f1
                    · rename_i c hc
                      split at hpin
                      · rename_i c' hc'
                        try simp only [hc']
                        split at hpin
                        · rename_i cs hcs
                          exact rdvk_mono hpin fun v hq => hdst v hq.h
                        · exact hpin.elim
                      · exact hpin.elim
                    · exact f1.elim
                · rename_i z hsv
                  simp only [hsv] at hpin
                  obtain ⟨cs, q1, q2⟩ := hpin.out
                  exact ⟨cs, q1, rdvk_mono q2 fun v hq => hdst v hq.h⟩
                · exact f1.elim
            | _ => simp [isLoad, hop] at hld
          · exact (f2 _ _).2 f1
        · have := h5 x.o (hB.op x hx).1
          rw [hld] at this; cases this
  · have hw : Region.wanted ok (yielded ops a.tmps) = false := by
      have hg := gd_env ((h2 (fun _ => False) (fun _ => True)).2 trivial) hlook
      rcases gd_sound hs hg with ⟨-, hf⟩ | ⟨hw, -⟩
      · exact hf.elim
      · exact hw
    rw [if_neg (by simp [hw])]
    refine ⟨fun _ _ => trivial, ?_⟩
    refine hK _ _ _ _ _ _ _ h1 (hs.put (x := .v undef) (v := undef) rfl) (fin (.v undef) Lc La h (.inl ⟨rfl, rfl⟩) fun x hx => ?_)
    exact Pend.fact_env (hB.fact x hx) (fun t ht => put_get (hlk x hx t ht)) (fun _ _ _ hc => hc) (fun _ => rfl)

end Go.Sx

namespace Go.Sx
variable {ro : Option Nat} {n : Nat}
variable {P : Program} {T : Tab} {A : Ar} [ArOk A]
variable {ds : List Deferred} {h0 : Heap} {w0 : World} {β : Nat → Nat} {h : Heap} {a : Act} {w : World}
variable {ops : Array Oper} {X : Array Bool} {D : List Pend} {listed pend known : List Nat} {envc enva : Env} {Lc La : Loc}

theorem SRel.locs (hs : SRel ds h0 w0 β enva La h a w) (hl : ∀ s, lkp La s = lkp Lc s) : SRel ds h0 w0 β enva Lc h a w :=
  ⟨hs.after, fun s c hc => hs.loc s c (by rw [hl]; exact hc), fun s s' c c' h1 h2 => hs.inj s s' c c' (by rw [hl]; exact h1) (by rw [hl]; exact h2), hs.size, fun t x hx => by
    have := hs.slot t x hx
    cases x with
    | v y => exact this
    | u => trivial
    | loc s off => exact ⟨by rw [← hl]; exact this.1, this.2⟩, hs.defers⟩

/-- How many are not listed. -/
def unl (X : Array Bool) : Nat := X.toList.countP (!·)

theorem unl_set {i : Nat} (hi : i < X.size) (hn : ¬ In X i) : unl (X.setIfInBounds i true) + 1 = unl X := by
  unfold unl
  have hl : i < X.toList.length := by simpa using hi
  have hx : X.toList[i] = false := by
    unfold In at hn
    rw [Array.getD_eq_getD_getElem?, Array.getElem?_eq_getElem hi] at hn
    simpa using hn
  rw [Array.toList_setIfInBounds]
  have hpos : 0 < X.toList.countP (!·) := List.countP_pos_iff.2 ⟨X.toList[i], List.getElem_mem hl, by simp [hx]⟩
  rw [List.countP_set (h := hl)]
  simp [hx]
  simp only [Array.countP_toList] at hpos
  omega

theorem full_of_ready (hX : X.size = ops.size) (hr : regOK T ops = true) (he : Region.ready .any ops X = []) : ∀ j, j < ops.size → In X j := by
  intro j
  induction j using Nat.strongRecOn with
  | _ j ih =>
    intro hj
    by_cases hin : In X j
    · exact hin
    · exfalso
      have : j ∈ Region.ready .any ops X := by
        rw [ready_iff hX]
        refine ⟨hin, ops[j], by simp [hj], fun e hee => ?_⟩
        have hlt := (regOK_spec hr (show ops[j]? = some ops[j] by simp [hj])).1 e hee
        exact ih e hlt (by omega)
      rw [he] at this; cases this

theorem okP_br {p : Plan} (ho : okP T ops p true listed pend known = true) : ∃ k ∈ heads p, k ∉ listed ∧ k < ops.size := by
  induction p with
  | done => simp [okP] at ho
  | light i r _ => simp [okP] at ho
  | heavy i pn r _ =>
    simp only [okP, Bool.true_or, Bool.and_eq_true] at ho
    refine ⟨i, by simp [heads], by simpa using ho.1.1.2, ?_⟩
    have h2 := ho.1.2
    split at h2
    · rename_i o hi; exact (Array.getElem?_eq_some_iff.1 hi).1
    · cases h2
  | fork l r ihl _ =>
    simp only [okP, Bool.true_or, Bool.and_eq_true, true_and] at ho
    obtain ⟨k, h1, h2⟩ := ihl ho.1
    exact ⟨k, by simp [heads, h1], h2⟩

theorem okP_head {K : Env → Loc → Heap → Prop} {p : Plan} (ho : okP T ops p true listed pend known = true) (hx : sxPlan A T (fun _ => P) ops.toList K p envc Lc h) {k : Nat} (hk : k ∈ heads p) :
    ∃ pn r, okP T ops (.heavy k pn r) true listed pend known = true ∧ sxPlan A T (fun _ => P) ops.toList K (.heavy k pn r) envc Lc h := by
  induction p with
  | done => simp [heads] at hk
  | light i r _ => simp [heads] at hk
  | heavy i pn r _ =>
    simp [heads] at hk
    subst hk
    exact ⟨pn, r, ho, hx⟩
  | fork l r ihl ihr =>
    simp only [okP, Bool.true_or, Bool.and_eq_true, true_and] at ho
    simp only [heads, List.mem_append] at hk
    rcases hk with hk | hk
    · exact ihl ho.1 hx.1 hk
    · exact ihr ho.2 hx.2 hk

theorem okP_weak {p : Plan} (ho : okP T ops p false listed pend known = true) (hp : (∃ i pn r, p = .heavy i pn r) ∨ ∃ l r, p = .fork l r) :
    okP T ops p true listed pend known = true ∧ covers ops p listed = true := by
  rcases hp with ⟨i, pn, r, rfl⟩ | ⟨l, r, rfl⟩
  · simp only [okP, Bool.false_or, Bool.true_or, Bool.and_eq_true] at ho ⊢
    simp_all
  · simp only [okP, Bool.false_or, Bool.true_or, Bool.and_eq_true] at ho ⊢
    simp_all

/-- The walk goes on as far as it can. -/
theorem advance {K : Env → Loc → Heap → Prop} (hr : regOK T ops = true) : ∀ (p : Plan) {D : List Pend} {listed pend : List Nat} {envc : Env} {Lc : Loc}, Behind A T P ops X D listed pend known envc Lc enva La h →
    sxPlan A T (fun _ => P) ops.toList K p envc Lc h → okP T ops p false listed pend known = true →
    ∃ D' listed' pend' envc' Lc' p', Behind A T P ops X D' listed' pend' known envc' Lc' enva La h ∧ sxPlan A T (fun _ => P) ops.toList K p' envc' Lc' h ∧ okP T ops p' false listed' pend' known = true ∧
      (p' = .done ∨ (∃ i pn r, p' = .heavy i pn r) ∨ ∃ l r, p' = .fork l r)
  | .done, D, listed, pend, envc, Lc, hB, hx, ho => ⟨_, _, _, _, _, _, hB, hx, ho, .inl rfl⟩
  | .heavy i pn r, D, listed, pend, envc, Lc, hB, hx, ho => ⟨_, _, _, _, _, _, hB, hx, ho, .inr (.inl ⟨_, _, _, rfl⟩)⟩
  | .fork l r, D, listed, pend, envc, Lc, hB, hx, ho => ⟨_, _, _, _, _, _, hB, hx, ho, .inr (.inr ⟨_, _, rfl⟩)⟩
  | .light i r, D, listed, pend, envc, Lc, hB, hx, ho => by
    simp only [okP, Bool.not_false, Bool.true_and, Bool.and_eq_true] at ho
    obtain ⟨⟨h1, h2⟩, h3⟩ := ho
    split at h2
    · rename_i o hi
      simp only [Bool.and_eq_true, List.all_eq_true, List.contains_eq_mem, decide_eq_true_eq] at h2
      unfold sxPlan at hx
      simp only [Array.getElem?_toList, hi] at hx
      obtain ⟨sv, nb, hK, hB'⟩ := hB.take hr hi (by simpa using h1) h2.1 h2.2 hx
      refine advance hr r hB' ?_ h3
      rcases hK with hK | ⟨hK, e1, e2⟩
      · exact hK
      · rw [e1, e2]
        have : addL Lc o.dst none = Lc := by unfold addL; cases o.dst <;> rfl
        rw [this]; exact hK
    · cases h2

theorem plan_sound (hT : TabOk P T) (hr : regOK T ops = true) (hro : rsOK T ops = true) {K : Env → Loc → Heap → Prop} {Q : Exit → Act → World → Prop}
    (hpo : PanOk T ds h0 w0 Q) (hK : ∀ env' L' h' β' a' w', K env' L' h' → SRel ds h0 w0 β' env' L' h' a' w' → Q .normal a' w') :
    ∀ (fuel : Nat) {X : Array Bool} {D : List Pend} {listed pend known : List Nat} {envc enva : Env} {Lc La : Loc} {h : Heap} {β : Nat → Nat} {a : Act} {w : World} {p : Plan},
      unl X ≤ fuel → Behind A T P ops X D listed pend known envc Lc enva La h → SRel ds h0 w0 β enva La h a w → sxPlan A T (fun _ => P) ops.toList K p envc Lc h → okP T ops p false listed pend known = true →
      wpAnyIn (FW ro) n P .any ops Q fuel X a w := by
  intro fuel
  -- at the end
  have done : ∀ {X : Array Bool} {D : List Pend} {listed pend known : List Nat} {envc enva : Env} {Lc La : Loc} {h : Heap} {β : Nat → Nat} {a : Act} {w : World} {p : Plan},
      Behind A T P ops X D listed pend known envc Lc enva La h → SRel ds h0 w0 β enva La h a w → sxPlan A T (fun _ => P) ops.toList K p envc Lc h → okP T ops p false listed pend known = true →
      Region.ready .any ops X = [] → Q .normal a w := fun {X D listed pend known envc enva Lc La h β a w p} hB hs hx ho he => by
    have hfull := full_of_ready hB.size hr he
    obtain ⟨D', listed', pend', envc', Lc', p', hB', hx', ho', hp'⟩ := advance hr p hB hx ho
    have hD : D' = [] := by
      cases D' with
      | nil => rfl
      | cons x r =>
        exfalso
        exact hB'.apart x (by simp) (hfull x.i (Array.getElem?_eq_some_iff.1 (hB'.op x (by simp)).1).1)
    subst hD
    have hno : ∀ k, k ∉ listed' → k < ops.size → False := fun k h1 h2 => h1 (hB'.inX (hfull k h2))
    rcases hp' with rfl | hp'
    · unfold sxPlan at hx'
      refine hK _ _ _ β _ _ hx' ?_
      have e1 : enva = envc' := List.ext_getElem? fun t => hB'.env t (fun x hx => by cases hx)
      have e2 : ∀ s, lkp La s = lkp Lc' s := fun s => hB'.loc s (fun x hx => by cases hx)
      rw [e1] at hs
      exact hs.locs e2
    · obtain ⟨h1, -⟩ := okP_weak ho' hp'
      obtain ⟨k, -, h2, h3⟩ := okP_br h1
      exact (hno k h2 h3).elim
  induction fuel with
  | zero =>
    intro X D listed pend known envc enva Lc La h β a w p hf hB hs hx ho
    have he : Region.ready .any ops X = [] := by
      apply List.eq_nil_iff_forall_not_mem.2
      intro j hj
      rw [ready_iff hB.size] at hj
      obtain ⟨h1, o, h2, -⟩ := hj
      have hj' : j < X.size := by rw [hB.size]; exact (Array.getElem?_eq_some_iff.1 h2).1
      have := unl_set hj' h1
      omega
    exact ⟨he, done hB hs hx ho he⟩
  | succ fuel ih =>
    intro X D listed pend known envc enva Lc La h β a w p hf hB hs hx ho
    refine ⟨fun he => done hB hs hx ho he, fun k hk => ?_⟩
    obtain ⟨D', listed', pend', envc', Lc', p', hB', hx', ho', hp'⟩ := advance hr p hB hx ho
    have hk' := hk
    rw [ready_iff hB.size] at hk'
    obtain ⟨hkn, ok, hok, hkp⟩ := hk'
    have hkX : k < X.size := by rw [hB.size]; exact (Array.getElem?_eq_some_iff.1 hok).1
    have hunl := unl_set hkX hkn
    by_cases hD : ∃ x ∈ D', x.i = k
    · obtain ⟨x, hxD, rfl⟩ := hD
      have : ops[x.i]? = some x.o := (hB'.op x hxD).1
      rw [hok] at this; cases this
      exact hB'.catch hT hr hs hxD hkp fun β' a' w' enva' La' h1 h2 => ih (by omega) h2 h1 hx' ho'
    · have hkl : k ∉ listed' := fun hm => by
        rcases (hB'.lst k).1 hm with h1 | h1
        · exact hkn h1
        · exact hD h1
      rcases hp' with rfl | hp'
      · simp only [okP, Bool.not_false, Bool.true_and, List.all_eq_true, List.mem_range, List.contains_eq_mem, decide_eq_true_eq] at ho'
        exact absurd (ho' k (by rw [← hB.size]; exact hkX)) hkl
      · obtain ⟨h1, h2⟩ := okP_weak ho' hp'
        have hkh : k ∈ heads p' := by
          unfold covers at h2
          rw [List.all_eq_true] at h2
          have := h2 k (by simp only [List.mem_range]; rw [← hB.size]; exact hkX)
          simp only [hok, Bool.or_eq_true, List.contains_eq_mem, decide_eq_true_eq, Bool.not_eq_true', List.all_eq_false] at this
          rcases this with (h3 | h3) | ⟨e, h3, h4⟩
          · exact absurd h3 hkl
          · exact h3
          · exact absurd (hB'.inX (hkp e h3)) (by simpa using h4)
        obtain ⟨pn, r, h3, h4⟩ := okP_head h1 hx' hkh
        unfold sxPlan at h4
        simp only [Array.getElem?_toList, hok] at h4
        simp only [okP, Bool.true_or, Bool.true_and, Bool.and_eq_true, hok] at h3
        obtain ⟨⟨-, h5, h6⟩, h7⟩ := h3
        refine hB'.heavy hT hr hro hs hok hkl (by simpa using h5) hkp ?_ h4 hpo (fun a' w' envc2 enva2 Lc2 La2 h' hR hs2 hB2 => ih (by omega) hB2 hs2 hR h7)
        simp only [Bool.or_eq_true, List.all_eq_true, List.contains_eq_mem, decide_eq_true_eq] at h6
        rcases h6 with h6 | h6
        · exact .inl h6
        · refine .inr fun j hj => ?_
          rcases h6 j hj with (h8 | h8) | h8
          · exact .inl h8
          · exact .inr (.inl h8)
          · refine .inr (.inr fun oj hoj => ?_)
            simp only [hoj, Bool.not_eq_true'] at h8
            exact h8

end Go.Sx

namespace Go.Sx
variable {ro : Option Nat} {n : Nat}
variable {P : Program} {T : Tab} {A : Ar} [ArOk A]
variable {ds : List Deferred} {h0 : Heap} {w0 : World} {β : Nat → Nat} {h : Heap} {a : Act} {w : World} {env : Env} {L : Loc}

/-- Are the plans of a code good? -/
def okCode (T : Tab) : Code → Bool
  | .region id ops true => (regOK T ops && rsOK T ops) && okP T ops (T.plan id) false [] [] []
  | .seq a b | .cond _ a b => okCode T a && okCode T b
  | .block _ c | .loop c | .scope c => okCode T c
  | .rangeFunc _ _ a c => okCode T a && okCode T c
  | _ => true

def cvEx : Ex → Exit
  | .normal => .normal
  | .exit id => .exit id
  | .ret => .ret

theorem unl_start (n : Nat) : unl (Array.replicate n false) ≤ n := by
  unfold unl
  have := List.countP_le_length (p := fun b : Bool => !b) (l := (Array.replicate n false).toList)
  simpa using this

theorem wk_len : ∀ {e e1 : Env}, wk e e1 → e.length = e1.length
  | [], [], _ => rfl
  | x :: r, y :: q, hw => by
    unfold wk at hw
    simp only [List.length_cons]
    cases y with
    | u => rw [wk_len hw]
    | v b => rw [wk_len hw.2]
    | loc s o => rw [wk_len hw.2]
theorem wk_get : ∀ {e e1 : Env}, Sx.wk e e1 → ∀ (t : Nat) (x : SV), e1[t]? = some x → x = SV.u ∨ e[t]? = some x
  | [], [], _, t, x, hx => by simp at hx
  | y :: r, z :: q, hw, t, x, hx => by
    unfold wk at hw
    cases t with
    | zero =>
      simp at hx ⊢
      subst hx
      cases z with
      | u => exact .inl rfl
      | v b => exact .inr hw.1
      | loc s o => exact .inr hw.1
    | succ t =>
      simp at hx ⊢
      cases z with
      | u => exact wk_get hw t x hx
      | v b => exact wk_get hw.2 t x hx
      | loc s o => exact wk_get hw.2 t x hx
theorem lsub_get {L : Loc} : ∀ {L1 : Loc}, lsub L L1 → ∀ (s : Nat) (c : List Value), lkp L1 s = some c → lkp L s = some c
  | [], _, s, c, hc => by cases hc
  | (k, d) :: r, hl, s, c, hc => by
    unfold lsub at hl
    simp only [lkp] at hc
    split at hc
    · rename_i e; subst e; cases hc; exact hl.1
    · exact lsub_get hl.2 s c hc
theorem lok_get {L : Loc} : ∀ {e : Env}, lok L e → ∀ (t s o : Nat), e[t]? = some (SV.loc s o) → ∃ c, lkp L s = some c
  | [], _, t, s, o, hx => by simp at hx
  | x :: r, hl, t, s, o, hx => by
    unfold lok at hl
    cases t with
    | zero =>
      simp at hx; subst hx
      exact Option.isSome_iff_exists.1 hl.1
    | succ t =>
      simp at hx
      cases x with
      | u => exact lok_get hl t s o hx
      | v b => exact lok_get hl t s o hx
      | loc s' o' => exact lok_get hl.2 t s o hx

theorem SRel.wk (hs : SRel ds h0 w0 β env L h a w) {env1 : Env} {L1 : Loc} (hw : Wk env L env1 L1) : SRel ds h0 w0 β env1 L1 h a w :=
  ⟨hs.after, fun s c hc => hs.loc s c (lsub_get hw.loc s c hc), fun s s' c c' h1 h2 => hs.inj s s' c c' (lsub_get hw.loc s c h1) (lsub_get hw.loc s' c' h2), by rw [hs.size, wk_len hw.env], fun t x hx => by
    rcases wk_get hw.env t x hx with rfl | he
    · trivial
    · have := hs.slot t x he
      cases x with
      | u => trivial
      | v b => exact this
      | loc s o => exact ⟨lok_get hw.ok t s o hx, this.2⟩, hs.defers⟩

theorem stepR_scope {b : Frame} {k : List Item} {cs : List Frame} {c : Code} : step P (lone (b.atR a (.code (.scope c) :: k)) cs w) = .next (lone (b.atR a (.code c :: .inScope c :: k)) cs w) :=
  step_lone_go (by simp [stepG, stepG.exec, Frame.atR])
theorem stepR_inScope {b : Frame} {k : List Item} {cs : List Frame} {c : Code} : step P (lone (b.atR a (.inScope c :: k)) cs w) = .next (lone (b.atR a k) cs w) :=
  step_lone_go (by simp [stepG, stepG.exec, Frame.atR])
theorem wpIn_scope {F : Fence} {c : Code} {Q : Exit → Act → World → Prop} (h : c.wpIn F n P (Exit.noGoto Q) a w) : (Code.scope c).wpIn F n P Q a w := by
  intro b k cs hro hb hr
  have h0 : (lone (b.atR a (.code (.scope c) :: k)) cs w).fenced P F := fenced_calm hb hr rfl
  obtain ⟨e, a₁, w₁, hq, harr⟩ := h b (.inScope c :: k) cs hro hb hr
  cases e with
  | normal => exact ⟨.normal, a₁, w₁, hq, .head h0 stepR_scope (StepsIn.trans harr (.one (fenced_calm hb hr rfl) stepR_inScope))⟩
  | exit id' =>
    have hx : exitTo id' (.inScope c :: k) = exitTo id' k := by simp [exitTo]
    exact ⟨.exit id', a₁, w₁, hq, fun k' hk => .head h0 stepR_scope (harr.1 k' (by rw [hx]; exact hk)),
      fun hr' hk => let ⟨k₁, h1, h2⟩ := harr.2 hr' (by rw [hx]; exact hk); ⟨k₁, h1, .head h0 stepR_scope h2⟩⟩
  | goto l => exact hq.elim
  | ret => exact ⟨_, a₁, w₁, hq, .of_steps (.one h0 stepR_scope) harr⟩
  | panic ch => exact ⟨_, a₁, w₁, hq, .of_steps (.one h0 stepR_scope) harr⟩
  | outgrown => exact ⟨_, a₁, w₁, hq, .of_steps (.one h0 stepR_scope) harr⟩

theorem sx_sound (hT : TabOk P T) : ∀ (c : Code), okCode T c = true → ∀ {K : Ex → Env → Loc → Heap → Prop} {Q : Exit → Act → World → Prop} {env : Env} {L : Loc} {h : Heap} {β : Nat → Nat} {a : Act} {w : World},
    SRel ds h0 w0 β env L h a w → sx A T (fun _ => P) c K env L h →
    PanOk T ds h0 w0 Q → (∀ e env' L' h' β' a' w', K e env' L' h' → SRel ds h0 w0 β' env' L' h' a' w' → Q (cvEx e) a' w') → c.wpIn (FW ro) n P Q a w := by
  intro c
  induction c with
  | skip => exact fun _ {K Q env L h β a w} hs hx hpo hK => wpIn_skip (hK .normal _ _ _ _ _ _ hx hs)
  | region id ops draw =>
    intro ho K Q env L h β a w hs hx hpo hK
    cases draw with
    | false => exact wpIn_region_list (sxOps_sound hT hpo (fun env' L' h' β' a' w' h1 h2 => hK .normal _ _ _ _ _ _ h1 h2) ops.toList _ _ _ _ _ _ hs hx)
    | true =>
      simp only [okCode, Bool.and_eq_true] at ho
      refine wpIn_region_any hT.mixed ?_
      have hs' : SRel ds h0 w0 β env L h a { w with drawn := w.drawn + 1 } :=
        ⟨⟨hs.after.os, hs.after.tape, hs.after.output, hs.after.size, hs.after.agr, hs.after.frame⟩, hs.loc, hs.inj, hs.size, hs.slot, hs.defers⟩
      refine plan_sound hT ho.1.1 ho.1.2 (K := fun env L h => K .normal env L h) hpo (fun env' L' h' β' a' w' h1 h2 => hK .normal _ _ _ _ _ _ h1 h2) ops.size (D := []) (listed := []) (pend := []) (known := []) (envc := env) (Lc := L)
        (by exact unl_start ops.size) ?_ hs' hx ho.2
      have hn : ∀ j, ¬ In (Array.replicate ops.size false) j := fun j hj => by
        unfold In at hj
        rw [Array.getD_eq_getD_getElem?, Array.getElem?_replicate] at hj
        split at hj <;> simp at hj
      exact ⟨by simp, fun j => by simp [hn j], fun x hx => (by cases hx), fun i o hi => absurd hi (hn i), fun i hi => (by cases hi), fun x hx => (by cases hx), rfl, fun _ _ => rfl, fun x hx => (by cases hx), fun _ _ => rfl,
        fun x hx => (by cases hx), fun x hx => (by cases hx), fun x hx => (by cases hx), fun x hx => (by cases hx), fun x hx => (by cases hx)⟩
  | seq c d ihc ihd =>
    intro ho K Q env L h β a w hs hx hpo hK
    simp only [okCode, Bool.and_eq_true] at ho
    unfold sx at hx
    refine wpIn_seq (ihc ho.1 hs hx (fun c β env L h a w q1 q2 => hpo c β env L h a w q1 q2) fun e env' L' h' β' a' w' h1 h2 => ?_)
    cases e with
    | normal => exact ihd ho.2 h2 h1 hpo hK
    | exit id => exact hK (.exit id) _ _ _ _ _ _ h1 h2
    | ret => exact hK .ret _ _ _ _ _ _ h1 h2
  | cond x c d ihc ihd =>
    intro ho K Q env L h β a w hs hx hpo hK
    simp only [okCode, Bool.and_eq_true] at ho
    unfold sx at hx
    split at hx
    · rename_i t ht
      refine wpIn_cond (hs.eval_v ht) ?_
      rcases bsel_cases hx with ⟨rfl, hx⟩ | ⟨rfl, hx⟩
      · exact ihc ho.1 hs hx hpo hK
      · exact ihd ho.2 hs hx hpo hK
    · exact hx.elim
  | block id c ih =>
    intro ho K Q env L h β a w hs hx hpo hK
    unfold sx at hx
    refine wpIn_block (ih ho hs hx (fun c β env L h a w q1 q2 => hpo c β env L h a w q1 q2) fun e env' L' h' β' a' w' h1 h2 => ?_)
    cases e with
    | normal => exact hK .normal _ _ _ _ _ _ h1 h2
    | exit j =>
      simp only [cvEx, Exit.inBlock] at h1 ⊢
      split at h1
      · rename_i e; rw [if_pos e]; exact hK .normal _ _ _ _ _ _ h1 h2
      · rename_i e; rw [if_neg e]; exact hK (.exit j) _ _ _ _ _ _ h1 h2
    | ret => exact hK .ret _ _ _ _ _ _ h1 h2
  | loop c ih =>
    intro ho K Q env L h β a w hs hx hpo hK
    unfold sx at hx
    obtain ⟨I, n, ⟨env1, L1, hwk, hI⟩, hround⟩ := hx.out
    refine wpIn_loop_ghost (fun n a w => ∃ env L h β, I n env L h ∧ SRel ds h0 w0 β env L h a w) n ⟨_, _, _, _, hI, hs.wk hwk⟩ fun n a w ⟨env, L, h, β, h1, h2⟩ => ?_
    refine ih ho h2 (hround n env L h h1) (fun c β env L h a w q1 q2 => hpo c β env L h a w q1 q2) fun e env' L' h' β' a' w' h3 h4 => ?_
    cases e with
    | normal =>
      obtain ⟨m, env1, L1, hm, hwk, h5⟩ := h3
      exact ⟨m, hm, _, _, _, _, h5, h4.wk hwk⟩
    | exit j => exact hK (.exit j) _ _ _ _ _ _ h3 h4
    | ret => exact hK .ret _ _ _ _ _ _ h3 h4
  | rangeFunc => intro ho K Q env L h β a w hs hx hpo hK; exact hx.elim
  | exit id => exact fun _ {K Q env L h β a w} hs hx hpo hK => wpIn_exit (hK (.exit id) _ _ _ _ _ _ hx hs)
  | scope c ih =>
    intro ho K Q env L h β a w hs hx hpo hK
    refine wpIn_scope (ih ho hs hx (fun c β env L h a w q1 q2 => hpo c β env L h a w q1 q2) fun e env' L' h' β' a' w' h1 h2 => ?_)
    cases e with
    | normal => exact hK .normal _ _ _ _ _ _ h1 h2
    | exit j => exact hK (.exit j) _ _ _ _ _ _ h1 h2
    | ret => exact hK .ret _ _ _ _ _ _ h1 h2
  | label l => exact fun _ {K Q env L h β a w} hs hx hpo hK => wpIn_label (hK .normal _ _ _ _ _ _ hx hs)
  | goto => intro ho K Q env L h β a w hs hx hpo hK; exact hx.elim
  | ret => exact fun _ {K Q env L h β a w} hs hx hpo hK => wpIn_ret (hK .ret _ _ _ _ _ _ hx hs)
  | refuse => intro ho K Q env L h β a w hs hx hpo hK; exact hx.elim

/-- One result. -/
def resOne (tmps : Array Value) : ResultVar → Sem Value
  | .tmp t => pure (tmps.getD t undef)
  | .cell q t => do loadVar t (← asAddr (tmps.getD q undef))

theorem results_eq (fn : Func) (tmps : Array Value) : results fn tmps = (do
    let vs ← fn.results.mapM (resOne tmps)
    pure (if h : vs.size = 1 then vs[0] else .tuple vs)) := by
  have : (fun (x : ResultVar) => (match x with | .tmp t => pure (tmps.getD t undef) | .cell a t => do loadVar t (← asAddr (tmps.getD a undef)) : Sem Value)) = resOne tmps := by
    funext x; cases x <;> rfl
  unfold results
  rw [← this]
  rfl

theorem resv_run (hT : TabOk P T) (hs : SRel ds h0 w0 β env L h a w) {r : ResultVar} {k : Value → Prop} (hr : resv T env L h r k) :
    ∃ v, (resOne a.tmps r).run P w = .ok v w ∧ k v := by
  unfold resv at hr
  split at hr
  · rename_i t
    split at hr
    · rename_i x hx
      have := hs.slot t _ (getD_some hx (by simp))
      exact ⟨_, rfl, by rw [show a.tmps.getD t undef = x from this]; exact hr⟩
    · exact hr.elim
  · rename_i q t
    split at hr
    · exact hr.elim
    · rename_i hx hk
      have hi := tiOk hT (t := t) (fun e => hk e)
      have hsl := hs.slot q _ (getD_some hx (by simp))
      split at hr
      · rename_i c hc
        split at hr
        · rename_i cs hcs
          obtain ⟨h1, h2⟩ := loc_load hs hc hcs
          obtain ⟨v, h3, h4⟩ := run_loadVar hi w _ _ cs h1 h2 hr
          refine ⟨v, ?_, h4⟩
          show (do loadVar t (← asAddr (a.tmps.getD q undef)) : Sem Value).run P w = _
          rw [show a.tmps.getD q undef = _ from hsl.2]
          simp [asAddr, h3]
        · exact hr.elim
      · exact hr.elim
    · rename_i hx hk
      have hi := tiOk hT (t := t) (fun e => hk e)
      have hsl := hs.slot q _ (getD_some hx (by simp))
      obtain ⟨cs, h1, hl⟩ := (show LdX _ _ _ _ from hr).out
      obtain ⟨g1, g2, g3⟩ := h1.cell hs.after.agr
      obtain ⟨v, h3, h4⟩ := run_loadVar hi w _ _ cs g2 g3 hl
      refine ⟨v, ?_, h4⟩
      rename_i y
      have : y = ⟨y.block, y.off, none⟩ := by cases y; simp at g1; rw [g1]
      show (do loadVar t (← asAddr (a.tmps.getD q undef)) : Sem Value).run P w = _
      rw [show a.tmps.getD q undef = .pointer (some y) from hsl]
      simp only [asAddr, Sem.run_bind, Sem.run_pure, Result.andThen_ok]
      rw [this]
      exact h3
    · exact hr.elim

theorem resl_run (hT : TabOk P T) (hs : SRel ds h0 w0 β env L h a w) : ∀ {rs : List ResultVar} {k : List Value → Prop}, resl T env L h rs k →
    ∃ l, (rs.mapM (resOne a.tmps)).run P w = .ok l w ∧ k l
  | [], k, hr => ⟨[], rfl, hr⟩
  | r :: rs, k, hr => by
    unfold resl at hr
    obtain ⟨v, h1, h2⟩ := resv_run hT hs hr
    obtain ⟨l, h3, h4⟩ := resl_run hT hs h2
    refine ⟨v :: l, ?_, h4⟩
    rw [List.mapM_cons]
    simp only [Sem.run_bind, h1, Result.andThen_ok, h3, Sem.run_pure]

theorem PanOk.none {Q : Exit → Act → World → Prop} (hkp : ∀ c s h, ¬ T.kp c s h) : PanOk T ds h0 w0 Q := fun c β env L h a w q _ => (hkp _ _ _ q).elim

theorem fn_of_sx (A : Ar) [ArOk A] (hT : TabOk P T) {f : FuncId} {fn : Func} {c : Code} (hf : P.funcs[f]? = some fn) (hb : fn.body = some c) (ho : okCode T c = true) {args : List Value} {h : Heap} {R : Value → Heap → Prop}
    (hx : sxFn A T (fun _ => P) c fn.ntmps fn.results.toList args h R) (hkp : ∀ c s h, ¬ T.kp c s h := by exact fun _ _ _ hc => hc) : FnX (fun _ => P) f args h R := by
  refine ⟨fun w hw => ?_⟩
  refine calls_of_wp hf hb (wpIn_wide (n := 0).1 ?_)
  have hs : SRel [] h w (fun _ => 0) (args.map SV.v ++ List.replicate (fn.ntmps - args.length) (.v undef)) [] h { tmps := args.toArray ++ Array.replicate (fn.ntmps - args.toArray.size) undef, defers := [] } w := by
    refine ⟨After.refl hw, fun s c hc => (by cases hc), fun s s' c c' hc => (by cases hc), by simp, fun t x hx => ?_, rfl⟩
    rw [List.getElem?_append] at hx
    split at hx
    · rename_i hlt
      have hlt' : t < args.length := by simpa using hlt
      rw [List.getElem?_map, List.getElem?_eq_getElem hlt'] at hx
      simp at hx
      subst hx
      show _ = _
      rw [Array.getD_eq_getD_getElem?, Array.getElem?_append_left (by simpa using hlt')]
      simp [hlt']
    · rename_i hge
      have hge' : args.length ≤ t := by simpa using hge
      rw [List.getElem?_replicate] at hx
      split at hx
      · rename_i hlt
        cases hx
        show _ = _
        rw [Array.getD_eq_getD_getElem?, Array.getElem?_append_right (by simpa using hge'), Array.getElem?_replicate]
        simp at hlt ⊢
        rw [if_pos hlt]; rfl
      · cases hx
  refine sx_sound (A := A) (ro := none) (n := 0) hT c ho hs hx (PanOk.none hkp) fun e env' L' h' β' a' w' h1 h2 => ?_
  have fin : resl T env' L' h' fn.results.toList (fun l => oneOr l (fun v => R v h')) → a'.defers = [] ∧ ∃ v, (results fn a'.tmps).run P w' = .ok v w' ∧ ∃ v1 h1, Ending.returned v = .returned v1 ∧ R v1 h1 ∧ After h w h1 w' := fun hr => by
    obtain ⟨l, h3, h4⟩ := resl_run hT h2 hr
    refine ⟨h2.defers, ?_⟩
    have h5 : (results fn a'.tmps).run P w' = .ok (if h : l.toArray.size = 1 then l.toArray[0] else .tuple l.toArray) w' := by
      rw [results_eq, Array.mapM_eq_mapM_toList]
      rw [Sem.run_bind, Sem.run_map]
      rw [h3]
      rfl
    refine ⟨_, h5, _, h', rfl, ?_, h2.after⟩
    unfold oneOr at h4
    split at h4
    · exact h4
    · rename_i hne
      have : ¬ l.toArray.size = 1 := fun hl => by
        match l, hl with
        | [x], _ => exact hne x rfl
      rw [dif_neg this]; exact h4
  cases e with
  | normal => exact fin h1
  | ret => exact fin h1
  | exit id => exact h1.elim

end Go.Sx

namespace Go.Sx
variable {ro : Option Nat} {n : Nat}
variable {P : Program} {T : Tab} {A : Ar} [ArOk A]

/-! Functions that defer calls. -/

/-- A deferred call, or the mark of a range over a function. -/
inductive Df where
  | call (g : FuncId) (args cap : List Value)
  | mark (m : Nat)

def Df.at : Df → Deferred
  | .call g args cap => { target := .fn (.func g) cap.toArray, args := args.toArray }
  | .mark m => { target := .collected m, args := #[] }

/-- No place in a box of the function's own. -/
def unloc : Env → Env
  | [] => []
  | x :: r => match x with
    | .loc _ _ => .u :: unloc r
    | x => x :: unloc r
def setPs : Env → List Nat → List Value → Env
  | env, p :: ps, v :: vs => setPs (env.set p (.v v)) ps vs
  | env, _, _ => env

/-- One round of a range over a function, as far as it ends in the common way. -/
def roundX (A : Ar) (T : Tab) (p : Unit → Program) (asg body : Code) (env : Env) (ps : List Nat) (l : Nat) (o1 o2 : Obj) (vs : List Value) (k : Heap → Prop) (hh : Heap) : Prop :=
  sx A T p asg (fun e env1 L1 h1 => match e with
    | .normal => h1 l = some o1 ∧ sx A T p body (fun e _ _ h2 => match e with
      | .normal => h2 l = some o2 ∧ k (hset h2 l o1)
      | _ => False) env1 L1 (hset h1 l o2)
    | _ => False) (setPs env ps vs) [] hh

/-- A range over a function: the record, the block for deferred calls, and the call. -/
structure RgX (p : Unit → Program) (gf : FuncId) (lb : List Value) (n : Nat) (round : Nat → Obj → Obj → List Value → (Heap → Prop) → Heap → Prop) (h : Heap) (K : Nat → Heap → Prop) : Prop where
  out : ∀ (m l : Nat) (o1 o2 : Obj), h m = none → h l = none → m ≠ l → (∀ c e fr, o1 ≠ .cells c e fr) → (∀ c e fr, o2 ≠ .cells c e fr) →
    (∀ vs hh (k : Heap → Prop), vs.length = n → hh l = some o1 → round l o1 o2 vs k hh → YdX p l vs hh (fun v h' => v = .bool true ∧ k h')) →
    FnX p gf (.func (.yield l) #[] #[] :: lb) (hset (hset h m (.deferred (some []))) l o1) (fun _ h' => h' l = some o1 ∧ ∀ o3, (∀ c e fr, o3 ≠ .cells c e fr) → K m (hset h' l o3))

def FnD (P : Program) (f : FuncId) (args : List Value) (h : Heap) (R : Value → Heap → Prop) : Prop :=
  ∀ w, Agr h w → ∀ n, CallsDIn Fence.wide n P f args.toArray .returning w fun e u' w' => u' = .returning ∧ ∃ v h', e = .returned v ∧ R v h' ∧ After h w h' w'

structure FnDX (p : Unit → Program) (f : FuncId) (args : List Value) (h : Heap) (R : Value → Heap → Prop) : Prop where
  out : FnD (p ()) f args h R

theorem FnDX.mono {p : Unit → Program} {f : FuncId} {args : List Value} {h : Heap} {R R' : Value → Heap → Prop} (x : FnDX p f args h R) (hr : ∀ v h', R v h' → R' v h') : FnDX p f args h R' :=
  ⟨fun w hw n => (x.out w hw n).mono fun e u' w' ⟨hu, v, h', he, hR, ha⟩ => ⟨hu, v, h', he, hr _ _ hR, ha⟩⟩

def sxOpsD (A : Ar) (T : List Df → Tab) (p : Unit → Program) (all : List Oper) (K : List Df → Env → Loc → Heap → Prop) : List Oper → List Df → Env → Loc → Heap → Prop
  | [], ds, env, L, h => K ds env L h
  | o :: rest, ds, env, L, h =>
    gd all env o
      (fun _ => match o.op with
        | .defer c => match c.callee with
          | .value f => match sev env f with
            | .v (.func (.func g) first cap) => match vals (c.args.toList.map (sev env)) with
              | some as => sxOpsD A T p all K rest (.call g (first.toList ++ as) cap.toList :: ds) (put env o.dst (.v undef)) L h
              | none => False
            | _ => False
          | _ => False
        | _ => match isLight (T ds) o with
          | true => lightx A (T ds) p o (sev env) L h (fun x nb => sxOpsD A T p all K rest ds (put env o.dst x) (addL L o.dst nb) h)
          | false => hx A (T ds) p o (sev env) L h (fun x L' h' => sxOpsD A T p all K rest ds (put env o.dst x) L' h'))
      (fun _ => sxOpsD A T p all K rest ds (put env o.dst (.v undef)) L h)

def sxD (A : Ar) (T : List Df → Tab) (p : Unit → Program) : Code → (Ex → List Df → Env → Loc → Heap → Prop) → List Df → Env → Loc → Heap → Prop
  | .region id ops false, K, ds, env, L, h => sxOpsD A T p ops.toList (fun ds env L h => K .normal ds env L h) ops.toList ds env L h
  | .seq a b, K, ds, env, L, h => sxD A T p a (fun e ds env L h => match e with
    | .normal => sxD A T p b K ds env L h
    | e => K e ds env L h) ds env L h
  | .cond c a b, K, ds, env, L, h => match sev env c with
    | .v (.bool t) => bsel t (fun _ => sxD A T p a K ds env L h) (fun _ => sxD A T p b K ds env L h)
    | _ => False
  | .block id c, K, ds, env, L, h => sxD A T p c (fun e ds env L h => match e with
    | .exit j => if j = id then K .normal ds env L h else K (.exit j) ds env L h
    | e => K e ds env L h) ds env L h
  | .rangeFunc g ps asg body, K, ds, env, L, h => match sev env g with
    | .v (.func (.func gf) first lb) => match first.isEmpty, (T ds).fn gf with
      | true, true => RgX p gf lb.toList ps.size (roundX A (T ds) p asg body (unloc env) ps.toList) h (fun m h' => K .normal (.mark m :: ds) env L h')
      | _, _ => False
    | _ => False
  | c, K, ds, env, L, h => sx A (T ds) p c (fun e env L h => K e ds env L h) env L h

def runD (T : Tab) (p : Unit → Program) : List Df → (Heap → Prop) → Heap → Prop
  | [], k, h => k h
  | .call g args cap :: r, k, h => match T.fn g with
    | true => FnDX p g (args ++ cap) h (fun _ h' => runD T p r k h')
    | false => False
  | .mark m :: r, k, h => h m = some (.deferred (some [])) ∧ runD T p r k (hset h m (.deferred none))

def sxFnD (A : Ar) (T : Tab) (p : Unit → Program) (c : Code) (ntmps : Nat) (rs : List ResultVar) (args : List Value) (h : Heap) (R : Value → Heap → Prop) : Prop :=
  sxD A (fun _ => T) p c (fun e ds env L h => match e with
    | .exit _ => False
    | _ => runD T p ds (fun h => resl T env L h rs (fun l => oneOr l (fun v => R v h))) h) [] (args.map SV.v ++ List.replicate (ntmps - args.length) (.v undef)) [] h

variable {h0 : Heap} {w0 : World} {β : Nat → Nat} {h : Heap} {a : Act} {w : World} {env : Env} {L : Loc}

theorem SRel.addDefer {ds : List Deferred} (hs : SRel ds h0 w0 β env L h a w) (d : Deferred) : SRel (d :: ds) h0 w0 β env L h { a with defers := d :: a.defers } w :=
  ⟨hs.after, hs.loc, hs.inj, hs.size, hs.slot, by rw [hs.defers]⟩

/-- Panics under deferred calls. -/
def PanOkD (T : List Df → Tab) (h0 : Heap) (w0 : World) (Q : Exit → Act → World → Prop) : Prop := ∀ ds : List Df, PanOk (T ds) (ds.map Df.at) h0 w0 Q

variable {TT : List Df → Tab}

theorem sxOpsD_sound (hT : ∀ ds, TabOk P (TT ds)) {ops : Array Oper} {K : List Df → Env → Loc → Heap → Prop} {Q : Exit → Act → World → Prop}
    (hpo : PanOkD TT h0 w0 Q) (hK : ∀ ds' env' L' h' β' a' w', K ds' env' L' h' → SRel (ds'.map Df.at) h0 w0 β' env' L' h' a' w' → Q .normal a' w') :
    ∀ (l : List Oper) (ds : List Df) (env : Env) (L : Loc) (h : Heap) (β : Nat → Nat) (a : Act) (w : World), SRel (ds.map Df.at) h0 w0 β env L h a w →
      sxOpsD A TT (fun _ => P) ops.toList K l ds env L h → wpListIn (FW none) n P ops Q l a w
  | [], ds, env, L, h, β, a, w, hs, hx => hK _ _ _ _ _ _ _ hx hs
  | o :: r, ds, env, L, h, β, a, w, hs, hx => by
    unfold sxOpsD at hx
    unfold wpListIn
    rcases gd_sound hs hx with ⟨hw, hx⟩ | ⟨hw, hx⟩
    · rw [if_pos hw]
      split at hx
      · rename_i c ho
        split at hx
        · rename_i f hc
          split at hx
          · rename_i g first cap hf
            split at hx
            · rename_i as has
              have hr : (execOp a.eval o).run P w = .ok (.defer (Df.at (.call g (first.toList ++ as) cap.toList))) w := by
                have e1 : first ++ as.toArray = (first.toList ++ as).toArray := by apply Array.ext'; simp
                simp only [execOp, ho, resolve, hc, hs.eval_v hf, vals_evalA hs has, Deferred.ofValue, Sem.run_bind, Sem.run_pure, Result.andThen_ok, Df.at, e1]
              unfold Oper.wpIn
              refine ⟨fun _ _ => trivial, ?_⟩
              rw [show (FW none).round = none from rfl, Oper.semAt_none, hr, Oper.uponIn_defer]
              exact sxOpsD_sound hT hpo hK r (.call g (first.toList ++ as) cap.toList :: ds) _ _ _ _ _ _ ((hs.addDefer (Df.at (.call g (first.toList ++ as) cap.toList))).put (d := o.dst) (x := .v undef) (v := undef) rfl) hx
            · exact hx.elim
          · exact hx.elim
        · exact hx.elim
      · split at hx
        · obtain ⟨sv, nb, h1, h2⟩ := lightx_det hx
          obtain ⟨v, w', β', h3, h4⟩ := light_run (hT ds) hs (h2 (fun x y => x = sv ∧ y = nb) ⟨rfl, rfl⟩)
          refine wpIn_val h3 ?_
          exact sxOpsD_sound hT hpo hK r _ _ _ _ _ _ _ h4 h1
        · refine hx_run (hT ds) hs (Lc := L) (fun _ _ q => q) hx (hpo ds) fun sv v Lc' L' h' w' h1 h2 h3 => ?_
          have : Lc' = L' := by
            rcases h3 with ⟨e1, e2⟩ | ⟨s, c, x, y, -, -, e1, e2⟩
            · rw [e1, e2]
            · rw [e1, e2]
          subst this
          exact sxOpsD_sound hT hpo hK r _ _ _ _ _ _ _ h2 h1
    · rw [if_neg (by simp [hw])]
      refine ⟨fun _ _ => trivial, ?_⟩
      exact sxOpsD_sound hT hpo hK r _ _ _ _ _ _ _ (hs.put (x := .v undef) (v := undef) rfl) hx

theorem unloc_get : ∀ {env : Env} {t : Nat} {x : SV}, (unloc env)[t]? = some x → x = .u ∨ (env[t]? = some x ∧ ∀ s o, x ≠ .loc s o)
  | [], t, x, h => by simp [unloc] at h
  | y :: r, 0, x, h => by
    cases y with
    | loc s o => simp [unloc] at h; exact .inl h.symm
    | v z => simp [unloc] at h; subst h; exact .inr ⟨by simp, fun _ _ e => by cases e⟩
    | u => simp [unloc] at h; exact .inl h.symm
  | y :: r, t + 1, x, h => by
    have h' : (unloc r)[t]? = some x := by
      cases y <;> simpa [unloc] using h
    rcases unloc_get h' with h1 | ⟨h1, h2⟩
    · exact .inl h1
    · exact .inr ⟨by simpa using h1, h2⟩
theorem unloc_len : ∀ (env : Env), (unloc env).length = env.length
  | [] => rfl
  | y :: r => by cases y <;> simp [unloc, unloc_len r]

/-- The temporaries of a round. -/
theorem setPs_ok {β : Nat → Nat} : ∀ (ps : List Nat) (vs : List Value) (env : Env) (tmps : Array Value), tmps.size = env.length → (∀ t x, env[t]? = some x → svOk β [] x (tmps.getD t undef)) →
    ((ps.zip vs).foldl (fun t (p, v) => t.setIfInBounds p v) tmps).size = (setPs env ps vs).length ∧ ∀ t x, (setPs env ps vs)[t]? = some x → svOk β [] x (((ps.zip vs).foldl (fun t (p, v) => t.setIfInBounds p v) tmps).getD t undef)
  | [], vs, env, tmps, h1, h2 => by simp [setPs, h1]; simpa using h2
  | p :: ps, [], env, tmps, h1, h2 => by simp [setPs, h1]; simpa using h2
  | p :: ps, v :: vs, env, tmps, h1, h2 => by
    simp only [List.zip_cons_cons, List.foldl_cons, setPs]
    refine setPs_ok ps vs _ _ (by simp [h1]) (fun t x hx => ?_)
    rw [List.getElem?_set] at hx
    split at hx
    · rename_i e
      subst e
      split at hx
      · rename_i hlt
        cases hx
        show _ = _
        have hlt' : p < tmps.size := by rw [h1]; exact hlt
        rw [Array.getD_eq_getD_getElem?, Array.getElem?_setIfInBounds_self_of_lt hlt']
        rfl
      · cases hx
    · rename_i e
      have := h2 t x hx
      rw [Array.getD_eq_getD_getElem?, Array.getElem?_setIfInBounds_ne (by omega), ← Array.getD_eq_getD_getElem?]
      exact this

theorem After.put {h : Heap} {w : World} (ha : Agr h w) {l : Nat} {o o' : Obj} (hl : h l = some o) : After h w (hset h l o') (w.putObj l o') := by
  have hw := ha _ _ hl
  have hlt : l < w.heap.size := (Array.getElem?_eq_some_iff.1 hw).1
  exact After.set ha hl (World.putObj_heap_same hlt) (fun b hb => World.putObj_heap_other hb) World.putObj_size ⟨rfl, rfl, rfl⟩

theorem round_yd (hT : TabOk P T) (hkp : ∀ c s h, ¬ T.kp c s h) {l : Nat} {r : Loop} {asg body : Code} (hoa : okCode T asg = true) (hob : okCode T body = true) (hra : r.assign = asg) (hrb : r.body = body) (hst : r.state = .ready) (hpe : r.pending = none)
    (hsl : (unloc env).length = r.tmps.size) (hsv : ∀ t x, (unloc env)[t]? = some x → svOk (fun _ => 0) [] x (r.tmps.getD t undef))
    {vs : List Value} {hh : Heap} {k : Heap → Prop} (hv : vs.length = r.params.size) (hl : hh l = some (.loop r))
    (hx : roundX A T (fun _ => P) asg body (unloc env) r.params.toList l (.loop r) (.loop { r with state := .busy }) vs k hh) : YdX (fun _ => P) l vs hh (fun v h' => v = .bool true ∧ k h') := by
  refine ⟨fun w hw => ⟨_, _, _, _, run_yield (hw _ _ hl) (by simpa using hv), fun n => ?_⟩⟩
  refine roundIn_of_wpIn trivial ?_
  have hz : (r.params.zip vs.toArray).foldl (fun tmps (t, a) => tmps.setIfInBounds t a) r.tmps = (r.params.toList.zip vs).foldl (fun t (p, v) => t.setIfInBounds p v) r.tmps := by
    rw [← Array.foldl_toList]
    simp
  rw [hz, hra, hrb]
  obtain ⟨hs1, hs2⟩ := setPs_ok (β := fun _ => 0) r.params.toList vs (unloc env) r.tmps hsl.symm hsv
  have hs : SRel [] hh w (fun _ => 0) (setPs (unloc env) r.params.toList vs) [] hh { tmps := (r.params.toList.zip vs).foldl (fun t (p, v) => t.setIfInBounds p v) r.tmps, defers := [] } w :=
    ⟨After.refl hw, fun s c hc => (by cases hc), fun s s' c c' hc => (by cases hc), hs1, hs2, rfl⟩
  refine sx_sound (A := A) (ro := some l) hT asg hoa hs hx (PanOk.none hkp) fun e env1 L1 h1 β1 a1 w1 g1 g2 => ?_
  cases e with
  | normal =>
    obtain ⟨k1, k2⟩ := g1
    have hw1 := g2.after.agr _ _ k1
    refine ⟨_, run_beginRound hw1 hst, ?_⟩
    have g3 := g2.step (After.put g2.after.agr (o' := .loop { r with state := .busy }) k1)
    refine sx_sound (A := A) (ro := some l) hT body hob g3 k2 (PanOk.none hkp) fun e env2 L2 h2 β2 a2 w2 q1 q2 => ?_
    cases e with
    | normal =>
      obtain ⟨k3, k4⟩ := q1
      have hw2 := q2.after.agr _ _ k3
      refine ⟨_, _, run_endRound none hw2, ?_⟩
      have g4 := q2.step (After.put q2.after.agr (o' := .loop r) k3)
      have er : ({ r with state := if (none : Option Code).isNone = true then LoopState.ready else LoopState.done, pending := none } : Loop) = r := by
        obtain ⟨s, p, f, t, ps, a, b, d⟩ := r
        simp only at hst hpe
        subst hst hpe
        rfl
      refine ⟨_, hset h2 l (.loop r), rfl, ⟨rfl, k4⟩, ?_⟩
      have e2 : ({ ({ r with state := .busy } : Loop) with state := if (none : Option Code).isNone = true then LoopState.ready else LoopState.done, pending := none } : Loop) = r := er
      have := g4.after
      rw [e2]
      exact this
    | exit id => exact q1.elim
    | ret => exact q1.elim
  | exit id => exact g1.elim
  | ret => exact g1.elim

theorem rangeFunc_sound (hT : TabOk P T) (hkp : ∀ c s h, ¬ T.kp c s h) {ds : List Df} {g : Operand} {ps : Array Nat} {asg body : Code} {gf : FuncId} {lb : Array Value} {Q : Exit → Act → World → Prop} {K : Nat → Heap → Prop}
    (hs : SRel (ds.map Df.at) h0 w0 β env L h a w) (hoa : okCode T asg = true) (hob : okCode T body = true) (hg : sev env g = .v (.func (.func gf) #[] lb)) (hgf : T.fn gf = true)
    (hx : RgX (fun _ => P) gf lb.toList ps.size (roundX A T (fun _ => P) asg body (unloc env) ps.toList) h K)
    (hK : ∀ m h' a' w', K m h' → SRel ((Df.mark m :: ds).map Df.at) h0 w0 β env L h' a' w' → Q .normal a' w') : (Code.rangeFunc g ps asg body).wp P Q a w := by
  refine (wpIn_wide (n := 0)).1 (wpIn_rangeFunc fun fn _ => ?_)
  refine ⟨w.heap.size + 1, _, (w.alloc (.deferred (some []))).alloc (.loop { state := .ready, pending := none, fn, tmps := a.tmps, params := ps, assign := asg, body, defers := w.heap.size }), { target := .fn (.func gf) lb, args := #[.func (.yield (w.heap.size + 1)) #[] #[]] }, (w.alloc (.deferred (some []))).alloc (.loop { state := .ready, pending := none, fn, tmps := a.tmps, params := ps, assign := asg, body, defers := w.heap.size }), gf, #[.func (.yield (w.heap.size + 1)) #[] #[]] ++ lb, (w.alloc (.deferred (some []))).alloc (.loop { state := .ready, pending := none, fn, tmps := a.tmps, params := ps, assign := asg, body, defers := w.heap.size }), run_enterLoop_outer fn a.tmps ps asg body, ?_, fun _ _ => trivial, ?_, fun hd => by simp [Fence.wide] at hd, ?_⟩
  · simp only [resolve, hs.eval_v hg, Deferred.ofValue, Sem.run_pure]
    simp [Act.eval]
  · simp only [invoke, callFunc_run hT hgf]
  · generalize hrec : ({ state := .ready, pending := none, fn, tmps := a.tmps, params := ps, assign := asg, body, defers := w.heap.size } : Loop) = r
    have hag := hs.after.agr
    have a1 : After h w (hset h w.heap.size (.deferred (some []))) (w.alloc (.deferred (some []))) := After.new hag _
    have hsz : (w.alloc (.deferred (some []))).heap.size = w.heap.size + 1 := World.size_alloc w _
    have a2 := After.new a1.agr (.loop r)
    rw [hsz] at a2
    have a12 := a1.trans a2
    have hn1 : h w.heap.size = none := hag.none_ge (Nat.le_refl _)
    have hn2 : h (w.heap.size + 1) = none := hag.none_ge (by omega)
    have hc := (hx.out w.heap.size (w.heap.size + 1) (.loop r) (.loop { r with state := .busy }) hn1 hn2 (by omega) (fun _ _ _ e => by cases e) (fun _ _ _ e => by cases e) (fun vs hh k hv hl hr => by
      refine round_yd (A := A) (env := env) hT hkp hoa hob (r := r) (by rw [← hrec]) (by rw [← hrec]) (by rw [← hrec]) (by rw [← hrec]) ?_ ?_ (by rw [hv, ← hrec]) hl ?_
      · rw [unloc_len, ← hs.size, ← hrec]
      · intro t x hx
        rcases unloc_get hx with rfl | ⟨h1, h2⟩
        · trivial
        · have := hs.slot t x h1
          rw [← hrec]
          cases x with
          | v z => exact this
          | loc s o => exact absurd rfl (h2 s o)
          | u => trivial
      · have hp : ps = r.params := by rw [← hrec]
        rw [hp] at hr
        exact hr)).out _ a12.agr
    have hc' := callsIn_wide (n := 0 - 1).2 hc
    have e1 : (Value.func (.yield (w.heap.size + 1)) #[] #[] :: lb.toList).toArray = #[.func (.yield (w.heap.size + 1)) #[] #[]] ++ lb := by
      apply Array.ext'; simp
    rw [e1] at hc'
    refine CallsIn.mono hc' fun e w3 ⟨v, h3, g1, ⟨g2, g3⟩, g4⟩ => ?_
    subst g1
    have hw3 := g4.agr _ _ g2
    refine ⟨none, w3.putObj (w.heap.size + 1) (.loop { r with state := .exhausted }), ?_, ?_⟩
    · have := run_endLoop (P := P) hw3 (by rw [← hrec]; simp)
      rw [this, ← hrec]
    · refine hK w.heap.size _ _ _ (g3 (.loop { r with state := .exhausted }) (fun _ _ _ e => by cases e)) ?_
      have s1 := hs.step ((a12.trans g4).trans (After.put g4.agr (o' := .loop { r with state := .exhausted }) g2))
      exact s1.addDefer (Df.at (.mark w.heap.size))

/-- No range over a function. -/
def noRg : Code → Bool
  | .rangeFunc .. => false
  | .seq a b | .cond _ a b => noRg a && noRg b
  | .block _ c => noRg c
  | _ => true

theorem sxD_sound (hT : ∀ ds, TabOk P (TT ds)) : ∀ (c : Code), (∀ ds, okCode (TT ds) c = true) → (noRg c = true ∨ ∀ ds c s h, ¬ (TT ds).kp c s h) → ∀ {K : Ex → List Df → Env → Loc → Heap → Prop} {Q : Exit → Act → World → Prop} {ds : List Df} {env : Env} {L : Loc} {h : Heap} {β : Nat → Nat} {a : Act} {w : World},
    SRel (ds.map Df.at) h0 w0 β env L h a w → sxD A TT (fun _ => P) c K ds env L h → PanOkD TT h0 w0 Q →
    (∀ e ds' env' L' h' β' a' w', K e ds' env' L' h' → SRel (ds'.map Df.at) h0 w0 β' env' L' h' a' w' → Q (cvEx e) a' w') → c.wp P Q a w := by
  intro c
  induction c with
  | region id ops draw =>
    intro ho hng K Q ds env L h β a w hs hx hpo hK
    cases draw with
    | false => exact wpIn_wide (n := 0).1 (wpIn_region_list (sxOpsD_sound hT hpo (fun ds' env' L' h' β' a' w' h1 h2 => hK .normal _ _ _ _ _ _ _ h1 h2) ops.toList _ _ _ _ _ _ _ hs hx))
    | true => exact wpIn_wide (n := 0).1 (sx_sound (A := A) (ro := none) (n := 0) (hT ds) _ (ho ds) hs hx (hpo ds) (fun e env' L' h' β' a' w' h1 h2 => hK e _ _ _ _ _ _ _ h1 h2))
  | seq c d ihc ihd =>
    intro ho hng K Q ds env L h β a w hs hx hpo hK
    simp only [okCode, Bool.and_eq_true] at ho
    simp only [noRg, Bool.and_eq_true] at hng
    unfold sxD at hx
    refine wp_seq (ihc (fun ds => (ho ds).1) (hng.imp And.left id) hs hx (fun ds c β env L h a w q1 q2 => hpo ds c β env L h a w q1 q2) fun e ds' env' L' h' β' a' w' h1 h2 => ?_)
    cases e with
    | normal => exact ihd (fun ds => (ho ds).2) (hng.imp And.right id) h2 h1 hpo hK
    | exit id => exact hK (.exit id) _ _ _ _ _ _ _ h1 h2
    | ret => exact hK .ret _ _ _ _ _ _ _ h1 h2
  | cond x c d ihc ihd =>
    intro ho hng K Q ds env L h β a w hs hx hpo hK
    simp only [okCode, Bool.and_eq_true] at ho
    simp only [noRg, Bool.and_eq_true] at hng
    unfold sxD at hx
    split at hx
    · rename_i t ht
      refine wp_cond (hs.eval_v ht) ?_
      rcases bsel_cases hx with ⟨rfl, hx⟩ | ⟨rfl, hx⟩
      · exact ihc (fun ds => (ho ds).1) (hng.imp And.left id) hs hx hpo hK
      · exact ihd (fun ds => (ho ds).2) (hng.imp And.right id) hs hx hpo hK
    · exact hx.elim
  | block id c ih =>
    intro ho hng K Q ds env L h β a w hs hx hpo hK
    unfold sxD at hx
    refine wp_block (ih ho hng hs hx (fun ds c β env L h a w q1 q2 => hpo ds c β env L h a w q1 q2) fun e ds' env' L' h' β' a' w' h1 h2 => ?_)
    cases e with
    | normal => exact hK .normal _ _ _ _ _ _ _ h1 h2
    | exit j =>
      simp only [cvEx, Exit.inBlock] at h1 ⊢
      split at h1
      · rename_i e; rw [if_pos e]; exact hK .normal _ _ _ _ _ _ _ h1 h2
      · rename_i e; rw [if_neg e]; exact hK (.exit j) _ _ _ _ _ _ _ h1 h2
    | ret => exact hK .ret _ _ _ _ _ _ _ h1 h2
  | rangeFunc g ps asg body =>
    intro ho hng K Q ds env L h β a w hs hx hpo hK
    simp only [okCode, Bool.and_eq_true] at ho
    have hkp : ∀ ds c s h, ¬ (TT ds).kp c s h := hng.resolve_left (by simp [noRg])
    unfold sxD at hx
    split at hx
    · rename_i gf first lb hg
      split at hx
      · rename_i hfe hgf
        have hfe : first = #[] := by
          have : first.isEmpty = true := hfe
          simpa using this
        subst hfe
        exact rangeFunc_sound (hT ds) (hkp ds) hs (ho ds).1 (ho ds).2 hg hgf hx (fun m h' a' w' h1 h2 => hK .normal _ _ _ _ _ _ _ h1 h2)
      · exact hx.elim
    · exact hx.elim
  | _ => exact fun ho hng {K Q ds env L h β a w} hs hx hpo hK => wpIn_wide (n := 0).1 (sx_sound (A := A) (ro := none) (n := 0) (hT ds) _ (ho ds) hs hx (hpo ds) (fun e env' L' h' β' a' w' h1 h2 => hK e _ _ _ _ _ _ _ h1 h2))

theorem srel_start {f : FuncId} {fn : Func} {args : List Value} {h : Heap} {w : World} (hw : Agr h w) :
    SRel [] h w (fun _ => 0) (args.map SV.v ++ List.replicate (fn.ntmps - args.length) (.v undef)) [] h { tmps := args.toArray ++ Array.replicate (fn.ntmps - args.toArray.size) undef, defers := [] } w := by
  refine ⟨After.refl hw, fun s c hc => (by cases hc), fun s s' c c' hc => (by cases hc), by simp, fun t x hx => ?_, rfl⟩
  rw [List.getElem?_append] at hx
  split at hx
  · rename_i hlt
    have hlt' : t < args.length := by simpa using hlt
    rw [List.getElem?_map, List.getElem?_eq_getElem hlt'] at hx
    simp at hx
    subst hx
    show _ = _
    rw [Array.getD_eq_getD_getElem?, Array.getElem?_append_left (by simpa using hlt')]
    simp [hlt']
  · rename_i hge
    have hge' : args.length ≤ t := by simpa using hge
    rw [List.getElem?_replicate] at hx
    split at hx
    · rename_i hlt
      cases hx
      show _ = _
      rw [Array.getD_eq_getD_getElem?, Array.getElem?_append_right (by simpa using hge'), Array.getElem?_replicate]
      simp at hlt ⊢
      rw [if_pos hlt]; rfl
    · cases hx

theorem res_end (hT : TabOk P T) {ds : List Deferred} (hs : SRel ds h0 w0 β env L h a w) {fn : Func} {R : Value → Heap → Prop} (hr : resl T env L h fn.results.toList (fun l => oneOr l (fun v => R v h))) :
    ∃ v, (results fn a.tmps).run P w = .ok v w ∧ R v h ∧ After h0 w0 h w := by
  obtain ⟨l, h3, h4⟩ := resl_run hT hs hr
  have h5 : (results fn a.tmps).run P w = .ok (if h : l.toArray.size = 1 then l.toArray[0] else .tuple l.toArray) w := by
    rw [results_eq, Array.mapM_eq_mapM_toList]
    rw [Sem.run_bind, Sem.run_map]
    rw [h3]
    rfl
  refine ⟨_, h5, ?_, hs.after⟩
  unfold oneOr at h4
  split at h4
  · exact h4
  · rename_i hne
    have : ¬ l.toArray.size = 1 := fun hl => by
      match l, hl with
      | [x], _ => exact hne x rfl
    rw [dif_neg this]; exact h4

/-- A function that is deferred. -/
theorem fnd_of_sx (A : Ar) [ArOk A] (hT : TabOk P T) {f : FuncId} {fn : Func} {c : Code} (hf : P.funcs[f]? = some fn) (hb : fn.body = some c) (ho : okCode T c = true) {args : List Value} {h : Heap} {R : Value → Heap → Prop}
    (hx : sxFn A T (fun _ => P) c fn.ntmps fn.results.toList args h R) (hkp : ∀ c s h, ¬ T.kp c s h := by exact fun _ _ _ hc => hc) : FnDX (fun _ => P) f args h R := by
  refine ⟨fun w hw n => ?_⟩
  refine (callsDIn_of_wp (R := fun e w' => ∃ v h', e = .returned v ∧ R v h' ∧ After h w h' w') hf hb trivial ?_).mono (fun e u' w' x => x)
  refine sx_sound (A := A) (ro := none) hT c ho (srel_start (f := f) (fn := fn) hw) hx (PanOk.none hkp) fun e env' L' h' β' a' w' h1 h2 => ?_
  have fin : resl T env' L' h' fn.results.toList (fun l => oneOr l (fun v => R v h')) → a'.defers = [] ∧ ∃ v, (results fn a'.tmps).run P w' = .ok v w' ∧ ∃ v1 h1, Ending.returned v = .returned v1 ∧ R v1 h1 ∧ After h w h1 w' := fun hr => by
    obtain ⟨v, h3, h4, h5⟩ := res_end hT h2 hr
    exact ⟨h2.defers, v, h3, v, h', rfl, h4, h5⟩
  cases e with
  | normal => exact fin h1
  | ret => exact fin h1
  | exit id => exact h1.elim

theorem runD_sound (hT : TabOk P T) {fn : Func} {R : Value → Heap → Prop} (ds0 : List Deferred) : ∀ (ds : List Df) {h : Heap} {a : Act} {w : World}, SRel ds0 h0 w0 β env L h a w →
    runD T (fun _ => P) ds (fun h => resl T env L h fn.results.toList (fun l => oneOr l (fun v => R v h))) h →
    LeavesInM Fence.wide 0 P fn a.tmps (fun e w' => ∃ v h', e = .returned v ∧ R v h' ∧ After h0 w0 h' w') (ds.map Df.at) .returning w
  | [], h, a, w, hs, hx => by
    obtain ⟨v, h3, h4, h5⟩ := res_end hT hs hx
    exact ⟨v, h3, v, h, rfl, h4, h5⟩
  | .call g args cap :: r, h, a, w, hs, hx => by
    unfold runD at hx
    split at hx
    · rename_i hg
      have hi : (invoke (.fn (.func g) cap.toArray) args.toArray).run P w = .ok (.enter g (args ++ cap).toArray) w := by
        have e1 : args.toArray ++ cap.toArray = (args ++ cap).toArray := by simp
        simp only [invoke, e1, callFunc_run hT hg]
      refine ⟨by simp, .inr ⟨fun hd => by simp [Fence.wide] at hd, _, _, _, _, rfl, hi, fun _ _ => trivial, (hx.out w hs.after.agr _).mono fun e u' w' ⟨hu, v, h', he, hR, ha⟩ => ?_⟩⟩
      subst hu; subst he
      have := runD_sound hT ds0 r (hs.step ha) hR
      exact this
    · exact hx.elim
  | .mark m :: r, h, a, w, hs, hx => by
    unfold runD at hx
    obtain ⟨h1, h2⟩ := hx
    have hw := hs.after.agr _ _ h1
    refine ⟨by simp, .inl ⟨m, _, rfl, run_takeDeferred hw, ?_⟩⟩
    exact runD_sound hT ds0 r (hs.step (After.put hs.after.agr h1)) h2

theorem fn_of_sxD (A : Ar) [ArOk A] (hT : TabOk P T) {f : FuncId} {fn : Func} {c : Code} (hf : P.funcs[f]? = some fn) (hb : fn.body = some c) (ho : okCode T c = true) {args : List Value} {h : Heap} {R : Value → Heap → Prop}
    (hx : sxFnD A T (fun _ => P) c fn.ntmps fn.results.toList args h R) (hkp : ∀ c s h, ¬ T.kp c s h := by exact fun _ _ _ hc => hc) : FnX (fun _ => P) f args h R := by
  refine ⟨fun w hw => ?_⟩
  refine callsIn_wide.1 (callsIn_of_wp_marks (F := Fence.wide) (n := 0) hf hb trivial ((wpIn_wide (n := 0)).2 ?_))
  refine sxD_sound (A := A) (TT := fun _ => T) (fun _ => hT) c (fun _ => ho) (.inr fun _ => hkp) (ds := []) (srel_start (f := f) (fn := fn) hw) hx (fun _ => PanOk.none hkp) fun e ds' env' L' h' β' a' w' h1 h2 => ?_
  have fin : runD T (fun _ => P) ds' (fun h => resl T env' L' h fn.results.toList (fun l => oneOr l (fun v => R v h))) h' → LeavesInM Fence.wide 0 P fn a'.tmps (fun e w' => ∃ v h', e = .returned v ∧ R v h' ∧ After h w h' w') a'.defers .returning w' := fun hr => by
    have := runD_sound hT _ ds' h2 hr
    rw [h2.defers]; exact this
  cases e with
  | normal => exact fin h1
  | ret => exact fin h1
  | exit id => exact h1.elim

end Go.Sx

