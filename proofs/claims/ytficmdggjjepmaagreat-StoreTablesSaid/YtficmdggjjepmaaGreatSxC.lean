import Derived.Test.YtficmdggjjepmaaGreatSxB
import Derived.Test.YtficmdggjjepmaaGreatRd
set_option linter.all false
namespace Go.Sx

/-! Cuts: behind some statements of a body the state is said anew, once for all ways to there. -/

inductive CC where
  | leaf (c : Code)
  | seqp (a : Code) (b : CC)
  | seqc (a : Code) (b : CC)

def CC.code : CC → Code
  | .leaf c => c
  | .seqp a b => .seq a b.code
  | .seqc a b => .seq a b.code

/-- Along the right spine: true: a cut behind the statement. -/
def cuts : List Bool → Code → CC
  | [], c => .leaf c
  | t :: r, c => match c with
    | .seq a b => match t with
      | true => .seqc a (cuts r b)
      | false => .seqp a (cuts r b)
    | c => .leaf c
theorem cuts_code : ∀ (l : List Bool) (c : Code), (cuts l c).code = c
  | [], c => rfl
  | t :: r, c => by
    cases c with
    | seq a b =>
      cases t with
      | true => exact congrArg (Code.seq a) (cuts_code r b)
      | false => exact congrArg (Code.seq a) (cuts_code r b)
    | _ => rfl

structure CutX (ws : List Nat) (first : (Ex → Env → Loc → Heap → Prop) → Prop) (rest : Env → Loc → Heap → Prop) (K : Ex → Env → Loc → Heap → Prop) (env : Env) : Prop where
  out : ∃ I : Env → Loc → Heap → Prop, first (fun e env' L' h' => match e with
    | .normal => ∃ env1 L1, Wk env' L' env1 L1 ∧ I env1 L1 h'
    | e => K e env' L' h') ∧ ∀ env' L' h', I env' L' h' → rest env' L' h'

theorem CutX.go {G : Type} {ws : List Nat} {first : (Ex → Env → Loc → Heap → Prop) → Prop} {rest : Env → Loc → Heap → Prop} {K : Ex → Env → Loc → Heap → Prop} {env : Env}
    (vs : G → List (Nat × SV)) (lv : G → Loc) (I : G → Heap → Prop)
    (h1 : first (fun e env' L' h' => match e with
      | .normal => ∃ g, Wk env' L' (setE (hav env ws) (vs g)) (lv g) ∧ I g h'
      | e => K e env' L' h'))
    (h2 : ∀ g h', I g h' → rest (setE (hav env ws) (vs g)) (lv g) h') : CutX ws first rest K env := by
  refine ⟨fun env1 L1 h' => ∃ g, env1 = setE (hav env ws) (vs g) ∧ L1 = lv g ∧ I g h', ?_, ?_⟩
  · have key : (fun (e : Ex) (env' : Env) (L' : Loc) (h' : Heap) => match e with
      | .normal => ∃ g, Wk env' L' (setE (hav env ws) (vs g)) (lv g) ∧ I g h'
      | e => K e env' L' h') = (fun e env' L' h' => match e with
      | .normal => ∃ env1 L1, Wk env' L' env1 L1 ∧ ∃ g, env1 = setE (hav env ws) (vs g) ∧ L1 = lv g ∧ I g h'
      | e => K e env' L' h') := by
      funext e env' L' h'
      cases e with
      | normal =>
        apply propext
        constructor
        · rintro ⟨g, h1, h2⟩; exact ⟨_, _, h1, g, rfl, rfl, h2⟩
        · rintro ⟨_, _, h1, g, rfl, rfl, h2⟩; exact ⟨g, h1, h2⟩
      | exit j => rfl
      | ret => rfl
    rw [key] at h1
    exact h1
  · rintro _ _ h' ⟨g, rfl, rfl, hI⟩
    exact h2 g h' hI

def sxc (A : Ar) (T : Tab) (p : Unit → Program) : CC → (Ex → Env → Loc → Heap → Prop) → Env → Loc → Heap → Prop
  | .leaf c, K, env, L, h => sx A T p c K env L h
  | .seqp a b, K, env, L, h => sx A T p a (fun e env L h => match e with
    | .normal => sxc A T p b K env L h
    | e => K e env L h) env L h
  | .seqc a b, K, env, L, h => CutX (wr a) (fun K' => sx A T p a K' env L h) (fun env L h => sxc A T p b K env L h) K env

def sxcFn (A : Ar) (T : Tab) (p : Unit → Program) (c : CC) (ntmps : Nat) (rs : List ResultVar) (args : List Value) (h : Heap) (R : Value → Heap → Prop) : Prop :=
  sxc A T p c (fun e env L h => match e with
    | .exit _ => False
    | _ => resl T env L h rs (fun l => oneOr l (fun v => R v h))) (args.map SV.v ++ List.replicate (ntmps - args.length) (.v undef)) [] h

variable {ro : Option Nat} {n : Nat}
variable {P : Program} {T : Tab} {A : Ar} [ArOk A]
variable {h0 : Heap} {w0 : World} {β : Nat → Nat} {h : Heap} {a : Act} {w : World} {env : Env} {L : Loc} {ds : List Deferred}

theorem sxc_sound (hT : TabOk P T) : ∀ (c : CC), okCode T c.code = true → ∀ {K : Ex → Env → Loc → Heap → Prop} {Q : Exit → Act → World → Prop} {env : Env} {L : Loc} {h : Heap} {β : Nat → Nat} {a : Act} {w : World},
    SRel ds h0 w0 β env L h a w → sxc A T (fun _ => P) c K env L h →
    PanOk T ds h0 w0 Q → (∀ e env' L' h' β' a' w', K e env' L' h' → SRel ds h0 w0 β' env' L' h' a' w' → Q (cvEx e) a' w') → c.code.wpIn (FW ro) n P Q a w := by
  intro c
  induction c with
  | leaf c => exact fun ho {K Q env L h β a w} hs hx hpo hK => sx_sound hT c ho hs hx hpo hK
  | seqp c d ih =>
    intro ho K Q env L h β a w hs hx hpo hK
    simp only [CC.code, okCode, Bool.and_eq_true] at ho
    unfold sxc at hx
    refine wpIn_seq (sx_sound hT c ho.1 hs hx (fun c β env L h a w q1 q2 => hpo c β env L h a w q1 q2) fun e env' L' h' β' a' w' h1 h2 => ?_)
    cases e with
    | normal => exact ih ho.2 h2 h1 hpo hK
    | exit id => exact hK (.exit id) _ _ _ _ _ _ h1 h2
    | ret => exact hK .ret _ _ _ _ _ _ h1 h2
  | seqc c d ih =>
    intro ho K Q env L h β a w hs hx hpo hK
    simp only [CC.code, okCode, Bool.and_eq_true] at ho
    unfold sxc at hx
    obtain ⟨I, hf, hr⟩ := hx.out
    refine wpIn_seq (sx_sound hT c ho.1 hs hf (fun c β env L h a w q1 q2 => hpo c β env L h a w q1 q2) fun e env' L' h' β' a' w' h1 h2 => ?_)
    cases e with
    | normal =>
      obtain ⟨env1, L1, hwk, hI⟩ := h1
      exact ih ho.2 (h2.wk hwk) (hr _ _ _ hI) hpo hK
    | exit id => exact hK (.exit id) _ _ _ _ _ _ h1 h2
    | ret => exact hK .ret _ _ _ _ _ _ h1 h2

theorem fn_of_sxc (A : Ar) [ArOk A] (l : List Bool) (hT : TabOk P T) {f : FuncId} {fn : Func} {c : Code} (hf : P.funcs[f]? = some fn) (hb : fn.body = some c) (ho : okCode T c = true) {args : List Value} {h : Heap} {R : Value → Heap → Prop}
    (hx : sxcFn A T (fun _ => P) (cuts l c) fn.ntmps fn.results.toList args h R) (hkp : ∀ c s h, ¬ T.kp c s h := by exact fun _ _ _ hc => hc) : FnX (fun _ => P) f args h R := by
  refine ⟨fun w hw => ?_⟩
  refine calls_of_wp hf hb (wpIn_wide (n := 0).1 ?_)
  have hs := srel_start (f := f) (fn := fn) (args := args) hw
  rw [← cuts_code l c]
  refine sxc_sound (A := A) (ro := none) (n := 0) hT (cuts l c) (by rw [cuts_code]; exact ho) hs hx (PanOk.none hkp) fun e env' L' h' β' a' w' h1 h2 => ?_
  have fin : resl T env' L' h' fn.results.toList (fun l => oneOr l (fun v => R v h')) → a'.defers = [] ∧ ∃ v, (results fn a'.tmps).run P w' = .ok v w' ∧ ∃ v1 h1, Ending.returned v = .returned v1 ∧ R v1 h1 ∧ After h w h1 w' := fun hr => by
    obtain ⟨v, h3, h4, h5⟩ := res_end hT h2 hr
    exact ⟨h2.defers, v, h3, v, h', rfl, h4, h5⟩
  cases e with
  | normal => exact fin h1
  | ret => exact fin h1
  | exit id => exact h1.elim
end Go.Sx

namespace Go.Sx

/-! Cuts anywhere: ahead of some regions the state is said anew. -/

def fstR : Code → Option Nat
  | .region id _ _ => some id
  | .seq a _ => fstR a
  | _ => none
def inl : List Nat → Nat → Bool
  | [], _ => false
  | x :: r, n => match Nat.beq x n with
    | true => true
    | false => inl r n
def isCut (cs : List Nat) (b : Code) : Bool := match fstR b with
  | some i => inl cs i
  | none => false

def sxr (A : Ar) (T : Tab) (p : Unit → Program) (cs : List Nat) : Code → (Ex → Env → Loc → Heap → Prop) → Env → Loc → Heap → Prop
  | .skip, K, env, L, h => K .normal env L h
  | .region id ops draw, K, env, L, h => match draw with
    | false => sxOps A T p ops.toList (fun env L h => K .normal env L h) ops.toList env L h
    | true => sxPlan A T p ops.toList (fun env L h => K .normal env L h) (T.plan id) env L h
  | .seq a b, K, env, L, h => match isCut cs b with
    | true => CutX (wr a) (fun K' => sxr A T p cs a K' env L h) (fun env L h => sxr A T p cs b K env L h) K env
    | false => sxr A T p cs a (fun e env L h => match e with
      | .normal => sxr A T p cs b K env L h
      | e => K e env L h) env L h
  | .cond c a b, K, env, L, h => match sev env c with
    | .v (.bool t) => bsel t (fun _ => sxr A T p cs a K env L h) (fun _ => sxr A T p cs b K env L h)
    | _ => False
  | .block id c, K, env, L, h => sxr A T p cs c (fun e env L h => match e with
    | .exit j => if j = id then K .normal env L h else K (.exit j) env L h
    | e => K e env L h) env L h
  | .loop c, K, env, L, h => LoopX (wr c) (fun K' env L h => sxr A T p cs c K' env L h) K env L h
  | .exit id, K, env, L, h => K (.exit id) env L h
  | .ret, K, env, L, h => K .ret env L h
  | .scope c, K, env, L, h => sxr A T p cs c K env L h
  | .label _, K, env, L, h => K .normal env L h
  | _, _, _, _, _ => False

def sxrFn (A : Ar) (T : Tab) (p : Unit → Program) (cs : List Nat) (c : Code) (ntmps : Nat) (rs : List ResultVar) (args : List Value) (h : Heap) (R : Value → Heap → Prop) : Prop :=
  sxr A T p cs c (fun e env L h => match e with
    | .exit _ => False
    | _ => resl T env L h rs (fun l => oneOr l (fun v => R v h))) (args.map SV.v ++ List.replicate (ntmps - args.length) (.v undef)) [] h

variable {ro : Option Nat} {n : Nat}
variable {P : Program} {T : Tab} {A : Ar} [ArOk A]
variable {h0 : Heap} {w0 : World} {β : Nat → Nat} {h : Heap} {a : Act} {w : World} {env : Env} {L : Loc} {ds : List Deferred}

theorem sxr_sound (hT : TabOk P T) (cs : List Nat) : ∀ (c : Code), okCode T c = true → ∀ {K : Ex → Env → Loc → Heap → Prop} {Q : Exit → Act → World → Prop} {env : Env} {L : Loc} {h : Heap} {β : Nat → Nat} {a : Act} {w : World},
    SRel ds h0 w0 β env L h a w → sxr A T (fun _ => P) cs c K env L h →
    PanOk T ds h0 w0 Q → (∀ e env' L' h' β' a' w', K e env' L' h' → SRel ds h0 w0 β' env' L' h' a' w' → Q (cvEx e) a' w') → c.wpIn (FW ro) n P Q a w := by
  intro c
  induction c with
  | skip => exact fun ho {K Q env L h β a w} hs hx hpo hK => sx_sound (A := A) hT .skip ho hs hx hpo hK
  | region id ops draw => exact fun ho {K Q env L h β a w} hs hx hpo hK => sx_sound (A := A) hT (.region id ops draw) ho hs hx hpo hK
  | seq c d ihc ihd =>
    intro ho K Q env L h β a w hs hx hpo hK
    simp only [okCode, Bool.and_eq_true] at ho
    unfold sxr at hx
    split at hx
    · obtain ⟨I, hf, hr⟩ := hx.out
      refine wpIn_seq (ihc ho.1 hs hf (fun c β env L h a w q1 q2 => hpo c β env L h a w q1 q2) fun e env' L' h' β' a' w' h1 h2 => ?_)
      cases e with
      | normal =>
        obtain ⟨env1, L1, hwk, hI⟩ := h1
        exact ihd ho.2 (h2.wk hwk) (hr _ _ _ hI) hpo hK
      | exit id => exact hK (.exit id) _ _ _ _ _ _ h1 h2
      | ret => exact hK .ret _ _ _ _ _ _ h1 h2
    · refine wpIn_seq (ihc ho.1 hs hx (fun c β env L h a w q1 q2 => hpo c β env L h a w q1 q2) fun e env' L' h' β' a' w' h1 h2 => ?_)
      cases e with
      | normal => exact ihd ho.2 h2 h1 hpo hK
      | exit id => exact hK (.exit id) _ _ _ _ _ _ h1 h2
      | ret => exact hK .ret _ _ _ _ _ _ h1 h2
  | cond x c d ihc ihd =>
    intro ho K Q env L h β a w hs hx hpo hK
    simp only [okCode, Bool.and_eq_true] at ho
    unfold sxr at hx
    split at hx
    · rename_i t ht
      refine wpIn_cond (hs.eval_v ht) ?_
      rcases bsel_cases hx with ⟨rfl, hx⟩ | ⟨rfl, hx⟩
      · exact ihc ho.1 hs hx hpo hK
      · exact ihd ho.2 hs hx hpo hK
    · exact hx.elim
  | block id c ih =>
    intro ho K Q env L h β a w hs hx hpo hK
    unfold sxr at hx
    refine wpIn_block (ih ho hs hx (fun c β env L h a w q1 q2 => hpo c β env L h a w q1 q2) fun e env' L' h' β' a' w' h1 h2 => ?_)
    cases e with
    | normal => exact hK .normal _ _ _ _ _ _ h1 h2
    | exit j =>
      simp only [cvEx, Exit.inBlock] at h1 ⊢
      split at h1
      · rename_i e; rw [if_pos e]; exact hK .normal _ _ _ _ _ _ h1 h2
      · rename_i e; rw [if_neg e]; exact hK (.exit j) _ _ _ _ _ _ h1 h2
    | ret => exact hK .ret _ _ _ _ _ _ h1 h2
  | loop c ih =>
    intro ho K Q env L h β a w hs hx hpo hK
    unfold sxr at hx
    obtain ⟨I, n, ⟨env1, L1, hwk, hI⟩, hround⟩ := hx.out
    refine wpIn_loop_ghost (fun n a w => ∃ env L h β, I n env L h ∧ SRel ds h0 w0 β env L h a w) n ⟨_, _, _, _, hI, hs.wk hwk⟩ fun n a w ⟨env, L, h, β, h1, h2⟩ => ?_
    refine ih ho h2 (hround n env L h h1) (fun c β env L h a w q1 q2 => hpo c β env L h a w q1 q2) fun e env' L' h' β' a' w' h3 h4 => ?_
    cases e with
    | normal =>
      obtain ⟨m, env1, L1, hm, hwk, h5⟩ := h3
      exact ⟨m, hm, _, _, _, _, h5, h4.wk hwk⟩
    | exit j => exact hK (.exit j) _ _ _ _ _ _ h3 h4
    | ret => exact hK .ret _ _ _ _ _ _ h3 h4
  | exit id => exact fun ho {K Q env L h β a w} hs hx hpo hK => sx_sound (A := A) hT (.exit id) ho hs hx hpo hK
  | ret => exact fun ho {K Q env L h β a w} hs hx hpo hK => sx_sound (A := A) hT .ret ho hs hx hpo hK
  | label i => exact fun ho {K Q env L h β a w} hs hx hpo hK => sx_sound (A := A) hT (.label i) ho hs hx hpo hK
  | scope c ih =>
    intro ho K Q env L h β a w hs hx hpo hK
    refine wpIn_scope (ih ho hs hx (fun c β env L h a w q1 q2 => hpo c β env L h a w q1 q2) fun e env' L' h' β' a' w' h1 h2 => ?_)
    cases e with
    | normal => exact hK .normal _ _ _ _ _ _ h1 h2
    | exit j => exact hK (.exit j) _ _ _ _ _ _ h1 h2
    | ret => exact hK .ret _ _ _ _ _ _ h1 h2
  | _ => intro ho K Q env L h β a w hs hx hpo hK; exact hx.elim

theorem fn_of_sxr (A : Ar) [ArOk A] (cs : List Nat) (hT : TabOk P T) {f : FuncId} {fn : Func} {c : Code} (hf : P.funcs[f]? = some fn) (hb : fn.body = some c) (ho : okCode T c = true) {args : List Value} {h : Heap} {R : Value → Heap → Prop}
    (hx : sxrFn A T (fun _ => P) cs c fn.ntmps fn.results.toList args h R) (hkp : ∀ c s h, ¬ T.kp c s h := by exact fun _ _ _ hc => hc) : FnX (fun _ => P) f args h R := by
  refine ⟨fun w hw => ?_⟩
  refine calls_of_wp hf hb (wpIn_wide (n := 0).1 ?_)
  have hs := srel_start (f := f) (fn := fn) (args := args) hw
  refine sxr_sound (A := A) (ro := none) (n := 0) hT cs c ho hs hx (PanOk.none hkp) fun e env' L' h' β' a' w' h1 h2 => ?_
  have fin : resl T env' L' h' fn.results.toList (fun l => oneOr l (fun v => R v h')) → a'.defers = [] ∧ ∃ v, (results fn a'.tmps).run P w' = .ok v w' ∧ ∃ v1 h1, Ending.returned v = .returned v1 ∧ R v1 h1 ∧ After h w h1 w' := fun hr => by
    obtain ⟨v, h3, h4, h5⟩ := res_end hT h2 hr
    exact ⟨h2.defers, v, h3, v, h', rfl, h4, h5⟩
  cases e with
  | normal => exact fin h1
  | ret => exact fin h1
  | exit id => exact h1.elim
end Go.Sx

