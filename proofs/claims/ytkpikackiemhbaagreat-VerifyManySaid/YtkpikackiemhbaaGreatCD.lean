import Derived.Test.YtkpikackiemhbaaGreatCC
import Derived.Test.YtkpikackiemhbaaGreatSC
set_option linter.all false
set_option maxRecDepth 1000000
set_option maxHeartbeats 8000000
namespace Go.Cx
open Go.Sx

/-- What a seat brings along. -/
structure SS where
  oth : Oth
  oh : OtH
  ext : ExtF
  ty : Nat → Ti
  fn : Nat → Bool
/-- A function's table, with what is asked of a panic. -/
abbrev SS.tab (S : SS) (plan : Nat → Plan) (pub : Nat → Bool) (rs : List Nat) (kp : List PanicEntry → List SV → Heap → Prop) : Tab := ⟨S.ty, S.fn, plan, pub, fun _ => true, rs, kp⟩

section
variable {A : Ar} [hA : ArOk A] {T : Tab} {P : Program} {nt : Nat} {ρ : Rn} {e : E} {l : LocE} {H : HP} {env : Sx.Env} {L : Sx.Loc} {h : Heap} {n : P5}

/-- What is asked of a seat's own operations. -/
structure SOk (A : Ar) (P : Program) (S : SS) : Prop where
  oth : ∀ plan pub rs kp nt, OthOk A (S.tab plan pub rs kp) (fun _ => P) nt S.oth
  oh : ∀ plan pub rs kp nt, OtHOk A (S.tab plan pub rs kp) P nt S.oh
  ext : ExtFOk P S.ext

def lightE (ty : Nat → Ti) (pub : Nat → Bool) (o : Oper) : Bool := isLight ⟨ty, fun _ => false, fun _ => .done, pub, fun _ => false, [], fun _ _ _ => False⟩ o
theorem lightE_eq (T : Tab) (o : Oper) : lightE T.ty T.pub o = isLight T o := by
  unfold lightE isLight
  rfl

noncomputable def opB (S : SS) (nt : Nat) (pub : Nat → Bool) (all : List Oper) (o : Oper) : StB := stGd nt all o (match lightE S.ty pub o with
  | true => stLi S.oth nt S.ty o
  | false => stHeavy (hvV S.ext S.oh nt S.ty S.fn o) (pB nt o.dst)) (stSkip (pB nt o.dst))
/-- A light operation and what comes behind it, in one. -/
noncomputable def seqL (x : LV) (q : PB) (r : StB) : StB := ⟨fun d e l H n k => x.run e l H fun v => q.run e v fun e => r.run d e l H n k⟩
theorem seqL_eq (x : LV) (q : PB) (r : StB) : seqL x q r = stSeq (stLight x q) r := rfl
noncomputable def isLoc (o : Oper) : Bool := match o.op with
  | .alloc _ | .box _ _ => true
  | _ => false
/-- An operation, then the others. -/
noncomputable def opThen (S : SS) (nt : Nat) (pub : Nat → Bool) (all : List Oper) (o : Oper) (r : StB) : StB := match o.guard, lightE S.ty pub o, isLoc o with
  | none, true, false => seqL (liV S.oth nt S.ty o) (pB nt o.dst) r
  | _, _, _ => stSeq (opB S nt pub all o) r
theorem opThen_eq (S : SS) (nt : Nat) (pub : Nat → Bool) (all : List Oper) (o : Oper) (r : StB) : opThen S nt pub all o r = stSeq (opB S nt pub all o) r := by
  unfold opThen
  split
  · rename_i h1 h2 h3
    rw [seqL_eq]
    have e : opB S nt pub all o = stLight (liV S.oth nt S.ty o) (pB nt o.dst) := by
      unfold opB stGd
      rw [h1, h2]
      simp only
      unfold stLi
      unfold isLoc at h3
      split at h3
      · cases h3
      · cases h3
      · rename_i ha hb
        split
        · rename_i t d ho hd; exact absurd ho (ha t)
        · rename_i t x d ho hd; exact absurd ho (hb t x)
        · rfl
    rw [e]
  · rfl
noncomputable def nilB : StB := ⟨fun _ e l H n k => k e l H n⟩
noncomputable def opsB (S : SS) (nt : Nat) (pub : Nat → Bool) (all : List Oper) (os : List Oper) : StB := @List.rec Oper (fun _ => StB) nilB (fun o _ ih => opThen S nt pub all o ih) os
theorem opB_ok {S : SS} (hS : SOk A P S) {plan : Nat → Plan} {pub : Nat → Bool} {rs : List Nat} {kp : List PanicEntry → List SV → Heap → Prop} {all : List Oper} {o : Oper} : StOk (S.tab plan pub rs kp) P nt (opB S nt pub all o) fun K env L h => gd all env o
      (fun _ => match isLight (S.tab plan pub rs kp) o with
        | true => lightx A (S.tab plan pub rs kp) (fun _ => P) o (sev env) L h (fun x nb => K (put env o.dst x) (addL L o.dst nb) h)
        | false => hx A (S.tab plan pub rs kp) (fun _ => P) o (sev env) L h (fun x L' h' => K (put env o.dst x) L' h'))
      (fun _ => K (put env o.dst (.v undef)) L h) := by
  unfold opB
  rw [show lightE S.ty pub o = isLight (S.tab plan pub rs kp) o from lightE_eq (S.tab plan pub rs kp) o]
  cases hl : isLight (S.tab plan pub rs kp) o with
  | true => exact stGd_ok (stLi_ok (hS.oth plan pub rs kp nt) o) stSkip_ok
  | false => exact stGd_ok (stHeavy_ok (hvV_sound (fun _ => rfl) hS.ext (hS.oh plan pub rs kp nt) o)) stSkip_ok
theorem opsB_ok {S : SS} (hS : SOk A P S) {plan : Nat → Plan} {pub : Nat → Bool} {rs : List Nat} {kp : List PanicEntry → List SV → Heap → Prop} {all : List Oper} (os : List Oper) : StOk (S.tab plan pub rs kp) P nt (opsB S nt pub all os) fun K env L h => sxOps A (S.tab plan pub rs kp) (fun _ => P) all K os env L h := by
  induction os with
  | nil =>
    intro ρ d e l H n env L h k K hd s hk hK
    exact hK ρ e l H n env L h (.refl ρ) s hk
  | cons o r ih =>
    intro ρ d e l H n env L h k K hd s hk hK
    have hk : (opThen S nt pub all o (opsB S nt pub all r)).run d e l H n k = true := hk
    rw [opThen_eq] at hk
    exact stSeq_ok (opB_ok hS) ih hd s hk hK

noncomputable def liThen (S : SS) (nt : Nat) (all : List Oper) (o : Oper) (r : StB) : StB := match o.guard, isLoc o with
  | none, false => seqL (liV S.oth nt S.ty o) (pB nt o.dst) r
  | _, _ => stSeq (stGd nt all o (stLi S.oth nt S.ty o) (stSkip (pB nt o.dst))) r
theorem liThen_eq (S : SS) (nt : Nat) (all : List Oper) (o : Oper) (r : StB) : liThen S nt all o r = stSeq (stGd nt all o (stLi S.oth nt S.ty o) (stSkip (pB nt o.dst))) r := by
  unfold liThen
  split
  · rename_i h1 h3
    rw [seqL_eq]
    have e : stGd nt all o (stLi S.oth nt S.ty o) (stSkip (pB nt o.dst)) = stLight (liV S.oth nt S.ty o) (pB nt o.dst) := by
      unfold stGd
      rw [h1]
      simp only
      unfold stLi
      unfold isLoc at h3
      split at h3
      · cases h3
      · cases h3
      · rename_i ha hb
        split
        · rename_i t d ho hd; exact absurd ho (ha t)
        · rename_i t x d ho hd; exact absurd ho (hb t x)
        · rfl
    rw [e]
  · rfl
noncomputable def stHeavyP (x : HV) (q : PB) (c : ChB) : StB := ⟨fun d e l H n k => x.run d e l H n fun v l H n => q.run e v fun e => c.run e l H (k e l H n)⟩
noncomputable def bothB (a b : StB) : StB := ⟨fun d e l H n k => chk (a.run d e l H n k) (b.run d e l H n k)⟩
/-! Two fresh blocks in either order. -/
def nlEq : List Nat → List Nat → Bool
  | [], [] => true
  | a :: r, b :: q => match Nat.beq a b with
    | true => nlEq r q
    | false => false
  | _, _ => false
theorem nlEq_eq : ∀ {a b : List Nat}, nlEq a b = true → a = b
  | [], [], _ => rfl
  | a :: r, b :: q, h => by
    unfold nlEq at h
    split at h
    · rename_i hb; rw [Nat.eq_of_beq_eq_true hb, nlEq_eq h]
    · cases h
  | [], _ :: _, h => by cases h
  | _ :: _, [], h => by cases h
def planEq : Plan → Plan → Bool
  | .done, .done => true
  | .light i r, .light j q => match Nat.beq i j with
    | true => planEq r q
    | false => false
  | .heavy i ps r, .heavy j qs q => match Nat.beq i j, nlEq ps qs with
    | true, true => planEq r q
    | _, _ => false
  | .fork a b, .fork c d => match planEq a c with
    | true => planEq b d
    | false => false
  | _, _ => false
theorem planEq_eq : ∀ {a b : Plan}, planEq a b = true → a = b := by
  intro a
  induction a with
  | done => intro b h; cases b <;> first | rfl | (cases h; done)
  | light i r ih =>
    intro b h
    cases b <;> first | (cases h; done) | skip
    unfold planEq at h
    split at h
    · rename_i hb; rw [Nat.eq_of_beq_eq_true hb, ih h]
    · cases h
  | heavy i ps r ih =>
    intro b h
    cases b <;> first | (cases h; done) | skip
    unfold planEq at h
    split at h
    · rename_i hb hq; rw [Nat.eq_of_beq_eq_true hb, nlEq_eq hq, ih h]
    · cases h
  | fork a c iha ihc =>
    intro b h
    cases b <;> first | (cases h; done) | skip
    unfold planEq at h
    split at h
    · rename_i hb; rw [iha hb, ihc h]
    · cases h
def opFree (d : Nat) : Operand → Bool
  | .tmp t => !(Nat.beq t d)
  | _ => true
theorem opFree_sev {d : Nat} {x : Operand} (h : opFree d x = true) (env : Sx.Env) (v : SV) : sev (put env (some d) v) x = sev env x := by
  cases x with
  | tmp t =>
    have hne : t ≠ d := fun e => by
      subst e
      have h : (!Nat.beq t t) = true := h
      rw [Nat.beq_refl] at h; cases h
    simp only [sev, put, List.getD_eq_getElem?_getD]
    rw [List.getElem?_set_ne (Ne.symm hne)]
  | _ => rfl
/-- A new slice, made for sure. -/
structure Mk (o : Oper) (t : Nat) (x y : Operand) (d : Nat) : Prop where
  g : o.guard = none
  op : o.op = .makeSlice t x y
  dst : o.dst = some d
def mkOf (o : Oper) : Option (Nat × Operand × Operand × Nat) := match o.guard, o.op, o.dst with
  | none, .makeSlice t x y, some d => some (t, x, y, d)
  | _, _, _ => none
theorem mkOf_eq {o : Oper} {t : Nat} {x y : Operand} {d : Nat} (h : mkOf o = some (t, x, y, d)) : Mk o t x y d := by
  unfold mkOf at h
  split at h
  · rename_i h1 h2 h3
    cases h
    exact ⟨h1, h2, h3⟩
  · cases h
def swapOk (all : List Oper) (a b : Plan) : Bool := match a, b with
  | .heavy i [] (.heavy j [] r), .heavy j' [] (.heavy i' [] q) => match Nat.beq i i', Nat.beq j j', planEq r q, all[i]?, all[j]? with
    | true, true, true, some oi, some oj => match mkOf oi, mkOf oj with
      | some (_, x, y, d), some (_, u, v, c) => match Nat.beq c d, opFree c x, opFree c y, opFree d u, opFree d v with
        | false, true, true, true, true => true
        | _, _, _, _, _ => false
      | _, _ => false
    | _, _, _, _, _ => false
  | _, _ => false
theorem swapOk_inv {all : List Oper} {a b : Plan} (h : swapOk all a b = true) : ∃ i j r oi oj ti x y d tj u v c, a = .heavy i [] (.heavy j [] r) ∧ b = .heavy j [] (.heavy i [] r) ∧ all[i]? = some oi ∧ all[j]? = some oj ∧ Mk oi ti x y d ∧ Mk oj tj u v c ∧ c ≠ d ∧ opFree c x = true ∧ opFree c y = true ∧ opFree d u = true ∧ opFree d v = true := by
  unfold swapOk at h
  split at h
  · rename_i i j r j' i' q
    split at h
    · rename_i oi oj h1 h2 h3 h4 h5
      split at h
      · rename_i ti x y d tj u v c h6 h7
        split at h
        · rename_i g1 g2 g3 g4 g5
          obtain rfl := Nat.eq_of_beq_eq_true h1
          obtain rfl := Nat.eq_of_beq_eq_true h2
          obtain rfl := planEq_eq h3
          exact ⟨i, j, r, oi, oj, ti, x, y, d, tj, u, v, c, rfl, rfl, h4, h5, mkOf_eq h6, mkOf_eq h7, (fun e => by rw [e, Nat.beq_refl] at g1; cases g1), g2, g3, g4, g5⟩
        · cases h
      · cases h
    · cases h
  · cases h

theorem HRel.congr {H' : HP} (g : HRel ρ H h) (hh : ∀ p, lkH H' p = lkH H p) : HRel ρ H' h :=
  ⟨fun p hp => g.dom p (by rw [← hh]; exact hp), fun p q r s h1 h2 => g.inj p q r s (by rw [← hh]; exact h1) (by rw [← hh]; exact h2), fun p => by rw [hh]; exact g.blk p, fun p r l e h1 h2 h3 => g.box p r l e h1 h2 (by rw [← hh]; exact h3)⟩
theorem RSt.congr {e' : E} {H' : HP} (s : RSt nt ρ e l H env L h) (he : ∀ t, t < 256 → getE t e' = getE t e) (hh : ∀ p, lkH H' p = lkH H p) : RSt nt ρ e' l H' env L h :=
  ⟨s.lim, s.len, fun t y ht hy => by rw [he t ht]; exact s.env t y ht hy, s.loc, s.sub, s.heap.congr hh⟩

def HD : HP := ⟨d, d, d, d, d, d, d, d⟩
where
  a : N8 CO := ⟨.dead, .dead, .dead, .dead, .dead, .dead, .dead, .dead⟩
  b : N8 (N8 CO) := ⟨a, a, a, a, a, a, a, a⟩
  c : N8 (N8 (N8 CO)) := ⟨b, b, b, b, b, b, b, b⟩
  d : N8 (N8 (N8 (N8 CO))) := ⟨c, c, c, c, c, c, c, c⟩
theorem lkH_HD (p : P5) : lkH HD p = .dead := by
  have h1 : ∀ x, N8.sel x HD = HD.d := fun x => by cases x <;> rfl
  have h2 : ∀ x, N8.sel x HD.d = HD.c := fun x => by cases x <;> rfl
  have h3 : ∀ x, N8.sel x HD.c = HD.b := fun x => by cases x <;> rfl
  have h4 : ∀ x, N8.sel x HD.b = HD.a := fun x => by cases x <;> rfl
  have h5 : ∀ x, N8.sel x HD.a = .dead := fun x => by cases x <;> rfl
  unfold lkH
  rw [h1, h2, h3, h4, h5]
theorem HRel.dead (ρ : Rn) (h : Heap) : HRel ρ HD h :=
  ⟨fun p hp => (by rw [lkH_HD] at hp; cases hp), fun p _ _ _ hp => (by rw [lkH_HD] at hp; cases hp), fun p => (by rw [lkH_HD]; trivial), fun p r l e _ _ hp => (by rw [lkH_HD] at hp; cases hp)⟩
/-- What a new slice asks, and what comes of it. -/
structure MkR (ty : Nat → Ti) (env : Sx.Env) (t : Nat) (x y : Operand) (el i c : Nat) : Prop where
  kd : (ty t).kd = .slc el
  hn : (ty el).kd.isNone = false
  hz : ((ty el).zero.length == (ty el).size) = true
  hx : ∃ k, sev env x = .v (.int k i)
  hy : ∃ k, sev env y = .v (.int k c)
  le : i ≤ c
  c1 : c ≤ 281474976710656
  c2 : (ty el).bytes * c ≤ 281474976710656
theorem makeS_inv {ty : Nat → Ti} {t : Nat} {x y : Operand} {d : D} {k : CV → LocE → HP → P5 → Bool} {H' : HP} (s : RSt nt ρ e l H' env L h) (hk : (hvMakeS ty t (opG nt x) (opG nt y)).run d e l H n k = true) :
    ∃ el i c, MkR ty env t x y el i c ∧ lkH H n = .none ∧ ∃ n', k (.slc n 0 i c) l (stH H n (.cells (List.replicate c ((ty el).zero.map ofV1)).flatten el)) n' = true := by
  unfold hvMakeS at hk
  split at hk
  · rename_i el hkd
    split at hk
    · exact (Bool.false_ne_true hk).elim
    · rename_i hn
      split at hk
      · rename_i hz
        obtain ⟨k1, i, h1, h2⟩ := (s.op x).ix (show asIx _ _ = true from hk)
        obtain ⟨k2, c, h3, h4⟩ := (s.op y).ix h2
        obtain ⟨h5, h6⟩ := chk_inv h4
        obtain ⟨h7, h8⟩ := chk_inv h6
        obtain ⟨h9, h10⟩ := chk_inv h8
        rw [repK_eq] at h10
        obtain ⟨b1, b2⟩ := hnew_inv h10
        obtain ⟨n', b3⟩ := nextP_inv b2
        exact ⟨el, i, c, ⟨hkd, hn, hz, ⟨k1, h1⟩, ⟨k2, h3⟩, by simpa using h5, by simpa using h7, by simpa using h9⟩, b1, n', b3⟩
      · exact (Bool.false_ne_true hk).elim
  · exact (Bool.false_ne_true hk).elim
theorem MkR.hx' {t : Nat} {x y : Operand} {el i c : Nat} (m : MkR T.ty env t x y el i c) {o : Oper} (ho : o.op = .makeSlice t x y) {K : SV → Sx.Loc → Heap → Prop}
    (hK : ∀ nb, h nb = none → K (.v (.slice (some ⟨nb, 0, none⟩) i c)) L (hset h nb (.cells (zeros c (T.ty el).zero).toArray el (0, 0)))) : Sx.hx A T (fun _ => P) o (sev env) L h K := by
  obtain ⟨k1, h1⟩ := m.hx
  obtain ⟨k2, h3⟩ := m.hy
  have h5 := m.le
  have h7 := m.c1
  have h9 := m.c2
  unfold Sx.hx
  rw [ho]
  simp only [m.kd, m.hn, h1, h3, m.hz]
  refine ⟨⟨by omega, by omega⟩, ⟨by omega, ?_⟩, fun nb h' hb he => ?_⟩
  · have : (((T.ty el).bytes * c : Nat) : Int) ≤ 281474976710656 := by omega
    simpa using this
  · subst he
    simp only [Int.toNat_natCast]
    exact hK nb hb
theorem RSt.slc (s : RSt nt ρ e l H env L h) (hn : lkH H n = .none) {z : List Value} {c i el nb : Nat} (hb : h nb = none) (hi : i ≤ c) {d : Nat} (hd : d < nt) :
    ∃ ρ', Ext ρ ρ' ∧ RSt nt ρ' (setE d e (.slc n 0 i c)) l (stH H n (.cells (List.replicate c (z.map ofV1)).flatten el)) (put env (some d) (.v (.slice (some ⟨nb, 0, none⟩) i c))) L (hset h nb (.cells (zeros c z).toArray el (0, 0))) := by
  obtain ⟨b4, b5⟩ := s.new hn (map_rep z c) (rest := []) (t := el) hb (.inr rfl)
  rw [List.append_nil] at b4 b5
  exact ⟨_, b4, b5.putv hd (.of ⟨_, ins_self, rfl, hi⟩)⟩
theorem pB_inv {d : Nat} {v : CV} {k : E → Bool} (hk : (pB nt (some d)).run e v k = true) : d < nt ∧ k (setE d e v) = true := by
  by_cases ht : d < nt
  · rw [pB_eq ht, putE_eq] at hk
    exact ⟨ht, hk⟩
  · unfold pB at hk
    simp only [if_neg ht] at hk
    exact (Bool.false_ne_true hk).elim

noncomputable def planB (S : SS) (nt : Nat) (pub : Nat → Bool) (all : List Oper) (p : Plan) : StB := @Plan.rec (fun _ => StB) nilB
  (fun i _ ih => match all[i]? with
    | some o => liThen S nt all o ih
    | none => .fail)
  (fun i ps _ ih => match all[i]? with
    | some o => stSeq (stGd nt all o (stHeavyP (hvV S.ext S.oh nt S.ty S.fn o) (pB nt o.dst) (pinsB nt S.ty (isStore o) all ps)) (stSkip (pB nt o.dst))) ih
    | none => .fail)
  (fun a b x y => match swapOk all a b with
    | true => x
    | false => bothB x y) p
/-- The run of a new slice. -/
theorem planB_mk {S : SS} {pub : Nat → Bool} {all : List Oper} {i : Nat} {r : Plan} {o : Oper} {t : Nat} {x y : Operand} {c : Nat} (hi : all[i]? = some o) (m : Mk o t x y c) {d : D} {k : E → LocE → HP → P5 → Bool} {H' : HP} (s : RSt nt ρ e l H' env L h) (hk : (planB S nt pub all (.heavy i [] r)).run d e l H n k = true) :
    ∃ el i c' n', MkR S.ty env t x y el i c' ∧ lkH H n = .none ∧ c < nt ∧ (planB S nt pub all r).run d (setE c e (.slc n 0 i c')) l (stH H n (.cells (List.replicate c' ((S.ty el).zero.map ofV1)).flatten el)) n' k = true := by
  have hk : (match all[i]? with
    | some o => stSeq (stGd nt all o (stHeavyP (hvV S.ext S.oh nt S.ty S.fn o) (pB nt o.dst) (pinsB nt S.ty (isStore o) all [])) (stSkip (pB nt o.dst))) (planB S nt pub all r)
    | none => .fail).run d e l H n k = true := hk
  rw [hi] at hk
  dsimp only at hk
  have hk : (stGd nt all o (stHeavyP (hvV S.ext S.oh nt S.ty S.fn o) (pB nt o.dst) (pinsB nt S.ty (isStore o) all [])) (stSkip (pB nt o.dst))).run d e l H n (fun e l H n => (planB S nt pub all r).run d e l H n k) = true := hk
  unfold stGd at hk
  rw [m.g, m.dst] at hk
  have hk : (hvV S.ext S.oh nt S.ty S.fn o).run d e l H n (fun v l H n => (pB nt (some c)).run e v fun e => (planB S nt pub all r).run d e l H n k) = true := hk
  have hv : hvV S.ext S.oh nt S.ty S.fn o = hvMakeS S.ty t (opG nt x) (opG nt y) := by unfold hvV; rw [m.op]
  rw [hv] at hk
  obtain ⟨el, i', c', h1, h2, n', h3⟩ := makeS_inv s hk
  obtain ⟨h4, h5⟩ := pB_inv h3
  exact ⟨el, i', c', n', h1, h2, h4, h5⟩
theorem sxPlan_mk {plan : Nat → Plan} {S : SS} {pub : Nat → Bool} {rs : List Nat} {kp : List PanicEntry → List SV → Heap → Prop} {all : List Oper} {i : Nat} {r : Plan} {o : Oper} {t : Nat} {x y : Operand} {c : Nat} (hi : all[i]? = some o) (m : Mk o t x y c) {K : Sx.Env → Sx.Loc → Heap → Prop} {el ii cc : Nat} (q : MkR S.ty env t x y el ii cc)
    (hK : ∀ nb, h nb = none → sxPlan A (S.tab plan pub rs kp) (fun _ => P) all K r (put env (some c) (.v (.slice (some ⟨nb, 0, none⟩) ii cc))) L (hset h nb (.cells (zeros cc (S.ty el).zero).toArray el (0, 0)))) : sxPlan A (S.tab plan pub rs kp) (fun _ => P) all K (.heavy i [] r) env L h := by
  unfold sxPlan
  rw [hi]
  dsimp only
  unfold gd
  rw [m.g]
  dsimp only
  rw [m.dst]
  refine MkR.hx' (T := S.tab plan pub rs kp) q m.op fun nb hb => ?_
  unfold pins
  exact hK nb hb
theorem MkR.free {ty : Nat → Ti} {t : Nat} {x y : Operand} {el i c : Nat} {d : Nat} {v : SV} (m : MkR ty (put env (some d) v) t x y el i c) (h1 : opFree d x = true) (h2 : opFree d y = true) : MkR ty env t x y el i c := by
  obtain ⟨a1, a2, a3, a4, a5, a6, a7, a8⟩ := m
  rw [opFree_sev h1] at a4
  rw [opFree_sev h2] at a5
  exact ⟨a1, a2, a3, a4, a5, a6, a7, a8⟩
theorem MkR.free' {ty : Nat → Ti} {t : Nat} {x y : Operand} {el i c : Nat} {d : Nat} {v : SV} (m : MkR ty env t x y el i c) (h1 : opFree d x = true) (h2 : opFree d y = true) : MkR ty (put env (some d) v) t x y el i c := by
  obtain ⟨a1, a2, a3, a4, a5, a6, a7, a8⟩ := m
  exact ⟨a1, a2, a3, by rw [opFree_sev h1]; exact a4, by rw [opFree_sev h2]; exact a5, a6, a7, a8⟩

def psz : Plan → Nat
  | .done => 1
  | .light _ r => psz r + 1
  | .heavy _ _ r => psz r + 1
  | .fork a b => psz a + psz b + 1
theorem planB_ok {S : SS} (hS : SOk A P S) {plan : Nat → Plan} {pub : Nat → Bool} {rs : List Nat} {kp : List PanicEntry → List SV → Heap → Prop} {all : List Oper} : ∀ (m : Nat) (p : Plan), psz p < m → StOk (S.tab plan pub rs kp) P nt (planB S nt pub all p) fun K env L h => sxPlan A (S.tab plan pub rs kp) (fun _ => P) all K p env L h := by
  intro m
  induction m with
  | zero => intro p hp; omega
  | succ m IH =>
  intro p hp
  cases p with
  | done =>
    intro ρ d e l H n env L h k K hd s hk hK
    exact hK ρ e l H n env L h (.refl ρ) s hk
  | light i r =>
    have ih := @IH r (by simp only [psz] at hp; omega)
    intro ρ d e l H n env L h k K hd s hk hK
    have hk : (match all[i]? with
      | some o => liThen S nt all o (planB S nt pub all r)
      | none => .fail).run d e l H n k = true := hk
    simp only [liThen_eq] at hk
    unfold sxPlan
    cases ha : all[i]? with
    | none => rw [ha] at hk; exact (Bool.false_ne_true hk).elim
    | some o =>
      rw [ha] at hk
      dsimp only at hk ⊢
      exact stSeq_ok (stGd_ok (stLi_ok (T := S.tab plan pub rs kp) (hS.oth plan pub rs kp nt) o) stSkip_ok) ih hd s hk hK
  | heavy i ps r =>
    have ih := @IH r (by simp only [psz] at hp; omega)
    intro ρ d e l H n env L h k K hd s hk hK
    have hk : (match all[i]? with
      | some o => stSeq (stGd nt all o (stHeavyP (hvV S.ext S.oh nt S.ty S.fn o) (pB nt o.dst) (pinsB nt S.ty (isStore o) all ps)) (stSkip (pB nt o.dst))) (planB S nt pub all r)
      | none => .fail).run d e l H n k = true := hk
    unfold sxPlan
    cases ha : all[i]? with
    | none => rw [ha] at hk; exact (Bool.false_ne_true hk).elim
    | some o =>
      rw [ha] at hk
      dsimp only at hk ⊢
      have h1 : StOk (S.tab plan pub rs kp) P nt (stHeavyP (hvV S.ext S.oh nt S.ty S.fn o) (pB nt o.dst) (pinsB nt S.ty (isStore o) all ps)) fun K env L h => hx A (S.tab plan pub rs kp) (fun _ => P) o (sev env) L h (fun x L' h' => pins (S.tab plan pub rs kp) (isStore o) all h' L' (put env o.dst x) ps (fun _ => K (put env o.dst x) L' h')) := by
        intro ρ d e l H n env L h k K hd s hk hK
        refine hvV_sound (T := S.tab plan pub rs kp) (fun _ => rfl) hS.ext (hS.oh plan pub rs kp nt) o hd s hk fun ρ' v y l' L' H' h' n' hext hv s' hq => ?_
        obtain ⟨e', h1, h2⟩ := put_sound s' hv hq
        exact pins_sound (T := S.tab plan pub rs kp) h2 (fun h3 => hK ρ' e' l' H' n' _ _ _ hext h2 h3) h1
      exact stSeq_ok (stGd_ok h1 stSkip_ok) ih hd s hk hK
  | fork a b =>
    have iha := @IH a (by simp only [psz] at hp; omega)
    have ihb := @IH b (by simp only [psz] at hp; omega)
    intro ρ d e l H n env L h k K hd s hk hK
    have hk : (match swapOk all a b with
      | true => planB S nt pub all a
      | false => bothB (planB S nt pub all a) (planB S nt pub all b)).run d e l H n k = true := hk
    cases hsw : swapOk all a b with
    | false =>
      rw [hsw] at hk
      obtain ⟨h1, h2⟩ := chk_inv (show chk ((planB S nt pub all a).run d e l H n k) ((planB S nt pub all b).run d e l H n k) = true from hk)
      exact ⟨iha hd s h1 hK, ihb hd s h2 hK⟩
    | true =>
      rw [hsw] at hk
      have hk : (planB S nt pub all a).run d e l H n k = true := hk
      refine ⟨iha hd s hk hK, ?_⟩
      obtain ⟨i, j, r, oi, oj, ti, x, y, di, tj, u, v, dj, rfl, rfl, hi, hj, mi, mj, hne, f1, f2, f3, f4⟩ := swapOk_inv hsw
      have ihr := @IH r (by simp only [psz] at hp; omega)
      obtain ⟨eli, ii, ci, n1, q1, q2, q3, q4⟩ := planB_mk hi mi s hk
      -- the second's operands
      obtain ⟨elj, ij, cj, n2, w1, w2, w3, w4⟩ : ∃ elj ij cj n2, MkR S.ty env tj u v elj ij cj ∧ lkH (stH H n (.cells (List.replicate ci ((S.ty eli).zero.map ofV1)).flatten eli)) n1 = .none ∧ dj < nt ∧ (planB S nt pub all r).run d (setE dj (setE di e (.slc n 0 ii ci)) (.slc n1 0 ij cj)) l (stH (stH H n (.cells (List.replicate ci ((S.ty eli).zero.map ofV1)).flatten eli)) n1 (.cells (List.replicate cj ((S.ty elj).zero.map ofV1)).flatten elj)) n2 k = true := by
        have hx : Ext ρ (ins ρ n ⟨0, 0, 0⟩) := ins_ext (s.heap.dom n q2)
        have g2 : RSt nt (ins ρ n ⟨0, 0, 0⟩) (setE di e (.slc n 0 ii ci)) l HD (put env (some di) (.v (.slice (some ⟨0, 0, none⟩) ii ci))) L h := (s.ext hx (HRel.dead _ h)).putv q3 (.of ⟨_, ins_self, rfl, q1.le⟩)
        obtain ⟨elj, ij, cj, n2, w1, w2, w3, w4⟩ := planB_mk hj mj g2 q4
        exact ⟨elj, ij, cj, n2, w1.free f3 f4, w2, w3, w4⟩
      refine sxPlan_mk hj mj w1 fun nb hb => ?_
      have hnn : n ≠ n1 := fun e => by subst e; rw [lkH_stH, if_pos rfl] at w2; cases w2
      have hn1 : lkH H n1 = .none := by rw [lkH_stH, if_neg hnn] at w2; exact w2
      obtain ⟨ρ1, g1, g2⟩ := s.slc hn1 (z := (S.ty elj).zero) (el := elj) hb w1.le w3
      refine sxPlan_mk hi mi (q1.free' f1 f2) fun nc hc => ?_
      have hn0 : lkH (stH H n1 (.cells (List.replicate cj ((S.ty elj).zero.map ofV1)).flatten elj)) n = .none := by rw [lkH_stH, if_neg (Ne.symm hnn)]; exact q2
      obtain ⟨ρ2, g3, g4⟩ := g2.slc hn0 (z := (S.ty eli).zero) (el := eli) hc q1.le q3
      have lim := s.lim
      have g5 := g4.congr (e' := setE dj (setE di e (.slc n 0 ii ci)) (.slc n1 0 ij cj)) (H' := stH (stH H n (.cells (List.replicate ci ((S.ty eli).zero.map ofV1)).flatten eli)) n1 (.cells (List.replicate cj ((S.ty elj).zero.map ofV1)).flatten elj)) (fun t ht => by
        rw [getE_setE (by omega) ht, getE_setE (by omega) ht, getE_setE (by omega) ht, getE_setE (by omega) ht]
        by_cases e1 : dj = t
        · rw [if_pos e1, if_pos e1, if_neg (fun e2 => hne (e1.trans e2.symm))]
        · rw [if_neg e1, if_neg e1]) (fun p => by
        rw [lkH_stH, lkH_stH, lkH_stH, lkH_stH]
        by_cases e1 : n1 = p
        · rw [if_pos e1, if_pos e1, if_neg (fun e2 => hnn (e2.trans e1.symm))]
        · rw [if_neg e1, if_neg e1])
      exact ihr (hd.mono (g1.trans g3)) g5 w4 fun ρ' e' l' H' n' env' L' h' hx s' hk' => hK ρ' e' l' H' n' env' L' h' ((g1.trans g3).trans hx) s' hk'

/-! Code. -/
structure CdB where
  run : D → E → LocE → HP → P5 → (Ex → E → LocE → HP → P5 → Bool) → Bool
noncomputable def CdB.fail : CdB := ⟨fun _ _ _ _ _ _ => false⟩
noncomputable def exK (x : Ex) (a : Bool) (b : Nat → Bool) (c : Bool) : Bool := @Ex.rec (fun _ => Bool) a b c x
noncomputable def cdOf (x : StB) : CdB := ⟨fun d e l H n k => x.run d e l H n fun e l H n => k .normal e l H n⟩
noncomputable def cdSeq (a b : CdB) : CdB := ⟨fun d e l H n k => a.run d e l H n fun x e l H n => exK x (b.run d e l H n k) (fun i => k (.exit i) e l H n) (k .ret e l H n)⟩
noncomputable def cdCond (g : GB) (a b : CdB) : CdB := ⟨fun d e l H n k => as_bool (g.run e) fun t => ite' t (a.run d e l H n k) (b.run d e l H n k)⟩
noncomputable def cdBlock (id : Nat) (a : CdB) : CdB := ⟨fun d e l H n k => a.run d e l H n fun x e l H n => exK x (k .normal e l H n) (fun i => ite' (Nat.beq i id) (k .normal e l H n) (k (.exit i) e l H n)) (k .ret e l H n)⟩
/-! Boxes of the function's own that are made within a loop: they go at its head. -/
noncomputable def memK (ks : List Nat) (s : Nat) (yes no : Bool) : Bool := @List.rec Nat (fun _ => Bool) no (fun t _ ih => ite' (Nat.beq t s) yes ih) ks
theorem memK_inv {yes no : Bool} {s : Nat} : ∀ {ks : List Nat}, memK ks s yes no = true → (s ∈ ks ∧ yes = true) ∨ (s ∉ ks ∧ no = true)
  | [], h => .inr ⟨by simp, h⟩
  | t :: r, h => by
    rcases ite'_inv (show ite' (Nat.beq t s) yes (memK r s yes no) = true from h) with ⟨h1, h2⟩ | ⟨h1, h2⟩
    · exact .inl ⟨by rw [Nat.eq_of_beq_eq_true h1]; simp, h2⟩
    · have hne : s ≠ t := fun e => by subst e; rw [Nat.beq_refl] at h1; cases h1
      rcases memK_inv h2 with ⟨h3, h4⟩ | ⟨h3, h4⟩
      · exact .inl ⟨by simp [h3], h4⟩
      · exact .inr ⟨by simp [h3, hne], h4⟩
/-- A slot's value without the places in such boxes. -/
def clV (ks : List Nat) : CV → CV
  | .loc s o => if s ∈ ks then .u else .loc s o
  | v => v
noncomputable def clK (ks : List Nat) (v : CV) (k : CV → Bool) : Bool :=
  @CV.rec (fun _ => Bool) (fun _ => Bool) (k v) (fun _ => k v) (fun _ => k v) (fun _ => k v) (fun _ => k v) (fun _ => k v) (fun _ => k v) (fun _ _ => k v) (k v) (fun _ _ => k v) (fun s o => memK ks s (k .u) (k (.loc s o))) (k v) (fun _ _ _ _ => k v) (fun _ _ _ _ => k v) (k v) (k v) (fun _ => k v) (fun _ _ _ _ _ => k v) (k v) (fun _ _ _ => k v) (k v) (fun _ _ => k v) (fun _ _ => k v) (fun _ _ => k v) false (fun _ _ _ _ => false) v
theorem clK_eq {ks : List Nat} {v : CV} {k : CV → Bool} (h : clK ks v k = true) : k (clV ks v) = true := by
  cases v with
  | loc s o =>
    rcases memK_inv (show memK ks s (k .u) (k (.loc s o)) = true from h) with ⟨h1, h2⟩ | ⟨h1, h2⟩
    · simp only [clV, h1, if_true]; exact h2
    · simp only [clV, h1, if_false]; exact h2
  | _ => exact h
noncomputable def clSt (ks : List Nat) (n t : Nat) (e : E) (k : E → Bool) : Bool := @Nat.rec (fun _ => Nat → E → (E → Bool) → Bool) (fun _ e k => k e) (fun _ ih t e k => clK ks (getE t e) fun v => putE t e v fun e => ih (Nat.succ t) e k) n t e k
theorem clSt_inv {ks : List Nat} {k : E → Bool} : ∀ {n t : Nat} {e : E}, t + n ≤ 256 → clSt ks n t e k = true → ∃ e', k e' = true ∧ ∀ u, u < 256 → getE u e' = if t ≤ u ∧ u < t + n then clV ks (getE u e) else getE u e
  | 0, t, e, _, h => ⟨e, h, fun u _ => by rw [if_neg (by omega)]⟩
  | n + 1, t, e, hn, h => by
    have h1 := clK_eq (show clK ks (getE t e) (fun v => putE t e v fun e => clSt ks n (t + 1) e k) = true from h)
    rw [putE_eq] at h1
    obtain ⟨e', h2, h3⟩ := clSt_inv (by omega) h1
    refine ⟨e', h2, fun u hu => ?_⟩
    rw [h3 u hu, getE_setE (by omega) hu]
    by_cases e1 : t = u
    · subst e1
      rw [if_neg (by omega), if_pos rfl, if_pos (by omega)]
    · rw [if_neg e1]
      by_cases e2 : t + 1 ≤ u ∧ u < t + 1 + n
      · rw [if_pos e2, if_pos (by omega)]
      · rw [if_neg e2, if_neg (by omega)]
noncomputable def flK (ks : List Nat) (l : LocE) (k : LocE → Bool) : Bool := @List.rec (Nat × List CV) (fun _ => (LocE → Bool) → Bool) (fun k => k []) (fun x _ ih k => @Prod.rec Nat (List CV) (fun _ => Bool) (fun s c => memK ks s (ih k) (ih fun r => k ((s, c) :: r))) x) l k
theorem flK_inv {ks : List Nat} : ∀ {l : LocE} {k : LocE → Bool}, flK ks l k = true → k (l.filter fun x => !ks.contains x.1) = true
  | [], _, h => h
  | (s, c) :: r, k, h => by
    rcases memK_inv (show memK ks s (flK ks r k) (flK ks r fun r => k ((s, c) :: r)) = true from h) with ⟨h1, h2⟩ | ⟨h1, h2⟩
    · have := flK_inv h2
      rw [List.filter_cons, if_neg (by simp [h1])]
      exact this
    · have := flK_inv h2
      rw [List.filter_cons, if_pos (by simp [h1])]
      exact this
noncomputable def headK (nt : Nat) (ks : List Nat) (e : E) (l : LocE) (k : E → LocE → Bool) : Bool := @List.rec Nat (fun _ => Bool) (k e l) (fun _ _ _ => clSt ks nt 0 e fun e => flK ks l fun l => k e l) ks
noncomputable def loopR (nt : Nat) (ks : List Nat) (a : CdB) (d : D) (k : Ex → E → LocE → HP → P5 → Bool) (m : Nat) : E → LocE → HP → P5 → Bool := @Nat.rec (fun _ => E → LocE → HP → P5 → Bool) (fun _ _ _ _ => false) (fun _ ih e l H n => headK nt ks e l fun e l => a.run d e l H n fun x e l H n => exK x (ih e l H n) (fun i => k (.exit i) e l H n) (k .ret e l H n)) m
def loopMax : Nat := 1000000
noncomputable def cdLoop (nt : Nat) (ks : List Nat) (a : CdB) : CdB := ⟨fun d e l H n k => loopR nt ks a d k loopMax e l H n⟩
/-- Which boxes of the function's own does a code make? -/
def ownOps (ty : Nat → Ti) (pub : Nat → Bool) : List Oper → List Nat
  | [] => []
  | o :: r => match o.op, o.dst with
    | .alloc _, some d => if pub d then ownOps ty pub r else d :: ownOps ty pub r
    | .box _ _, some d => if pub d then ownOps ty pub r else d :: ownOps ty pub r
    | _, _ => ownOps ty pub r
def ownBox (ty : Nat → Ti) (pub : Nat → Bool) : Code → List Nat
  | .region _ ops _ => ownOps ty pub ops.toList
  | .seq a b | .cond _ a b => ownBox ty pub a ++ ownBox ty pub b
  | .block _ c | .loop c | .scope c => ownBox ty pub c
  | _ => []
noncomputable def codeB (S : SS) (nt : Nat) (plan : Nat → Plan) (pub : Nat → Bool) (c : Code) : CdB := @Code.rec (fun _ => CdB)
  ⟨fun _ e l H n k => k .normal e l H n⟩
  (fun id ops draw => match draw with
    | false => cdOf (opsB S nt pub ops.toList ops.toList)
    | true => cdOf (planB S nt pub ops.toList (plan id)))
  (fun _ _ a b => cdSeq a b)
  (fun c _ _ a b => cdCond (opG nt c) a b)
  (fun id _ a => cdBlock id a)
  (fun c a => match ownBox S.ty pub c with
    | ks => cdLoop nt ks a)
  (fun _ _ _ _ _ _ => .fail)
  (fun id => ⟨fun _ e l H n k => k (.exit id) e l H n⟩)
  (fun _ a => a)
  (fun _ => ⟨fun _ e l H n k => k .normal e l H n⟩) (fun _ => .fail)
  ⟨fun _ e l H n k => k .ret e l H n⟩
  (fun _ => .fail) c

def CdOk (A : Ar) (T : Tab) (P : Program) (nt : Nat) (x : CdB) (c : Code) : Prop :=
  ∀ {ρ : Rn} {d : D} {e : E} {l : LocE} {H : HP} {n : P5} {env : Sx.Env} {L : Sx.Loc} {h : Heap} {k : Ex → E → LocE → HP → P5 → Bool} {K : Ex → Sx.Env → Sx.Loc → Heap → Prop}, DOk T P nt ρ d → RSt nt ρ e l H env L h → x.run d e l H n k = true →
    (∀ ρ' x e' l' H' n' env' L' h', Ext ρ ρ' → RSt nt ρ' e' l' H' env' L' h' → k x e' l' H' n' = true → K x env' L' h') → sx A T (fun _ => P) c K env L h
theorem CdOk.fail {c : Code} : CdOk A T P nt .fail c := fun _ _ h _ => (Bool.false_ne_true h).elim
theorem exK_inv {x : Ex} {a : Bool} {b : Nat → Bool} {c : Bool} (h : exK x a b c = true) : (x = .normal ∧ a = true) ∨ (∃ i, x = .exit i ∧ b i = true) ∨ (x = .ret ∧ c = true) := by
  cases x with
  | normal => exact .inl ⟨rfl, h⟩
  | exit i => exact .inr (.inl ⟨i, rfl, h⟩)
  | ret => exact .inr (.inr ⟨rfl, h⟩)

/-! The state at a loop's head. -/
def clS (L : Sx.Loc) : SV → SV
  | .loc t o => match lkp L t with
    | some _ => .loc t o
    | none => .u
  | s => s
theorem clS_none {L : Sx.Loc} {t o : Nat} (h : lkp L t = none) : clS L (.loc t o) = .u := by simp only [clS, h]
theorem clS_some {L : Sx.Loc} {t o : Nat} {c : List Value} (h : lkp L t = some c) : clS L (.loc t o) = .loc t o := by simp only [clS, h]
theorem wk_clean (L : Sx.Loc) : ∀ env : Sx.Env, wk env (env.map (clS L))
  | [] => trivial
  | x :: r => by
    simp only [List.map_cons, wk]
    cases x with
    | v a => exact ⟨rfl, wk_clean L r⟩
    | u => exact wk_clean L r
    | loc t o =>
      cases hq : lkp L t with
      | none => rw [clS_none hq]; exact wk_clean L r
      | some c => rw [clS_some hq]; exact ⟨rfl, wk_clean L r⟩
theorem lok_clean (L : Sx.Loc) : ∀ env : Sx.Env, lok L (env.map (clS L))
  | [] => trivial
  | x :: r => by
    simp only [List.map_cons, lok]
    cases x with
    | v a => exact lok_clean L r
    | u => exact lok_clean L r
    | loc t o =>
      cases hq : lkp L t with
      | none => rw [clS_none hq]; exact lok_clean L r
      | some c => rw [clS_some hq]; exact ⟨by rw [hq]; rfl, lok_clean L r⟩
theorem lsub_nodup {L : Sx.Loc} (hn : (L.map (·.1)).Nodup) : lsub L L := by
  have key : ∀ (M N : Sx.Loc), ((N ++ M).map (·.1)).Nodup → lsub (N ++ M) M := by
    intro M
    induction M with
    | nil => intro N _; trivial
    | cons x r ih =>
      intro N h
      obtain ⟨s, c⟩ := x
      refine ⟨?_, ?_⟩
      · have : ∀ N : Sx.Loc, ((N ++ (s, c) :: r).map (·.1)).Nodup → lkp (N ++ (s, c) :: r) s = some c := by
          intro N
          induction N with
          | nil => intro _; simp [lkp]
          | cons y q ih2 =>
            intro h
            obtain ⟨a, b⟩ := y
            simp only [List.cons_append, List.map_cons, List.nodup_cons] at h
            have hne : a ≠ s := fun e => h.1 (by rw [e]; simp)
            simp only [List.cons_append, lkp]
            rw [if_neg hne]
            exact ih2 h.2
        exact this N h
      · have := ih (N ++ [(s, c)]) (by simpa using h)
        simpa using this
  exact key L [] hn
theorem RSt.clean (s : RSt nt ρ e l H env L h) : RSt nt ρ e l H (env.map (clS L)) L h ∧ Wk env L (env.map (clS L)) L := by
  refine ⟨⟨s.lim, by simpa using s.len, fun t y ht hy => ?_, s.loc, s.sub, s.heap⟩, ⟨wk_clean L env, lsub_nodup s.sub, lok_clean L env⟩⟩
  rw [List.getElem?_map] at hy
  cases hv : env[t]? with
  | none => rw [hv] at hy; cases hy
  | some x =>
    rw [hv] at hy
    cases hy
    have := s.env t x ht hv
    cases hc : getE t e with
    | u => trivial
    | loc a o =>
      rw [hc] at this
      obtain ⟨rfl, h2⟩ := this
      refine ⟨?_, h2⟩
      have h3 := s.loc.lk (s := a)
      cases hq : lkE l a with
      | none => rw [hq] at h2; cases h2
      | some c =>
        rw [hq] at h3
        obtain ⟨q, h4, -⟩ := h3
        exact clS_some h4
    | _ => rw [hc] at this; obtain ⟨z, rfl, h1⟩ := this; exact ⟨z, rfl, h1⟩


theorem filter_lk {l : LocE} {ks : List Nat} {t : Nat} (ht : t ∉ ks) : lkE (l.filter fun x => !ks.contains x.1) t = lkE l t := by
  induction l with
  | nil => rfl
  | cons x r ih =>
    obtain ⟨s, c⟩ := x
    by_cases h : s ∈ ks
    · rw [List.filter_cons, if_neg (by simp [h]), ih]
      simp only [lkE]
      rw [if_neg (fun (e : s = t) => ht (e ▸ h))]
    · rw [List.filter_cons, if_pos (by simp [h])]
      simp only [lkE, ih]
theorem RLo.filter {ks : List Nat} : ∀ {l : LocE} {L : Sx.Loc}, RLo ρ l L → RLo ρ (l.filter fun x => !ks.contains x.1) (L.filter fun x => !ks.contains x.1)
  | [], _, h => by cases h; rfl
  | (s, c) :: r, L, ⟨d, R, h1, h2, h3⟩ => by
    subst h1
    by_cases h : s ∈ ks
    · rw [List.filter_cons, if_neg (by simp [h]), List.filter_cons, if_neg (by simp [h])]
      exact RLo.filter h3
    · rw [List.filter_cons, if_pos (by simp [h]), List.filter_cons, if_pos (by simp [h])]
      exact ⟨d, _, rfl, h2, RLo.filter h3⟩
/-- At a loop's head: some boxes go. -/
theorem head_sound {ks : List Nat} (s : RSt nt ρ e l H env L h) {k : E → LocE → Bool} (hk : headK nt ks e l k = true) : ∃ e' l' env' L', k e' l' = true ∧ RSt nt ρ e' l' H env' L' h ∧ Wk env L env' L' := by
  cases ks with
  | nil =>
    obtain ⟨s1, w1⟩ := s.clean
    exact ⟨e, l, _, _, hk, s1, w1⟩
  | cons q r =>
    generalize hks : q :: r = ks at hk
    have hk : clSt ks nt 0 e (fun e => flK ks l fun l => k e l) = true := by subst hks; exact hk
    have hlim := s.lim
    obtain ⟨e', h1, h2⟩ := clSt_inv (by omega) hk
    have h3 := flK_inv h1
    have hsub : (L.filter fun x => !ks.contains x.1).map (·.1) |>.Nodup := (List.filter_sublist.map _).nodup s.sub
    have s' : RSt nt ρ e' (l.filter fun x => !ks.contains x.1) H (env.map (clS (L.filter fun x => !ks.contains x.1))) (L.filter fun x => !ks.contains x.1) h := by
      refine ⟨s.lim, by simpa using s.len, fun t y ht hy => ?_, s.loc.filter, hsub, s.heap⟩
      rw [List.getElem?_map] at hy
      cases hv : env[t]? with
      | none => rw [hv] at hy; cases hy
      | some x =>
        rw [hv] at hy
        cases hy
        have hlt : t < nt := by
          have := (List.getElem?_eq_some_iff.1 hv).1
          rw [s.len] at this
          exact this
        have := s.env t x ht hv
        rw [h2 t ht, if_pos (by omega)]
        cases hc : getE t e with
        | u => trivial
        | loc a o =>
          rw [hc] at this
          obtain ⟨rfl, h4⟩ := this
          by_cases ha : a ∈ ks
          · simp only [clV, ha, if_true]; trivial
          · simp only [clV, ha, if_false]
            have h5 : (lkE (l.filter fun x => !ks.contains x.1) a).isSome = true := by rw [filter_lk ha]; exact h4
            refine ⟨?_, h5⟩
            have h6 := s.loc.filter (ks := ks) |>.lk (s := a)
            cases hq : lkE (l.filter fun x => !ks.contains x.1) a with
            | none => rw [hq] at h5; cases h5
            | some c =>
              rw [hq] at h6
              obtain ⟨z, h7, -⟩ := h6
              exact clS_some h7
        | _ => rw [hc] at this; obtain ⟨z, rfl, h4⟩ := this; exact ⟨z, rfl, h4⟩
    refine ⟨e', _, _, _, h3, s', ⟨wk_clean _ env, ?_, lok_clean _ env⟩⟩
    -- what is left says what it said
    have key : ∀ (M : Sx.Loc), (∀ x ∈ M, lkp L x.1 = some x.2) → lsub L M := by
      intro M
      induction M with
      | nil => intro _; trivial
      | cons x r ih => intro hm; exact ⟨hm x (by simp), ih fun y hy => hm y (by simp [hy])⟩
    have full : ∀ (L : Sx.Loc), (L.map (·.1)).Nodup → ∀ x ∈ L, lkp L x.1 = some x.2 := by
      intro L
      induction L with
      | nil => intro _ x hx; simp at hx
      | cons y r ih =>
        intro hn x hx
        obtain ⟨a, b⟩ := y
        simp only [List.map_cons, List.nodup_cons] at hn
        rcases List.mem_cons.1 hx with rfl | hx
        · simp [lkp]
        · have hne : a ≠ x.1 := fun e => hn.1 (by rw [e]; exact List.mem_map.2 ⟨x, hx, rfl⟩)
          simp only [lkp]
          rw [if_neg hne]
          exact ih hn.2 x hx
    exact key _ fun x hx => full L s.sub x ((List.mem_filter.1 hx).1)

theorem loop_ok {ks : List Nat} {x : CdB} {c : Code} {M : Nat} (ih : CdOk A T P nt x c) {ρ : Rn} {d : D} {e : E} {l : LocE} {H : HP} {n : P5} {env : Sx.Env} {L : Sx.Loc} {h : Heap} {k : Ex → E → LocE → HP → P5 → Bool} {K : Ex → Sx.Env → Sx.Loc → Heap → Prop} (hd : DOk T P nt ρ d) (s : RSt nt ρ e l H env L h) (hk : loopR nt ks x d k M e l H n = true)
    (hK : ∀ ρ' x e' l' H' n' env' L' h', Ext ρ ρ' → RSt nt ρ' e' l' H' env' L' h' → k x e' l' H' n' = true → K x env' L' h') : sx A T (fun _ => P) (.loop c) K env L h := by
  cases M with
  | zero => exact (Bool.false_ne_true hk).elim
  | succ M =>
  have step : ∀ {m : Nat} {e : E} {l : LocE} {H : HP} {n : P5}, loopR nt ks x d k (m + 1) e l H n = true → headK nt ks e l (fun e l => x.run d e l H n fun y e l H n => exK y (loopR nt ks x d k m e l H n) (fun i => k (.exit i) e l H n) (k .ret e l H n)) = true := fun h => h
  obtain ⟨e1, l1, env1, L1, hk1, s1, w1⟩ := head_sound s (step hk)
  refine ⟨fun m env L h => ∃ ρ' e l H n, Ext ρ ρ' ∧ RSt nt ρ' e l H env L h ∧ x.run d e l H n (fun y e l H n => exK y (loopR nt ks x d k m e l H n) (fun i => k (.exit i) e l H n) (k .ret e l H n)) = true, M, ⟨_, _, w1, ρ, e1, l1, H, n, .refl ρ, s1, hk1⟩, ?_⟩
  intro m env L h ⟨ρ', e, l, H, n, hx, s, hk⟩
  refine ih (hd.mono hx) s hk fun ρ'' y e' l' H' n' env' L' h' hx2 s' hk' => ?_
  rcases exK_inv hk' with ⟨rfl, h1⟩ | ⟨i, rfl, h1⟩ | ⟨rfl, h1⟩
  · cases m with
    | zero => exact (Bool.false_ne_true h1).elim
    | succ m =>
      obtain ⟨e2, l2, env2, L2, hk2, s2, w2⟩ := head_sound s' (step h1)
      exact ⟨m, _, _, by omega, w2, ρ'', e2, l2, H', n', hx.trans hx2, s2, hk2⟩
  · exact hK _ _ _ _ _ _ _ _ _ (hx.trans hx2) s' h1
  · exact hK _ _ _ _ _ _ _ _ _ (hx.trans hx2) s' h1

theorem codeB_ok {S : SS} (hS : SOk A P S) {plan : Nat → Plan} {pub : Nat → Bool} {rs : List Nat} {kp : List PanicEntry → List SV → Heap → Prop} (c : Code) : CdOk A (S.tab plan pub rs kp) P nt (codeB S nt plan pub c) c := by
  induction c with
  | skip =>
    intro ρ d e l H n env L h k K hd s hk hK
    exact hK ρ .normal e l H n env L h (.refl ρ) s hk
  | region id ops draw =>
    intro ρ d e l H n env L h k K hd s hk hK
    cases draw with
    | false => exact opsB_ok hS _ hd s hk fun ρ' e' l' H' n' env' L' h' hx s' hk' => hK ρ' .normal _ _ _ _ _ _ _ hx s' hk'
    | true => exact planB_ok hS _ _ (Nat.lt_succ_self _) hd s hk fun ρ' e' l' H' n' env' L' h' hx s' hk' => hK ρ' .normal _ _ _ _ _ _ _ hx s' hk'
  | seq a b iha ihb =>
    intro ρ d e l H n env L h k K hd s hk hK
    refine iha hd s (show (codeB S nt plan pub a).run d e l H n (fun x e l H n => exK x ((codeB S nt plan pub b).run d e l H n k) (fun i => k (.exit i) e l H n) (k .ret e l H n)) = true from hk) fun ρ' x e' l' H' n' env' L' h' hx s' hk' => ?_
    rcases exK_inv hk' with ⟨rfl, h1⟩ | ⟨i, rfl, h1⟩ | ⟨rfl, h1⟩
    · exact ihb (hd.mono hx) s' h1 fun ρ'' x'' e'' l'' H'' n'' env'' L'' h'' hx2 s'' hk'' => hK _ _ _ _ _ _ _ _ _ (hx.trans hx2) s'' hk''
    · exact hK _ _ _ _ _ _ _ _ _ hx s' h1
    · exact hK _ _ _ _ _ _ _ _ _ hx s' h1
  | cond c a b iha ihb =>
    intro ρ d e l H n env L h k K hd s hk hK
    obtain ⟨t, h1, h2⟩ := (s.op c).bool (show as_bool ((opG nt c).run e) (fun t => ite' t ((codeB S nt plan pub a).run d e l H n k) ((codeB S nt plan pub b).run d e l H n k)) = true from hk)
    unfold sx
    simp only [h1]
    rcases ite'_inv h2 with ⟨rfl, h3⟩ | ⟨rfl, h3⟩
    · exact iha hd s h3 hK
    · exact ihb hd s h3 hK
  | block id c ih =>
    intro ρ d e l H n env L h k K hd s hk hK
    refine ih hd s (show (codeB S nt plan pub c).run d e l H n (fun x e l H n => exK x (k .normal e l H n) (fun i => ite' (Nat.beq i id) (k .normal e l H n) (k (.exit i) e l H n)) (k .ret e l H n)) = true from hk) fun ρ' x e' l' H' n' env' L' h' hx s' hk' => ?_
    rcases exK_inv hk' with ⟨rfl, h1⟩ | ⟨i, rfl, h1⟩ | ⟨rfl, h1⟩
    · exact hK _ _ _ _ _ _ _ _ _ hx s' h1
    · rcases ite'_inv h1 with ⟨h2, h3⟩ | ⟨h2, h3⟩
      · have h2 : i = id := Nat.eq_of_beq_eq_true h2
        simp only [h2, if_true]
        exact hK _ _ _ _ _ _ _ _ _ hx s' h3
      · have h2 : i ≠ id := fun e => by rw [e, Nat.beq_refl] at h2; cases h2
        simp only [h2, if_false]
        exact hK _ _ _ _ _ _ _ _ _ hx s' h3
    · exact hK _ _ _ _ _ _ _ _ _ hx s' h1
  | loop c ih =>
    intro ρ d e l H n env L h k K hd s hk hK
    have hk2 : (cdLoop nt (ownBox S.ty pub c) (codeB S nt plan pub c)).run d e l H n k = true := hk
    unfold cdLoop at hk2
    dsimp only at hk2
    generalize loopMax = M at hk2
    exact loop_ok ih hd s hk2 hK
  | rangeFunc f ps a c iha ihc =>
    intro ρ d e l H n env L h k K hd s hk hK
    exact (Bool.false_ne_true hk).elim
  | exit id =>
    intro ρ d e l H n env L h k K hd s hk hK
    exact hK ρ (.exit id) e l H n env L h (.refl ρ) s hk
  | scope c ih =>
    intro ρ d e l H n env L h k K hd s hk hK
    exact ih hd s hk hK
  | label q =>
    intro ρ d e l H n env L h k K hd s hk hK
    exact hK ρ .normal e l H n env L h (.refl ρ) s hk
  | goto q =>
    intro ρ d e l H n env L h k K hd s hk hK
    exact (Bool.false_ne_true hk).elim
  | ret =>
    intro ρ d e l H n env L h k K hd s hk hK
    exact hK ρ .ret e l H n env L h (.refl ρ) s hk
  | refuse w =>
    intro ρ d e l H n env L h k K hd s hk hK
    exact (Bool.false_ne_true hk).elim

end
end Go.Cx
namespace Go.Cx
open Go.Sx

abbrev CF := Nat → List CV → HP → P5 → (Res → HP → P5 → Bool) → Bool
structure FB where
  run : CF → CF → List CV → HP → P5 → (Res → HP → P5 → Bool) → Bool
noncomputable def FB.fail : FB := ⟨fun _ _ _ _ _ _ => false⟩

section
variable {A : Ar} [hA : ArOk A] {T : Tab} {P : Program} {nt : Nat} {ρ : Rn} {e : E} {l : LocE} {H : HP} {env : Sx.Env} {L : Sx.Loc} {h : Heap} {n : P5}

/-- What is asked of a call: as in DOk. -/
def CfOk (P : Program) (cf : CF) : Prop := ∀ {ρ' : Rn} {g : Nat} {args : List CV} {H : HP} {n : P5} {k : Res → HP → P5 → Bool} {h : Heap} {xs : List Value} {R : Value → Heap → Prop} {Kp : List PanicEntry → Heap → Prop}, RL ρ' args xs → HRel ρ' H h → cf g args H n k = true →
    (∀ ρ'' v x H' h' n', Ext ρ' ρ'' → RV ρ'' v x → HRel ρ'' H' h' → k (.ret v) H' n' = true → R x h') →
    (∀ ρ'' v x H' h' n', Ext ρ' ρ'' → RV ρ'' v x → HRel ρ'' H' h' → k (.pan v) H' n' = true → Kp [{ v := x, recovered := false }] h') → FnPX (fun _ => P) g xs h R Kp
/-- The same of a call that is deferred: it returns. -/
def CfDOk (P : Program) (cf : CF) : Prop := ∀ {ρ' : Rn} {g : Nat} {args : List CV} {H : HP} {n : P5} {k : Res → HP → P5 → Bool} {h : Heap} {xs : List Value} {R : Value → Heap → Prop}, RL ρ' args xs → HRel ρ' H h → cf g args H n k = true →
    (∀ ρ'' v x H' h' n', Ext ρ' ρ'' → RV ρ'' v x → HRel ρ'' H' h' → k (.ret v) H' n' = true → R x h') → (∀ v H' n', k (.pan v) H' n' = true → False) → FnDX (fun _ => P) g xs h R
def FOk (P : Program) (g : Nat) (x : FB) : Prop := ∀ {cf cfd : CF}, CfOk P cf → CfDOk P cfd → ∀ {ρ' : Rn} {args : List CV} {H : HP} {n : P5} {k : Res → HP → P5 → Bool} {h : Heap} {xs : List Value} {R : Value → Heap → Prop} {Kp : List PanicEntry → Heap → Prop}, RL ρ' args xs → HRel ρ' H h → x.run cf cfd args H n k = true →
    (∀ ρ'' v x H' h' n', Ext ρ' ρ'' → RV ρ'' v x → HRel ρ'' H' h' → k (.ret v) H' n' = true → R x h') →
    (∀ ρ'' v x H' h' n', Ext ρ' ρ'' → RV ρ'' v x → HRel ρ'' H' h' → k (.pan v) H' n' = true → Kp [{ v := x, recovered := false }] h') → FnPX (fun _ => P) g xs h R Kp
theorem FOk.fail {g : Nat} : FOk P g .fail := fun _ _ => fun _ _ h _ _ => (Bool.false_ne_true h).elim
def FDOk (P : Program) (g : Nat) (x : FB) : Prop := ∀ {cf cfd : CF}, CfOk P cf → CfDOk P cfd → ∀ {ρ' : Rn} {args : List CV} {H : HP} {n : P5} {k : Res → HP → P5 → Bool} {h : Heap} {xs : List Value} {R : Value → Heap → Prop}, RL ρ' args xs → HRel ρ' H h → x.run cf cfd args H n k = true →
    (∀ ρ'' v x H' h' n', Ext ρ' ρ'' → RV ρ'' v x → HRel ρ'' H' h' → k (.ret v) H' n' = true → R x h') → (∀ v H' n', k (.pan v) H' n' = true → False) → FnDX (fun _ => P) g xs h R
theorem FDOk.fail {g : Nat} : FDOk P g .fail := fun _ _ => fun _ _ h _ _ => (Bool.false_ne_true h).elim

/-! Arguments, results. -/
noncomputable def argsK (args : List CV) (t : Nat) (e : E) (k : E → Bool) : Bool := @List.rec CV (fun _ => Nat → E → (E → Bool) → Bool) (fun _ e k => k e) (fun v _ ih t e k => putE t e v fun e => ih (Nat.succ t) e k) args t e k
noncomputable def setArgs : List CV → Nat → E → E
  | [], _, e => e
  | v :: r, t, e => setArgs r (t + 1) (setE t e v)
theorem argsK_eq : ∀ (args : List CV) (t : Nat) (e : E) (k : E → Bool), argsK args t e k = k (setArgs args t e)
  | [], _, _, _ => rfl
  | v :: r, t, e, k => by
    show putE t e v (fun e => argsK r (t + 1) e k) = _
    rw [putE_eq, argsK_eq r]
    rfl
theorem setArgs_get : ∀ (args : List CV) (t : Nat) (e : E) (u : Nat), t + args.length ≤ 256 → u < 256 → getE u (setArgs args t e) = if t ≤ u ∧ u < t + args.length then args.getD (u - t) .u else getE u e
  | [], t, e, u, _, _ => by
    simp only [setArgs, List.length_nil, Nat.add_zero]
    rw [if_neg (by omega)]
  | v :: r, t, e, u, h, hu => by
    simp only [List.length_cons] at h
    unfold setArgs
    rw [setArgs_get r (t + 1) _ u (by omega) hu, getE_setE (by omega) hu]
    simp only [List.length_cons]
    by_cases h1 : u = t
    · subst h1
      rw [if_neg (by omega), if_pos rfl, if_pos (by omega)]
      simp
    · by_cases h2 : t + 1 ≤ u ∧ u < t + 1 + r.length
      · rw [if_pos h2, if_pos (by omega)]
        obtain ⟨q, rfl⟩ : ∃ q, u = t + 1 + q := ⟨u - (t + 1), by omega⟩
        rw [show t + 1 + q - (t + 1) = q by omega, show t + 1 + q - t = q + 1 by omega]
        simp
      · rw [if_neg h2, if_neg (fun e => h1 e.symm), if_neg (by omega)]
theorem RSt.start {args : List CV} {xs : List Value} (hr : RL ρ args xs) (hH : HRel ρ H h) (h1 : nt ≤ 256) (h2 : args.length ≤ nt) : RSt nt ρ (setArgs args 0 e0) [] H (xs.map SV.v ++ List.replicate (nt - xs.length) (.v undef)) [] h := by
  have hl := hr.len
  refine ⟨h1, by simp; omega, fun t s ht hs => ?_, rfl, by simp, hH⟩
  rw [setArgs_get _ _ _ _ (by omega) ht]
  by_cases hc : 0 ≤ t ∧ t < 0 + args.length
  · rw [if_pos hc]
    rw [List.getElem?_append_left (by simp; omega), List.getElem?_map] at hs
    have : args[t]? = some (args[t]'(by omega)) := by simp
    obtain ⟨x, h3, h4⟩ := hr.get this
    rw [h3] at hs
    cases hs
    rw [show t - 0 = t by omega, List.getD_eq_getElem?_getD, this]
    exact .of h4
  · rw [if_neg hc, getE_e0]
    trivial

structure RB' where
  run : E → LocE → HP → (CV → Bool) → Bool
noncomputable def resB (nt : Nat) (ty : Nat → Ti) : ResultVar → RB'
  | .tmp t => ⟨fun e _ _ k => okV ((gB nt t).run e) k⟩
  | .cell a t => match (ty t).kd.isNone with
    | true => ⟨fun _ _ _ _ => false⟩
    | false => ⟨fun e l H k => asA ((gB nt a).run e) (fun b off => hget H b fun o => asRead o fun c _ => rdK (ty t).agg (ty t).size off c k) (fun s off => lkK l s fun c => rdK (ty t).agg (ty t).size off c k)⟩
theorem res_sound (s : RSt nt ρ e l H env L h) {r : ResultVar} {k : CV → Bool} (hk : (resB nt T.ty r).run e l H k = true) {K : Value → Prop} (hK : ∀ v x, RV ρ v x → k v = true → K x) : resv T env L h r K := by
  cases r with
  | tmp t =>
    obtain ⟨x, h1, h2, h3⟩ := (s.tmp t).ok (show okV _ _ = true from hk)
    unfold resv
    simp only [h1]
    exact hK _ _ h2 h3
  | cell a t =>
    unfold resB at hk
    split at hk
    · rename_i heq; cases heq
    · rename_i a' t' heq
      cases heq
      split at hk
      · exact (Bool.false_ne_true hk).elim
      · rename_i hn
        dsimp only at hk
        unfold resv
        have hnone : (T.ty t).kd ≠ .none := fun e => by rw [e] at hn; cases hn
        rcases (s.tmp a).place hk with ⟨b, off, r, h1, h2, h3⟩ | ⟨u, off, h2, h3⟩
        · rw [hget_eq] at h3
          obtain ⟨c, t', h4, h5⟩ := asRead_inv h3
          obtain ⟨h6, v, h7, h8⟩ := rdK_sound (ρ := ρ) h5
          obtain ⟨cs, h9, h10⟩ := s.heap.read h1 (k := fun _ => true) h4 h6
          have fin : LdX h ⟨r.blk, r.bas + off, none⟩ (T.ty t).size (fun cs => rdvk (T.ty t).agg cs K) := ⟨cs, h10, h8 h9 fun x hx => hK v x hx h7⟩
          cases hk2 : (T.ty t).kd with
          | none => exact absurd hk2 hnone
          | _ => simp only [h2]; exact fin
        · obtain ⟨c, h4, h5⟩ := lkK_inv h3
          obtain ⟨h6, v, h7, h8⟩ := rdK_sound (ρ := ρ) h5
          have h9 := s.loc.lk (s := u)
          rw [h4] at h9
          obtain ⟨q, h10, h11⟩ := h9
          have hl := h11.len
          have fin : rdvk (T.ty t).agg ((q.drop off).take (T.ty t).size) K := h8 ((h11.drop off).take _) fun x hx => hK v x hx h7
          have ht : takeN q off (T.ty t).size = some ((q.drop off).take (T.ty t).size) := by unfold takeN; rw [if_pos (by omega)]
          cases hk2 : (T.ty t).kd with
          | none => exact absurd hk2 hnone
          | _ => simp only [h2.1, h10, ht]; exact fin
structure RBs where
  run : E → LocE → HP → (List CV → Bool) → Bool
noncomputable def ressB (nt : Nat) (ty : Nat → Ti) (rs : List ResultVar) : RBs := @List.rec ResultVar (fun _ => RBs) ⟨fun _ _ _ k => k []⟩ (fun r _ ih => match resB nt ty r with
  | q => ⟨fun e l H k => q.run e l H fun v => ih.run e l H fun vs => k (v :: vs)⟩) rs
theorem ress_sound (s : RSt nt ρ e l H env L h) : ∀ {rs : List ResultVar} {k : List CV → Bool}, (ressB nt T.ty rs).run e l H k = true → ∀ {K : List Value → Prop}, (∀ vs xs, RL ρ vs xs → k vs = true → K xs) → resl T env L h rs K
  | [], k, hk, K, hK => hK [] [] rfl hk
  | r :: rs, k, hk, K, hK => by
    unfold resl
    exact res_sound s (show (resB nt T.ty r).run e l H (fun v => (ressB nt T.ty rs).run e l H fun vs => k (v :: vs)) = true from hk) fun v x hv hk' => ress_sound s hk' fun vs xs hvs hk'' => hK _ _ (.cons hv hvs) hk''
noncomputable def oneK (vs : List CV) (k : CV → Bool) : Bool := @List.rec CV (fun _ => Bool) (k (.tup [])) (fun v r _ => @List.rec CV (fun _ => Bool) (k v) (fun _ _ _ => k (.tup vs)) r) vs
theorem oneK_sound {vs : List CV} {xs : List Value} (hr : RL ρ vs xs) {k : CV → Bool} (hk : oneK vs k = true) {K : Value → Prop} (hK : ∀ v x, RV ρ v x → k v = true → K x) : oneOr xs K := by
  match vs, xs, hr with
  | [], _, hr => cases hr; exact hK (.tup []) _ ⟨[], rfl, rfl⟩ hk
  | [v], _, ⟨x, ys, e1, h1, h2⟩ => cases h2; subst e1; exact hK v x h1 hk
  | v :: w :: r, _, ⟨x, _, e1, h1, y, ys, e2, h2, h3⟩ =>
    subst e2; subst e1
    exact hK (.tup (v :: w :: r)) _ ⟨_, .cons h1 (.cons h2 h3), rfl⟩ hk

/-- A function's body. -/
noncomputable def fnB (S : SS) (plan : Nat → Plan) (pub : Nat → Bool) (c : Code) (nt : Nat) (rs : List ResultVar) : FB := match codeB S nt plan pub c, ressB nt S.ty rs, Nat.ble nt 256 with
  | cd, rl, true => ⟨fun cf _ args H n k => lenK args fun m => chk (Nat.ble m nt) (argsK args 0 e0 fun e => cd.run ⟨cf, fun v _ _ H n => k (.pan v) H n⟩ e [] H n fun x e l H n => exK x (rl.run e l H fun vs => oneK vs fun v => k (.ret v) H n) (fun _ => false) (rl.run e l H fun vs => oneK vs fun v => k (.ret v) H n))⟩
  | _, _, false => .fail
theorem fnB_sx {S : SS} (hS : SOk A P S) {plan : Nat → Plan} {pub : Nat → Bool} {kp : List PanicEntry → List SV → Heap → Prop} {c : Code} {rs : List ResultVar} {cf cfd : CF} {args : List CV} {k : Res → HP → P5 → Bool} {xs : List Value} {R : Value → Heap → Prop} (hr : RL ρ args xs) (hH : HRel ρ H h)
    (hk : (fnB S plan pub c nt rs).run cf cfd args H n k = true) (hret : ∀ ρ'' v x H' h' n', Ext ρ ρ'' → RV ρ'' v x → HRel ρ'' H' h' → k (.ret v) H' n' = true → R x h')
    (hd : DOk (S.tab plan pub [] kp) P nt ρ ⟨cf, fun v _ _ H n => k (.pan v) H n⟩) : sxFn A (S.tab plan pub [] kp) (fun _ => P) c nt rs xs h R := by
  unfold fnB at hk
  split at hk
  · rename_i hnt
    have hnt : nt ≤ 256 := by simpa using hnt
    dsimp only at hk
    rw [lenK_eq] at hk
    obtain ⟨h1, h2⟩ := chk_inv hk
    have h1 : args.length ≤ nt := by simpa using h1
    rw [argsK_eq] at h2
    have s := RSt.start hr hH hnt h1
    unfold sxFn
    refine codeB_ok hS c hd s h2 fun ρ' x e' l' H' n' env' L' h' hx s' hk' => ?_
    have fin : (ressB nt S.ty rs).run e' l' H' (fun vs => oneK vs fun v => k (.ret v) H' n') = true → resl (S.tab plan pub [] kp) env' L' h' rs (fun l => oneOr l (fun v => R v h')) := fun hq =>
      ress_sound (T := S.tab plan pub [] kp) s' hq fun vs xs hvs hq' => oneK_sound hvs hq' fun v y hv hq'' => hret ρ' v y H' h' n' hx hv s'.heap hq''
    rcases exK_inv hk' with ⟨rfl, h3⟩ | ⟨i, rfl, h3⟩ | ⟨rfl, h3⟩
    · exact fin h3
    · exact (Bool.false_ne_true h3).elim
    · exact fin h3
  · exact (Bool.false_ne_true hk).elim
theorem fnB_ok {S : SS} (hS : ∀ (A : Ar) (_ : ArOk A), SOk A P S) {plan : Nat → Plan} {pub : Nat → Bool} (hT : ∀ rs kp, TabOk P (S.tab plan pub rs kp)) {g : Nat} {fn : Func} {c : Code} (hf : P.funcs[g]? = some fn) (hb : fn.body = some c) (ho : ∀ kp, okCode (S.tab plan pub [] kp) c = true) :
    FOk P g (fnB S plan pub c fn.ntmps fn.results.toList) := by
  intro cf cfd hcf hcfd ρ args H n k h xs R Kp hr hH hk hret hpan
  obtain ⟨A, hA⟩ := Ar.ex
  refine fnp_of_sx (T := S.tab plan pub [] fun c _ h => ∃ ρ' v x H' n', Ext ρ ρ' ∧ RV ρ' v x ∧ HRel ρ' H' h ∧ k (.pan v) H' n' = true ∧ c = [{ v := x, recovered := false }]) A (hT _ _) hf hb (ho _) (fun c s h' ⟨ρ', v, x, H', n', a1, a2, a3, a4, a5⟩ => by rw [a5]; exact hpan ρ' v x H' h' n' a1 a2 a3 a4) ?_
  exact fnB_sx (hS A hA) hr hH hk hret ⟨hcf, fun {ρ' v x e l H n env L h} a1 a2 a3 a4 => ⟨ρ', v, x, H, n, a1, a3, a2.heap, a4, rfl⟩⟩
theorem fnB_okD {S : SS} (hS : ∀ (A : Ar) (_ : ArOk A), SOk A P S) {plan : Nat → Plan} {pub : Nat → Bool} (hT : ∀ rs kp, TabOk P (S.tab plan pub rs kp)) {g : Nat} {fn : Func} {c : Code} (hf : P.funcs[g]? = some fn) (hb : fn.body = some c) (ho : ∀ kp, okCode (S.tab plan pub [] kp) c = true) :
    FDOk P g (fnB S plan pub c fn.ntmps fn.results.toList) := by
  intro cf cfd hcf hcfd ρ args H n k h xs R hr hH hk hret hpan
  obtain ⟨A, hA⟩ := Ar.ex
  refine fnd_of_sx (T := S.tab plan pub [] fun _ _ _ => False) A (hT _ _) hf hb (ho _) ?_
  exact fnB_sx (hS A hA) hr hH hk hret ⟨hcf, fun {ρ' v x e l H n env L h} a1 a2 a3 a4 => hpan _ _ _ a4⟩

/-! The whole program, with so much fuel. -/
structure LK where
  run : Nat → FB
noncomputable def cfdE (lookD : Nat → FB) (cf : CF) : CF := fun g args H n k => (lookD g).run cf (fun _ _ _ _ _ => false) args H n k
noncomputable def fnE (look lookD : Nat → FB) (m : Nat) : CF := @Nat.rec (fun _ => CF) (fun _ _ _ _ _ => false) (fun _ ih g args H n k => (look g).run ih (cfdE lookD ih) args H n k) m
theorem fnE_ok {look lookD : Nat → FB} (hl : ∀ g, FOk P g (look g)) (hd : ∀ g, FDOk P g (lookD g)) : ∀ m, CfOk P (fnE look lookD m) := by
  intro m
  induction m with
  | zero => intro ρ g args H n k h xs R Kp hr hH hk; exact (Bool.false_ne_true hk).elim
  | succ m ih =>
    intro ρ g args H n k h xs R Kp hr hH hk hret hpan
    have hcd : CfDOk P (cfdE lookD (fnE look lookD m)) := by
      intro ρ g args H n k h xs R hr hH hk hret hpan
      refine hd g ih (cfd := fun _ _ _ _ _ => false) ?_ hr hH (show (lookD g).run (fnE look lookD m) _ args H n k = true from hk) hret hpan
      intro ρ g args H n k h xs R hr hH hk
      exact (Bool.false_ne_true hk).elim
    exact hl g ih hcd hr hH (show (look g).run (fnE look lookD m) (cfdE lookD (fnE look lookD m)) args H n k = true from hk) hret hpan

def H0 : HP := ⟨d, d, d, d, d, d, d, d⟩
where
  a : N8 CO := ⟨.none, .none, .none, .none, .none, .none, .none, .none⟩
  b : N8 (N8 CO) := ⟨a, a, a, a, a, a, a, a⟩
  c : N8 (N8 (N8 CO)) := ⟨b, b, b, b, b, b, b, b⟩
  d : N8 (N8 (N8 (N8 CO))) := ⟨c, c, c, c, c, c, c, c⟩
theorem lkH_H0 (p : P5) : lkH H0 p = .none := by
  have h1 : ∀ x, N8.sel x H0 = H0.d := fun x => by cases x <;> rfl
  have h2 : ∀ x, N8.sel x H0.d = H0.c := fun x => by cases x <;> rfl
  have h3 : ∀ x, N8.sel x H0.c = H0.b := fun x => by cases x <;> rfl
  have h4 : ∀ x, N8.sel x H0.b = H0.a := fun x => by cases x <;> rfl
  have h5 : ∀ x, N8.sel x H0.a = .none := fun x => by cases x <;> rfl
  unfold lkH
  rw [h1, h2, h3, h4, h5]
def p0 : P5 := ⟨.d0, .d0, .d0, .d0, .d0⟩
theorem HRel.zero (h : Heap) : HRel (fun _ => none) H0 h :=
  ⟨fun _ _ => rfl, fun p _ _ _ hp => (by rw [lkH_H0] at hp; cases hp), fun p => (by rw [lkH_H0]; trivial), fun p r l e _ _ hp => (by rw [lkH_H0] at hp; cases hp)⟩
noncomputable def retK (r : Res) (k : CV → Bool) : Bool := @Res.rec (fun _ => Bool) (fun v => k v) (fun _ => false) r
/-- A closed run that ends with 'true'. -/
noncomputable def runTrue (look lookD : Nat → FB) (m g : Nat) (args : List CV) : Bool := fnE look lookD m g args H0 p0 fun r _ _ => retK r fun v => as_bool v fun b => b
theorem run_true {look lookD : Nat → FB} (hl : ∀ g, FOk P g (look g)) (hd : ∀ g, FDOk P g (lookD g)) {m g : Nat} {args : List CV} {xs : List Value} (hr : RL (fun _ => none) args xs) (hk : runTrue look lookD m g args = true) (h : Heap) : FnX (fun _ => P) g xs h (fun v _ => v = .bool true) := by
  refine ⟨fun w hw => ?_⟩
  refine ((fnE_ok hl hd m hr (HRel.zero h) hk (R := fun v _ => v = .bool true) (Kp := fun _ _ => False) (fun ρ v x H' h' n' _ hv _ hq => ?_) (fun ρ v x H' h' n' _ hv _ hq => (Bool.false_ne_true hq).elim)).out w hw).mono fun e w' hq => ?_
  · obtain ⟨b, rfl, h1⟩ := as_bool_inv (show as_bool v _ = true from hq)
    cases hv
    rw [h1]
  · rcases hq with hq | ⟨c, h', -, hq, -⟩
    · exact hq
    · exact hq.elim

end
end Go.Cx
namespace Go.Cx
open Go.Sx

/-! Functions that defer calls. -/
structure DE where
  g : Nat
  args : List CV
  cap : List CV
abbrev DS := List DE
structure StD where
  run : (DS → D) → E → LocE → HP → P5 → DS → (E → LocE → HP → P5 → DS → Bool) → Bool
noncomputable def StD.fail : StD := ⟨fun _ _ _ _ _ _ _ => false⟩

section
variable {A : Ar} [hA : ArOk A] {T : Tab} {TT : List Df → Tab} {P : Program} {nt : Nat} {ρ : Rn} {e : E} {l : LocE} {H : HP} {env : Sx.Env} {L : Sx.Loc} {h : Heap} {n : P5}

def RDs (ρ : Rn) : DS → List Df → Prop
  | [], fs => fs = []
  | x :: r, fs => ∃ as cs q, fs = .call x.g as cs :: q ∧ RL ρ x.args as ∧ RL ρ x.cap cs ∧ RDs ρ r q
theorem RDs.mono {ρ ρ' : Rn} (hx : Ext ρ ρ') : ∀ {ds : DS} {fs : List Df}, RDs ρ ds fs → RDs ρ' ds fs
  | [], _, h => h
  | x :: r, fs, ⟨as, cs, q, h1, h2, h3, h4⟩ => ⟨as, cs, q, h1, h2.mono hx, h3.mono hx, RDs.mono hx h4⟩

/-- What is asked of calls and panics, whatever is deferred. -/
def DDOk (TT : List Df → Tab) (P : Program) (nt : Nat) (ρ : Rn) (dd : DS → D) : Prop := ∀ {ρ' : Rn} {ds : DS} {fs : List Df}, Ext ρ ρ' → RDs ρ' ds fs → DOk (TT fs) P nt ρ' (dd ds)
theorem DDOk.mono {dd : DS → D} {ρ' : Rn} (x : DDOk TT P nt ρ dd) (hx : Ext ρ ρ') : DDOk TT P nt ρ' dd := fun h1 h2 => x (hx.trans h1) h2
abbrev SmD := (List Df → Sx.Env → Sx.Loc → Heap → Prop) → List Df → Sx.Env → Sx.Loc → Heap → Prop
def StDOk (TT : List Df → Tab) (P : Program) (nt : Nat) (x : StD) (m : SmD) : Prop :=
  ∀ {ρ : Rn} {dd : DS → D} {ds : DS} {fs : List Df} {e : E} {l : LocE} {H : HP} {n : P5} {env : Sx.Env} {L : Sx.Loc} {h : Heap} {k : E → LocE → HP → P5 → DS → Bool} {K : List Df → Sx.Env → Sx.Loc → Heap → Prop}, DDOk TT P nt ρ dd → RDs ρ ds fs → RSt nt ρ e l H env L h → x.run dd e l H n ds k = true →
    (∀ ρ' e' l' H' n' ds' fs' env' L' h', Ext ρ ρ' → RDs ρ' ds' fs' → RSt nt ρ' e' l' H' env' L' h' → k e' l' H' n' ds' = true → K fs' env' L' h') → m K fs env L h

noncomputable def sdOf (x : StB) : StD := ⟨fun dd e l H n ds k => x.run (dd ds) e l H n fun e l H n => k e l H n ds⟩
noncomputable def sdDefer (f : GB) (as : List GB) (q : PB) : StD := ⟨fun dd e l H n ds k => as_fn (f.run e) fun g a c => visK as e fun bs => appK a bs fun bs => q.run e (.tup []) fun e => k e l H n (⟨g, bs, c⟩ :: ds)⟩
/-- An operation; nothing if its guard is not met. -/
noncomputable def opD (S : SS) (nt : Nat) (pub : Nat → Bool) (all : List Oper) (o : Oper) : StD := match o.op with
  | .defer c => match c.callee, o.guard with
    | .value f, none => sdDefer (opG nt f) (c.args.toList.map (opG nt)) (pB nt o.dst)
    | _, _ => .fail
  | _ => sdOf (opB S nt pub all o)
noncomputable def sdSeq (a b : StD) : StD := ⟨fun dd e l H n ds k => a.run dd e l H n ds fun e l H n ds => b.run dd e l H n ds k⟩
noncomputable def opsD (S : SS) (nt : Nat) (pub : Nat → Bool) (all : List Oper) (os : List Oper) : StD := @List.rec Oper (fun _ => StD) ⟨fun _ e l H n ds k => k e l H n ds⟩ (fun o _ ih => sdSeq (opD S nt pub all o) ih) os

/-- The tables of one function: all alike but for what is asked of panics. -/
def Alike (S : SS) (plan : Nat → Plan) (pub : Nat → Bool) (TT : List Df → Tab) : Prop := ∀ fs, ∃ rs kp, TT fs = S.tab plan pub rs kp

theorem sdOf_ok {x : StB} {m : List Df → Sm} (h : ∀ fs, StOk (TT fs) P nt x (m fs)) : StDOk TT P nt (sdOf x) fun K fs env L h => m fs (fun env L h => K fs env L h) env L h := by
  intro ρ dd ds fs e l H n env L h' k K hd hds s hk hK
  exact h fs (hd (.refl ρ) hds) s hk fun ρ' e' l' H' n' env' L' h'' hx s' hk' => hK ρ' e' l' H' n' ds fs env' L' h'' hx (hds.mono hx) s' hk'

theorem opD_ok {S : SS} (hS : SOk A P S) {plan : Nat → Plan} {pub : Nat → Bool} (hT : Alike S plan pub TT) {all : List Oper} {o : Oper} {rest : List Oper} {r : StD} (hr : StDOk TT P nt r fun K fs env L h => sxOpsD A TT (fun _ => P) all K rest fs env L h) :
    StDOk TT P nt (sdSeq (opD S nt pub all o) r) fun K fs env L h => sxOpsD A TT (fun _ => P) all K (o :: rest) fs env L h := by
  intro ρ dd ds fs e l H n env L h k K hd hds s hk hK
  have hk : (opD S nt pub all o).run dd e l H n ds (fun e l H n ds => r.run dd e l H n ds k) = true := hk
  have go : ∀ ρ' e' l' H' n' ds' fs' env' L' h', Ext ρ ρ' → RDs ρ' ds' fs' → RSt nt ρ' e' l' H' env' L' h' → r.run dd e' l' H' n' ds' k = true → sxOpsD A TT (fun _ => P) all K rest fs' env' L' h' := fun ρ' e' l' H' n' ds' fs' env' L' h' hx hds' s' hk' =>
    hr (hd.mono hx) hds' s' hk' fun ρ'' e'' l'' H'' n'' ds'' fs'' env'' L'' h'' hx2 => hK ρ'' e'' l'' H'' n'' ds'' fs'' env'' L'' h'' (hx.trans hx2)
  unfold opD at hk
  split at hk
  · rename_i c ho
    split at hk
    · rename_i f hc hg
      unfold sdDefer at hk
      dsimp only at hk
      obtain ⟨g, a, cp, h1, h2⟩ := as_fn_inv hk
      have hf := s.op f
      rw [h1] at hf
      obtain ⟨v, h3, xs, ys, h4, h5, rfl⟩ := hf
      obtain ⟨bs, zs, h6, h7, h8⟩ := vis_sound s h2
      rw [appK_eq] at h8
      obtain ⟨e', h9, h10⟩ := put_sound s (v := .tup []) (x := .v undef) (.of ⟨[], rfl, rfl⟩) h8
      show gd all env o _ _
      unfold gd
      simp only [hg, ho, hc, h3, h6]
      exact go ρ e' l H n _ _ _ L h (.refl ρ) (show RDs ρ (⟨g, a ++ bs, cp⟩ :: ds) _ from ⟨_, _, _, rfl, by simpa using h4.app h7, by simpa using h5, hds⟩) h10 h9
    · exact (Bool.false_ne_true hk).elim
  · rename_i hno
    have key : StDOk TT P nt (sdOf (opB S nt pub all o)) fun K fs env L h => gd all env o
      (fun _ => match isLight (TT fs) o with
        | true => lightx A (TT fs) (fun _ => P) o (sev env) L h (fun x nb => K fs (put env o.dst x) (addL L o.dst nb) h)
        | false => hx A (TT fs) (fun _ => P) o (sev env) L h (fun x L' h' => K fs (put env o.dst x) L' h'))
      (fun _ => K fs (put env o.dst (.v undef)) L h) := by
      refine sdOf_ok (m := fun fs K env L h => gd all env o
        (fun _ => match isLight (TT fs) o with
          | true => lightx A (TT fs) (fun _ => P) o (sev env) L h (fun x nb => K (put env o.dst x) (addL L o.dst nb) h)
          | false => hx A (TT fs) (fun _ => P) o (sev env) L h (fun x L' h' => K (put env o.dst x) L' h'))
        (fun _ => K (put env o.dst (.v undef)) L h)) fun fs => ?_
      obtain ⟨rs, kp, he⟩ := hT fs
      rw [he]
      exact opB_ok hS
    have := key hd hds s hk (K := fun fs env L h => sxOpsD A TT (fun _ => P) all K rest fs env L h) go
    show gd all env o _ _
    have e1 : ∀ (X : Call → Prop) (Y : Prop), (match o.op with
      | .defer c => X c
      | _ => Y) = Y := fun X Y => by
      split
      · rename_i c hc; exact absurd hc (hno c)
      · rfl
    refine (congrArg (fun z => gd all env o z _) (funext fun _ => ?_)).mpr this
    exact e1 _ _
theorem opsD_ok {S : SS} (hS : SOk A P S) {plan : Nat → Plan} {pub : Nat → Bool} (hT : Alike S plan pub TT) {all : List Oper} (os : List Oper) : StDOk TT P nt (opsD S nt pub all os) fun K fs env L h => sxOpsD A TT (fun _ => P) all K os fs env L h := by
  induction os with
  | nil =>
    intro ρ dd ds fs e l H n env L h k K hd hds s hk hK
    exact hK ρ e l H n ds fs env L h (.refl ρ) hds s hk
  | cons o r ih => exact opD_ok hS hT ih

structure CdD where
  run : (DS → D) → E → LocE → HP → P5 → DS → (Ex → E → LocE → HP → P5 → DS → Bool) → Bool
noncomputable def cdLift (x : CdB) : CdD := ⟨fun dd e l H n ds k => x.run (dd ds) e l H n fun y e l H n => k y e l H n ds⟩
noncomputable def codeD (S : SS) (nt : Nat) (plan : Nat → Plan) (pub : Nat → Bool) (c : Code) : CdD := @Code.rec (fun _ => CdD)
  (cdLift (codeB S nt plan pub .skip))
  (fun id ops draw => match draw with
    | false => ⟨fun dd e l H n ds k => (opsD S nt pub ops.toList ops.toList).run dd e l H n ds fun e l H n ds => k .normal e l H n ds⟩
    | true => cdLift (codeB S nt plan pub (.region id ops true)))
  (fun _ _ a b => ⟨fun dd e l H n ds k => a.run dd e l H n ds fun x e l H n ds => exK x (b.run dd e l H n ds k) (fun i => k (.exit i) e l H n ds) (k .ret e l H n ds)⟩)
  (fun c _ _ a b => match opG nt c with
    | g => ⟨fun dd e l H n ds k => as_bool (g.run e) fun t => ite' t (a.run dd e l H n ds k) (b.run dd e l H n ds k)⟩)
  (fun id _ a => ⟨fun dd e l H n ds k => a.run dd e l H n ds fun x e l H n ds => exK x (k .normal e l H n ds) (fun i => ite' (Nat.beq i id) (k .normal e l H n ds) (k (.exit i) e l H n ds)) (k .ret e l H n ds)⟩)
  (fun c _ => cdLift (codeB S nt plan pub (.loop c)))
  (fun _ _ _ _ _ _ => cdLift .fail)
  (fun id => cdLift (codeB S nt plan pub (.exit id)))
  (fun c _ => cdLift (codeB S nt plan pub (.scope c)))
  (fun q => cdLift (codeB S nt plan pub (.label q))) (fun _ => cdLift .fail)
  (cdLift (codeB S nt plan pub .ret))
  (fun _ => cdLift .fail) c
def CdDOk (A : Ar) (TT : List Df → Tab) (P : Program) (nt : Nat) (x : CdD) (c : Code) : Prop :=
  ∀ {ρ : Rn} {dd : DS → D} {ds : DS} {fs : List Df} {e : E} {l : LocE} {H : HP} {n : P5} {env : Sx.Env} {L : Sx.Loc} {h : Heap} {k : Ex → E → LocE → HP → P5 → DS → Bool} {K : Ex → List Df → Sx.Env → Sx.Loc → Heap → Prop}, DDOk TT P nt ρ dd → RDs ρ ds fs → RSt nt ρ e l H env L h → x.run dd e l H n ds k = true →
    (∀ ρ' x e' l' H' n' ds' fs' env' L' h', Ext ρ ρ' → RDs ρ' ds' fs' → RSt nt ρ' e' l' H' env' L' h' → k x e' l' H' n' ds' = true → K x fs' env' L' h') → sxD A TT (fun _ => P) c K fs env L h
theorem lift_run {S : SS} (hS : SOk A P S) {plan : Nat → Plan} {pub : Nat → Bool} (hT : Alike S plan pub TT) {c : Code} {ρ : Rn} {dd : DS → D} {ds : DS} {fs : List Df} {e : E} {l : LocE} {H : HP} {n : P5} {env : Sx.Env} {L : Sx.Loc} {h : Heap} {k : Ex → E → LocE → HP → P5 → DS → Bool} {K : Ex → List Df → Sx.Env → Sx.Loc → Heap → Prop}
    (hd : DDOk TT P nt ρ dd) (hds : RDs ρ ds fs) (s : RSt nt ρ e l H env L h) (hk : (cdLift (codeB S nt plan pub c)).run dd e l H n ds k = true)
    (hK : ∀ ρ' x e' l' H' n' ds' fs' env' L' h', Ext ρ ρ' → RDs ρ' ds' fs' → RSt nt ρ' e' l' H' env' L' h' → k x e' l' H' n' ds' = true → K x fs' env' L' h') : sx A (TT fs) (fun _ => P) c (fun e env L h => K e fs env L h) env L h := by
  obtain ⟨rs, kp, he⟩ := hT fs
  have hd' := hd (.refl ρ) hds
  rw [he] at hd' ⊢
  exact codeB_ok hS c hd' s hk fun ρ' x e' l' H' n' env' L' h' hx s' hk' => hK ρ' x e' l' H' n' ds fs env' L' h' hx (hds.mono hx) s' hk'
theorem codeD_ok {S : SS} (hS : SOk A P S) {plan : Nat → Plan} {pub : Nat → Bool} (hT : Alike S plan pub TT) (c : Code) : CdDOk A TT P nt (codeD S nt plan pub c) c := by
  induction c with
  | skip => intro ρ dd ds fs e l H n env L h k K hd hds s hk hK; exact lift_run hS hT hd hds s hk hK
  | region id ops draw =>
    intro ρ dd ds fs e l H n env L h k K hd hds s hk hK
    cases draw with
    | false => exact opsD_ok hS hT _ hd hds s hk fun ρ' e' l' H' n' ds' fs' env' L' h' hx hds' s' hk' => hK ρ' .normal _ _ _ _ _ _ _ _ _ hx hds' s' hk'
    | true => exact lift_run hS hT hd hds s hk hK
  | seq a b iha ihb =>
    intro ρ dd ds fs e l H n env L h k K hd hds s hk hK
    refine iha hd hds s (show (codeD S nt plan pub a).run dd e l H n ds (fun x e l H n ds => exK x ((codeD S nt plan pub b).run dd e l H n ds k) (fun i => k (.exit i) e l H n ds) (k .ret e l H n ds)) = true from hk) fun ρ' x e' l' H' n' ds' fs' env' L' h' hx hds' s' hk' => ?_
    rcases exK_inv hk' with ⟨rfl, h1⟩ | ⟨i, rfl, h1⟩ | ⟨rfl, h1⟩
    · exact ihb (hd.mono hx) hds' s' h1 fun ρ'' x'' e'' l'' H'' n'' ds'' fs'' env'' L'' h'' hx2 hds'' s'' hk'' => hK _ _ _ _ _ _ _ _ _ _ _ (hx.trans hx2) hds'' s'' hk''
    · exact hK _ _ _ _ _ _ _ _ _ _ _ hx hds' s' h1
    · exact hK _ _ _ _ _ _ _ _ _ _ _ hx hds' s' h1
  | cond c a b iha ihb =>
    intro ρ dd ds fs e l H n env L h k K hd hds s hk hK
    obtain ⟨t, h1, h2⟩ := (s.op c).bool (show as_bool ((opG nt c).run e) (fun t => ite' t ((codeD S nt plan pub a).run dd e l H n ds k) ((codeD S nt plan pub b).run dd e l H n ds k)) = true from hk)
    unfold sxD
    simp only [h1]
    rcases ite'_inv h2 with ⟨rfl, h3⟩ | ⟨rfl, h3⟩
    · exact iha hd hds s h3 hK
    · exact ihb hd hds s h3 hK
  | block id c ih =>
    intro ρ dd ds fs e l H n env L h k K hd hds s hk hK
    refine ih hd hds s (show (codeD S nt plan pub c).run dd e l H n ds (fun x e l H n ds => exK x (k .normal e l H n ds) (fun i => ite' (Nat.beq i id) (k .normal e l H n ds) (k (.exit i) e l H n ds)) (k .ret e l H n ds)) = true from hk) fun ρ' x e' l' H' n' ds' fs' env' L' h' hx hds' s' hk' => ?_
    rcases exK_inv hk' with ⟨rfl, h1⟩ | ⟨i, rfl, h1⟩ | ⟨rfl, h1⟩
    · exact hK _ _ _ _ _ _ _ _ _ _ _ hx hds' s' h1
    · rcases ite'_inv h1 with ⟨h2, h3⟩ | ⟨h2, h3⟩
      · have h2 : i = id := Nat.eq_of_beq_eq_true h2
        simp only [h2, if_true]
        exact hK _ _ _ _ _ _ _ _ _ _ _ hx hds' s' h3
      · have h2 : i ≠ id := fun e => by rw [e, Nat.beq_refl] at h2; cases h2
        simp only [h2, if_false]
        exact hK _ _ _ _ _ _ _ _ _ _ _ hx hds' s' h3
    · exact hK _ _ _ _ _ _ _ _ _ _ _ hx hds' s' h1
  | loop c ih => intro ρ dd ds fs e l H n env L h k K hd hds s hk hK; exact lift_run hS hT hd hds s hk hK
  | rangeFunc f ps a c iha ihc => intro ρ dd ds fs e l H n env L h k K hd hds s hk hK; exact (Bool.false_ne_true hk).elim
  | exit id => intro ρ dd ds fs e l H n env L h k K hd hds s hk hK; exact lift_run hS hT hd hds s hk hK
  | scope c ih => intro ρ dd ds fs e l H n env L h k K hd hds s hk hK; exact lift_run hS hT hd hds s hk hK
  | label q => intro ρ dd ds fs e l H n env L h k K hd hds s hk hK; exact lift_run hS hT hd hds s hk hK
  | goto q => intro ρ dd ds fs e l H n env L h k K hd hds s hk hK; exact (Bool.false_ne_true hk).elim
  | ret => intro ρ dd ds fs e l H n env L h k K hd hds s hk hK; exact lift_run hS hT hd hds s hk hK
  | refuse w => intro ρ dd ds fs e l H n env L h k K hd hds s hk hK; exact (Bool.false_ne_true hk).elim

/-- The deferred calls, the last one first. -/
noncomputable def runDK (fn : Nat → Bool) (cfd : CF) (ds : DS) (H : HP) (n : P5) (k : HP → P5 → Bool) : Bool := @List.rec DE (fun _ => HP → P5 → Bool) (fun H n => k H n) (fun x _ ih H n => @DE.rec (fun _ => Bool) (fun g as c => chk (fn g) (appK as c fun bs => cfd g bs H n fun r H n => @Res.rec (fun _ => Bool) (fun _ => ih H n) (fun _ => false) r)) x) ds H n
theorem runD_sound' {cfd : CF} (hc : CfDOk P cfd) {T : Tab} {k : HP → P5 → Bool} {K : Heap → Prop} : ∀ {ds : DS} {fs : List Df} {ρ : Rn} {H : HP} {n : P5} {h : Heap}, RDs ρ ds fs → HRel ρ H h → runDK T.fn cfd ds H n k = true →
    (∀ ρ' H' n' h', Ext ρ ρ' → HRel ρ' H' h' → k H' n' = true → K h') → runD T (fun _ => P) fs K h
  | [], _, ρ, H, n, h, hds, hH, hk, hK => by cases hds; exact hK ρ H n h (.refl ρ) hH hk
  | ⟨g, as, c⟩ :: r, fs, ρ, H, n, h, ⟨xs, cs, q, e1, h1, h2, h3⟩, hH, hk, hK => by
    subst e1
    have hk : chk (T.fn g) (appK as c fun bs => cfd g bs H n fun r' H n => @Res.rec (fun _ => Bool) (fun _ => runDK T.fn cfd r H n k) (fun _ => false) r') = true := hk
    obtain ⟨h4, h5⟩ := chk_inv hk
    rw [appK_eq] at h5
    unfold runD
    simp only [h4]
    exact hc (h1.app h2) hH h5 (fun ρ' v x H' h' n' hx hv hH' hk' => runD_sound' hc (h3.mono hx) hH' hk' fun ρ'' H'' n'' h'' hx2 hH'' hk'' => hK ρ'' H'' n'' h'' (hx.trans hx2) hH'' hk'') (fun v H' n' hk' => (Bool.false_ne_true hk').elim)

/-- The body of a function that defers calls, and in which nobody panics. -/
noncomputable def fnBD (S : SS) (plan : Nat → Plan) (pub : Nat → Bool) (c : Code) (nt : Nat) (rs : List ResultVar) : FB := match codeD S nt plan pub c, ressB nt S.ty rs, Nat.ble nt 256 with
  | cd, rl, true => ⟨fun cf cfd args H n k => lenK args fun m => chk (Nat.ble m nt) (argsK args 0 e0 fun e => cd.run (fun _ => ⟨cf, fun _ _ _ _ _ => false⟩) e [] H n [] fun x e l H n ds => exK x (runDK S.fn cfd ds H n fun H n => rl.run e l H fun vs => oneK vs fun v => k (.ret v) H n) (fun _ => false) (runDK S.fn cfd ds H n fun H n => rl.run e l H fun vs => oneK vs fun v => k (.ret v) H n))⟩
  | _, _, false => .fail
theorem FnX.toP {p : Unit → Program} {f : FuncId} {args : List Value} {h : Heap} {R : Value → Heap → Prop} {K : List PanicEntry → Heap → Prop} (x : FnX p f args h R) : FnPX p f args h R K := ⟨fun w hw => (x.out w hw).mono fun e w' hq => .inl hq⟩
theorem fnBD_ok {S : SS} (hS : ∀ (A : Ar) (_ : ArOk A), SOk A P S) {plan : Nat → Plan} {pub : Nat → Bool} (hT : ∀ rs kp, TabOk P (S.tab plan pub rs kp)) {g : Nat} {fn : Func} {c : Code} (hf : P.funcs[g]? = some fn) (hb : fn.body = some c) (ho : ∀ kp, okCode (S.tab plan pub [] kp) c = true) :
    FOk P g (fnBD S plan pub c fn.ntmps fn.results.toList) := by
  intro cf cfd hcf hcfd ρ args H n k h xs R Kp hr hH hk hret hpan
  obtain ⟨A, hA⟩ := Ar.ex
  refine FnX.toP (fn_of_sxD (T := S.tab plan pub [] fun _ _ _ => False) A (hT _ _) hf hb (ho _) ?_)
  unfold fnBD at hk
  split at hk
  · rename_i hnt
    have hnt : fn.ntmps ≤ 256 := by simpa using hnt
    dsimp only at hk
    rw [lenK_eq] at hk
    obtain ⟨h1, h2⟩ := chk_inv hk
    have h1 : args.length ≤ fn.ntmps := by simpa using h1
    rw [argsK_eq] at h2
    have s := RSt.start hr hH hnt h1
    have hd : DDOk (fun _ => S.tab plan pub [] fun _ _ _ => False) P fn.ntmps ρ (fun _ => ⟨cf, fun _ _ _ _ _ => false⟩) := fun _ _ => ⟨hcf, fun _ _ _ a4 => (Bool.false_ne_true a4).elim⟩
    unfold sxFnD
    refine codeD_ok (hS A hA) (TT := fun _ => S.tab plan pub [] fun _ _ _ => False) (fun _ => ⟨[], _, rfl⟩) c hd (show RDs ρ [] [] from rfl) s h2 fun ρ' x e' l' H' n' ds' fs' env' L' h' hx hds' s' hk' => ?_
    have fin : runDK S.fn cfd ds' H' n' (fun H n => (ressB fn.ntmps S.ty fn.results.toList).run e' l' H fun vs => oneK vs fun v => k (.ret v) H n) = true → runD (S.tab plan pub [] fun _ _ _ => False) (fun _ => P) fs' (fun h => resl (S.tab plan pub [] fun _ _ _ => False) env' L' h fn.results.toList (fun l => oneOr l (fun v => R v h))) h' := fun hq => by
      refine runD_sound' (T := S.tab plan pub [] fun _ _ _ => False) hcfd hds' s'.heap hq fun ρ'' H'' n'' h'' hx2 hH'' hk'' => ?_
      exact ress_sound (T := S.tab plan pub [] fun _ _ _ => False) (s'.ext hx2 hH'') hk'' fun vs xs hvs hq' => oneK_sound hvs hq' fun v y hv hq'' => hret ρ'' v y H'' h'' n'' (hx.trans hx2) hv hH'' hq''
    rcases exK_inv hk' with ⟨rfl, h3⟩ | ⟨i, rfl, h3⟩ | ⟨rfl, h3⟩
    · exact fin h3
    · exact (Bool.false_ne_true h3).elim
    · exact fin h3
  · exact (Bool.false_ne_true hk).elim

end
end Go.Cx
namespace Go.Cx
open Go.Sx

/-! Functions without a body. -/
inductive NK where
  | none
  | load (j : IntKind)
  | store
  | cas (j : IntKind)
  | add (j : IntKind)
  | loadP
  | storeP
  | mark0
  | mark1
  | cmp

noncomputable def arg0 (l : List CV) (k : Bool) : Bool := @List.rec CV (fun _ => Bool) k (fun _ _ _ => false) l
noncomputable def arg1 (l : List CV) (k : CV → Bool) : Bool := @List.rec CV (fun _ => Bool) false (fun x r _ => arg0 r (k x)) l
noncomputable def arg2 (l : List CV) (k : CV → CV → Bool) : Bool := @List.rec CV (fun _ => Bool) false (fun x r _ => arg1 r (k x)) l
noncomputable def arg3 (l : List CV) (k : CV → CV → CV → Bool) : Bool := @List.rec CV (fun _ => Bool) false (fun x r _ => arg2 r (k x)) l

section
variable {A : Ar} [hA : ArOk A] {T : Tab} {P : Program} {nt : Nat} {ρ : Rn} {e : E} {l : LocE} {H : HP} {env : Sx.Env} {L : Sx.Loc} {h : Heap} {n : P5}

theorem arg0_inv {as : List CV} {xs : List Value} (hr : RL ρ as xs) {k : Bool} (hk : arg0 as k = true) : xs = [] ∧ k = true := by
  cases as with
  | nil => cases hr; exact ⟨rfl, hk⟩
  | cons a r => exact (Bool.false_ne_true hk).elim
theorem arg1_inv {as : List CV} {xs : List Value} (hr : RL ρ as xs) {k : CV → Bool} (hk : arg1 as k = true) : ∃ v x, xs = [x] ∧ RV ρ v x ∧ k v = true := by
  cases as with
  | nil => exact (Bool.false_ne_true hk).elim
  | cons a r =>
    obtain ⟨x, q, rfl, h1, h2⟩ := hr
    obtain ⟨rfl, h3⟩ := arg0_inv h2 (show arg0 r (k a) = true from hk)
    exact ⟨a, x, rfl, h1, h3⟩
theorem arg2_inv {as : List CV} {xs : List Value} (hr : RL ρ as xs) {k : CV → CV → Bool} (hk : arg2 as k = true) : ∃ v w x y, xs = [x, y] ∧ RV ρ v x ∧ RV ρ w y ∧ k v w = true := by
  cases as with
  | nil => exact (Bool.false_ne_true hk).elim
  | cons a r =>
    obtain ⟨x, q, rfl, h1, h2⟩ := hr
    obtain ⟨w, y, rfl, h3, h4⟩ := arg1_inv h2 (show arg1 r (k a) = true from hk)
    exact ⟨a, w, x, y, rfl, h1, h3, h4⟩
theorem arg3_inv {as : List CV} {xs : List Value} (hr : RL ρ as xs) {k : CV → CV → CV → Bool} (hk : arg3 as k = true) : ∃ u v w x y z, xs = [x, y, z] ∧ RV ρ u x ∧ RV ρ v y ∧ RV ρ w z ∧ k u v w = true := by
  cases as with
  | nil => exact (Bool.false_ne_true hk).elim
  | cons a r =>
    obtain ⟨x, q, rfl, h1, h2⟩ := hr
    obtain ⟨v, w, y, z, rfl, h3, h4, h5⟩ := arg2_inv h2 (show arg2 r (k a) = true from hk)
    exact ⟨a, v, w, x, y, z, rfl, h1, h3, h4, h5⟩

/-- A number of a kind. -/
noncomputable def kindK (j : IntKind) (v : CV) (k : Bool) : Bool := match j with
  | .i64 => as_i64 v fun _ => k
  | .i32 => as_i32 v fun _ => k
  | .u8 => as_u8 v fun _ => k
  | .u32 => as_u32 v fun _ => k
  | .u64 => as_u64 v fun _ => k
  | _ => false
theorem kindK_inv {j : IntKind} {v : CV} {k : Bool} (hk : kindK j v k = true) {x : Value} (hx : RV ρ v x) : ∃ n, x = .int j n ∧ k = true := by
  unfold kindK at hk
  split at hk
  · obtain ⟨a, rfl, h1⟩ := as_i64_inv hk; exact ⟨_, hx, h1⟩
  · obtain ⟨a, rfl, h1⟩ := as_i32_inv hk; exact ⟨_, hx, h1⟩
  · obtain ⟨a, rfl, h1⟩ := as_u8_inv hk; exact ⟨_, hx, h1⟩
  · obtain ⟨a, rfl, h1⟩ := as_u32_inv hk; exact ⟨_, hx, h1⟩
  · obtain ⟨a, rfl, h1⟩ := as_u64_inv hk; exact ⟨_, hx, h1⟩
  · exact (Bool.false_ne_true hk).elim

/-- What is known of a cell. -/
theorem cell_of (g : HRel ρ H h) {b : P5} {r : RB} (hb : ρ b = some r) {c : List CV} {t : Nat} (hc : lkH H b = .cells c t ∨ lkH H b = .ro c t) {off : Nat} {v : CV} (hv : c[off]? = some v) {w : World} (hw : Agr h w) :
    ∃ x, RV ρ v x ∧ w.cell? ⟨r.blk, r.bas + off, none⟩ = some x := by
  have : ∃ c' fr, h r.blk = some (.cells c' t fr) ∧ RAt ρ c c' r.bas := by
    have := g.blk b
    rcases hc with hc | hc <;> rw [hc, hb] at this
    · obtain ⟨r', c', fr, h1, h2, h3, h4, h5⟩ := this; cases h1; exact ⟨c', fr, h2, h4⟩
    · obtain ⟨r', c', fr, h1, h2, h3, h4⟩ := this; cases h1; exact ⟨c', fr, h2, h4⟩
  obtain ⟨c', fr, h1, h2⟩ := this
  obtain ⟨x, h3, h4⟩ := h2 off v hv
  exact ⟨x, h4, by simp [World.cell?, hw _ _ h1, h3]⟩
/-- A cell is written. -/
theorem cell_set (g : HRel ρ H h) {b : P5} {r : RB} (hb : ρ b = some r) {c : List CV} {t : Nat} (hc : lkH H b = .cells c t) {off : Nat} (ho : off + 1 ≤ c.length) {v : CV} {x : Value} (hv : RV ρ v x) {w : World} (hw : Agr h w) :
    w.frozen? ⟨r.blk, r.bas + off, none⟩ = false ∧ (∃ u, w.cell? ⟨r.blk, r.bas + off, none⟩ = some u) ∧ ∃ h', After h w h' (w.setCell ⟨r.blk, r.bas + off, none⟩ x) ∧ HRel ρ (stH H b (.cells (over off [v] c) t)) h' := by
  have hro := g.blk b
  rw [hc, hb] at hro
  obtain ⟨r', c', fr, h1, h2, h3, h4, h5⟩ := hro
  cases h1
  have hlt : r.bas + off < c'.size := by
    obtain ⟨u, h6, -⟩ := h4 off (c[off]'(by omega)) (by simp)
    exact (Array.getElem?_eq_some_iff.1 h6).1
  have hb2 := hw _ _ h2
  refine ⟨?_, ⟨c'[r.bas + off], by simp [World.cell?, hb2, hlt]⟩, hset h r.blk (.cells (c'.setIfInBounds (r.bas + off) x) t fr), ?_, ?_⟩
  · have := h5 (r.bas + off) (by omega)
    simp only [World.frozen?, hb2]
    simp only [Bool.and_eq_false_iff, decide_eq_false_iff_not]
    by_cases q : fr.1 ≤ r.bas + off
    · exact .inr fun q2 => this ⟨q, q2⟩
    · exact .inl q
  · refine After.set hw h2 ?_ ?_ ?_ ?_
    · simp [World.setCell, Array.getElem?_modify, hb2]
    · intro b hb
      simp [World.setCell, Array.getElem?_modify, Ne.symm hb]
    · simp [World.setCell]
    · exact ⟨rfl, rfl, rfl⟩
  · refine g.write hb (by rw [hc]; rfl) (by simp) (show RO _ (.cells _ t) _ _ from ⟨r, _, fr, rfl, by unfold Sx.hset; rw [if_pos rfl], by simpa using h3, ?_, h5⟩) (fun l e he => by cases he; exact ⟨c, hc, over_len (by simpa using ho)⟩)
    intro i u hu
    rw [over_get (by simpa using ho)] at hu
    split at hu
    · rename_i hi
      have : i = off := by simp at hi; omega
      subst this
      simp at hu
      subst hu
      exact ⟨x, by rw [Array.getElem?_setIfInBounds_self_of_lt hlt], hv⟩
    · rename_i hi
      obtain ⟨y, h6, h7⟩ := h4 i u hu
      refine ⟨y, ?_, h7⟩
      have : i ≠ off := fun e => hi (by subst e; simp)
      rw [Array.getElem?_setIfInBounds_ne (by omega)]
      exact h6

/-- Cells read, cells written, by an address. -/
noncomputable def rdAt (H : HP) (a : CV) (k : CV → Bool) : Bool := as_ptr a fun b off => hget H b fun o => asRead o fun c _ => nthK off c fun v => fV v k
noncomputable def wrAt (H : HP) (a v : CV) (k : HP → Bool) : Bool := as_ptr a fun b off => hmod H b (fun o k => asCells o fun c t => ovK off [v] c fun c => k (.cells c t)) k
theorem rdAt_inv (g : HRel ρ H h) {a : CV} {x : Value} (ha : RV ρ a x) {k : CV → Bool} (hk : rdAt H a k = true) : ∃ ad v, x = .pointer (some ad) ∧ k v = true ∧ ∀ w, Agr h w → ∃ y, RV ρ v y ∧ w.cell? ad = some y := by
  obtain ⟨b, off, rfl, h1⟩ := as_ptr_inv hk
  obtain ⟨r, h2, rfl⟩ := ha
  rw [hget_eq] at h1
  obtain ⟨c, t, h3, h4⟩ := asRead_inv h1
  obtain ⟨v, h5, h6⟩ := nthK_inv h4
  rw [fV_eq] at h6
  exact ⟨_, v, rfl, h6, fun w hw => cell_of g h2 h3 h5 hw⟩
theorem wrAt_inv (g : HRel ρ H h) {a v : CV} {x y : Value} (ha : RV ρ a x) (hv : RV ρ v y) {k : HP → Bool} (hk : wrAt H a v k = true) : ∃ ad H', x = .pointer (some ad) ∧ k H' = true ∧ ∀ w, Agr h w → w.frozen? ad = false ∧ (∃ u, w.cell? ad = some u) ∧ ∃ h', After h w h' (w.setCell ad y) ∧ HRel ρ H' h' := by
  obtain ⟨b, off, rfl, h1⟩ := as_ptr_inv hk
  obtain ⟨r, h2, rfl⟩ := ha
  rw [hmod_eq] at h1
  obtain ⟨c, t, h3, h4⟩ := asCells_inv h1
  obtain ⟨h5, h6⟩ := ovK_inv h4
  exact ⟨_, _, rfl, h6, fun w hw => cell_set g h2 h3 (by simpa using h5) hv hw⟩

theorem run_call_loadP {f : FuncId} {fn : Func} (ok : ExtOk P f fn) (he : Extern.find fn = some (Extern.Atomic.loadT .ptr)) {a : Addr} {x : Option Addr} {w : World} (hc : w.cell? a = some (.pointer x)) :
    (callFunc f #[.pointer (some a)]).run P w = .ok (.value (.pointer x)) w := by
  rw [run_callFunc_extern ok.hf ok.hname ok.hb ok.hn he]
  change (Sem.run P (do Extern.Atomic.read .ptr (← asAddr (.pointer (some a)))) w).andThen _ = _
  simp [Extern.Atomic.read, asAddr, hc, Result.andThen]
theorem run_call_storeP {f : FuncId} {fn : Func} (ok : ExtOk P f fn) (he : Extern.find fn = some Extern.Atomic.storeT) {a : Addr} {y : Option Addr} {u : Value} {w : World} (hc : w.cell? a = some u) (hz : w.frozen? a = false) :
    (callFunc f #[.pointer (some a), .pointer y]).run P w = .ok (.value (.tuple #[])) (w.setCell a (.pointer y)) := by
  rw [run_callFunc_extern ok.hf ok.hname ok.hb ok.hn he]
  change (Sem.run P (do
    store (← asAddr (.pointer (some a))) (.pointer y) .atomic
    pure Extern.Atomic.none_) w).andThen _ = _
  simp [asAddr, hc, hz, run_store P w a (.pointer y) .atomic rfl, Result.andThen, Extern.Atomic.none_]

/-- A pointer, nil or not, to a block. -/
noncomputable def ptrK (v : CV) (k : Bool) : Bool := @CV.rec (fun _ => Bool) (fun _ => Bool) false (fun _ => false) (fun _ => false) (fun _ => false) (fun _ => false) (fun _ => false) (fun _ => false) (fun _ _ => false) k (fun _ _ => k) (fun _ _ => false) false (fun _ _ _ _ => false) (fun _ _ _ _ => false) false false (fun _ => false) (fun _ _ _ _ _ => false) false (fun _ _ _ => false) false (fun _ _ => false) (fun _ _ => false) (fun _ _ => false) false (fun _ _ _ _ => false) v
theorem ptrK_inv {v : CV} {k : Bool} (hk : ptrK v k = true) {x : Value} (hx : RV ρ v x) : ∃ a, x = .pointer a ∧ k = true := by
  cases v with
  | nilp => cases hx; exact ⟨none, rfl, hk⟩
  | ptr b o => obtain ⟨r, h1, rfl⟩ := hx; exact ⟨_, rfl, hk⟩
  | _ => exact (Bool.false_ne_true hk).elim

noncomputable def nkRun (nk : NK) (args : List CV) (H : HP) (n : P5) (k : CV → HP → P5 → Bool) : Bool := match nk with
  | .none => false
  | .load j => arg1 args fun a => rdAt H a fun v => kindK j v (k v H n)
  | .store => arg2 args fun a v => @CV.rec (fun _ => Bool) (fun _ => Bool) false (fun _ => false) (fun _ => wrAt H a v fun H => k (.tup []) H n) (fun _ => wrAt H a v fun H => k (.tup []) H n) (fun _ => wrAt H a v fun H => k (.tup []) H n) (fun _ => wrAt H a v fun H => k (.tup []) H n) (fun _ => wrAt H a v fun H => k (.tup []) H n) (fun _ _ => false) false (fun _ _ => false) (fun _ _ => false) false (fun _ _ _ _ => false) (fun _ _ _ _ => false) false false (fun _ => false) (fun _ _ _ _ _ => false) false (fun _ _ _ => false) false (fun _ _ => false) (fun _ _ => false) (fun _ _ => false) false (fun _ _ _ _ => false) v
  | .cas j => arg3 args fun a x y => kindK j x (kindK j y (rdAt H a fun v => ceq1 v x (wrAt H a y fun H => k (.bool true) H n)))
  | .add j => match j with
    | .i64 => arg2 args fun a y => as_i64 y fun y => rdAt H a fun v => as_i64 v fun x => add64 x y fun z => wrAt H a (.i64 z) fun H => k (.i64 z) H n
    | .i32 => arg2 args fun a y => as_i32 y fun y => rdAt H a fun v => as_i32 v fun x => fI (IntKind.i32.wrap (x + y)) fun z => wrAt H a (.i32 z) fun H => k (.i32 z) H n
    | _ => false
  | .loadP => arg1 args fun a => rdAt H a fun v => ptrK v (k v H n)
  | .storeP => arg2 args fun a v => ptrK v (wrAt H a v fun H => k (.tup []) H n)
  | .mark0 => arg0 args (k (.tup []) H n)
  | .mark1 => arg1 args fun a => as_ptr a fun _ _ => k (.tup []) H n
  | .cmp => arg2 args fun a b => as_str a fun p x => as_str b fun q y => ite' (sLs p x q y) (k (.i64 (.negSucc 0)) H n) (ite' (sEq p x q y) (k (.i64 (.ofNat 0)) H n) (k (.i64 (.ofNat 1)) H n))

/-- What is to be shown of a function without a body. -/
def NkOk (P : Program) (g : Nat) : NK → Prop
  | .none => True
  | .load j => ∃ fn, ExtOk P g fn ∧ Extern.find fn = some (Extern.Atomic.loadT (.int j))
  | .store => ∃ fn, ExtOk P g fn ∧ Extern.find fn = some Extern.Atomic.storeT
  | .cas j => ∃ fn, ExtOk P g fn ∧ Extern.find fn = some (Extern.Atomic.casT (.int j))
  | .add j => ∃ fn, ExtOk P g fn ∧ Extern.find fn = some (Extern.Atomic.update (Op.intArith .add) j true)
  | .loadP => ∃ fn, ExtOk P g fn ∧ Extern.find fn = some (Extern.Atomic.loadT .ptr)
  | .storeP => ∃ fn, ExtOk P g fn ∧ Extern.find fn = some Extern.Atomic.storeT
  | .mark0 => ∃ fn, ExtOk P g fn ∧ ∃ m : Mark, Extern.find fn = some (fun _ => do mark m; pure Extern.Race.none_)
  | .mark1 => ∃ fn, ExtOk P g fn ∧ ∃ m : Addr → Mark, Extern.find fn = some (Extern.Race.marked m)
  | .cmp => ∃ fn, ExtOk P g fn ∧ Extern.find fn = some Extern.BytealgCompare.compare

theorem cmpBytes_eq : ∀ a b : List UInt8, Lib.compareBytes a b = if Op.bytesLess a b = true then -1 else if (a == b) = true then 0 else 1
  | [], [] => by simp [Lib.compareBytes, Op.bytesLess]
  | [], y :: ys => by simp [Lib.compareBytes, Op.bytesLess]
  | x :: xs, [] => by simp [Lib.compareBytes, Op.bytesLess]
  | x :: xs, y :: ys => by
    simp only [Lib.compareBytes, Op.bytesLess]
    by_cases h1 : x < y
    · simp [h1]
    · by_cases h2 : y < x
      · have h3 : x ≠ y := fun e => by subst e; exact h1 h2
        simp [h1, h2, h3]
      · have h3 : x = y := by
          apply UInt8.toNat_inj.1
          rw [UInt8.lt_iff_toNat_lt] at h1 h2
          omega
        subst h3
        rw [if_neg h1, if_neg h2, cmpBytes_eq xs ys]
        simp [h1]
theorem nk_sound {g : Nat} {nk : NK} (ok : NkOk P g nk) {args : List CV} {k : CV → HP → P5 → Bool} {xs : List Value} {K : Value → Heap → Prop} (hr : RL ρ args xs) (hH : HRel ρ H h) (hk : nkRun nk args H n k = true)
    (hK : ∀ ρ' v x H' h' n', Ext ρ ρ' → RV ρ' v x → HRel ρ' H' h' → k v H' n' = true → K x h') : SemX (fun _ => P) (fun _ => extS g xs) h K := by
  unfold nkRun at hk
  split at hk
  · exact (Bool.false_ne_true hk).elim
  · rename_i j
    obtain ⟨fn, ok, he⟩ := ok
    obtain ⟨a, x, rfl, h1, h2⟩ := arg1_inv hr hk
    obtain ⟨ad, v, rfl, h3, h4⟩ := rdAt_inv hH h1 h2
    refine SemX.ext fun w hw => ?_
    obtain ⟨y, h5, h6⟩ := h4 w hw
    obtain ⟨m, rfl, h7⟩ := kindK_inv h3 h5
    exact ⟨_, w, h, run_call_load ok.hf ok.hname ok.hb ok.hn j he h6, hK ρ v _ H h n (.refl ρ) h5 hH h7, After.refl hw⟩
  · obtain ⟨fn, ok, he⟩ := ok
    obtain ⟨a, v, x, y, rfl, h1, h2, h3⟩ := arg2_inv hr hk
    have key : ∀ j m, y = .int j m → wrAt H a v (fun H => k (.tup []) H n) = true → SemX (fun _ => P) (fun _ => extS g [x, y]) h K := fun j m e h3 => by
      subst e
      obtain ⟨ad, H', rfl, h4, h5⟩ := wrAt_inv hH h1 h2 h3
      refine SemX.ext fun w hw => ?_
      obtain ⟨h6, ⟨u, h7⟩, h', h8, h9⟩ := h5 w hw
      exact ⟨_, _, h', run_call_store ok.hf ok.hname ok.hb ok.hn he h7 h6, hK ρ (.tup []) _ H' h' n (.refl ρ) ⟨[], rfl, rfl⟩ h9 h4, h8⟩
    cases v with
    | i64 m => exact key _ _ h2 h3
    | i32 m => exact key _ _ h2 h3
    | u8 m => exact key _ _ h2 h3
    | u32 m => exact key _ _ h2 h3
    | u64 m => exact key _ _ h2 h3
    | _ => exact (Bool.false_ne_true h3).elim
  · rename_i j
    obtain ⟨fn, ok, he⟩ := ok
    obtain ⟨a, o, y, x1, x2, x3, rfl, h1, h2, h3, h4⟩ := arg3_inv hr hk
    obtain ⟨m2, rfl, h5⟩ := kindK_inv h4 h2
    obtain ⟨m3, rfl, h6⟩ := kindK_inv h5 h3
    obtain ⟨ad, v, rfl, h7, h8⟩ := rdAt_inv hH h1 h6
    refine SemX.ext fun w hw => ?_
    obtain ⟨z, h9, h10⟩ := h8 w hw
    obtain ⟨rfl, h11⟩ := ceq1_sound h7 h9 h2
    obtain ⟨ad2, H', e1, h12, h13⟩ := wrAt_inv hH h1 h3 h11
    cases e1
    obtain ⟨b1, -, h', b2, b3⟩ := h13 w hw
    exact ⟨_, _, h', run_call_cas_hit ok.hf ok.hname ok.hb ok.hn j he h10 b1, hK ρ (.bool true) _ H' h' n (.refl ρ) rfl b3 h12, b2⟩
  · rename_i j
    obtain ⟨fn, ok, he⟩ := ok
    split at hk
    · obtain ⟨a, y, x1, x2, rfl, h1, h2, h3⟩ := arg2_inv hr hk
      obtain ⟨m, rfl, h4⟩ := as_i64_inv h3
      cases h2
      obtain ⟨ad, v, rfl, h5, h6⟩ := rdAt_inv hH h1 h4
      obtain ⟨m1, rfl, h7⟩ := as_i64_inv h5
      have h8 := add64_eq h7
      obtain ⟨ad2, H', e1, h12, h13⟩ := wrAt_inv hH h1 (show RV ρ (.i64 (IntKind.i64.wrap (m1 + m))) (.int .i64 (IntKind.i64.wrap (m1 + m))) from rfl) h8
      cases e1
      refine SemX.ext fun w hw => ?_
      obtain ⟨z, rfl, h10⟩ := h6 w hw
      obtain ⟨b1, -, h', b2, b3⟩ := h13 w hw
      exact ⟨_, _, h', run_call_add ok.hf ok.hname ok.hb ok.hn .i64 he h10 b1 (by simp [Op.intArith]), hK ρ (.i64 _) _ H' h' n (.refl ρ) rfl b3 h12, b2⟩
    · obtain ⟨a, y, x1, x2, rfl, h1, h2, h3⟩ := arg2_inv hr hk
      obtain ⟨m, rfl, h4⟩ := as_i32_inv h3
      cases h2
      obtain ⟨ad, v, rfl, h5, h6⟩ := rdAt_inv hH h1 h4
      obtain ⟨m1, rfl, h7⟩ := as_i32_inv h5
      rw [fI_eq] at h7
      obtain ⟨ad2, H', e1, h12, h13⟩ := wrAt_inv hH h1 (show RV ρ (.i32 (IntKind.i32.wrap (m1 + m))) (.int .i32 (IntKind.i32.wrap (m1 + m))) from rfl) h7
      cases e1
      refine SemX.ext fun w hw => ?_
      obtain ⟨z, rfl, h10⟩ := h6 w hw
      obtain ⟨b1, -, h', b2, b3⟩ := h13 w hw
      exact ⟨_, _, h', run_call_add ok.hf ok.hname ok.hb ok.hn .i32 he h10 b1 (by simp [Op.intArith]), hK ρ (.i32 _) _ H' h' n (.refl ρ) rfl b3 h12, b2⟩
    · exact (Bool.false_ne_true hk).elim
  · obtain ⟨fn, ok, he⟩ := ok
    obtain ⟨a, x, rfl, h1, h2⟩ := arg1_inv hr hk
    obtain ⟨ad, v, rfl, h3, h4⟩ := rdAt_inv hH h1 h2
    refine SemX.ext fun w hw => ?_
    obtain ⟨y, h5, h6⟩ := h4 w hw
    obtain ⟨m, rfl, h7⟩ := ptrK_inv h3 h5
    exact ⟨_, w, h, run_call_loadP ok he h6, hK ρ v _ H h n (.refl ρ) h5 hH h7, After.refl hw⟩
  · obtain ⟨fn, ok, he⟩ := ok
    obtain ⟨a, v, x, y, rfl, h1, h2, h3⟩ := arg2_inv hr hk
    obtain ⟨m, rfl, h4⟩ := ptrK_inv h3 h2
    obtain ⟨ad, H', rfl, h5, h6⟩ := wrAt_inv hH h1 h2 h4
    refine SemX.ext fun w hw => ?_
    obtain ⟨b1, ⟨u, b2⟩, h', b3, b4⟩ := h6 w hw
    exact ⟨_, _, h', run_call_storeP ok he b2 b1, hK ρ (.tup []) _ H' h' n (.refl ρ) ⟨[], rfl, rfl⟩ b4 h5, b3⟩
  · obtain ⟨fn, ok, m, he⟩ := ok
    obtain ⟨rfl, h1⟩ := arg0_inv hr hk
    exact ext_mark0 ok m he (hK ρ (.tup []) _ H h n (.refl ρ) ⟨[], rfl, rfl⟩ hH h1)
  · obtain ⟨fn, ok, m, he⟩ := ok
    obtain ⟨a, x, rfl, h1, h2⟩ := arg1_inv hr hk
    obtain ⟨b, o, rfl, h3⟩ := as_ptr_inv h2
    obtain ⟨r, -, rfl⟩ := h1
    exact ext_marked ok m he (hK ρ (.tup []) _ H h n (.refl ρ) ⟨[], rfl, rfl⟩ hH h3)
  · obtain ⟨fn, ok, he⟩ := ok
    obtain ⟨a, b, x, y, rfl, h1, h2, h3⟩ := arg2_inv hr hk
    obtain ⟨p, u, rfl, h4⟩ := as_str_inv h3
    obtain ⟨q, v, rfl, h5⟩ := as_str_inv h4
    cases h1; cases h2
    refine ext_cmp ok he ?_
    show K (.int .i64 (Lib.compareBytes (digs p u) (digs q v))) h
    rw [cmpBytes_eq, ← sLs_eq]
    have e1 : sEq p u q v = (digs p u == digs q v) := by rw [sEq_eq, bytes_toList, bytes_toList]
    rw [← e1]
    rcases ite'_inv h5 with ⟨g1, g2⟩ | ⟨g1, g2⟩
    · rw [if_pos g1]
      exact hK ρ (.i64 (.negSucc 0)) _ H h n (.refl ρ) rfl hH g2
    · rw [if_neg (by rw [g1]; simp)]
      rcases ite'_inv g2 with ⟨g3, g4⟩ | ⟨g3, g4⟩
      · rw [if_pos g3]
        exact hK ρ (.i64 (.ofNat 0)) _ H h n (.refl ρ) rfl hH g4
      · rw [if_neg (by rw [g3]; simp)]
        exact hK ρ (.i64 (.ofNat 1)) _ H h n (.refl ρ) rfl hH g4

/-- The table of functions without a body. -/
noncomputable def extE (tb : Nat → NK) : ExtF := fun g args H n k => nkRun (tb g) args H n k
theorem extE_ok {tb : Nat → NK} (h : ∀ g, NkOk P g (tb g)) : ExtFOk P (extE tb) := fun hr hH hk hK => nk_sound (h _) hr hH hk hK

end
end Go.Cx
