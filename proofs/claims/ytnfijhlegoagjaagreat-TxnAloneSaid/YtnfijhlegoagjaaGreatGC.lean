import Derived.Test.YtnfijhlegoagjaaGreatGB
import Derived.Test.YtnfijhlegoagjaaGreatEC
import Derived.Test.YtnfijhlegoagjaaGreatRd
set_option linter.unusedVariables false
set_option linter.unusedSimpArgs false
set_option linter.unusedSectionVars false
set_option maxRecDepth 100000
set_option maxHeartbeats 8000000
set_option linter.unusedVariables false
set_option linter.unusedSimpArgs false
namespace Go.S
open Go.Sx Go.Proofs

theorem _root_.Go.Sx.Rows.map {α β : Type} {s1 : Sh α} {s2 : Sh β} (hn : s1.n = s2.n) (f : α → β) (hR : ∀ h cs x, s1.R h cs x → s2.R h cs (f x)) {h : Heap} {c : List Value} {off : Nat} {xs : List α} (r : Sx.Rows s1 h c off xs) : Sx.Rows s2 h c off (xs.map f) := by
  refine ⟨by rw [List.length_map, ← hn]; exact r.1, fun i x hx => ?_⟩
  rw [List.getElem?_map] at hx
  cases hy : xs[i]? with
  | none => rw [hy] at hx; cases hx
  | some y =>
    rw [hy] at hx
    simp at hx
    subst hx
    rw [← hn]
    exact hR _ _ _ (r.2 i y hy)
theorem _root_.Go.Sx.Own.map {α β : Type} {s1 : Sh α} {s2 : Sh β} (hn : s1.n = s2.n) (f : α → β) (hR : ∀ h cs x, s1.R h cs x → s2.R h cs (f x)) {e : Nat} {h : Heap} {nb cap : Nat} {xs : List α} (o : Own e s1 h nb cap xs) : Own e s2 h nb cap (xs.map f) := by
  obtain ⟨c, h1, h2, h3⟩ := o.out
  exact ⟨⟨c, h1, Sx.Rows.map hn f hR h2, by rw [← hn]; exact h3⟩, by rw [List.length_map]; exact o.le, by rw [List.length_map]; exact o.bd⟩

/-- A session's work whose marks lie in a block of their own (or nowhere). -/
def shWrkM : Sh (Wrk × Option Nat) where
  n := 3
  R h cs t := ∃ b1 n1 b2 n2 c2, cs = [.int .i64 t.1.s, .slice b1 n1 n1, .slice b2 n2 c2] ∧ Sl 77 shChg h (.slice b1 n1 n1) t.1.log ∧
    ((t.2 = none ∧ n2 = 0 ∧ c2 = 0 ∧ t.1.marks = []) ∨ ∃ nb, t.2 = some nb ∧ b2 = some ⟨nb, 0, none⟩ ∧ n2 = t.1.marks.length ∧ Own 145 shMrk h nb c2 t.1.marks)
  len := by rintro h cs x ⟨_, _, _, _, _, rfl, -⟩; rfl
  one := by rintro h cs x ⟨_, _, _, _, _, rfl, -⟩; rfl
  tys := [77, 68, 145]
  mono := by
    rintro h h' cs x hl ⟨b1, n1, b2, n2, c2, rfl, q1, q2⟩
    refine ⟨b1, n1, b2, n2, c2, rfl, q1.mono (hl.sub (by decide)), ?_⟩
    rcases q2 with q2 | ⟨nb, e1, e2, e3, o⟩
    · exact .inl q2
    · exact .inr ⟨nb, e1, e2, e3, o.mono (hl.sub (by decide))⟩
theorem wrkM_G (h : Heap) (cs : List Value) (x : Wrk × Option Nat) (r : shWrkM.R h cs x) : shWrkG.R h cs (x.1, true) := by
  obtain ⟨b1, n1, b2, n2, c2, rfl, q1, q2⟩ := r
  refine ⟨b1, n1, n1, b2, n2, c2, rfl, q1, ?_, fun _ => rfl⟩
  rcases q2 with ⟨-, e1, e2, e3⟩ | ⟨nb, e1, e2, e3, o⟩
  · rw [e1, e2]
    show Sl 145 shMrk h _ x.1.marks
    rw [e3]; exact Sl.nil
  · rw [e2]; exact o.sl e3

theorem clone146M {xs : List Mrk} {h : Heap} {b : Option Addr} {len cap : Nat} (q : Sl 145 shMrk h (.slice b len cap) xs) {k : Value → Heap → Prop} (hk0 : ∀ b' h', len = 0 → Le h h' → k (.slice b' 0 0) h')
    (hk1 : ∀ nb c h', h nb = none → 0 < len → Le h h' → Own 145 shMrk h' nb c xs → k (.slice (some ⟨nb, 0, none⟩) len c) h') : Ct 146 [.slice b len cap] h k := by
  obtain ⟨A, hA⟩ := Ar.ex
  refine fn_of_sx A (tabOk T146.plan T146.pub) Tryz.func146 rfl (by kernel_rfl) ?_
  cbv
  refine bsel_mk (fun hc => ?_) (fun hc => ?_)
  · rw [hA.isn] at hc
    have hb : b = none := by cases b <;> simp at hc ⊢
    subst hb
    have hl : len = 0 := by
      rcases Nat.eq_zero_or_pos len with e | e
      · exact e
      · have := q.isSm e; cases this
    have hfin := hk0 none h hl (Le.refl _)
    cbv
    exact hfin
  · cbv
    intro n0 h1 hn0 hh1
    have hle : Le h h1 := by rw [hh1]; exact Le.set hn0
    cbv
    refine append_new (q.mono (hle.t _)) (by simp [shMrk]) rfl (by decide) (fun hn => ?_) (fun nb c h2 e1 e2 e3 e4 => ?_)
    · have hfin := fun b' => hk0 b' h1 hn hle
      cbv
      exact hfin _
    · have hfin := hk1 nb c h2 (hle.none e1) e2 (hle.trans e3) e4
      cbv
      exact hfin

theorem own103M {w : Wrk} {g : Bool} {h : Heap} {c0 c1 c2 : Value} (q : shWrkG.R h [c0, c1, c2] (w, g)) {k : Value → Heap → Prop}
    (hk : ∀ h' b1 n1 b2 n2 c2 (m : Option Nat), Le h h' → (∀ nb, m = some nb → h nb = none) → shWrkM.R h' [.int .i64 w.s, .slice b1 n1 n1, .slice b2 n2 c2] (w, m) → k (.agg #[.int .i64 w.s, .slice b1 n1 n1, .slice b2 n2 c2]) h') : Ct 103 [.agg #[c0, c1, c2]] h k := by
  obtain ⟨A, hA⟩ := Ar.ex
  obtain ⟨b1, n1, k1, b2, n2, k2, he, q1, q2, -⟩ := q
  cases he
  have q1 : Sl 77 shChg h (.slice b1 n1 k1) w.log := q1
  have q2 : Sl 145 shMrk h (.slice b2 n2 k2) w.marks := q2
  obtain ⟨ws, wl, wm⟩ := w
  refine fn_of_sx A (tabOk T103.plan T103.pub) Tryz.func103 rfl (by kernel_rfl) ?_
  cbv
  refine (each63 q1).mono (fun v h1 hR => ?_)
  obtain ⟨hle, nb, hnb, rfl, ho⟩ := hR
  cbv
  refine clone146M (q2.mono (hle.t _)) (fun b' h2 hn hle2 => ?_) (fun nb2 c h2 e1 e2 hle2 o2 => ?_)
  · have hm : wm = [] := by
      have := q2.len
      exact List.eq_nil_of_length_eq_zero (by simp only at this; omega)
    have hfin := hk h2 (some ⟨nb, 0, none⟩) n1 b' 0 0 none (hle.trans hle2) (fun _ e => by cases e) ⟨_, _, _, _, _, rfl, (ho.sl q1.len).mono (hle2.t _), .inl ⟨rfl, rfl, rfl, hm⟩⟩
    cbv
    exact hfin
  · have hfin := hk h2 (some ⟨nb, 0, none⟩) n1 (some ⟨nb2, 0, none⟩) n2 c (some nb2) (hle.trans hle2) (fun _ e => by cases e; exact hle.none e1) ⟨_, _, _, _, _, rfl, (ho.sl q1.len).mono (hle2.t _), .inr ⟨nb2, rfl, rfl, q2.len, o2⟩⟩
    cbv
    exact hfin

def Dist (gs : List (Option Nat)) : Prop := ∀ (i j nb : Nat), gs[i]? = some (some nb) → gs[j]? = some (some nb) → i = j
theorem Dist.push {gs : List (Option Nat)} (d : Dist gs) {m : Option Nat} (h : ∀ (i nb : Nat), gs[i]? = some (some nb) → m ≠ some nb) : Dist (gs ++ [m]) := fun i j nb h1 h2 => by
  rw [List.getElem?_append] at h1 h2
  split at h1 <;> split at h2
  · exact d i j nb h1 h2
  · rename_i a b
    rw [List.getElem?_singleton] at h2
    split at h2
    · cases h2; exact absurd rfl (h i nb h1)
    · cases h2
  · rename_i a b
    rw [List.getElem?_singleton] at h1
    split at h1
    · cases h1; exact absurd rfl (h j nb h2)
    · cases h1
  · rw [List.getElem?_singleton] at h1 h2
    split at h1
    · split at h2
      · omega
      · cases h2
    · cases h1

theorem each102M {xs : List (Wrk × Bool)} {h : Heap} {b : Option Addr} {len cap : Nat} (q : Sl 60 shWrkG h (.slice b len cap) xs) {k : Value → Heap → Prop}
    (hk : ∀ h' nb (gs : List (Option Nat)), Le h h' → h nb = none → gs.length = len → Dist gs → (∀ (i m : Nat), gs[i]? = some (some m) → h m = none) → Own 60 shWrkM h' nb len ((xs.map (·.1)).zip gs) → k (.slice (some ⟨nb, 0, none⟩) len len) h') :
    Ct 102 [.slice b len cap, .func (.func 103) #[] #[]] h k := by
  obtain ⟨A, hA⟩ := Ar.ex
  have hlen := q.len
  obtain ⟨hb1, hb2⟩ := q.bound
  refine fn_of_sx A (tabOk T102.plan T102.pub) Tryz.func102 rfl (by kernel_rfl) ?_
  cbv
  refine make_own (s := shWrkM) rfl (by omega) (by decide) (fun nb h1 hnb hle ho => ?_)
  obtain ⟨I, hI0⟩ : ∃ I : Nat → Int → Heap → Prop, ∀ n z h', I n z h' = ∃ (i : Nat) (gs : List (Option Nat)), IsN z i ∧ n = len - i ∧ i ≤ len ∧ Le h h' ∧ gs.length = i ∧ Dist gs ∧ (∀ (j m : Nat), gs[j]? = some (some m) → h m = none ∧ h' m ≠ none ∧ m ≠ nb) ∧ Own 60 shWrkM h' nb len (((xs.take i).map (·.1)).zip gs) := ⟨_, fun _ _ _ => rfl⟩
  cbv
  refine LoopX.go (G := Int) (fun z => [(13, .v (.int .i64 z))]) (fun _ => []) (fun n z h' => I n z h') len 0 ⟨?_, ?_, ?_⟩ (by rw [hI0]; exact ⟨0, [], ⟨rfl⟩, by omega, by omega, hle, rfl, fun _ _ _ h => by simp at h, fun _ _ h => by simp at h, ho⟩) ?_
  · cbv
  · cbv
  · cbv
  · intro n z h' hI
    rw [hI0] at hI
    cbv
    obtain ⟨i, gs, hz, hn, hi, hle', hgl, hgd, hgn, ho'⟩ := hI
    refine bsel_mk (fun hc => ?_) (fun hc => ?_)
    · have hlt := hz.lt hc
      clear hc
      obtain ⟨⟨w, g⟩, hx⟩ := get_ex (xs := xs) (i := i) (by omega)
      have hck1 : b.isSome = true ∧ 0 ≤ z ∧ z < (len : Int) := ⟨q.isSm (by omega), hz.ix hlt⟩
      have hck2 : (some (⟨nb, 0, none⟩ : Addr)).isSome = true ∧ 0 ≤ z ∧ z < (len : Int) := ⟨rfl, hz.ix hlt⟩
      have hlz : (((xs.take i).map (·.1)).zip gs).length = i := by simp; omega
      have hze := hz.eq
      cbv
      refine ⟨hck1, ?_⟩
      cbv
      refine (q.mono (hle'.t _)).load hx hz.eq (fun cs hcs => ?_)
      have hv : shWrkG.R h' cs (w, g) := hcs
      obtain ⟨b1, n1, k1, b2, n2, k2, rfl, -⟩ := hcs
      cbv
      refine own103M hv (fun h2 b1 n1 b2 n2 c2 m hle2 hmn hr => ?_)
      cbv
      refine ⟨hck2, ?_⟩
      cbv
      refine (ho'.mono (hle2.t _)).store (by decide) (i := i) (by omega) (by omega) (by omega) hze rfl hr (fun h3 hk3 ht3 ho3 => ?_)
      rw [if_neg (by omega)] at ho3
      have hl3 : Le h h3 := (hle'.trans hle2).kpNew (by simpa using hnb) hk3
      have hp : I (len - (i + 1)) (A .ari .add .i64 z 1) h3 := by
        rw [hI0]
        refine ⟨i + 1, gs ++ [m], hz.succ (A := A) (by omega), rfl, by omega, hl3, by simp [hgl], hgd.push (fun j nb' hj e => ?_), fun j m' hj => ?_, ?_⟩
        · exact (hgn j nb' hj).2.1 (hmn nb' e)
        · rw [List.getElem?_append] at hj
          split at hj
          · obtain ⟨a1, a2, a3⟩ := hgn j m' hj
            refine ⟨a1, ?_, a3⟩
            cases hb : h' m' with
            | none => exact absurd hb a2
            | some o => rw [hk3 _ _ (hle2 _ _ hb) (by simpa using a3)]; simp
          · rw [List.getElem?_singleton] at hj
            split at hj
            · cases hj
              have h2n := hmn m' rfl
              obtain ⟨_, _, _, _, _, -, -, hq⟩ := hr
              rcases hq with ⟨e, -⟩ | ⟨nb2, e, -, -, o⟩
              · cases e
              · cases e
                obtain ⟨cc, hcc, -⟩ := o.out
                have hne : m' ≠ nb := fun e => by
                  obtain ⟨cc2, hcc2, -⟩ := ho'.out
                  rw [e, hcc2] at h2n; cases h2n
                refine ⟨hle'.none h2n, ?_, hne⟩
                rw [hk3 _ _ hcc (by simpa using hne)]; simp
            · cases hj
        · have e2 : (xs.take (i + 1)).map (·.1) = (xs.take i).map (·.1) ++ [w] := by rw [List.take_add_one, hx]; simp
          rw [e2, List.zip_append (by simp; omega)]
          exact ho3
      cbv
      refine ⟨len - (i + 1), _, by omega, ⟨?_, ?_, ?_⟩, hp⟩
      · cbv
      · cbv
      · cbv
    · have hge := hz.ge hc
      have hil : i = len := by omega
      subst hil
      rw [hlen, List.take_length, ← hlen] at ho'
      have hfin := hk h' nb gs hle' hnb hgl hgd (fun j m hj => (hgn j m hj).1) ho'
      cbv
      exact hfin
end Go.S

set_option maxRecDepth 100000
set_option maxHeartbeats 8000000
set_option linter.unusedVariables false
set_option linter.unusedSimpArgs false
namespace Go.S
open Go.Sx Go.Proofs

theorem own47M {d : DB} {h : Heap} {v : Value} (q : RDB h v d) {k : Value → Heap → Prop}
    (hk : ∀ h' tb wb n1 n2 b3 n3 c3 b4 n4 c4 (gs : List (Option Nat)), Le h h' → h tb = none → h wb = none → n1 = d.tabs.length → Own 43 shTbl h' tb n1 d.tabs → n2 = d.works.length → gs.length = n2 → Dist gs → (∀ (i m : Nat), gs[i]? = some (some m) → h m = none) → Own 60 shWrkM h' wb n2 (d.works.zip gs) → Sl 188 shHld h' (.slice b3 n3 c3) d.holds → Sl 188 shHld h' (.slice b4 n4 c4) d.waits →
      k (.agg #[.slice (some ⟨tb, 0, none⟩) n1 n1, .slice (some ⟨wb, 0, none⟩) n2 n2, .slice b3 n3 c3, .slice b4 n4 c4]) h') : Ct 47 [v] h k := by
  obtain ⟨A, hA⟩ := Ar.ex
  obtain ⟨b1, n1, c1, b2, n2, c2, b3, n3, c3, b4, n4, c4, ws, rfl, q1, q2, q3, q4, qw⟩ := q.out
  have hn2 : n2 = d.works.length := by rw [q2.len, ← qw, List.length_map]
  refine fn_of_sx A (tabOk T47.plan T47.pub) Tryz.func47 rfl (by kernel_rfl) ?_
  cbv
  refine (each101 q1).mono (fun v h1 hR => ?_)
  obtain ⟨l1, tb, htb, rfl, o1⟩ := hR
  cbv
  refine each102M (q2.mono (l1.t _)) (fun h2 wb gs l2 hwb hgl hgd hgn o2 => ?_)
  rw [qw] at o2
  cbv
  refine (clone104 (q3.mono ((l1.trans l2).t _))).mono (fun v h3 hR => ?_)
  obtain ⟨l3, b3', c3', rfl, o3, -⟩ := hR
  cbv
  refine (clone104 (q4.mono (((l1.trans l2).trans l3).t _))).mono (fun v h4 hR => ?_)
  obtain ⟨l4, b4', c4', rfl, o4, -⟩ := hR
  have hfin := hk h4 tb wb n1 n2 b3' n3 c3' b4' n4 c4' gs (((l1.trans l2).trans l3).trans l4) htb (l1.none hwb) q1.len (o1.mono (((l2.trans l3).trans l4).t _)) hn2 hgl hgd (fun i m hm => l1.none (hgn i m hm)) (o2.mono ((l3.trans l4).t _)) (o3.mono (l4.t _)) o4
  cbv
  exact hfin

theorem zip_wf {ws : List Wrk} {gs : List (Option Nat)} (h : gs.length = ws.length) : (ws.zip gs).map (fun x => (x.1, true)) = Wf ws := by
  unfold Wf
  have e : (fun x : Wrk × Option Nat => (x.1, true)) = (fun w : Wrk => (w, true)) ∘ Prod.fst := rfl
  rw [e, ← List.map_map]
  congr 1
  rw [← List.unzip_fst, List.unzip_zip h.symm]

theorem begun43M {d : DB} {h : Heap} {v : Value} (q : RDB h v d) {k : Value → Heap → Prop}
    (hk : ∀ h' c tb wb ct cw (gs : List (Option Nat)), Le h h' → h c = none → h tb = none → h wb = none → c ≠ tb → c ≠ wb → cw = d.works.length → gs.length = cw → Dist gs → (∀ (i m : Nat), gs[i]? = some (some m) → h m = none) → Own 60 shWrkM h' wb cw (d.works.zip gs) →
      Cst h' c tb wb ct cw d.tabs (Wf d.works) d.holds d.waits 0 → k (.pointer (some ⟨c, 0, none⟩)) h') : Ct 43 [v] h k := by
  obtain ⟨A, hA⟩ := Ar.ex
  obtain ⟨b1, n1, c1, b2, n2, c2, b3, n3, c3, b4, n4, c4, rfl⟩ := q.form
  refine fn_of_sx A (tabOk T43.plan T43.pub) Tryz.func43 rfl (by kernel_rfl) ?_
  cbv
  refine own47M q (fun h1 tb wb n1 n2 b3 n3 c3 b4 n4 c4 gs l1 htb hwb g1 g2 g3 hgl hgd hgn om g5 g6 => ?_)
  have g4 : Own 60 shWrkG h1 wb n2 (Wf d.works) := by
    have := Own.map (s1 := shWrkM) (s2 := shWrkG) rfl (fun x => (x.1, true)) wrkM_G om
    rw [zip_wf (by omega)] at this
    exact this
  cbv
  intro n h2 hn hh
  have l2 : Le h1 h2 := by rw [hh]; exact Le.set hn
  have ht : n ≠ tb := fun e => by
    obtain ⟨c, h3, -⟩ := g2.out
    rw [← e, hn] at h3; cases h3
  have hw : n ≠ wb := fun e => by
    obtain ⟨c, h3, -⟩ := g4.out
    rw [← e, hn] at h3; cases h3
  have gc := (congrFun hh n).trans hset_self
  have hc : Cst h2 n tb wb n1 n2 d.tabs (Wf d.works) d.holds d.waits 0 :=
    ⟨n1, n2, b3, n3, c3, b4, n4, c4, 0, gc, .inl ⟨rfl, rfl⟩, g1, g2.mono (l2.t _), by simp [Wf, g3], g4.mono (l2.t _), g5.mono (l2.t _), g6.mono (l2.t _)⟩
  have hfin := hk h2 n tb wb n1 n2 gs (l1.trans l2) (l1.none hn) htb hwb ht hw g3 hgl hgd hgn (om.mono (l2.t _)) hc
  cbv
  exact hfin

def markBad (nm : ByteArray) : Bool := decide (schErr ⟨nm, [⟨nA, 2, false⟩], 0, false⟩ ≠ 0)
def saveD (d : DB) (s : Int) (nm : ByteArray) : DB × Int :=
  if bsB (wrkC d.works s) = true then if markBad nm = true then (d, 12) else match d.works[bsI (wrkC d.works s)]? with
    | some w => if decide ((w.marks.length : Int) ≥ 10) = true then (d, 4) else (⟨d.tabs, d.works.set (bsI (wrkC d.works s)) ⟨w.s, w.log, w.marks ++ [⟨nm, (w.log.length : Int)⟩]⟩, d.holds, d.waits⟩, 0)
    | none => (d, 2)
  else (d, 2)

theorem save27K {d : DB} {h : Heap} {v : Value} (q : RDB h v d) (s : Int) (nm : ByteArray) {D : DB × Int} (hD : saveD d s nm = D) {k : Value → Heap → Prop}
    (hk : DbK h D.1 D.2 k) : Ct 27 [v, .int .i64 s, .string nm] h k := by
  obtain ⟨A, hA⟩ := Ar.ex
  have q' := q
  obtain ⟨b1, n1, c1, b2, n2, c2, b3, n3, c3, b4, n4, c4, ws, rfl, -, qW, -, -, qwm⟩ := q'.out
  have hwl : n2 = d.works.length := by rw [qW.len, ← qwm, List.length_map]
  refine fn_of_sx A (tabOk T27.plan T27.pub) Tryz.func27 rfl (by kernel_rfl) ?_
  cbv
  refine begun43M q (fun h1 c tb wb ct cw gs l1 hc htb hwb hct hcw ecw hgl hgd hgn om cs => ?_)
  have hgl2 : gs.length = d.works.length := by rw [hgl, ecw]
  have hzl0 : (d.works.zip gs).length = d.works.length := by rw [List.length_zip]; omega
  obtain ⟨Z, hZ⟩ : ∃ Z, Z = d.works.zip gs := ⟨_, rfl⟩
  rw [← hZ] at hzl0 om
  have hZi : ∀ (j : Nat) (w : Wrk), d.works[j]? = some w → ∃ g, Z[j]? = some (w, g) ∧ gs[j]? = some g := fun j w hj => by
    have hjl := (List.getElem?_eq_some_iff.1 hj).1
    obtain ⟨g, hg⟩ := get_ex (xs := gs) (i := j) (by omega)
    refine ⟨g, ?_, hg⟩
    rw [hZ, List.getElem?_zip_eq_some]; exact ⟨hj, hg⟩
  have hZw : Z.map (fun x => (x.1, true)) = Wf d.works := by rw [hZ]; exact zip_wf hgl2
  have hZg : ∀ (j : Nat) (x : Wrk × Option Nat), Z[j]? = some x → gs[j]? = some x.2 := fun j x hj => by
    rw [hZ, List.getElem?_zip_eq_some] at hj
    exact hj.2
  cbv
  refine work50K cs s (fun h2 z t l2 hz ht => ?_)
  rw [wrkC_wf] at ht hz
  have l12 := l1.trans l2
  have q2 := q.mono l12
  cases t with
  | false =>
    have hDe : D = (d, 2) := by rw [← hD]; unfold saveD; rw [← ht]; rfl
    subst hDe
    cbv
    rw [show A .not false = true by rw [hA.not]; rfl]
    cbv
    refine own47K q2 (fun h3 b1 n1 c1 b2 n2 c2 b3 n3 c3 b4 n4 c4 l3 hd6 => ?_)
    have hfin := hk h3 b1 n1 c1 b2 n2 c2 b3 n3 c3 b4 n4 c4 (l12.trans l3) hd6
    cbv
    exact hfin
  | true =>
    have hlt : bsI (wrkC d.works s) < d.works.length := by
      have := bsB_lt ht.symm
      simpa [wrkC] using this
    obtain ⟨w, hw⟩ := get_ex hlt
    have hDe : (if markBad nm = true then ((d, 12) : DB × Int) else if decide ((w.marks.length : Int) ≥ 10) = true then (d, 4) else (⟨d.tabs, d.works.set (bsI (wrkC d.works s)) ⟨w.s, w.log, w.marks ++ [⟨nm, (w.log.length : Int)⟩]⟩, d.holds, d.waits⟩, 0)) = D := by
      rw [← hD]; unfold saveD; rw [← ht, hw]; rfl
    clear hD
    obtain ⟨i, hi⟩ : ∃ i, i = bsI (wrkC d.works s) := ⟨_, rfl⟩
    rw [← hi] at hDe hw hz
    clear hi hlt
    have hil := (List.getElem?_eq_some_iff.1 hw).1
    cbv
    rw [show A .not true = false by rw [hA.not]; rfl]
    cbv
    intro nb3 h3 hnb3 e3
    have l3 : Le h2 h3 := by rw [e3]; exact Le.set hnb3
    have g3 := (congrFun e3 nb3).trans hset_self
    have qc : Sl 104 shCol h3 (.slice (some ⟨nb3, 0, none⟩) 1 1) [⟨nA, 2, false⟩] := one_sl (s := shCol) g3 (x := ⟨nA, 2, false⟩) rfl
    cbv
    refine (check45 (nm := nm) (key := 0) (only := false) qc).mono (fun v h4 hR => ?_)
    obtain ⟨l4, e, rfl, he⟩ := hR
    have l14 := (l12.trans l3).trans l4
    generalize eu : A .icm .neq e 0 = u
    have fu := eu
    rw [icm_neq A] at eu
    have hmb : markBad nm = u := by unfold markBad; rw [← he]; exact eu
    rw [hmb] at hDe
    cbv
    rw [fu]
    cases u with
    | true =>
      have hDe : ((d, 12) : DB × Int) = D := hDe
      subst hDe
      cbv
      refine own47K (q.mono l14) (fun h5 b1 n1 c1 b2 n2 c2 b3 n3 c3 b4 n4 c4 l5 hd6 => ?_)
      have hfin := hk h5 b1 n1 c1 b2 n2 c2 b3 n3 c3 b4 n4 c4 (l14.trans l5) hd6
      cbv
      exact hfin
    | false =>
      obtain ⟨⟨w0, wf⟩, hw0⟩ := get_ex (xs := ws) (i := i) (by have := qW.len; omega)
      have hw0e : w0 = w := by
        have : (ws.map (·.1))[i]? = some w0 := by rw [List.getElem?_map, hw0]; rfl
        rw [qwm, hw] at this
        cases this; rfl
      subst hw0e
      obtain ⟨ws', wl, wm⟩ := w0
      have hDe : (if decide ((wm.length : Int) ≥ 10) = true then ((d, 4) : DB × Int) else (⟨d.tabs, d.works.set i ⟨ws', wl, wm ++ [⟨nm, (wl.length : Int)⟩]⟩, d.holds, d.waits⟩, 0)) = D := hDe
      have hck0 : b2.isSome = true ∧ 0 ≤ z ∧ z < (n2 : Int) := ⟨qW.isSm (by omega), hz.ix (by omega)⟩
      cbv
      refine ⟨hck0, ?_⟩
      cbv
      refine ld_marks (qW.mono (l14.t _)) hw0 hz.eq (fun y1 y2 y3 qm _ => ?_)
      have hy2 : y2 = wm.length := qm.len
      generalize eu : A .icm .geq (A .nat y2) 10 = u
      have fu := eu
      rw [icm_geq A, hA.nat, hy2, show Int.ofNat wm.length = (wm.length : Int) from rfl] at eu
      rw [eu] at hDe
      have h10f : u = false → wm.length < 10 := fun e => by
        rw [e] at eu
        have := of_decide_eq_false eu
        omega
      cbv
      rw [fu]
      cases u with
      | true =>
        have hDe : ((d, 4) : DB × Int) = D := hDe
        subst hDe
        cbv
        refine own47K (q.mono l14) (fun h5 b1 n1 c1 b2 n2 c2 b3 n3 c3 b4 n4 c4 l5 hd6 => ?_)
        have hfin := hk h5 b1 n1 c1 b2 n2 c2 b3 n3 c3 b4 n4 c4 (l14.trans l5) hd6
        cbv
        exact hfin
      | false =>
        have hDe : ((⟨d.tabs, d.works.set i ⟨ws', wl, wm ++ [⟨nm, (wl.length : Int)⟩]⟩, d.holds, d.waits⟩, 0) : DB × Int) = D := hDe
        have h10 : wm.length < 10 := h10f rfl
        have l24 := (l2.trans l3).trans l4
        have cs4 := cs.mono l24
        have om4 := om.mono (l24.t _)
        refine cs4.elim (fun m1 m2 x3 m3 k3 x4 m4 k4 o g0 ho f1 f2 f3 f4 f6 f7 _ => ?_)
        have hm2 : m2 = d.works.length := by rw [f3]; simp [Wf]
        have hck : (some (⟨wb, 0, none⟩ : Addr)).isSome = true ∧ 0 ≤ z ∧ z < (m2 : Int) := ⟨rfl, hz.ix (by omega)⟩
        obtain ⟨gm, hwz, hgm⟩ := hZi i _ hw
        have om4s : Sl 60 shWrkM h4 (.slice (some ⟨wb, 0, none⟩) m2 cw) Z := om4.sl (hm2.trans hzl0.symm)
        cbv
        rw [offm A]
        rw [offm A]
        refine ldb g0 rfl rfl ?_
        cbv
        refine ⟨hck, ?_⟩
        cbv
        refine om4s.loadFP hwz hz.eq (o := 2) (m := 1) (by simp [shWrkM]) (fun cs1 hcs1 ag => ?_)
        obtain ⟨lb, ln, mb, mn, mc, rfl, hql, hqm⟩ := hcs1
        have hql : Sl 77 shChg h4 (.slice lb ln ln) wl := hql
        have hln : ln = wl.length := hql.len
        cbv
        refine om4s.loadFP hwz hz.eq (o := 1) (m := 1) (by simp [shWrkM]) (fun cs2 hcs2 _ => ?_)
        obtain ⟨lb', ln', mb', mn', mc', rfl, hql', -⟩ := hcs2
        have hql' : Sl 77 shChg h4 (.slice lb' ln' ln') wl := hql'
        have hln' : A .nat ln' = (wl.length : Int) := by rw [hA.nat]; have := hql'.len; rw [← this]; rfl
        cbv
        intro nb5 h5 hnb5 e5
        have l5 : Le h4 h5 := by rw [e5]; exact Le.set hnb5
        have g5 := (congrFun e5 nb5).trans hset_self
        have qx := one_sl (s := shMrk) g5 (x := ⟨nm, A .nat ln'⟩) rfl
        rw [hln'] at qx
        cbv
        refine ag _ _ l5 ?_
        cbv
        refine ⟨⟨_, rfl, rfl⟩, ?_⟩
        cbv
        have om5 := om4.mono (l5.t _)
        have cs5 := cs4.mono l5
        have l15 := l14.trans l5
        obtain ⟨mk', hmk⟩ : ∃ m : Mrk, m = ⟨nm, (wl.length : Int)⟩ := ⟨_, rfl⟩
        rw [← hmk] at qx hDe
        -- the rest, whichever way the marks grow
        have rest : ∀ (h6 : Heap) (b6 : Option Addr) (c6 : Nat), LeT [43, 104, 63, 68, 60, 77, 188, 124] h5 h6 → Le h h6 → h6 wb = h5 wb → h6 c = h5 c → Sl 145 shMrk h6 (.slice b6 (mn + 1) c6) (wm ++ [mk']) →
            (∀ (j : Nat) (x : Wrk × Option Nat) (cs : List Value), j ≠ i → Z[j]? = some x → shWrkM.R h5 cs x → shWrkG.R h6 cs (x.1, true)) →
            ∀ k', (∀ h7, Le h h7 → h7 c = h5 c → RDB h7 (.agg #[.slice (some ⟨tb, 0, none⟩) m1 ct, .slice (some ⟨wb, 0, none⟩) m2 cw, .slice x3 m3 k3, .slice x4 m4 k4]) D.1 → k' h7) → StX h6 (A .off (A .elt (some ⟨wb, 0, none⟩) z 3) 2) [.slice b6 (mn + 1) c6] k' := fun h6 b6 c6 lt6 l6 hw6 hc6 hs6 hst k' hk' => by
          refine Own.setFW (s1 := shWrkM) (s2 := shWrkG) (A := A) rfl (fun x => (x.1, true)) om5 hw6 hwz hz.eq rfl (off := 2) (by simp [shWrkM]) (x' := (⟨ws', wl, wm ++ [mk']⟩, true)) (fun h7 cs k7 t7 hR => ?_) (fun h7 cs j y k7 t7 hj hy hR => ?_) (fun h7 k7 t7 o7 => ?_)
          · obtain ⟨a1, a2, a3, a4, a5, rfl, a6, -⟩ := hR
            exact ⟨_, _, _, _, _, _, rfl, (a6.mono (lt6.sub (by decide))).mono (t7 _ (by decide)), hs6.mono (t7 _ (by decide)), fun _ => rfl⟩
          · obtain ⟨a1, a2, a3, a4, a5, a6, rfl, a7, a8, a9⟩ := hst j y cs hj hy hR
            exact ⟨_, _, _, _, _, _, rfl, a7.mono (t7 _ (by decide)), a8.mono (t7 _ (by decide)), a9⟩
          · refine hk' h7 (l6.kpNew (by simpa using hwb) k7) ?_ ?_
            · rw [← hc6]
              cases hb : h6 c with
              | none => rw [hc6, l5 _ _ g0] at hb; cases hb
              | some o => exact k7 _ _ hb (by simpa using hcw)
            · rw [← hDe]
              have lt7 : LeT [43, 104, 63, 68, 188] h5 h7 := (lt6.sub (by decide)).trans (t7 _ (by decide))
              refine ⟨_, _, _, _, _, _, _, _, _, _, _, _, _, rfl, (((f2.mono (l5.t _)).mono (lt7.sub (by decide))).sl f1), o7.sl ?_, (f6.mono (l5.t _)).mono (lt7.sub (by decide)), (f7.mono (l5.t _)).mono (lt7.sub (by decide)), ?_⟩
              · rw [List.length_set, List.length_map]; exact hm2.trans hzl0.symm
              · rw [hZw, List.map_set, Wf_fst]
        have g05 := l5 _ _ g0
        clear hZ
        have hwb5 : ∃ o, h5 wb = some o := by
          obtain ⟨cc, hcc, -⟩ := om5.out
          exact ⟨_, hcc⟩
        have hmn : mn = wm.length := by
          rcases hqm with ⟨-, e1, -, e3⟩ | ⟨nb, -, -, e3, -⟩
          · have e3 : wm = [] := e3
            rw [e1, e3]; rfl
          · exact e3
        have hq5 : Sl 145 shMrk h5 (.slice mb mn mc) wm := by
          rcases hqm with ⟨-, e1, e2, e3⟩ | ⟨nb, -, e2, e3, o⟩
          · have e3 : wm = [] := e3
            rw [e1, e2, e3]; exact Sl.nil
          · rw [e2]; exact (o.mono (l5.t _)).sl e3
        by_cases hfit : mn + 1 ≤ mc
        · rcases hqm with ⟨-, e1, e2, -⟩ | ⟨nb, e1, e2, e3, o⟩
          · omega
          have e1 : gm = some nb := e1
          subst e1 e2
          have o5 : Own 145 shMrk h5 nb mc wm := o.mono (l5.t _)
          have hnbw : nb ≠ wb := fun e => by
            obtain ⟨c1, q1, -⟩ := o5.out
            obtain ⟨c2, q2, -⟩ := om5.out
            rw [e, q2] at q1; cases q1
          have hnbc : nb ≠ c := fun e => by
            obtain ⟨c1, q1, -⟩ := o5.out
            rw [e, g05] at q1; cases q1
          have hnbn : h nb = none := hgn i nb hgm
          have hdis : ∀ (j : Nat) (x : Wrk × Option Nat) (m' : Nat), j ≠ i → Z[j]? = some x → x.2 = some m' → m' ≠ nb := fun j x m' hj hx hm e => by
            have h1 := hZg j x hx
            rw [hm, e] at h1
            exact hj (hgd j i nb h1 hgm)
          clear hgd hgn hZi hZg
          refine o5.appendIn (by decide) (i := mn) (by omega) qx hfit (by omega) rfl (fun h6 m hm k6 t6 o6 => ?_)
          rw [hmn, List.take_length, List.drop_eq_nil_of_le (by omega), List.append_nil] at o6
          have l06 : Le h h6 := l15.kpNew (by simpa using hnbn) k6
          have hw6 : h6 wb = h5 wb := by
            obtain ⟨o, ho⟩ := hwb5
            rw [ho]; exact k6 _ _ ho (by simpa using hnbw.symm)
          have hc6 : h6 c = h5 c := by rw [g05]; exact k6 _ _ g05 (by simpa using hnbc.symm)
          have hst : ∀ (j : Nat) (x : Wrk × Option Nat) (cs : List Value), j ≠ i → Z[j]? = some x → shWrkM.R h5 cs x → shWrkG.R h6 cs (x.1, true) := fun j x cs hj hx hR => by
            refine wrkM_G h6 cs x ?_
            obtain ⟨a1, a2, a3, a4, a5, rfl, a6, a7⟩ := hR
            refine ⟨a1, a2, a3, a4, a5, rfl, a6.mono (t6 _ (by decide)), ?_⟩
            rcases a7 with a7 | ⟨m', f1, f2, f3, f4⟩
            · exact .inl a7
            · exact .inr ⟨m', f1, f2, f3, f4.kp k6 (by simpa using hdis j x m' hj hx f1) (t6 _ (by decide))⟩
          have hsl : Sl 145 shMrk h6 (.slice (some ⟨nb, 0, none⟩) (mn + 1) mc) (wm ++ [mk']) := o6.sl (by simp [hmn])
          subst hm
          cbv
          refine rest h6 _ _ (t6 _ (by decide)) l06 hw6 hc6 hsl hst _ (fun h7 l7 hc7 hdb => ?_)
          have g07 := hc7.trans g05
          cbv
          rw [offm A]
          refine ldb g07 rfl rfl ?_
          cbv
          refine own47K hdb (fun h8 b1 n1 c1 b2 n2 c2 b3 n3 c3 b4 n4 c4 l8 hd6 => ?_)
          have hfin := hk h8 b1 n1 c1 b2 n2 c2 b3 n3 c3 b4 n4 c4 (l7.trans l8) hd6
          rw [← hDe] at hfin
          cbv
          exact hfin
        · refine appendX_own hq5 qx (by omega) rfl (by decide) (by omega) (fun nb c6 h6 hnb l6 hc o6 => ?_)
          have hw6 : h6 wb = h5 wb := by
            obtain ⟨o, ho⟩ := hwb5
            rw [ho]; exact l6 _ _ ho
          have hc6 : h6 c = h5 c := by rw [g05]; exact l6 _ _ g05
          have hst : ∀ (j : Nat) (x : Wrk × Option Nat) (cs : List Value), j ≠ i → Z[j]? = some x → shWrkM.R h5 cs x → shWrkG.R h6 cs (x.1, true) := fun j x cs hj hx hR => wrkM_G h6 cs x (shWrkM.mono (l6.t _) hR)
          have hsl : Sl 145 shMrk h6 (.slice (some ⟨nb, 0, none⟩) (mn + 1) c6) (wm ++ [mk']) := o6.sl (by simp [hmn])
          cbv
          refine rest h6 _ _ (l6.t _) (l15.trans l6) hw6 hc6 hsl hst _ (fun h7 l7 hc7 hdb => ?_)
          have g07 := hc7.trans g05
          cbv
          rw [offm A]
          refine ldb g07 rfl rfl ?_
          cbv
          refine own47K hdb (fun h8 b1 n1 c1 b2 n2 c2 b3 n3 c3 b4 n4 c4 l8 hd6 => ?_)
          have hfin := hk h8 b1 n1 c1 b2 n2 c2 b3 n3 c3 b4 n4 c4 (l7.trans l8) hd6
          rw [← hDe] at hfin
          cbv
          exact hfin
end Go.S

set_option maxRecDepth 100000
set_option maxHeartbeats 8000000
set_option linter.unusedVariables false
set_option linter.unusedSimpArgs false
namespace Go.S
open Go.Sx Go.Proofs

theorem toRef62K {nm : ByteArray} {key : Int} {only : Bool} {h : Heap} {b1 b2 : Option Addr} {n1 c1 n2 c2 : Nat} {k : Value → Heap → Prop}
    (hk : k (.agg #[.string nm, .slice b1 n1 c1, .int .i64 key, .bool only, .slice b2 n2 c2]) h) : Ct 62 [.agg #[.string nm, .slice b1 n1 c1, .int .i64 key, .bool only, .slice b2 n2 c2]] h k := by
  obtain ⟨A, hA⟩ := Ar.ex
  refine fn_of_sx A (tabOk T62.plan T62.pub) Tryz.func62 rfl (by kernel_rfl) ?_
  cbv
  exact hk

theorem toRef61K {H Wt : List Hld} {h : Heap} {b1 b2 : Option Addr} {n1 c1 n2 c2 : Nat} (q1 : Sl 188 shHld h (.slice b1 n1 c1) H) (q2 : Sl 188 shHld h (.slice b2 n2 c2) Wt) (hl1 : H.length ≤ 2 ^ 38) (hl2 : Wt.length ≤ 2 ^ 38) {k : Value → Heap → Prop}
    (hk : ∀ h' b n c b' n' c', Le h h' → Sl 209 shHld h' (.slice b n c) H → Sl 209 shHld h' (.slice b' n' c') Wt → k (.agg #[.slice b n c, .slice b' n' c']) h') : Ct 61 [.agg #[.slice b1 n1 c1, .slice b2 n2 c2]] h k := by
  obtain ⟨A, hA⟩ := Ar.ex
  have hn1 := q1.len
  have hn2 := q2.len
  refine fn_of_sx A (tabOk T61.plan T61.pub) Tryz.func61 rfl (by kernel_rfl) ?_
  obtain ⟨I, hI0⟩ : ∃ I : Nat → (Int × Option Addr × Nat × Nat) → Heap → Prop, ∀ m g h', I m g h' = ∃ i, IsN g.1 i ∧ m = n1 - i ∧ i ≤ n1 ∧ Le h h' ∧ Buf 209 shHld h h' (.slice g.2.1 g.2.2.1 g.2.2.2) (H.take i) := ⟨_, fun _ _ _ => rfl⟩
  cbv
  refine LoopX.go (G := Int × Option Addr × Nat × Nat) (fun g => [(4, .v (.int .i64 g.1))]) (fun g => [(1, [.slice b1 n1 c1, .slice b2 n2 c2]), (2, [.slice none 0 0, .slice none 0 0]), (3, [.slice g.2.1 g.2.2.1 g.2.2.2, .slice none 0 0])]) (fun m g h' => I m g h') n1 (0, none, 0, 0) ⟨?_, ?_, ?_⟩ (by rw [hI0]; exact ⟨0, ⟨rfl⟩, by omega, by omega, Le.refl _, Buf.nil⟩) ?_
  · cbv
  · cbv
  · cbv
  · intro m g h' hI
    rw [hI0] at hI
    cbv
    obtain ⟨i, hz, hm, hi, hle, hb⟩ := hI
    obtain ⟨z, y1, y2, y3⟩ := g
    have hz : IsN z i := hz
    have hb : Buf 209 shHld h h' (.slice y1 y2 y3) (H.take i) := hb
    have hyl : y2 = i := by have := hb.sl.len; rw [List.length_take] at this; omega
    refine bsel_mk (fun hc => ?_) (fun hc => ?_)
    · have hlt := hz.lt hc
      clear hc
      obtain ⟨⟨xs, xt, xx⟩, hx⟩ := get_ex (xs := H) (i := i) (by omega)
      have hck : b1.isSome = true ∧ 0 ≤ z ∧ z < (n1 : Int) := ⟨q1.isSm (by omega), hz.ix hlt⟩
      have qh := q1.mono (hle.t _)
      have hze := hz.eq
      have hnx := hz.succ (A := A) (by omega)
      cbv
      refine ⟨hck, ?_⟩
      cbv
      refine qh.loadF hx hze (o := 0) (m := 1) (by decide) (fun cs hcs => ?_)
      have hcs : cs = [.int .i64 xs, .string xt, .bool xx] := hcs
      subst hcs
      cbv
      refine ⟨hck, ?_⟩
      cbv
      refine qh.loadF hx hze (o := 1) (m := 1) (by decide) (fun cs hcs => ?_)
      have hcs : cs = [.int .i64 xs, .string xt, .bool xx] := hcs
      subst hcs
      cbv
      refine ⟨hck, ?_⟩
      cbv
      refine qh.loadF hx hze (o := 2) (m := 1) (by decide) (fun cs hcs => ?_)
      have hcs : cs = [.int .i64 xs, .string xt, .bool xx] := hcs
      subst hcs
      cbv
      intro n6 h6 g6 e6
      have l6 : Le h' h6 := by rw [e6]; exact Le.set g6
      have f6 := (congrFun e6 n6).trans hset_self
      cbv
      refine (hb.mono (l6.t _)).append (one_sl (s := shHld) f6 (x := ⟨xs, xt, xx⟩) rfl) (by decide) rfl (by decide) (by omega) (hle.trans l6) (fun mm b' c' h7 hmm l7 t7 k7 hb7 => ?_)
      have hI2 : I (n1 - (i + 1)) (A .ari .add .i64 z 1, b', mm, c') h7 := by
        rw [hI0]
        refine ⟨i + 1, hnx, rfl, by omega, l7, ?_⟩
        rw [List.take_add_one, hx]; exact hb7
      cbv
      refine ⟨n1 - (i + 1), (_, b', mm, c'), by omega, ⟨?_, ?_, ?_⟩, hI2⟩
      · cbv
      · cbv
      · cbv
    · have hge := hz.ge hc
      clear hc
      have hH : H.take i = H := List.take_of_length_le (by omega)
      rw [hH] at hb
      have q2h := q2.mono (hle.t _)
      have qH := hb.sl
      obtain ⟨I2, hI20⟩ : ∃ I : Nat → (Int × Option Addr × Nat × Nat) → Heap → Prop, ∀ m g h2, I m g h2 = ∃ i, IsN g.1 i ∧ m = n2 - i ∧ i ≤ n2 ∧ Le h' h2 ∧ Buf 209 shHld h' h2 (.slice g.2.1 g.2.2.1 g.2.2.2) (Wt.take i) := ⟨_, fun _ _ _ => rfl⟩
      cbv
      refine LoopX.go (G := Int × Option Addr × Nat × Nat) (fun g => [(5, .v (.int .i64 g.1))]) (fun g => [(1, [.slice b1 n1 c1, .slice b2 n2 c2]), (2, [.slice none 0 0, .slice none 0 0]), (3, [.slice y1 y2 y3, .slice g.2.1 g.2.2.1 g.2.2.2])]) (fun m g h' => I2 m g h') n2 (0, none, 0, 0) ⟨?_, ?_, ?_⟩ (by rw [hI20]; exact ⟨0, ⟨rfl⟩, by omega, by omega, Le.refl _, Buf.nil⟩) ?_
      · cbv
      · cbv
      · cbv
      · intro m g h2 hI
        rw [hI20] at hI
        cbv
        obtain ⟨j, hz, hm, hj, hle2, hb2⟩ := hI
        obtain ⟨z, x1, x2, x3⟩ := g
        have hz : IsN z j := hz
        have hb2 : Buf 209 shHld h' h2 (.slice x1 x2 x3) (Wt.take j) := hb2
        have hyl2 : x2 = j := by have := hb2.sl.len; rw [List.length_take] at this; omega
        refine bsel_mk (fun hc => ?_) (fun hc => ?_)
        · have hlt := hz.lt hc
          clear hc
          obtain ⟨⟨xs, xt, xx⟩, hx⟩ := get_ex (xs := Wt) (i := j) (by omega)
          have hck : b2.isSome = true ∧ 0 ≤ z ∧ z < (n2 : Int) := ⟨q2.isSm (by omega), hz.ix hlt⟩
          have qh := q2h.mono (hle2.t _)
          have hze := hz.eq
          have hnx := hz.succ (A := A) (by omega)
          cbv
          refine ⟨hck, ?_⟩
          cbv
          refine qh.loadF hx hze (o := 0) (m := 1) (by decide) (fun cs hcs => ?_)
          have hcs : cs = [.int .i64 xs, .string xt, .bool xx] := hcs
          subst hcs
          cbv
          refine ⟨hck, ?_⟩
          cbv
          refine qh.loadF hx hze (o := 1) (m := 1) (by decide) (fun cs hcs => ?_)
          have hcs : cs = [.int .i64 xs, .string xt, .bool xx] := hcs
          subst hcs
          cbv
          refine ⟨hck, ?_⟩
          cbv
          refine qh.loadF hx hze (o := 2) (m := 1) (by decide) (fun cs hcs => ?_)
          have hcs : cs = [.int .i64 xs, .string xt, .bool xx] := hcs
          subst hcs
          cbv
          intro n6 h6 g6 e6
          have l6 : Le h2 h6 := by rw [e6]; exact Le.set g6
          have f6 := (congrFun e6 n6).trans hset_self
          cbv
          refine (hb2.mono (l6.t _)).append (one_sl (s := shHld) f6 (x := ⟨xs, xt, xx⟩) rfl) (by decide) rfl (by decide) (by omega) (hle2.trans l6) (fun mm b' c' h7 hmm l7 t7 k7 hb7 => ?_)
          have hI2 : I2 (n2 - (j + 1)) (A .ari .add .i64 z 1, b', mm, c') h7 := by
            rw [hI20]
            refine ⟨j + 1, hnx, rfl, by omega, l7, ?_⟩
            rw [List.take_add_one, hx]; exact hb7
          cbv
          refine ⟨n2 - (j + 1), (_, b', mm, c'), by omega, ⟨?_, ?_, ?_⟩, hI2⟩
          · cbv
          · cbv
          · cbv
        · have hge := hz.ge hc
          have hW : Wt.take j = Wt := List.take_of_length_le (by omega)
          rw [hW] at hb2
          have hfin := hk h2 y1 y2 y3 x1 x2 x3 (hle.trans hle2) (qH.mono (hle2.t _)) hb2.sl
          cbv
          exact hfin
end Go.S

set_option maxRecDepth 100000
set_option maxHeartbeats 8000000
set_option linter.unusedVariables false
set_option linter.unusedSimpArgs false
namespace Go.S
open Go.Sx Go.Proofs

theorem toRef26K {d : DB} {h : Heap} {v : Value} (q : RDB h v d) (ht38 : d.tabs.length ≤ 2 ^ 37) (hw38 : d.works.length ≤ 2 ^ 37) (hm38 : ∀ w ∈ d.works, w.marks.length ≤ 2 ^ 37) (hh38 : d.holds.length ≤ 2 ^ 37) (hwt38 : d.waits.length ≤ 2 ^ 37) {k : Value → Heap → Prop}
    (hk : ∀ h' b1 n1 c1 b2 n2 c2 b3 n3 c3 b4 n4 c4, Le h h' → RP h' b1 n1 c1 b2 n2 c2 b3 n3 c3 b4 n4 c4 d → k (.agg #[.slice b1 n1 c1, .slice b2 n2 c2, .slice b3 n3 c3, .slice b4 n4 c4]) h') : Ct 26 [v] h k := by
  obtain ⟨A, hA⟩ := Ar.ex
  obtain ⟨b1, n1, c1, b2, n2, c2, b3, n3, c3, b4, n4, c4, ws, rfl, q1, q2, q3, q4, qw⟩ := q.out
  have hn1 := q1.len
  have hn2 := q2.len
  have hwl : ws.length = d.works.length := by rw [← qw, List.length_map]
  refine fn_of_sx A (tabOk T26.plan T26.pub) Tryz.func26 rfl (by kernel_rfl) ?_
  cbv
  refine toRef61K q3 q4 (by omega) (by omega) (fun h1 e3 f3 g3 e4 f4 g4 l1 r3 r4 => ?_)
  obtain ⟨I, hI0⟩ : ∃ I : Nat → (Int × Option Addr × Nat × Nat) → Heap → Prop, ∀ m g h', I m g h' = ∃ i, IsN g.1 i ∧ m = n1 - i ∧ i ≤ n1 ∧ Le h1 h' ∧ Buf 100 shTbl h1 h' (.slice g.2.1 g.2.2.1 g.2.2.2) (d.tabs.take i) := ⟨_, fun _ _ _ => rfl⟩
  cbv
  refine LoopX.go (G := Int × Option Addr × Nat × Nat) (fun g => [(4, .v (.int .i64 g.1))]) (fun g => [(1, [.slice b1 n1 c1, .slice b2 n2 c2, .slice b3 n3 c3, .slice b4 n4 c4]), (2, [.slice none 0 0, .slice none 0 0, .slice none 0 0, .slice none 0 0]), (3, [.slice g.2.1 g.2.2.1 g.2.2.2, .slice none 0 0, .slice e3 f3 g3, .slice e4 f4 g4])]) (fun m g h' => I m g h') n1 (0, none, 0, 0) ⟨?_, ?_, ?_⟩ (by rw [hI0]; exact ⟨0, ⟨rfl⟩, by omega, by omega, Le.refl _, Buf.nil⟩) ?_
  · cbv
  · cbv
  · cbv
  · intro m g h' hI
    rw [hI0] at hI
    cbv
    obtain ⟨i, hz, hm, hi, hle, hb⟩ := hI
    obtain ⟨z, y1, y2, y3⟩ := g
    have hz : IsN z i := hz
    have hb : Buf 100 shTbl h1 h' (.slice y1 y2 y3) (d.tabs.take i) := hb
    have hyl : y2 = i := by have := hb.sl.len; rw [List.length_take] at this; omega
    refine bsel_mk (fun hc => ?_) (fun hc => ?_)
    · have hlt := hz.lt hc
      clear hc
      obtain ⟨⟨⟨tn, tc, tk, to⟩, tr⟩, hx⟩ := get_ex (xs := d.tabs) (i := i) (by omega)
      have hck : b1.isSome = true ∧ 0 ≤ z ∧ z < (n1 : Int) := ⟨q1.isSm (by omega), hz.ix hlt⟩
      have qh := q1.mono ((l1.trans hle).t _)
      have hze := hz.eq
      have hnx := hz.succ (A := A) (by omega)
      cbv
      refine ⟨hck, ?_⟩
      cbv
      refine ld_tbl qh hx hze (fun x1 x2 x3 x4 x5 x6 s1 s2 => ?_)
      cbv
      refine toRef62K ?_
      cbv
      intro n6 h6 g6 e6
      have l6 : Le h' h6 := by rw [e6]; exact Le.set g6
      have f6 := (congrFun e6 n6).trans hset_self
      have sx : Sl 100 shTbl h6 (.slice (some ⟨n6, 0, none⟩) 1 1) [⟨⟨tn, tc, tk, to⟩, tr⟩] := one_sl (s := shTbl) f6 ⟨_, _, _, _, _, _, rfl, s1.mono (l6.t _), s2.mono (l6.t _)⟩
      cbv
      refine (hb.mono (l6.t _)).append sx (by decide) rfl (by decide) (by omega) (hle.trans l6) (fun mm b' c' h7 hmm l7 t7 k7 hb7 => ?_)
      have hI2 : I (n1 - (i + 1)) (A .ari .add .i64 z 1, b', mm, c') h7 := by
        rw [hI0]
        refine ⟨i + 1, hnx, rfl, by omega, l7, ?_⟩
        rw [List.take_add_one, hx]; exact hb7
      cbv
      refine ⟨n1 - (i + 1), (_, b', mm, c'), by omega, ⟨?_, ?_, ?_⟩, hI2⟩
      · cbv
      · cbv
      · cbv
    · have hge := hz.ge hc
      clear hc
      have hT : d.tabs.take i = d.tabs := List.take_of_length_le (by omega)
      rw [hT] at hb
      have qT := hb.sl
      have q2h := q2.mono ((l1.trans hle).t _)
      obtain ⟨I2, hI20⟩ : ∃ I : Nat → (Int × Option Addr × Nat × Nat) → Heap → Prop, ∀ m g h2, I m g h2 = ∃ j, IsN g.1 j ∧ m = n2 - j ∧ j ≤ n2 ∧ Le h' h2 ∧ Buf 143 shWrkR h' h2 (.slice g.2.1 g.2.2.1 g.2.2.2) (d.works.take j) := ⟨_, fun _ _ _ => rfl⟩
      cbv
      refine LoopX.go (G := Int × Option Addr × Nat × Nat) (fun g => [(5, .v (.int .i64 g.1))]) (fun g => [(1, [.slice b1 n1 c1, .slice b2 n2 c2, .slice b3 n3 c3, .slice b4 n4 c4]), (2, [.slice none 0 0, .slice none 0 0, .slice none 0 0, .slice none 0 0]), (3, [.slice y1 y2 y3, .slice g.2.1 g.2.2.1 g.2.2.2, .slice e3 f3 g3, .slice e4 f4 g4])]) (fun m g h' => I2 m g h') n2 (0, none, 0, 0) ⟨?_, ?_, ?_⟩ (by rw [hI20]; exact ⟨0, ⟨rfl⟩, by omega, by omega, Le.refl _, Buf.nil⟩) ?_
      · cbv
      · cbv
      · cbv
      · intro m g h2 hI
        rw [hI20] at hI
        cbv
        obtain ⟨j, hz2, hm2, hj, hle2, hb2⟩ := hI
        obtain ⟨z2, x1, x2, x3⟩ := g
        have hz2 : IsN z2 j := hz2
        have hb2 : Buf 143 shWrkR h' h2 (.slice x1 x2 x3) (d.works.take j) := hb2
        have hyl2 : x2 = j := by have := hb2.sl.len; rw [List.length_take] at this; omega
        refine bsel_mk (fun hc => ?_) (fun hc => ?_)
        · have hlt := hz2.lt hc
          clear hc
          obtain ⟨⟨⟨wS, wL, wM⟩, wg⟩, hx⟩ := get_ex (xs := ws) (i := j) (by omega)
          have hxd : d.works[j]? = some ⟨wS, wL, wM⟩ := by rw [← qw, List.getElem?_map, hx]; rfl
          have hmk := hm38 _ (List.mem_of_getElem? hxd)
          have hmk : wM.length ≤ 2 ^ 37 := hmk
          have hck2 : b2.isSome = true ∧ 0 ≤ z2 ∧ z2 < (n2 : Int) := ⟨q2.isSm (by omega), hz2.ix hlt⟩
          have qh2 := q2h.mono (hle2.t _)
          have hze2 := hz2.eq
          have hnx2 := hz2.succ (A := A) (by omega)
          cbv
          refine ⟨hck2, ?_⟩
          cbv
          refine qh2.loadF hx hze2 (o := 0) (m := 1) (by simp [shWrkG]) (fun cs hcs => ?_)
          obtain ⟨_, _, _, _, _, _, rfl, -⟩ := hcs
          cbv
          refine ⟨hck2, ?_⟩
          cbv
          refine ld_log qh2 hx hze2 (fun lb ln lc ql _ _ => ?_)
          have ql : Sl 77 shChg h2 (.slice lb ln lc) wL := ql
          obtain ⟨I3, hI30⟩ : ∃ I : Nat → (Int × Option Addr × Nat × Nat) → Heap → Prop, ∀ m g h3, I m g h3 = ∃ t, IsN g.1 t ∧ m = wM.length - t ∧ t ≤ wM.length ∧ Le h2 h3 ∧ Buf 146 shMrk h2 h3 (.slice g.2.1 g.2.2.1 g.2.2.2) (wM.take t) := ⟨_, fun _ _ _ => rfl⟩
          cbv
          refine LoopX.go (G := Int × Option Addr × Nat × Nat) (fun g => [(7, .v (.int .i64 g.1))]) (fun g => [(1, [.slice b1 n1 c1, .slice b2 n2 c2, .slice b3 n3 c3, .slice b4 n4 c4]), (2, [.slice none 0 0, .slice none 0 0, .slice none 0 0, .slice none 0 0]), (3, [.slice y1 y2 y3, .slice x1 x2 x3, .slice e3 f3 g3, .slice e4 f4 g4]), (6, [.int .i64 wS, .slice lb ln lc, .slice g.2.1 g.2.2.1 g.2.2.2])]) (fun m g h' => I3 m g h') wM.length (0, none, 0, 0) ⟨?_, ?_, ?_⟩ (by rw [hI30]; exact ⟨0, ⟨rfl⟩, by omega, by omega, Le.refl _, Buf.nil⟩) ?_
          · cbv
          · cbv
          · cbv
          · intro m g h3 hI
            rw [hI30] at hI
            cbv
            obtain ⟨t, hz3, hm3, htt, hle3, hb3⟩ := hI
            obtain ⟨z3, w1, w2, w3⟩ := g
            have hz3 : IsN z3 t := hz3
            have hb3 : Buf 146 shMrk h2 h3 (.slice w1 w2 w3) (wM.take t) := hb3
            have hyl3 : w2 = t := by have := hb3.sl.len; rw [List.length_take] at this; omega
            have qh3 := qh2.mono (hle3.t _)
            refine ⟨hck2, ?_⟩
            cbv
            refine ld_marks qh3 hx hze2 (fun mb mn mc qm ag => ?_)
            have qm : Sl 145 shMrk h3 (.slice mb mn mc) wM := qm
            have hmn : mn = wM.length := qm.len
            cbv
            refine bsel_mk (fun hc => ?_) (fun hc => ?_)
            · have hlt3 := hz3.lt hc
              clear hc
              obtain ⟨⟨xn, xa⟩, hxm⟩ := get_ex (xs := wM) (i := t) (by omega)
              have hck3 : mb.isSome = true ∧ 0 ≤ z3 ∧ z3 < (mn : Int) := ⟨qm.isSm (by omega), hz3.ix hlt3⟩
              have hze3 := hz3.eq
              have hnx3 := hz3.succ (A := A) (by omega)
              cbv
              refine ⟨hck2, ?_⟩
              cbv
              refine ag _ _ (Le.refl _) ?_
              cbv
              refine ⟨hck3, ?_⟩
              cbv
              refine qm.loadF hxm hze3 (o := 0) (m := 1) (by decide) (fun cs hcs => ?_)
              have hcs : cs = [.string xn, .int .i64 xa] := hcs
              subst hcs
              cbv
              refine ⟨hck2, ?_⟩
              cbv
              refine ag _ _ (Le.refl _) ?_
              cbv
              refine ⟨hck3, ?_⟩
              cbv
              refine qm.loadF hxm hze3 (o := 1) (m := 1) (by decide) (fun cs hcs => ?_)
              have hcs : cs = [.string xn, .int .i64 xa] := hcs
              subst hcs
              cbv
              intro n6 h6 g6 e6
              have l6 : Le h3 h6 := by rw [e6]; exact Le.set g6
              have f6 := (congrFun e6 n6).trans hset_self
              cbv
              refine (hb3.mono (l6.t _)).append (one_sl (s := shMrk) f6 (x := ⟨xn, xa⟩) rfl) (by decide) rfl (by decide) (by omega) (hle3.trans l6) (fun mm b' c' h7 hmm l7 t7 k7 hb7 => ?_)
              have hI2 : I3 (wM.length - (t + 1)) (A .ari .add .i64 z3 1, b', mm, c') h7 := by
                rw [hI30]
                refine ⟨t + 1, hnx3, rfl, by omega, l7, ?_⟩
                rw [List.take_add_one, hxm]; exact hb7
              cbv
              refine ⟨wM.length - (t + 1), (_, b', mm, c'), by omega, ⟨?_, ?_, ?_⟩, hI2⟩
              · cbv
              · cbv
              · cbv
            · have hge3 := hz3.ge hc
              clear hc
              have hM : wM.take t = wM := List.take_of_length_le (by omega)
              rw [hM] at hb3
              have qM := hb3.sl
              cbv
              intro n6 h6 g6 e6
              have l6 : Le h3 h6 := by rw [e6]; exact Le.set g6
              have f6 := (congrFun e6 n6).trans hset_self
              have sx : Sl 143 shWrkR h6 (.slice (some ⟨n6, 0, none⟩) 1 1) [⟨wS, wL, wM⟩] := one_sl (s := shWrkR) f6 ⟨_, _, _, _, _, _, rfl, ql.mono ((hle3.trans l6).t _), qM.mono (l6.t _)⟩
              have l26 := hle3.trans l6
              cbv
              refine (hb2.mono (l26.t _)).append sx (by decide) rfl (by decide) (by omega) (hle2.trans l26) (fun mm b' c' h7 hmm l7 t7 k7 hb7 => ?_)
              have hI2 : I2 (n2 - (j + 1)) (A .ari .add .i64 z2 1, b', mm, c') h7 := by
                rw [hI20]
                refine ⟨j + 1, hnx2, rfl, by omega, l7, ?_⟩
                rw [List.take_add_one, hxd]; exact hb7
              cbv
              refine ⟨n2 - (j + 1), (_, b', mm, c'), by omega, ⟨?_, ?_, ?_⟩, hI2⟩
              · cbv
              · cbv
              · cbv
        · have hge := hz2.ge hc
          clear hc
          have hW : d.works.take j = d.works := List.take_of_length_le (by omega)
          rw [hW] at hb2
          have l02 := hle.trans hle2
          have hfin := hk h2 y1 y2 y3 x1 x2 x3 e3 f3 g3 e4 f4 g4 (l1.trans l02) ⟨qT.mono (hle2.t _), hb2.sl, r3.mono (l02.t _), r4.mono (l02.t _)⟩
          cbv
          exact hfin
end Go.S

