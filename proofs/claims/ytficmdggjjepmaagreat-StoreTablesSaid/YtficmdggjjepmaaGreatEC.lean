import Derived.Test.YtficmdggjjepmaaGreatEB
import Derived.Test.YtficmdggjjepmaaGreatRd
set_option linter.all false
set_option maxRecDepth 100000
set_option maxHeartbeats 8000000
namespace Go.S
open Go.Sx Go.Proofs

def wrkC (W : List Wrk) (s : Int) : List Int := W.map fun x => IntKind.i64.wrap (x.s - s)
def onD (d : DB) (hd : Hld) : Bool := bsB (wrkC d.works hd.s) && bsB (tabCmps d.tabs hd.table)
def holdD (d : DB) (hd : Hld) : DB × Int :=
  if onD d hd = true then (⟨d.tabs, d.works, askH d.holds hd, askW d.holds d.waits hd⟩, if askFree d.holds hd = true then 0 else 16) else (d, 2)
/-- Nobody waits in a ring. -/
def Calm (d : DB) (hd : Hld) : Prop := askFree d.holds hd = false → (victim (edges (askH d.holds hd) (askW d.holds d.waits hd)) hd.s).2 = false
def changeR (d : DB) (hd : Hld) (act : Tbl → Tbl × Chg × Int) : DB × Int :=
  if decide ((holdD d hd).2 ≠ 0) = true then holdD d hd
  else match d.tabs[bsI (tabCmps d.tabs hd.table)]?, d.works[bsI (wrkC d.works hd.s)]? with
    | some t, some w =>
      if decide ((act t).2.2 ≠ 19) && decide ((w.log.length : Int) ≥ 60) then ((holdD d hd).1, 4)
      else if decide ((act t).2.2 = 0) = true then
        (⟨d.tabs.set (bsI (tabCmps d.tabs hd.table)) (act t).1, d.works.set (bsI (wrkC d.works hd.s)) ⟨w.s, w.log ++ [⟨hd.table, (act t).2.1.op, (act t).2.1.row⟩], w.marks⟩, (holdD d hd).1.holds, (holdD d hd).1.waits⟩, 0)
      else ((holdD d hd).1, (act t).2.2)
    | _, _ => holdD d hd
structure Small (d : DB) : Prop where
  tabs : d.tabs.length ≤ 2 ^ 37
  works : d.works.length ≤ 2 ^ 37
  rows : ∀ t ∈ d.tabs, t.rows.length ≤ 2 ^ 37
  holds : d.holds.length < 2 ^ 18
  waits : d.waits.length < 2 ^ 18

end Go.S

set_option maxRecDepth 100000
set_option maxHeartbeats 8000000
namespace Go.S
open Go.Sx Go.Proofs

def putD (d : DB) (s : Int) (name : ByteArray) (r : Row) : DB × Int := changeR d ⟨s, name, true⟩ (doPut r)
def takeD (d : DB) (s : Int) (name : ByteArray) (k : Val) : DB × Int := changeR d ⟨s, name, true⟩ (doTake k)
def createD (d : DB) (s : Sch) : DB × Int := createR d s (bsI (tabCmps d.tabs s.name)) (bsB (tabCmps d.tabs s.name))
def beginD (d : DB) (s : Int) : DB × Int := beginR d s (bsI (wrkC d.works s)) (bsB (wrkC d.works s))

/-- What a state's value goes on with. -/
abbrev DbK (h : Heap) (d' : DB) (e : Int) (k : Value → Heap → Prop) : Prop :=
  ∀ h' b1 n1 c1 b2 n2 c2 b3 n3 c3 b4 n4 c4, Le h h' → RDB h' (.agg #[.slice b1 n1 c1, .slice b2 n2 c2, .slice b3 n3 c3, .slice b4 n4 c4]) d' → k (.tuple #[.agg #[.slice b1 n1 c1, .slice b2 n2 c2, .slice b3 n3 c3, .slice b4 n4 c4], .int .i64 e]) h'

theorem isn_inj {z : Int} {i j : Nat} (a : IsN z i) (b : IsN z j) : i = j := by have := a.eq; have := b.eq; omega

theorem create17K {d : DB} {h : Heap} {v : Value} (q : RDB h v d) {nm : ByteArray} {cols : List Col} {key : Int} {only : Bool} {sb : Option Addr} {sn sc : Nat} (qs : Sl 58 shCol h (.slice sb sn sc) cols) (sm : Small d) {D : DB × Int} (hD : createD d ⟨nm, cols, key, only⟩ = D)
    {k : Value → Heap → Prop} (hk : DbK h D.1 D.2 k) : Ct 59 [v, .agg #[.string nm, .slice sb sn sc, .int .i64 key, .bool only]] h k :=
  (create17 q qs sm.tabs sm.works).mono (fun v h' hR => by
    obtain ⟨v1, e, z, i, is, hv, l, hd, he, hz, hb⟩ := hR
    obtain ⟨h1, h2⟩ := hb.at_
    have hi := isn_inj hz h1
    have hR2 : createR d ⟨nm, cols, key, only⟩ i is = D := by rw [← hD, hi, h2]; rfl
    rw [hR2] at hd he
    obtain ⟨b1, n1, c1, b2, n2, c2, b3, n3, c3, b4, n4, c4, hf⟩ := hd.form
    rw [hv, hf, he]
    exact hk h' _ _ _ _ _ _ _ _ _ _ _ _ l (by rw [← hf]; exact hd))

end Go.S

set_option maxRecDepth 100000
set_option maxHeartbeats 8000000
namespace Go.S
open Go.Sx Go.Proofs

def db0 : DB := ⟨[], [], [], []⟩
def nX : ByteArray := ⟨#[120]⟩
def nA : ByteArray := ⟨#[97]⟩
def kS : Sch := ⟨nX, [⟨nA, 2, false⟩], 0, false⟩
def kd1 : DB := (createD db0 kS).1
def kd2 : DB := (beginD kd1 1).1
def kd3 : DB := (beginD kd2 2).1
def kd4 : DB := (putD kd3 1 nX [⟨2, 5, noName⟩]).1
def kd5 : DB := (putD kd4 2 nX [⟨2, 6, noName⟩]).1

def smallB (d : DB) : Bool := decide (d.tabs.length ≤ 1000) && decide (d.works.length ≤ 1000) && d.tabs.all (fun t => decide (t.rows.length ≤ 1000)) && decide (d.holds.length ≤ 1000) && decide (d.waits.length ≤ 1000)
def calmB (d : DB) (hd : Hld) : Bool := askFree d.holds hd || !(victim (edges (askH d.holds hd) (askW d.holds d.waits hd)) hd.s).2
end Go.S

set_option maxRecDepth 100000
set_option maxHeartbeats 8000000
namespace Go.S
open Go.Sx Go.Proofs

def shNames : List ByteArray := [⟨#[116, 97]⟩, ⟨#[116, 98]⟩, ⟨#[116, 99]⟩]
def shColsE : List Col := [⟨nA, 2, false⟩, ⟨⟨#[98]⟩, 3, true⟩]
def shapeS (t : Nat) : Sch := ⟨(shNames[t]?).getD noName, shColsE, 0, decide (t = 2)⟩
end Go.S

set_option maxRecDepth 100000
set_option maxHeartbeats 8000000
namespace Go.S
open Go.Sx Go.Proofs

theorem lang172 (h : Heap) : Ct 251 [] h (fun v h' => Le h h' ∧ ∃ nb, v = .slice (some ⟨nb, 0, none⟩) 41 41 ∧ Sl 9 shStr h' v langL) := by
  obtain ⟨A, hA⟩ := Ar.ex
  refine fn_of_sx A (tabOk T251.plan T251.pub) Tryz.func251 rfl (by kernel_rfl) ?_
  cbv
  intro n h1 hn e1
  have g : h1 n = some (.cells (List.toArray (langL.map Value.string)) 9 (0, 0)) := by rw [e1]; exact hset_self
  have hr : Sx.Rows shStr h1 (langL.map Value.string) 0 langL := by
    refine ⟨by decide, fun i x hx => ?_⟩
    have hlt := (List.getElem?_eq_some_iff.1 hx).1
    show List.take 1 (List.drop (0 + i * 1) _) = _
    rw [Nat.zero_add, Nat.mul_one, List.drop_eq_getElem_cons (by simpa using hlt)]
    rw [List.getElem?_eq_some_iff] at hx
    simp [hx.2]
  have hs : Sl 9 shStr h1 (.slice (some ⟨n, 0, none⟩) 41 41) langL := Sl.fresh (xs := langL) g hr (by decide) (by decide)
  have hl : Le h h1 := by rw [e1]; exact Le.set hn
  clear g hr e1
  cbv
  exact ⟨hl, n, rfl, hs⟩


theorem name134 {h : Heap} {s : ByteArray} : Ct 149 [.string s] h (fun v h' => Le h h' ∧ ∃ t, v = .bool t ∧ t = nameOk s) := by
  obtain ⟨A, hA⟩ := Ar.ex
  refine fn_of_sx A (tabOk T149.plan T149.pub) Tryz.func149 rfl (by kernel_rfl) ?_
  have hn : A .sln s = (s.size : Int) := by rw [hA.sln]
  have hnN : IsN (A .sln s) s.size := ⟨hn⟩
  have hby : ∀ z i, IsN z i → A .byte s z = byteAt s i := fun z i hz => by
    rw [hA.byte]; simp only [byteAt]; rw [hz.eq]; rfl
  generalize e1 : A .icm .lss (A .sln s) 1 = t1
  generalize e2 : A .icm .gtr (A .sln s) 12 = t2
  generalize e3 : A .icm .lss (A .byte s 0) 97 = t3
  generalize e4 : A .icm .gtr (A .byte s 0) 122 = t4
  have h12 : t2 = false → s.size ≤ 12 := fun e => by
    rw [e, hA.icm, hn] at e2
    have := of_decide_eq_false e2
    omega
  have hf : okFst s = !(t1 || t2 || t3 || t4) := by
    rw [← e1, ← e2, ← e3, ← e4, hby 0 0 ⟨rfl⟩, hn, hA.icm]
    rfl
  have h1s : t1 = false → (0 : Int) ≤ 0 ∧ 0 < (s.size : Int) := fun e => by
    rw [e, hA.icm, hn] at e1
    have := of_decide_eq_false e1
    omega
  have nope : ∀ (t : Bool) (b : Bool), t = false → okFst s = false → t = nameOk s := fun t b ht hq => by rw [ht, nameOk, hq]; rfl
  have hstart : ∀ (t : Bool), t = true → t = t := fun _ _ => rfl
  cbv
  rw [e1]
  cases t1 with
  | true =>
    cbv
    exact ⟨Le.refl _, false, rfl, nope _ true rfl hf⟩
  | false =>
    have h1 := h1s rfl
    cbv
    rw [e2]
    cases t2 with
    | true =>
      cbv
      exact ⟨Le.refl _, false, rfl, nope _ true rfl hf⟩
    | false =>
      cbv
      refine ⟨h1, ?_⟩
      cbv
      rw [e3]
      cases t3 with
      | true =>
        cbv
        exact ⟨Le.refl _, false, rfl, nope _ true rfl hf⟩
      | false =>
        cbv
        refine ⟨h1, ?_⟩
        cbv
        rw [e4]
        cases t4 with
        | true =>
          cbv
          exact ⟨Le.refl _, false, rfl, nope _ true rfl hf⟩
        | false =>
          cbv
          have hf' : okFst s = true := hf
          have h12 := h12 rfl
          clear hf e1 e2 e3 e4 h1s nope hstart
          refine LoopX.go (G := Int) (fun z => [(3, .v (.int .i64 z))]) (fun _ => []) (fun n z h' => ∃ i : Nat, IsN z i ∧ n = s.size - i ∧ i ≤ s.size ∧ h' = h ∧ ∀ j, j < i → okCh (byteAt s j) = true) s.size 0 ⟨?_, ?_, ?_⟩ ⟨0, ⟨rfl⟩, rfl, by omega, rfl, fun j hj => (by omega)⟩ ?_
          · cbv
          · cbv
          · cbv
          · intro n z h' hI
            cbv
            obtain ⟨i, hz, hn', hi, rfl, hall⟩ := hI
            refine bsel_mk (fun hc => ?_) (fun hc => ?_)
            · rw [hz.lt2 (A := A) hnN] at hc
              have hlt := of_decide_eq_true hc
              clear hc
              cbv
              refine ⟨hz.ix hlt, ?_⟩
              cbv
              rw [hby z i hz]
              generalize hw : byteAt s i = w
              generalize e1 : A .icm .lss w 97 = t1
              generalize e2 : A .icm .gtr w 122 = t2
              generalize e3 : A .icm .lss w 48 = t3
              generalize e4 : A .icm .gtr w 57 = t4
              generalize e5 : A .icm .neq w 95 = t5
              have hok : okCh w = !((t1 || t2) && (t3 || t4) && t5) := by
                rw [← e1, ← e2, ← e3, ← e4, ← e5, hA.icm]; rfl
              have bad : okCh w = false → nameOk s = false := fun e => by
                have : okAll s = false := by
                  unfold okAll
                  rw [List.all_eq_false]
                  exact ⟨i, by simp [hlt], by rw [hw, e]; simp⟩
                rw [nameOk, this]; simp
              have good : okCh w = true → ∀ j, j < i + 1 → okCh (byteAt s j) = true := fun e j hj => by
                rcases Nat.lt_or_ge j i with h | h
                · exact hall j h
                · have : j = i := by omega
                  rw [this, hw, e]
              cbv
              cases t1 with
              | true =>
                cbv
                rw [e3]
                cases t3 with
                | true =>
                  cbv
                  rw [e5]
                  cases t5 with
                  | true =>
                    cbv
                    exact ⟨Le.refl _, false, rfl, (bad (by rw [hok]; rfl)).symm⟩
                  | false =>
                    cbv
                    exact ⟨s.size - (i + 1), _, by omega, ⟨by cbv, by cbv, by cbv⟩, i + 1, hz.succ (A := A) (by omega), rfl, by omega, rfl, good (by rw [hok]; rfl)⟩
                | false =>
                  cbv
                  rw [e4]
                  cases t4 with
                  | true =>
                    cbv
                    rw [e5]
                    cases t5 with
                    | true =>
                      cbv
                      exact ⟨Le.refl _, false, rfl, (bad (by rw [hok]; rfl)).symm⟩
                    | false =>
                      cbv
                      exact ⟨s.size - (i + 1), _, by omega, ⟨by cbv, by cbv, by cbv⟩, i + 1, hz.succ (A := A) (by omega), rfl, by omega, rfl, good (by rw [hok]; rfl)⟩
                  | false =>
                    cbv
                    exact ⟨s.size - (i + 1), _, by omega, ⟨by cbv, by cbv, by cbv⟩, i + 1, hz.succ (A := A) (by omega), rfl, by omega, rfl, good (by rw [hok]; rfl)⟩
              | false =>
                cbv
                rw [e2]
                cases t2 with
                | true =>
                  cbv
                  rw [e3]
                  cases t3 with
                  | true =>
                    cbv
                    rw [e5]
                    cases t5 with
                    | true =>
                      cbv
                      exact ⟨Le.refl _, false, rfl, (bad (by rw [hok]; rfl)).symm⟩
                    | false =>
                      cbv
                      exact ⟨s.size - (i + 1), _, by omega, ⟨by cbv, by cbv, by cbv⟩, i + 1, hz.succ (A := A) (by omega), rfl, by omega, rfl, good (by rw [hok]; rfl)⟩
                  | false =>
                    cbv
                    rw [e4]
                    cases t4 with
                    | true =>
                      cbv
                      rw [e5]
                      cases t5 with
                      | true =>
                        cbv
                        exact ⟨Le.refl _, false, rfl, (bad (by rw [hok]; rfl)).symm⟩
                      | false =>
                        cbv
                        exact ⟨s.size - (i + 1), _, by omega, ⟨by cbv, by cbv, by cbv⟩, i + 1, hz.succ (A := A) (by omega), rfl, by omega, rfl, good (by rw [hok]; rfl)⟩
                    | false =>
                      cbv
                      exact ⟨s.size - (i + 1), _, by omega, ⟨by cbv, by cbv, by cbv⟩, i + 1, hz.succ (A := A) (by omega), rfl, by omega, rfl, good (by rw [hok]; rfl)⟩
                | false =>
                  cbv
                  exact ⟨s.size - (i + 1), _, by omega, ⟨by cbv, by cbv, by cbv⟩, i + 1, hz.succ (A := A) (by omega), rfl, by omega, rfl, good (by rw [hok]; rfl)⟩
            · rw [hz.lt2 (A := A) hnN] at hc
              have hge := of_decide_eq_false hc
              cbv
              have hallb : okAll s = true := by
                unfold okAll
                rw [List.all_eq_true]
                intro j hj
                rw [List.mem_range] at hj
                exact hall j (by omega)
              refine (lang172 h').mono (fun v h2 hR => ?_)
              obtain ⟨l2, nb, rfl, ql⟩ := hR
              cbv
              refine LoopX.go (G := Int) (fun z => [(6, .v (.int .i64 z))]) (fun _ => []) (fun n z h3 => ∃ i : Nat, IsN z i ∧ n = 41 - i ∧ i ≤ 41 ∧ h3 = h2 ∧ ∀ j, j < i → ∀ y, langL[j]? = some y → y ≠ s) 41 0 ⟨?_, ?_, ?_⟩ ⟨0, ⟨rfl⟩, by omega, by omega, rfl, fun j hj => (by omega)⟩ ?_
              · cbv
              · cbv
              · cbv
              · intro n2 z2 h3 hI2
                cbv
                obtain ⟨i2, hz2, hn2, hi2, rfl, hall2⟩ := hI2
                refine bsel_mk (fun hc => ?_) (fun hc => ?_)
                · have hlt2 := hz2.lt hc
                  clear hc
                  cbv
                  obtain ⟨x, hx⟩ := get_ex (xs := langL) (i := i2) hlt2
                  refine ⟨⟨rfl, hz2.ix hlt2⟩, ?_⟩
                  cbv
                  refine ql.load hx hz2.eq (fun cs hcs => ?_)
                  have hcs : cs = [.string x] := hcs
                  subst hcs
                  cbv
                  rw [scm_eql A]
                  by_cases hxs : x = s
                  · rw [decide_eq_true hxs]
                    have hin : inLang s = true := inLang_iff.2 (by rw [← hxs]; exact List.mem_of_getElem? hx)
                    cbv
                    exact ⟨l2, false, rfl, by rw [nameOk, hin]; simp⟩
                  · rw [decide_eq_false hxs]
                    cbv
                    refine ⟨41 - (i2 + 1), _, by omega, ⟨?_, ?_, ?_⟩, i2 + 1, hz2.succ (A := A) (by omega), rfl, by omega, rfl, ?_⟩
                    · cbv
                    · cbv
                    · cbv
                    · intro j hj y hy
                      rcases Nat.lt_or_ge j i2 with h | h
                      · exact hall2 j h y hy
                      · have : j = i2 := by omega
                        subst this
                        rw [hx] at hy; cases hy; exact hxs
                · have hge2 := hz2.ge hc
                  have hin : inLang s = false := by
                    cases hi : inLang s with
                    | false => rfl
                    | true =>
                      have hm := inLang_iff.1 hi
                      obtain ⟨j, hj⟩ := List.getElem?_of_mem hm
                      have hjl : j < 41 := (List.getElem?_eq_some_iff.1 hj).1
                      exact absurd rfl (hall2 j (by omega) s hj)
                  cbv
                  exact ⟨l2, true, rfl, by rw [nameOk, hf', hallb, hin]; rfl⟩
end Go.S

set_option maxRecDepth 100000
set_option maxHeartbeats 8000000
namespace Go.S
open Go.Sx Go.Proofs

theorem find149 {cols : List Col} {h : Heap} {b : Option Addr} {n c : Nat} (q : Sl 58 shCol h (.slice b n c) cols) {nm s : ByteArray} {k : Int} {only : Bool} :
    Ct 150 [.agg #[.string nm, .slice b n c, .int .i64 k, .bool only], .string s] h (fun v h' => Le h h' ∧ ∃ z t z', v = .tuple #[.int .i64 z, .bool t] ∧ IdxR cols (fun x => decide (x.name = s)) z' ∧ z = max z' 0 ∧ t = decide (z' ≥ 0)) := by
  obtain ⟨A, hA⟩ := Ar.ex
  have hlen := q.len
  obtain ⟨hb1, hb2⟩ := q.bound
  refine fn_of_sx A (tabOk T150.plan T150.pub) Tryz.func150 rfl (by kernel_rfl) ?_
  cbv
  refine LoopX.go (G := Int) (fun z => [(6, .v (.int .i64 z))]) (fun _ => [(2, [.string nm, .slice b n c, .int .i64 k, .bool only])]) (fun m z h' => ∃ i : Nat, IsN z i ∧ m = n - i ∧ i ≤ n ∧ h' = h ∧ ∀ j, j < i → ∀ y, cols[j]? = some y → decide (y.name = s) = false) n 0 ⟨?_, ?_, ?_⟩ ⟨0, ⟨rfl⟩, by omega, by omega, rfl, fun j hj => (by omega)⟩ ?_
  · cbv
  · cbv
  · cbv
  · intro m z h' hI
    cbv
    obtain ⟨i, hz, hm, hi, rfl, hall⟩ := hI
    refine bsel_mk (fun hc => ?_) (fun hc => ?_)
    · have hlt := hz.lt hc
      clear hc
      cbv
      obtain ⟨x, hx⟩ := get_ex (xs := cols) (i := i) (by omega)
      refine ⟨⟨q.isSm (by omega), hz.ix hlt⟩, ?_⟩
      cbv
      refine q.loadF hx hz.eq (o := 0) (m := 1) (by decide) (fun cs hcs => ?_)
      have hcs : cs = [.string x.name, .int .i64 x.kind, .bool x.null] := hcs
      subst hcs
      cbv
      rw [scm_eql A]
      by_cases hxs : x.name = s
      · rw [decide_eq_true hxs]
        have hR : IdxR cols (fun x => decide (x.name = s)) z := ⟨.inr ⟨i, x, hz, hx, by simpa using hxs, hall⟩⟩
        have hz0 := hz.eq
        have e1 : z = max z 0 := by omega
        have e2 : true = decide (z ≥ 0) := by rw [decide_eq_true (by omega)]
        cbv
        exact ⟨Le.refl _, z, true, z, rfl, hR, e1, e2⟩
      · rw [decide_eq_false hxs]
        cbv
        refine ⟨n - (i + 1), _, by omega, ⟨?_, ?_, ?_⟩, i + 1, hz.succ (A := A) (by omega), rfl, by omega, rfl, ?_⟩
        · cbv
        · cbv
        · cbv
        · intro j hj y hy
          rcases Nat.lt_or_ge j i with hji | hji
          · exact hall j hji y hy
          · have : j = i := by omega
            subst this
            rw [hx] at hy; cases hy
            exact decide_eq_false hxs
    · have hge := hz.ge hc
      have hR : IdxR cols (fun x => decide (x.name = s)) (-1) := ⟨.inl ⟨rfl, fun x hx => by
        obtain ⟨j, hj⟩ := List.getElem?_of_mem hx
        have := (List.getElem?_eq_some_iff.1 hj).1
        exact hall j (by omega) x hj⟩⟩
      cbv
      exact ⟨Le.refl _, 0, false, -1, rfl, hR, rfl, rfl⟩

/-- The place of the first one of a name is another one than this one, or it is this one. -/
theorem idx_ne {cols : List Col} {i : Nat} {c : Col} (hc : cols[i]? = some c) {z' : Int} (hr : IdxR cols (fun x => decide (x.name = c.name)) z') :
    decide (max z' 0 ≠ (i : Int)) = (cols.take i).any fun x => decide (x.name = c.name) := by
  have h1 := idx_lt hc hr
  rw [← h1, decide_eq_decide]
  rcases hr.out with ⟨-, h⟩ | ⟨k, x, hk, hx, hp, hall⟩
  · have := h c (List.mem_of_getElem? hc)
    simp at this
  · have hz := hk.eq
    have hki : ¬ i < k := fun h => by have := hall i h c hc; simp at this
    omega

theorem check113 {nm : ByteArray} {cols : List Col} {key : Int} {only : Bool} {h : Heap} {b : Option Addr} {n c : Nat} (q : Sl 58 shCol h (.slice b n c) cols) :
    Ct 62 [.agg #[.string nm, .slice b n c, .int .i64 key, .bool only]] h (fun v h' => Le h h' ∧ ∃ z, v = .int .i64 z ∧ z = schErr ⟨nm, cols, key, only⟩) := by
  obtain ⟨A, hA⟩ := Ar.ex
  have hlen := q.len
  obtain ⟨hb1, hb2⟩ := q.bound
  have hnot1 : A .not true = false := by rw [hA.not]; rfl
  have hnot0 : A .not false = true := by rw [hA.not]; rfl
  generalize e1 : A .icm .lss (A .nat n) 1 = u1
  generalize e2 : A .icm .gtr (A .nat n) 6 = u2
  generalize e3 : A .icm .lss key 0 = u3
  generalize e4 : A .icm .geq key (A .nat n) = u4
  have f1 := e1
  have f2 := e2
  have f3 := e3
  have f4 := e4
  rw [icm_lss A, hA.nat] at e1
  rw [icm_gtr A, hA.nat] at e2
  rw [icm_lss A] at e3
  rw [icm_geq A, hA.nat] at e4
  simp only [Int.ofNat_eq_natCast] at e1 e2 e4
  rw [hlen] at e1 e2 e4
  obtain ⟨E, hE⟩ : ∃ E, E = schErr ⟨nm, cols, key, only⟩ := ⟨_, rfl⟩
  have hS : E = if (!nameOk nm) = true then 12 else if (u1 || u2) = true then 4 else if colsErr cols ≠ 0 then colsErr cols else if (u3 || u4) = true then 1 else if ((cols[key.toNat]?).map (·.null)).getD false = true then 13 else 0 := by
    rw [hE, ← e1, ← e2, ← e3, ← e4]; rfl
  rw [← hE]
  refine fn_of_sx A (tabOk T62.plan T62.pub) Tryz.func62 rfl (by kernel_rfl) ?_
  cbv
  refine name134.mono (fun v h1 hR => ?_)
  obtain ⟨l1, t, rfl, ht⟩ := hR
  rw [← ht] at hS
  cases t with
  | false =>
    cbv
    rw [hnot0]
    cbv
    exact ⟨l1, 12, rfl, hS.symm⟩
  | true =>
    cbv
    rw [hnot1]
    cbv
    rw [f1]
    cases u1 with
    | true =>
      cbv
      exact ⟨l1, 4, rfl, hS.symm⟩
    | false =>
      cbv
      rw [f2]
      cases u2 with
      | true =>
        cbv
        exact ⟨l1, 4, rfl, hS.symm⟩
      | false =>
        have hS : E = if colsErr cols ≠ 0 then colsErr cols else if (u3 || u4) = true then 1 else if ((cols[key.toNat]?).map (·.null)).getD false = true then 13 else 0 := hS
        cbv
        refine LoopX.go (G := Int) (fun z => [(3, .v (.int .i64 z))]) (fun _ => [(1, [.string nm, .slice b n c, .int .i64 key, .bool only])]) (fun m z h' => ∃ i : Nat, IsN z i ∧ m = n - i ∧ i ≤ n ∧ Le h h' ∧ ∀ j, j < i → ∀ y, cols[j]? = some y → colErr cols j y = 0) n 0 ⟨?_, ?_, ?_⟩ ⟨0, ⟨rfl⟩, by omega, by omega, l1, fun j hj => (by omega)⟩ ?_
        · cbv
        · cbv
        · cbv
        · intro m z h' hI
          cbv
          obtain ⟨i, hz, hm, hi, hle, hall⟩ := hI
          refine bsel_mk (fun hc => ?_) (fun hc => ?_)
          · have hlt := hz.lt hc
            clear hc
            obtain ⟨x, hx⟩ := get_ex (xs := cols) (i := i) (by omega)
            have hck : b.isSome = true ∧ 0 ≤ z ∧ z < (n : Int) := ⟨q.isSm (by omega), hz.ix hlt⟩
            have bad : ∀ {hh : Heap} (w : Int), Le h hh → colErr cols i x = w → w ≠ 0 → Le h hh ∧ ∃ z, Value.int .i64 w = .int .i64 z ∧ z = E := fun w l ew hw => by
              refine ⟨l, w, rfl, ?_⟩
              have := colsErr_at hx hall (by rw [ew]; exact hw)
              rw [hS, this, ew, if_pos hw]
            have good : ∀ (h2 : Heap), Le h h2 → colErr cols i x = 0 → ∃ j : Nat, IsN (A .ari .add .i64 z 1) j ∧ n - (i + 1) = n - j ∧ j ≤ n ∧ Le h h2 ∧ ∀ j', j' < j → ∀ y, cols[j']? = some y → colErr cols j' y = 0 := fun h2 l e0 =>
              ⟨i + 1, hz.succ (A := A) (by omega), rfl, by omega, l, fun j hj y hy => by
                rcases Nat.lt_or_ge j i with hji | hji
                · exact hall j hji y hy
                · have : j = i := by omega
                  subst this
                  rw [hx] at hy; cases hy; exact e0⟩
            obtain ⟨xn, xk, xo⟩ := x
            cbv
            refine ⟨hck, ?_⟩
            cbv
            refine (q.mono (hle.t _)).loadF hx hz.eq (o := 0) (m := 1) (by decide) (fun cs hcs => ?_)
            have hcs : cs = [.string xn, .int .i64 xk, .bool xo] := hcs
            subst hcs
            cbv
            refine (find149 (q.mono (hle.t _))).mono (fun v h2 hR => ?_)
            obtain ⟨l2, zk, tk, zk', rfl, hidx, hzk, htk⟩ := hR
            have lh2 := hle.trans l2
            have hne := idx_ne hx hidx
            rw [← hzk] at hne
            generalize g1 : A .icm .neq zk z = w1
            have k1 := g1
            rw [icm_neq A, hz.eq] at g1
            rw [g1] at hne
            generalize g2 : A .icm .lss xk 1 = w2
            generalize g3 : A .icm .gtr xk 3 = w3
            have k2 := g2
            have k3 := g3
            rw [icm_lss A] at g2
            rw [icm_gtr A] at g3
            cbv
            refine ⟨hck, ?_⟩
            cbv
            refine (q.mono (lh2.t _)).loadF hx hz.eq (o := 0) (m := 1) (by decide) (fun cs hcs => ?_)
            have hcs : cs = [.string xn, .int .i64 xk, .bool xo] := hcs
            subst hcs
            cbv
            refine name134.mono (fun v h3 hR => ?_)
            obtain ⟨l3, tn, rfl, htn⟩ := hR
            have lh3 := lh2.trans l3
            have key : colErr cols i ⟨xn, xk, xo⟩ = if (!tn || w1) = true then 12 else if (w2 || w3) = true then 3 else 0 := by
              rw [htn, hne, ← g2, ← g3]; rfl
            cases tn with
            | false =>
              have key : colErr cols i ⟨xn, xk, xo⟩ = 12 := key
              cbv
              rw [hnot0]
              cbv
              exact bad 12 lh3 key (by omega)
            | true =>
              cbv
              rw [hnot1]
              cbv
              rw [k1]
              cases w1 with
              | true =>
                have key : colErr cols i ⟨xn, xk, xo⟩ = 12 := key
                cbv
                exact bad 12 lh3 key (by omega)
              | false =>
                cbv
                refine ⟨hck, ?_⟩
                cbv
                refine (q.mono (lh3.t _)).loadF hx hz.eq (o := 1) (m := 1) (by decide) (fun cs hcs => ?_)
                have hcs : cs = [.string xn, .int .i64 xk, .bool xo] := hcs
                subst hcs
                cbv
                rw [k2]
                cases w2 with
                | true =>
                  have key : colErr cols i ⟨xn, xk, xo⟩ = 3 := key
                  cbv
                  exact bad 3 lh3 key (by omega)
                | false =>
                  cbv
                  refine ⟨hck, ?_⟩
                  cbv
                  refine (q.mono (lh3.t _)).loadF hx hz.eq (o := 1) (m := 1) (by decide) (fun cs hcs => ?_)
                  have hcs : cs = [.string xn, .int .i64 xk, .bool xo] := hcs
                  subst hcs
                  cbv
                  rw [k3]
                  cases w3 with
                  | true =>
                    have key : colErr cols i ⟨xn, xk, xo⟩ = 3 := key
                    cbv
                    exact bad 3 lh3 key (by omega)
                  | false =>
                    have key : colErr cols i ⟨xn, xk, xo⟩ = 0 := key
                    have g := good h3 lh3 key
                    cbv
                    refine ⟨n - (i + 1), _, by omega, ⟨?_, ?_, ?_⟩, g⟩
                    · cbv
                    · cbv
                    · cbv
          · have hge := hz.ge hc
            have hce : colsErr cols = 0 := colsErr_none (fun j hj y hy => hall j (by omega) y hy)
            rw [hce, if_neg (by simp)] at hS
            cbv
            rw [f3]
            cases u3 with
            | true =>
              cbv
              exact ⟨hle, 1, rfl, hS.symm⟩
            | false =>
              cbv
              rw [f4]
              cases u4 with
              | true =>
                cbv
                exact ⟨hle, 1, rfl, hS.symm⟩
              | false =>
                obtain ⟨hk1, hk2⟩ := key_in A f3 f4
                obtain ⟨x, hx⟩ := get_ex (xs := cols) (i := key.toNat) (by omega)
                have hck : b.isSome = true ∧ 0 ≤ key ∧ key < (n : Int) := ⟨q.isSm (by omega), hk1.ix hk2⟩
                rw [hx] at hS
                obtain ⟨xn, xk, xo⟩ := x
                cbv
                refine ⟨hck, ?_⟩
                cbv
                refine (q.mono (hle.t _)).loadF hx hk1.eq (o := 2) (m := 1) (by decide) (fun cs hcs => ?_)
                have hcs : cs = [.string xn, .int .i64 xk, .bool xo] := hcs
                subst hcs
                cases xo with
                | true =>
                  cbv
                  exact ⟨hle, 13, rfl, hS.symm⟩
                | false =>
                  cbv
                  exact ⟨hle, 0, rfl, hS.symm⟩
end Go.S

set_option maxRecDepth 100000
set_option maxHeartbeats 8000000
namespace Go.S
open Go.Sx Go.Proofs

/-- A session's work of the document's. -/
def shWrkR : Sh Wrk where
  n := 3
  R h cs t := ∃ b1 n1 c1 b2 n2 c2, cs = [.int .i64 t.s, .slice b1 n1 c1, .slice b2 n2 c2] ∧ Sl 228 shChg h (.slice b1 n1 c1) t.log ∧ Sl 214 shMrk h (.slice b2 n2 c2) t.marks
  len := by rintro h cs x ⟨_, _, _, _, _, _, rfl, -⟩; rfl
  one := by rintro h cs x ⟨_, _, _, _, _, _, rfl, -⟩; rfl
  tys := [228, 87, 214]
  mono := by
    rintro h h' cs x hl ⟨b1, n1, c1, b2, n2, c2, rfl, q1, q2⟩
    exact ⟨b1, n1, c1, b2, n2, c2, rfl, q1.mono (hl.sub (by decide)), q2.mono (hl.sub (by decide))⟩

/-- The document's state, its parts. -/
structure RP (h : Heap) (b1 : Option Addr) (n1 c1 : Nat) (b2 : Option Addr) (n2 c2 : Nat) (b3 : Option Addr) (n3 c3 : Nat) (b4 : Option Addr) (n4 c4 : Nat) (d : DB) : Prop where
  tabs : Sl 198 shTbl h (.slice b1 n1 c1) d.tabs
  works : Sl 206 shWrkR h (.slice b2 n2 c2) d.works
  holds : Sl 314 shHld h (.slice b3 n3 c3) d.holds
  waits : Sl 314 shHld h (.slice b4 n4 c4) d.waits
theorem RP.lt {h h' : Heap} {b1 b2 b3 b4 : Option Addr} {n1 c1 n2 c2 n3 c3 n4 c4 : Nat} {d : DB} (q : RP h b1 n1 c1 b2 n2 c2 b3 n3 c3 b4 n4 c4 d) (l : LeT [198, 58, 88, 87, 206, 228, 214, 314] h h') : RP h' b1 n1 c1 b2 n2 c2 b3 n3 c3 b4 n4 c4 d :=
  ⟨q.tabs.mono (l.sub (by decide)), q.works.mono (l.sub (by decide)), q.holds.mono (l.sub (by decide)), q.waits.mono (l.sub (by decide))⟩
theorem RP.mono {h h' : Heap} {b1 b2 b3 b4 : Option Addr} {n1 c1 n2 c2 n3 c3 n4 c4 : Nat} {d : DB} (q : RP h b1 n1 c1 b2 n2 c2 b3 n3 c3 b4 n4 c4 d) (l : Le h h') : RP h' b1 n1 c1 b2 n2 c2 b3 n3 c3 b4 n4 c4 d := q.lt (l.t _)

theorem cmp_drop {a b : List UInt8} : ∀ {i : Nat}, i ≤ a.length → i ≤ b.length → (∀ j, j < i → a[j]? = b[j]?) → Lib.compareBytes a b = Lib.compareBytes (a.drop i) (b.drop i)
  | 0, _, _, _ => rfl
  | i + 1, ha, hb, hall => by
    cases a with
    | nil => simp at ha
    | cons x a =>
      cases b with
      | nil => simp at hb
      | cons y b =>
        have h0 : x = y := by have := hall 0 (by omega); simpa using this
        subst h0
        have : Lib.compareBytes (x :: a) (x :: b) = Lib.compareBytes a b := by simp [Lib.compareBytes]
        rw [this, List.drop_succ_cons, List.drop_succ_cons]
        exact cmp_drop (by simpa using ha) (by simpa using hb) (fun j hj => by have := hall (j + 1) (by omega); simpa using this)

theorem below114 {h : Heap} {a b : ByteArray} (ha60 : a.size ≤ 2 ^ 60) : Ct 64 [.string a, .string b] h (fun v h' => Le h h' ∧ ∃ t, v = .bool t ∧ t = decide (cmpB a b < 0)) := by
  obtain ⟨A, hA⟩ := Ar.ex
  have hna : IsN (A .sln a) a.size := ⟨by rw [hA.sln]⟩
  have hnb : IsN (A .sln b) b.size := ⟨by rw [hA.sln]⟩
  have hsa : a.data.toList.length = a.size := by rw [Array.length_toList]; rfl
  have hsb : b.data.toList.length = b.size := by rw [Array.length_toList]; rfl
  have hgb : ∀ (s : ByteArray) (i : Nat), i < s.size → ∃ x : UInt8, s.data.toList[i]? = some x ∧ byteAt s i = (x.toNat : Int) := fun s i hi => by
    have hi' : i < s.data.size := hi
    refine ⟨s.data[i], by simp [hi'], ?_⟩
    simp [byteAt, Array.getElem?_eq_getElem hi']
  have hby : ∀ s z i, IsN z i → A .byte s z = byteAt s i := fun s z i hz => by
    rw [hA.byte]; simp only [byteAt]; rw [hz.eq]; rfl
  refine fn_of_sx A (tabOk T64.plan T64.pub) Tryz.func64 rfl (by kernel_rfl) ?_
  cbv
  refine LoopX.go (G := Int) (fun z => [(5, .v (.int .i64 z))]) (fun _ => []) (fun m z h' => ∃ i : Nat, IsN z i ∧ m = a.size - i ∧ i ≤ a.size ∧ i ≤ b.size ∧ h' = h ∧ ∀ j, j < i → a.data.toList[j]? = b.data.toList[j]?) a.size 0 ⟨?_, ?_, ?_⟩ ⟨0, ⟨rfl⟩, by omega, by omega, by omega, rfl, fun j hj => (by omega)⟩ ?_
  · cbv
  · cbv
  · cbv
  · intro m z h' hI
    cbv
    obtain ⟨i, hz, hm, hia, hib, rfl, hall⟩ := hI
    have hcd := cmp_drop (a := a.data.toList) (b := b.data.toList) (i := i) (by omega) (by omega) hall
    have f1 : A .icm .lss z (A .sln a) = decide (i < a.size) := hz.lt2 hna
    have f2 : A .icm .lss z (A .sln b) = decide (i < b.size) := hz.lt2 hnb
    have f3 : A .icm .lss (A .sln a) (A .sln b) = decide (a.size < b.size) := hna.lt2 hnb
    by_cases h1 : i < a.size
    · rw [decide_eq_true h1] at f1
      rw [f1]
      cbv
      by_cases h2 : i < b.size
      · rw [decide_eq_true h2] at f2
        rw [f2]
        obtain ⟨x, hx, hxb⟩ := hgb a i h1
        obtain ⟨y, hy, hyb⟩ := hgb b i h2
        have hda : a.data.toList.drop i = x :: a.data.toList.drop (i + 1) := by
          rw [List.drop_eq_getElem_cons (by omega)]
          rw [(List.getElem?_eq_some_iff.1 hx).2]
        have hdb : b.data.toList.drop i = y :: b.data.toList.drop (i + 1) := by
          rw [List.drop_eq_getElem_cons (by omega)]
          rw [(List.getElem?_eq_some_iff.1 hy).2]
        rw [hda, hdb] at hcd
        have c1 : (0 : Int) ≤ z ∧ z < (a.size : Int) := hz.ix h1
        have c2 : (0 : Int) ≤ z ∧ z < (b.size : Int) := hz.ix h2
        have g1 : A .icm .neq (A .byte a z) (A .byte b z) = decide (x ≠ y) := by
          rw [hby a z i hz, hby b z i hz, icm_neq A, hxb, hyb, decide_eq_decide]
          refine not_congr ?_
          constructor
          · intro e; exact UInt8.toNat_inj.1 (Int.ofNat_inj.1 e)
          · rintro rfl; rfl
        have g2 : A .icm .lss (A .byte a z) (A .byte b z) = decide (x < y) := by
          rw [hby a z i hz, hby b z i hz, icm_lss A, hxb, hyb, decide_eq_decide, UInt8.lt_iff_toNat_lt]
          exact Int.ofNat_lt
        cbv
        refine ⟨c1, ?_⟩
        cbv
        refine ⟨c2, ?_⟩
        cbv
        rw [g1]
        by_cases hxy : x = y
        · rw [decide_eq_false (by simp [hxy])]
          cbv
          refine ⟨a.size - (i + 1), _, by omega, ⟨?_, ?_, ?_⟩, i + 1, hz.succ (A := A) (by omega), rfl, by omega, by omega, rfl, ?_⟩
          · cbv
          · cbv
          · cbv
          · intro j hj
            rcases Nat.lt_or_ge j i with h | h
            · exact hall j h
            · have : j = i := by omega
              rw [this, hx, hy, hxy]
        · rw [decide_eq_true (by simpa using hxy)]
          have hfin : decide (x < y) = decide (cmpB a b < 0) := by
            unfold cmpB
            rw [hcd]
            simp only [Lib.compareBytes]
            by_cases hlt : x < y
            · simp [hlt]
            · have : y < x := by
                rw [UInt8.lt_iff_toNat_lt] at hlt ⊢
                have : x.toNat ≠ y.toNat := fun e => hxy (UInt8.toNat_inj.1 e)
                omega
              simp [hlt, this]
          cbv
          refine ⟨c1, ?_⟩
          cbv
          refine ⟨c2, ?_⟩
          cbv
          rw [g2]
          exact ⟨Le.refl _, _, rfl, hfin⟩
      · rw [decide_eq_false h2] at f2
        rw [f2]
        have hb0 : b.data.toList.drop i = [] := List.drop_eq_nil_of_le (by omega)
        have hfin : decide (a.size < b.size) = decide (cmpB a b < 0) := by
          unfold cmpB
          rw [hcd, hb0]
          have : a.data.toList.drop i ≠ [] := by
            intro e
            have := congrArg List.length e
            rw [List.length_drop] at this; simp at this; omega
          cases hd : a.data.toList.drop i with
          | nil => exact absurd hd this
          | cons x r => simp only [Lib.compareBytes]; rw [decide_eq_false (by omega)]; rfl
        cbv
        rw [f3]
        exact ⟨Le.refl _, _, rfl, hfin⟩
    · rw [decide_eq_false h1] at f1
      rw [f1]
      have ha0 : a.data.toList.drop i = [] := List.drop_eq_nil_of_le (by omega)
      have hfin : decide (a.size < b.size) = decide (cmpB a b < 0) := by
        unfold cmpB
        rw [hcd, ha0]
        cases hd : b.data.toList.drop i with
        | nil =>
          have := congrArg List.length hd
          rw [List.length_drop] at this; simp at this
          simp only [Lib.compareBytes]; rw [decide_eq_false (by omega)]; rfl
        | cons y r =>
          have := congrArg List.length hd
          rw [List.length_drop] at this; simp at this
          simp only [Lib.compareBytes]; rw [decide_eq_true (by omega)]; rfl
      cbv
      rw [f3]
      exact ⟨Le.refl _, _, rfl, hfin⟩
end Go.S

set_option maxRecDepth 100000
set_option maxHeartbeats 8000000
namespace Go.S
open Go.Sx Go.Proofs

theorem find25 {d : DB} {h : Heap} {b1 b2 b3 b4 : Option Addr} {n1 c1 n2 c2 n3 c3 n4 c4 : Nat} (q : RP h b1 n1 c1 b2 n2 c2 b3 n3 c3 b4 n4 c4 d) {nm : ByteArray} :
    Ct 63 [.agg #[.slice b1 n1 c1, .slice b2 n2 c2, .slice b3 n3 c3, .slice b4 n4 c4], .string nm] h (fun v h' => Le h h' ∧ ∃ z, v = .int .i64 z ∧ IdxR d.tabs (fun t => decide (t.S.name = nm)) z) := by
  obtain ⟨A, hA⟩ := Ar.ex
  have hlen := q.tabs.len
  have hbd := q.tabs.bound
  refine fn_of_sx A (tabOk T63.plan T63.pub) Tryz.func63 rfl (by kernel_rfl) ?_
  cbv
  refine LoopX.go (G := Int) (fun z => [(5, .v (.int .i64 z))]) (fun _ => [(2, [.slice b1 n1 c1, .slice b2 n2 c2, .slice b3 n3 c3, .slice b4 n4 c4])]) (fun m z h' => ∃ i : Nat, IsN z i ∧ m = n1 - i ∧ i ≤ n1 ∧ h' = h ∧ ∀ j, j < i → ∀ y, d.tabs[j]? = some y → decide (y.S.name = nm) = false) n1 0 ⟨?_, ?_, ?_⟩ ⟨0, ⟨rfl⟩, by omega, by omega, rfl, fun j hj => (by omega)⟩ ?_
  · cbv
  · cbv
  · cbv
  · intro m z h' hI
    cbv
    obtain ⟨i, hz, hm, hi, rfl, hall⟩ := hI
    refine bsel_mk (fun hc => ?_) (fun hc => ?_)
    · have hlt := hz.lt hc
      clear hc
      cbv
      obtain ⟨x, hx⟩ := get_ex (xs := d.tabs) (i := i) (by omega)
      refine ⟨⟨q.tabs.isSm (by omega), hz.ix hlt⟩, ?_⟩
      cbv
      refine q.tabs.loadFF hx hz.eq (o1 := 0) (o2 := 0) (m := 1) (by decide) (fun cs hcs => ?_)
      obtain ⟨_, _, _, _, _, _, rfl, -, -⟩ := hcs
      cbv
      rw [scm_eql A]
      by_cases hxs : x.S.name = nm
      · rw [decide_eq_true hxs]
        have hR : IdxR d.tabs (fun t => decide (t.S.name = nm)) z := ⟨.inr ⟨i, x, hz, hx, by simpa using hxs, hall⟩⟩
        cbv
        exact ⟨Le.refl _, z, rfl, hR⟩
      · rw [decide_eq_false hxs]
        cbv
        refine ⟨n1 - (i + 1), _, by omega, ⟨?_, ?_, ?_⟩, i + 1, hz.succ (A := A) (by omega), rfl, by omega, rfl, ?_⟩
        · cbv
        · cbv
        · cbv
        · intro j hj y hy
          rcases Nat.lt_or_ge j i with hji | hji
          · exact hall j hji y hy
          · have : j = i := by omega
            subst this
            rw [hx] at hy; cases hy
            exact decide_eq_false hxs
    · have hge := hz.ge hc
      have hR : IdxR d.tabs (fun t => decide (t.S.name = nm)) (-1) := ⟨.inl ⟨rfl, fun x hx => by
        obtain ⟨j, hj⟩ := List.getElem?_of_mem hx
        have := (List.getElem?_eq_some_iff.1 hj).1
        exact hall j (by omega) x hj⟩⟩
      cbv
      exact ⟨Le.refl _, -1, rfl, hR⟩

theorem idx_any {α : Type} {xs : List α} {p : α → Bool} {z : Int} (q : IdxR xs p z) : decide (z ≥ 0) = xs.any p := by
  rcases q.out with ⟨rfl, h⟩ | ⟨i, x, hz, hx, hp, -⟩
  · rw [eq_comm]; simpa using h
  · have := hz.eq
    rw [decide_eq_true (by omega), eq_comm, List.any_eq_true]
    exact ⟨x, List.mem_of_getElem? hx, hp⟩

def refPos (T : List Tbl) (nm : ByteArray) : Nat := (T.takeWhile fun t => decide (cmpB t.S.name nm < 0)).length
def refCreate (d : DB) (s : Sch) : DB × Int :=
  if decide (schErr s ≠ 0) = true then (d, schErr s)
  else if d.tabs.any (fun t => decide (t.S.name = s.name)) = true then (d, 7)
  else if decide ((d.tabs.length : Int) ≥ 8) = true then (d, 4)
  else if decide ((d.works.length : Int) > 0) = true then (d, 18)
  else (setTabs d (d.tabs.take (refPos d.tabs s.name) ++ [⟨s, []⟩] ++ d.tabs.drop (refPos d.tabs s.name)), 0)

abbrev RK (h : Heap) (d' : DB) (e : Int) (k : Value → Heap → Prop) : Prop :=
  ∀ h' b1 n1 c1 b2 n2 c2 b3 n3 c3 b4 n4 c4, Le h h' → RP h' b1 n1 c1 b2 n2 c2 b3 n3 c3 b4 n4 c4 d' → k (.tuple #[.agg #[.slice b1 n1 c1, .slice b2 n2 c2, .slice b3 n3 c3, .slice b4 n4 c4], .int .i64 e]) h'

theorem tw_hit {α : Type} {p : α → Bool} : ∀ {xs : List α} {i : Nat}, (∀ j, j < i → ∀ y, xs[j]? = some y → p y = true) → i ≤ xs.length → (i < xs.length → ∃ y, xs[i]? = some y ∧ p y = false) → (xs.takeWhile p).length = i
  | [], i, _, hi, _ => by simp at hi; simp [hi]
  | x :: r, 0, _, _, hs => by
    obtain ⟨y, hy, hp⟩ := hs (by simp)
    simp at hy; subst hy
    simp [hp]
  | x :: r, i + 1, hall, hi, hs => by
    have hx := hall 0 (by omega) x rfl
    rw [List.takeWhile_cons_of_pos hx, List.length_cons]
    rw [tw_hit (xs := r) (i := i) (fun j hj y hy => hall (j + 1) (by omega) y (by simpa using hy)) (by simpa using hi) (fun h => by simpa using hs (by simpa using h))]

theorem rcreate52 {d : DB} {h : Heap} {b1 b2 b3 b4 : Option Addr} {n1 c1 n2 c2 n3 c3 n4 c4 : Nat} (q : RP h b1 n1 c1 b2 n2 c2 b3 n3 c3 b4 n4 c4 d) {nm : ByteArray} {cols : List Col} {key : Int} {only : Bool} {sb : Option Addr} {sn sc : Nat} (qs : Sl 58 shCol h (.slice sb sn sc) cols)
    (hl : d.tabs.length ≤ 2 ^ 37) (hns : ∀ t ∈ d.tabs, t.S.name.size ≤ 2 ^ 60) {D : DB × Int} (hD : refCreate d ⟨nm, cols, key, only⟩ = D) {k : Value → Heap → Prop} (hk : RK h D.1 D.2 k) :
    Ct 22 [.agg #[.slice b1 n1 c1, .slice b2 n2 c2, .slice b3 n3 c3, .slice b4 n4 c4], .agg #[.string nm, .slice sb sn sc, .int .i64 key, .bool only]] h k := by
  obtain ⟨A, hA⟩ := Ar.ex
  have hlen := q.tabs.len
  have hbd := q.tabs.bound
  have hwl := q.works.len
  unfold refCreate at hD
  generalize e8 : A .icm .geq (A .nat n1) 8 = u8
  generalize e18 : A .icm .gtr (A .nat n2) 0 = u18
  have f8 := e8
  have f18 := e18
  rw [icm_geq A, hA.nat] at e8
  rw [icm_gtr A, hA.nat] at e18
  simp only [Int.ofNat_eq_natCast] at e8 e18
  rw [hlen] at e8
  rw [hwl] at e18
  rw [e8, e18] at hD
  refine fn_of_sx A (tabOk T22.plan T22.pub) Tryz.func22 rfl (by kernel_rfl) ?_
  cbv
  refine (check113 (nm := nm) (key := key) (only := only) qs).mono (fun v h1 hR => ?_)
  obtain ⟨l1, ze, hv, eze⟩ := hR
  rw [hv]
  rw [← eze] at hD
  generalize e0 : A .icm .neq ze 0 = u0
  have f0 := e0
  rw [icm_neq A] at e0
  rw [e0] at hD
  cbv
  rw [f0]
  cases u0 with
  | true =>
    have hD : (d, ze) = D := hD
    have hfin := hk h1 b1 n1 c1 b2 n2 c2 b3 n3 c3 b4 n4 c4 l1 (by rw [← hD]; exact q.mono l1)
    rw [← hD] at hfin
    cbv
    exact hfin
  | false =>
    cbv
    refine (find25 (q.mono l1)).mono (fun v h2 hR => ?_)
    obtain ⟨l2, zf, hv, hidx⟩ := hR
    rw [hv]
    have l12 := l1.trans l2
    have hany := idx_any hidx
    generalize e7 : A .icm .geq zf 0 = u7
    have f7 := e7
    rw [icm_geq A] at e7
    rw [e7] at hany
    have hD : (if d.tabs.any (fun t => decide (t.S.name = nm)) = true then (d, 7) else if u8 = true then (d, 4) else if u18 = true then (d, 18)
      else (setTabs d (d.tabs.take (refPos d.tabs nm) ++ [⟨⟨nm, cols, key, only⟩, []⟩] ++ d.tabs.drop (refPos d.tabs nm)), 0)) = D := hD
    rw [← hany] at hD
    cbv
    rw [f7]
    cases u7 with
    | true =>
      have hD : (d, 7) = D := hD
      have hfin := hk h2 b1 n1 c1 b2 n2 c2 b3 n3 c3 b4 n4 c4 l12 (by rw [← hD]; exact q.mono l12)
      rw [← hD] at hfin
      cbv
      exact hfin
    | false =>
      cbv
      rw [f8]
      cases u8 with
      | true =>
        have hD : (d, 4) = D := hD
        have hfin := hk h2 b1 n1 c1 b2 n2 c2 b3 n3 c3 b4 n4 c4 l12 (by rw [← hD]; exact q.mono l12)
        rw [← hD] at hfin
        cbv
        exact hfin
      | false =>
        cbv
        rw [f18]
        cases u18 with
        | true =>
          have hD : (d, 18) = D := hD
          have hfin := hk h2 b1 n1 c1 b2 n2 c2 b3 n3 c3 b4 n4 c4 l12 (by rw [← hD]; exact q.mono l12)
          rw [← hD] at hfin
          cbv
          exact hfin
        | false =>
          have hD : (setTabs d (d.tabs.take (refPos d.tabs nm) ++ [⟨⟨nm, cols, key, only⟩, []⟩] ++ d.tabs.drop (refPos d.tabs nm)), 0) = D := hD
          cbv
          refine LoopX.go (G := Int) (fun z => [(7, .v (.int .i64 z))]) (fun _ => [(2, [.slice b1 n1 c1, .slice b2 n2 c2, .slice b3 n3 c3, .slice b4 n4 c4]), (3, [.string nm, .slice sb sn sc, .int .i64 key, .bool only]), (4, [.slice none 0 0, .slice none 0 0, .slice none 0 0, .slice none 0 0])])
            (fun m z h' => ∃ i : Nat, IsN z i ∧ m = n1 - i ∧ i ≤ n1 ∧ Le h h' ∧ ∀ j, j < i → ∀ y, d.tabs[j]? = some y → decide (cmpB y.S.name nm < 0) = true) n1 0 ⟨?_, ?_, ?_⟩ ⟨0, ⟨rfl⟩, by omega, by omega, l12, fun j hj => (by omega)⟩ ?_
          · cbv
          · cbv
          · cbv
          · intro m z h' hI
            cbv
            obtain ⟨i, hz, hm, hi, hle, hall⟩ := hI
            have g1 : A .icm .lss z (A .nat n1) = decide (i < n1) := hz.lt2 (IsN.nat n1)
            rw [g1]
            rcases Nat.lt_or_ge i n1 with hlt | hge
            · rw [decide_eq_true hlt]
              have hix := hz.ix hlt
              obtain ⟨x, hx⟩ := get_ex (xs := d.tabs) (i := i) (by omega)
              have qh := q.mono hle
              cbv
              refine ⟨⟨qh.tabs.isSm (by omega), hix⟩, ?_⟩
              cbv
              refine qh.tabs.loadFF hx hz.eq (o1 := 0) (o2 := 0) (m := 1) (by decide) (fun cs hcs => ?_)
              obtain ⟨_, _, _, _, _, _, rfl, -, -⟩ := hcs
              cbv
              refine (below114 (hns x (List.mem_of_getElem? hx))).mono (fun v h3 hR => ?_)
              obtain ⟨l3, t, hv, ht⟩ := hR
              rw [hv]
              have hl3 := hle.trans l3
              cbv
              cases t with
              | true =>
                cbv
                refine ⟨n1 - (i + 1), _, by omega, ⟨?_, ?_, ?_⟩, i + 1, hz.succ (A := A) (by omega), rfl, by omega, hl3, ?_⟩
                · cbv
                · cbv
                · cbv
                · intro j hj y hy
                  rcases Nat.lt_or_ge j i with hji | hji
                  · exact hall j hji y hy
                  · have : j = i := by omega
                    subst this
                    rw [hx] at hy; cases hy
                    exact ht.symm
              | false =>
                have hpos : refPos d.tabs nm = i := tw_hit hall (by omega) (fun _ => ⟨x, hx, ht.symm⟩)
                have qa := q.mono hl3
                have hdz : A .dif z 0 = i := dif_z0 (A := A) hz
                obtain ⟨hcb1, hcb2⟩ := hbd
                have hzi : 0 ≤ z ∧ z ≤ (c1 : Int) := by have := hz.eq; omega
                have hzn : 0 ≤ z ∧ z ≤ (n1 : Int) := by have := hz.eq; omega
                have him : i ≤ n1 := hi
                cbv
                intro n6 h6 g6 e6
                have l6 : Le h3 h6 := by rw [e6]; exact Le.set g6
                have q6 := qa.mono l6
                cbv
                refine ⟨hzi, ?_⟩
                cbv
                have hnil : Buf 198 shTbl h3 h6 (.slice (some ⟨n6, 0, none⟩) 0 0) ([] : List Tbl) := Buf.nil
                refine hnil.append (q6.tabs.takeM (A := A) (s := shTbl) (z := A .nat c1) him hdz hdz) (by decide) rfl (by decide) (by rw [hdz]; omega) l6 (fun m7 b7 c7 h7 em7 l7 t7 k7 hb7 => ?_)
                cbv
                intro n8 h8 g8 e8
                have l8 : Le h7 h8 := by rw [e8]; exact Le.set g8
                have f8 := (congrFun e8 n8).trans hset_self
                have r8 : shTbl.R h8 [.string nm, .slice sb sn sc, .int .i64 key, .bool only, .slice none 0 0] ⟨⟨nm, cols, key, only⟩, []⟩ := ⟨_, _, _, _, _, _, rfl, qs.mono ((hl3.trans (l7.trans l8)).t _), Sl.nil⟩
                have v8 := one_sl (s := shTbl) f8 r8
                cbv
                refine (hb7.mono (l8.t _)).append v8 (by decide) rfl (by decide) (by omega) (l7.trans l8) (fun m9 b9 c9 h9 em9 l9 t9 k9 hb9 => ?_)
                have q9 := qa.mono l9
                have hdn := dif_nz (A := A) hz (n := n1)
                cbv
                refine ⟨hzn, ?_⟩
                cbv
                refine hb9.append (q9.tabs.dropX (A := A) (s := shTbl) hz him hdn (c' := c1 - i) rfl) (by decide) rfl (by decide) (by rw [hdn]; omega) l9 (fun m10 b10 c10 h10 em10 l10 t10 k10 hb10 => ?_)
                have hs10 := hb10.sl
                rw [List.nil_append] at hs10
                rw [hpos] at hD
                have q10 := qa.mono l10
                have hL := hl3.trans l10
                have hfin := hk h10 b10 m10 c10 b2 n2 c2 b3 n3 c3 b4 n4 c4 hL (by rw [← hD]; exact ⟨hs10, q10.works, q10.holds, q10.waits⟩)
                rw [← hD] at hfin
                cbv
                exact hfin
            · rw [decide_eq_false (by omega)]
              have hpos : refPos d.tabs nm = i := tw_hit hall (by omega) (fun h => by omega)
              have qa := q.mono hle
              have hdz : A .dif z 0 = i := dif_z0 (A := A) hz
              obtain ⟨hcb1, hcb2⟩ := hbd
              have hzi : 0 ≤ z ∧ z ≤ (c1 : Int) := by have := hz.eq; omega
              have hzn : 0 ≤ z ∧ z ≤ (n1 : Int) := by have := hz.eq; omega
              have him : i ≤ n1 := hi
              cbv
              intro n6 h6 g6 e6
              have l6 : Le h' h6 := by rw [e6]; exact Le.set g6
              have q6 := qa.mono l6
              cbv
              refine ⟨hzi, ?_⟩
              cbv
              have hnil : Buf 198 shTbl h' h6 (.slice (some ⟨n6, 0, none⟩) 0 0) ([] : List Tbl) := Buf.nil
              refine hnil.append (q6.tabs.takeM (A := A) (s := shTbl) (z := A .nat c1) him hdz hdz) (by decide) rfl (by decide) (by rw [hdz]; omega) l6 (fun m7 b7 c7 h7 em7 l7 t7 k7 hb7 => ?_)
              cbv
              intro n8 h8 g8 e8
              have l8 : Le h7 h8 := by rw [e8]; exact Le.set g8
              have f8 := (congrFun e8 n8).trans hset_self
              have r8 : shTbl.R h8 [.string nm, .slice sb sn sc, .int .i64 key, .bool only, .slice none 0 0] ⟨⟨nm, cols, key, only⟩, []⟩ := ⟨_, _, _, _, _, _, rfl, qs.mono ((hle.trans (l7.trans l8)).t _), Sl.nil⟩
              have v8 := one_sl (s := shTbl) f8 r8
              cbv
              refine (hb7.mono (l8.t _)).append v8 (by decide) rfl (by decide) (by omega) (l7.trans l8) (fun m9 b9 c9 h9 em9 l9 t9 k9 hb9 => ?_)
              have q9 := qa.mono l9
              have hdn := dif_nz (A := A) hz (n := n1)
              cbv
              refine ⟨hzn, ?_⟩
              cbv
              refine hb9.append (q9.tabs.dropX (A := A) (s := shTbl) hz him hdn (c' := c1 - i) rfl) (by decide) rfl (by decide) (by rw [hdn]; omega) l9 (fun m10 b10 c10 h10 em10 l10 t10 k10 hb10 => ?_)
              have hs10 := hb10.sl
              rw [List.nil_append] at hs10
              rw [hpos] at hD
              have q10 := qa.mono l10
              have hL := hle.trans l10
              have hfin := hk h10 b10 m10 c10 b2 n2 c2 b3 n3 c3 b4 n4 c4 hL (by rw [← hD]; exact ⟨hs10, q10.works, q10.holds, q10.waits⟩)
              rw [← hD] at hfin
              cbv
              exact hfin
end Go.S

set_option maxRecDepth 100000
set_option maxHeartbeats 8000000
namespace Go.S
open Go.Sx Go.Proofs

def startD : Nat → DB
  | 0 => ⟨[], [], [], []⟩
  | i + 1 => (createD (startD i) (shapeS i)).1
def startR : Nat → DB
  | 0 => ⟨[], [], [], []⟩
  | i + 1 => (refCreate (startR i) (shapeS i)).1
def tblS (i : Nat) : Tbl := ⟨shapeS i, []⟩
def startE : DB := ⟨[tblS 0, tblS 1, tblS 2], [], [], []⟩

structure W12 where
  b1 : Option Addr
  n1 : Nat
  c1 : Nat
  b2 : Option Addr
  n2 : Nat
  c2 : Nat
  b3 : Option Addr
  n3 : Nat
  c3 : Nat
  b4 : Option Addr
  n4 : Nat
  c4 : Nat

end Go.S

set_option maxRecDepth 100000
set_option maxHeartbeats 8000000
namespace Go.S
open Go.Sx Go.Proofs

end Go.S

set_option maxRecDepth 100000
set_option maxHeartbeats 8000000
namespace Go.S
open Go.Sx Go.Proofs

end Go.S

set_option maxRecDepth 100000
set_option maxHeartbeats 8000000
namespace Go.S
open Go.Sx Go.Proofs

def noS : ByteArray := ⟨#[]⟩
def fitK (i : Nat) (a : Int) : Int := (a.tdiv (1 + 3 * (i : Int))) % 40 - 5
def fitAbc : ByteArray := ⟨#[97, 98, 99, 100, 101, 102, 103, 104, 105, 106, 107, 108, 109, 110, 111, 112, 113, 114, 115, 116, 117, 118, 119, 120, 121, 122]⟩
def fitV (c : Col) (i : Nat) (a : Int) : Val :=
  if c.null = true ∧ a % 5 = 0 then ⟨0, 0, noS⟩ else if c.kind = 1 then ⟨c.kind, fitK i a % 2, noS⟩ else if c.kind = 2 then ⟨c.kind, fitK i a, noS⟩ else if c.kind = 3 then ⟨c.kind, 0, fitAbc.extract 0 (fitK i a % 9).toNat⟩ else ⟨c.kind, 0, noS⟩
def fitL (cols : List Col) (a : Int) (m : Nat) : List Val := (List.range m).map fun i => fitV (cols.getD i ⟨noS, 0, false⟩) i a
end Go.S

