import Derived.Test.YtficmdggjjepmaaGreatDA
import Derived.Test.YtficmdggjjepmaaGreatRd
set_option linter.all false
set_option maxRecDepth 100000
namespace Go.S
open Go.Sx Go.Proofs

def byteAt (s : ByteArray) (i : Nat) : Int := ((s.data.getD i 0).toNat : Int)
def okCh (z : Int) : Bool := !((decide (z < 97) || decide (z > 122)) && (decide (z < 48) || decide (z > 57)) && (z != 95))
def okFst (s : ByteArray) : Bool := !(decide ((s.size : Int) < 1) || decide ((s.size : Int) > 12) || decide (byteAt s 0 < 97) || decide (byteAt s 0 > 122))
def okAll (s : ByteArray) : Bool := (List.range s.size).all fun i => okCh (byteAt s i)
def inLang (s : ByteArray) : Bool := langL.any fun w => decide (w = s)
theorem inLang_iff {s : ByteArray} : inLang s = true ↔ s ∈ langL := by
  unfold inLang
  rw [List.any_eq_true]
  constructor
  · rintro ⟨w, h1, h2⟩; exact of_decide_eq_true h2 ▸ h1
  · intro h; exact ⟨s, h, by simp⟩
def nameOk (s : ByteArray) : Bool := okFst s && okAll s && !inLang s

structure Spl (h : Heap) (sp : Nat) : Prop where
  out : (h sp = some (.cells #[.int .u32 0, .int .i32 0, .int .u32 0, .map none] 395 (0, 0))) ∨
    ∃ m, h sp = some (.cells #[.int .u32 1, .int .i32 0, .int .u32 0, .map (some m)] 395 (0, 0)) ∧ Mp h m .string (wordsM langL) ∧ m ≠ sp

theorem zero4 (w : World) : (zeroValue 4).run Tryz.prog w = .ok (.bool false) w := by
  have h : ((Tryz.prog.info? 4).bind (·.zero)) = some (.bool false) := by kernel_rfl
  cases h1 : Tryz.prog.info? 4 with
  | none => rw [h1] at h; cases h
  | some i =>
    rw [h1] at h
    simp at h
    simp [zeroValue, typeInfo, h1, h]

theorem spell96a {h : Heap} {s : ByteArray} {k : Value → Heap → Prop} {m : Nat} (mp : Mp h m .string (wordsM langL)) (hk : ∀ t, t = inLang s → k (.bool t) h) :
    SemX (fun _ => Tryz.prog) (fun _ => Instr.lookup 393 (.map (some m)) (.string s) false) h k := by
  by_cases hs : s ∈ langL
  · exact sem_hit u175 u9 mp (key := .string s) (v := .bool true) True.intro (List.mem_map.2 ⟨s, hs, rfl⟩) (hk true (inLang_iff.2 hs).symm)
  · refine sem_miss u175 u9 zero4 mp (key := .string s) True.intro ?_ (hk false ?_)
    · intro p hp e
      obtain ⟨w, hw, rfl⟩ := List.mem_map.1 hp
      cases e
      exact hs hw
    · cases hi : inLang s with
      | false => rfl
      | true => exact absurd (inLang_iff.1 hi) hs

set_option maxHeartbeats 2000000 in
theorem name96 {h : Heap} {sp : Nat} {s : ByteArray} (q : Spl h sp) :
    Ct 234 [.pointer (some ⟨sp, 0, none⟩), .string s] h (fun v h' => ∃ t, v = .bool t ∧ t = nameOk s ∧ Kp [sp] h h' ∧ Spl h' sp) := by
  obtain ⟨A, hA⟩ := Ar.ex
  refine fn_of_sx A (tabOk T234.plan T234.pub) Tryz.func234 rfl (by kernel_rfl) ?_
  have hn : A .sln s = (s.size : Int) := by rw [hA.sln]
  have hnN : IsN (A .sln s) s.size := ⟨hn⟩
  have hby : ∀ z i, IsN z i → A .byte s z = byteAt s i := fun z i hz => by
    rw [hA.byte]; simp only [byteAt]; rw [hz.eq]; rfl
  generalize e1 : A .icm .lss (A .sln s) 1 = t1
  generalize e2 : A .icm .gtr (A .sln s) 12 = t2
  generalize e3 : A .icm .lss (A .byte s 0) 97 = t3
  generalize e4 : A .icm .gtr (A .byte s 0) 122 = t4
  have h12 : t2 = false → s.size ≤ 12 := fun e => by
    rw [e, hA.icm, hn] at e2
    have := of_decide_eq_false e2
    omega
  have hf : okFst s = !(t1 || t2 || t3 || t4) := by
    rw [← e1, ← e2, ← e3, ← e4, hby 0 0 ⟨rfl⟩, hn, hA.icm]
    rfl
  have h1s : t1 = false → (0 : Int) ≤ 0 ∧ 0 < (s.size : Int) := fun e => by
    rw [e, hA.icm, hn] at e1
    have := of_decide_eq_false e1
    omega
  have nope : ∀ (t : Bool) (b : Bool), t = false → okFst s = false → t = nameOk s := fun t b ht hq => by rw [ht, nameOk, hq]; rfl
  have hstart : ∀ (t : Bool), t = true → t = t := fun _ _ => rfl
  cbv
  rw [e1]
  cases t1 with
  | true =>
    cbv
    exact ⟨false, rfl, nope _ true rfl hf, Kp.refl _ _, q⟩
  | false =>
    have h1 := h1s rfl
    cbv
    rw [e2]
    cases t2 with
    | true =>
      cbv
      exact ⟨false, rfl, nope _ true rfl hf, Kp.refl _ _, q⟩
    | false =>
      cbv
      refine ⟨h1, ?_⟩
      cbv
      rw [e3]
      cases t3 with
      | true =>
        cbv
        exact ⟨false, rfl, nope _ true rfl hf, Kp.refl _ _, q⟩
      | false =>
        cbv
        refine ⟨h1, ?_⟩
        cbv
        rw [e4]
        cases t4 with
        | true =>
          cbv
          exact ⟨false, rfl, nope _ true rfl hf, Kp.refl _ _, q⟩
        | false =>
          cbv
          have hf' : okFst s = true := hf
          have h12 := h12 rfl
          clear hf e1 e2 e3 e4 h1s nope hstart
          refine LoopX.go (G := Int) (fun z => [(27, .v (.int .i64 z))]) (fun _ => []) (fun n z h' => ∃ i : Nat, IsN z i ∧ n = s.size - i ∧ i ≤ s.size ∧ h' = h ∧ ∀ j, j < i → okCh (byteAt s j) = true) s.size 0 ⟨?_, ?_, ?_⟩ ⟨0, ⟨rfl⟩, rfl, by omega, rfl, fun j hj => (by omega)⟩ ?_
          · cbv
          · cbv
          · cbv
          · intro n z h' hI
            cbv
            obtain ⟨i, hz, hn', hi, rfl, hall⟩ := hI
            refine bsel_mk (fun hc => ?_) (fun hc => ?_)
            · rw [hz.lt2 (A := A) hnN] at hc
              have hlt := of_decide_eq_true hc
              clear hc
              cbv
              refine ⟨hz.ix hlt, ?_⟩
              cbv
              rw [hby z i hz]
              generalize hw : byteAt s i = w
              generalize e1 : A .icm .lss w 97 = t1
              generalize e2 : A .icm .gtr w 122 = t2
              generalize e3 : A .icm .lss w 48 = t3
              generalize e4 : A .icm .gtr w 57 = t4
              generalize e5 : A .icm .neq w 95 = t5
              have hok : okCh w = !((t1 || t2) && (t3 || t4) && t5) := by
                rw [← e1, ← e2, ← e3, ← e4, ← e5, hA.icm]; rfl
              have bad : okCh w = false → nameOk s = false := fun e => by
                have : okAll s = false := by
                  unfold okAll
                  rw [List.all_eq_false]
                  exact ⟨i, by simp [hlt], by rw [hw, e]; simp⟩
                rw [nameOk, this]; simp
              have good : okCh w = true → ∀ j, j < i + 1 → okCh (byteAt s j) = true := fun e j hj => by
                rcases Nat.lt_or_ge j i with h | h
                · exact hall j h
                · have : j = i := by omega
                  rw [this, hw, e]
              cbv
              cases t1 with
              | true =>
                cbv
                rw [e3]
                cases t3 with
                | true =>
                  cbv
                  rw [e5]
                  cases t5 with
                  | true =>
                    cbv
                    exact ⟨false, rfl, (bad (by rw [hok]; rfl)).symm, Kp.refl _ _, q⟩
                  | false =>
                    cbv
                    exact ⟨s.size - (i + 1), _, by omega, ⟨by cbv, by cbv, by cbv⟩, i + 1, hz.succ (A := A) (by omega), rfl, by omega, rfl, good (by rw [hok]; rfl)⟩
                | false =>
                  cbv
                  rw [e4]
                  cases t4 with
                  | true =>
                    cbv
                    rw [e5]
                    cases t5 with
                    | true =>
                      cbv
                      exact ⟨false, rfl, (bad (by rw [hok]; rfl)).symm, Kp.refl _ _, q⟩
                    | false =>
                      cbv
                      exact ⟨s.size - (i + 1), _, by omega, ⟨by cbv, by cbv, by cbv⟩, i + 1, hz.succ (A := A) (by omega), rfl, by omega, rfl, good (by rw [hok]; rfl)⟩
                  | false =>
                    cbv
                    exact ⟨s.size - (i + 1), _, by omega, ⟨by cbv, by cbv, by cbv⟩, i + 1, hz.succ (A := A) (by omega), rfl, by omega, rfl, good (by rw [hok]; rfl)⟩
              | false =>
                cbv
                rw [e2]
                cases t2 with
                | true =>
                  cbv
                  rw [e3]
                  cases t3 with
                  | true =>
                    cbv
                    rw [e5]
                    cases t5 with
                    | true =>
                      cbv
                      exact ⟨false, rfl, (bad (by rw [hok]; rfl)).symm, Kp.refl _ _, q⟩
                    | false =>
                      cbv
                      exact ⟨s.size - (i + 1), _, by omega, ⟨by cbv, by cbv, by cbv⟩, i + 1, hz.succ (A := A) (by omega), rfl, by omega, rfl, good (by rw [hok]; rfl)⟩
                  | false =>
                    cbv
                    rw [e4]
                    cases t4 with
                    | true =>
                      cbv
                      rw [e5]
                      cases t5 with
                      | true =>
                        cbv
                        exact ⟨false, rfl, (bad (by rw [hok]; rfl)).symm, Kp.refl _ _, q⟩
                      | false =>
                        cbv
                        exact ⟨s.size - (i + 1), _, by omega, ⟨by cbv, by cbv, by cbv⟩, i + 1, hz.succ (A := A) (by omega), rfl, by omega, rfl, good (by rw [hok]; rfl)⟩
                    | false =>
                      cbv
                      exact ⟨s.size - (i + 1), _, by omega, ⟨by cbv, by cbv, by cbv⟩, i + 1, hz.succ (A := A) (by omega), rfl, by omega, rfl, good (by rw [hok]; rfl)⟩
                | false =>
                  cbv
                  exact ⟨s.size - (i + 1), _, by omega, ⟨by cbv, by cbv, by cbv⟩, i + 1, hz.succ (A := A) (by omega), rfl, by omega, rfl, good (by rw [hok]; rfl)⟩
            · rw [hz.lt2 (A := A) hnN] at hc
              have hge := of_decide_eq_false hc
              cbv
              have hallb : okAll s = true := by
                unfold okAll
                rw [List.all_eq_true]
                intro j hj
                rw [List.mem_range] at hj
                exact hall j (by omega)
              rw [offm A]
              have fin : ∀ t, t = inLang s → (A .not t) = nameOk s := fun t ht => by
                rw [nameOk, hf', hallb, ht, hA.not]; simp
              rcases q.out with g | ⟨m, g, mp, hm⟩
              · refine (do94_142 (a1 := ⟨sp, 0, none⟩) (Q := fun hq => Kp [sp] h' hq ∧ ∃ m, h' m = none ∧ hq sp = some (.cells #[.int .u32 0, .int .i32 1, .int .u32 0, .map (some m)] 395 (0, 0)) ∧ Mp hq m .string (wordsM langL)) (cel_exp g rfl) (cel_exp g rfl) (fun h1 hu => ?_)).mono (fun v h4 hR => ?_)
                · have e1 := hu.exp g
                  have g1 := (congrFun e1 sp).trans hset_self
                  refine (read142 g1).mono (fun v h2 hR => ?_)
                  obtain ⟨rfl, k2, m, hm, g2, mp2⟩ := hR
                  have k1 : Kp [sp] h' h1 := by rw [e1]; exact Kp.set (by simp)
                  refine ⟨rfl, cel_exp g2 rfl, cel_exp g2 rfl, k1.trans k2, m, ?_, g2, mp2⟩
                  have hne : m ≠ sp := fun e => by rw [e, g1] at hm; cases hm
                  rw [e1, hset_ne hne] at hm
                  exact hm
                · obtain ⟨rfl, h2, h3, ⟨k2, m, hm, g2, mp2⟩, u3, u4⟩ := hR
                  have e3 := u3.exp g2
                  have g3 := (congrFun e3 sp).trans hset_self
                  have e4 := u4.exp g3
                  have g4 := (congrFun e4 sp).trans hset_self
                  rw [e3, hset_twice] at e4
                  have k4 : Kp [sp] h2 h4 := by rw [e4]; exact Kp.set (by simp)
                  have hms : m ≠ sp := fun e => by rw [e, g] at hm; cases hm
                  have mp4 := mp2.kp k4 (by simpa using hms)
                  cbv
                  rw [offm A]
                  refine ldb g4 rfl rfl ?_
                  cbv
                  refine spell96a mp4 (fun t ht => ?_)
                  cbv
                  exact ⟨_, rfl, fin t ht, k2.trans k4, ⟨.inr ⟨m, g4, mp4, hms⟩⟩⟩
              · refine (did94_142 (a1 := ⟨sp, 0, none⟩) (cel_exp g rfl)).mono (fun v h4 hR => ?_)
                obtain ⟨rfl, rfl⟩ := hR
                cbv
                rw [offm A]
                refine ldb g rfl rfl ?_
                cbv
                refine spell96a mp (fun t ht => ?_)
                cbv
                exact ⟨_, rfl, fin t ht, Kp.refl _ _, q⟩
end Go.S

set_option maxRecDepth 100000
namespace Go.S
open Go.Sx Go.Proofs

theorem find144 {x : Col} {h : Heap} {nb : Nat} {name : ByteArray} (g : h nb = some (.cells #[.string name] 9 (0, 0))) {z1 : Int} {t1 : Bool} {s1 : ByteArray} :
    Ct 303 [.agg #[.string s1, .int .i64 z1, .bool t1], .pointer (some ⟨nb, 0, none⟩)] h (fun v h' => Le h h' ∧ ∃ t, v = .bool t ∧ t = decide (s1 = name)) := by
  obtain ⟨A, hA⟩ := Ar.ex
  refine fn_of_sx A (tabOk T303.plan T303.pub) Tryz.func303 rfl (by kernel_rfl) ?_
  cbv
  refine ldb g rfl rfl ?_
  cbv
  exact ⟨Le.refl _, _, rfl, scm_eql A _ _⟩

theorem idx143 {xs : List Col} {h : Heap} {b : Option Addr} {len cap : Nat} (q : Sl 58 shCol h (.slice b len cap) xs) {nb : Nat} {name : ByteArray} (g : h nb = some (.cells #[.string name] 9 (0, 0))) :
    Ct 302 [.slice b len cap, .func (.func 303) #[] #[.pointer (some ⟨nb, 0, none⟩)]] h (fun v h' => Le h h' ∧ ∃ z : Int, v = .int .i64 z ∧ IdxR xs (fun x : Col => decide (x.name = name)) z) := by
  obtain ⟨A, hA⟩ := Ar.ex
  have hlen := q.len
  obtain ⟨hb1, hb2⟩ := q.bound
  generalize hp : (fun x : Col => decide (x.name = name)) = p
  refine fn_of_sx A (tabOk T302.plan T302.pub) Tryz.func302 rfl (by kernel_rfl) ?_
  cbv
  refine LoopX.go (G := Int) (fun z => [(8, .v (.int .i64 z))]) (fun _ => []) (fun n z h' => ∃ i : Nat, IsN z i ∧ n = len - i ∧ i ≤ len ∧ Le h h' ∧ ∀ j, j < i → ∀ y, xs[j]? = some y → p y = false) len 0 ⟨?_, ?_, ?_⟩ ⟨0, ⟨rfl⟩, by omega, by omega, Le.refl _, fun j hj => (by omega)⟩ ?_
  · cbv
  · cbv
  · cbv
  · intro n z h' hI
    cbv
    obtain ⟨i, hz, hn, hi, hle, hall⟩ := hI
    refine bsel_mk (fun hc => ?_) (fun hc => ?_)
    · have hlt := hz.lt hc
      clear hc
      cbv
      obtain ⟨x, hx⟩ := get_ex (xs := xs) (i := i) (by omega)
      refine ⟨⟨q.isSm (by omega), hz.ix hlt⟩, ?_⟩
      cbv
      refine (q.mono (hle.t _)).load hx hz.eq (fun cs hcs => ?_)
      have hcs : cs = [.string x.name, .int .i64 x.kind, .bool x.null] := hcs
      subst hcs
      cbv
      refine (find144 (x := x) (hle _ _ g)).mono (fun v h2 hR => ?_)
      obtain ⟨hle2, t, rfl, ht⟩ := hR
      have ht : t = p x := by rw [← hp]; exact ht
      cbv
      cases t with
      | true =>
        cbv
        exact ⟨hle.trans hle2, z, rfl, ⟨.inr ⟨i, x, hz, hx, ht.symm, hall⟩⟩⟩
      | false =>
        cbv
        refine ⟨len - (i + 1), _, by omega, ⟨?_, ?_, ?_⟩, i + 1, hz.succ (A := A) (by omega), rfl, by omega, hle.trans hle2, ?_⟩
        · cbv
        · cbv
        · cbv
        · intro j hj y hy
          rcases Nat.lt_or_ge j i with h | h
          · exact hall j h y hy
          · have : j = i := by omega
            subst this
            rw [hx] at hy; cases hy
            exact ht.symm
    · have hge := hz.ge hc
      cbv
      refine ⟨hle, -1, rfl, ⟨.inl ⟨rfl, fun x hx => ?_⟩⟩⟩
      obtain ⟨j, hj⟩ := List.getElem?_of_mem hx
      have := (List.getElem?_eq_some_iff.1 hj).1
      exact hall j (by omega) x hj

/-- The first column of a name. -/
theorem find97 {cols : List Col} {h : Heap} {b : Option Addr} {n c : Nat} (q : Sl 58 shCol h (.slice b n c) cols) {nm s : ByteArray} {k : Int} {only : Bool} :
    Ct 235 [.agg #[.string nm, .slice b n c, .int .i64 k, .bool only], .string s] h (fun v h' => Le h h' ∧ ∃ z t z', v = .tuple #[.int .i64 z, .bool t] ∧ IdxR cols (fun x => decide (x.name = s)) z' ∧ z = max z' 0 ∧ t = decide (z' ≥ 0)) := by
  obtain ⟨A, hA⟩ := Ar.ex
  refine fn_of_sx A (tabOk T235.plan T235.pub) Tryz.func235 rfl (by kernel_rfl) ?_
  cbv
  intro nb h1 hnb e1
  have l1 : Le h h1 := by rw [e1]; exact Le.set hnb
  have g1 := (congrFun e1 nb).trans hset_self
  cbv
  refine (idx143 (q.mono (l1.t _)) g1).mono (fun v h2 hR => ?_)
  obtain ⟨l2, z, rfl, hz⟩ := hR
  cbv
  exact ⟨l1.trans l2, _, _, z, rfl, hz, by rw [hA.imax], icm_geq A _ _⟩
end Go.S

set_option maxRecDepth 100000
namespace Go.S
open Go.Sx Go.Proofs

theorem Kp.leT {n e : Nat} {c : Array Value} {fr : Nat × Nat} {tys : List Nat} {h h' : Heap} (x : Kp [n] h h') (g : h n = some (.cells c e fr)) (he : e ∉ tys) : LeT tys h h' := fun b d e' fr' hm hb => by
  by_cases hbn : b = n
  · rw [hbn, g] at hb; cases hb; exact absurd hm he
  · exact x b _ hb (by simpa using hbn)

def colErr (cols : List Col) (i : Nat) (c : Col) : Int :=
  if (!nameOk c.name || (cols.take i).any fun x => decide (x.name = c.name)) = true then 12 else if (decide (c.kind < 1) || decide (c.kind > 3)) = true then 3 else 0
def colsErr (cols : List Col) : Int := ((cols.zipIdx.map fun (c, i) => colErr cols i c).find? (fun z => z != 0)).getD 0
def schErr (s : Sch) : Int :=
  if (!nameOk s.name) = true then 12
  else if (decide ((s.cols.length : Int) < 1) || decide ((s.cols.length : Int) > 6)) = true then 4
  else if colsErr s.cols ≠ 0 then colsErr s.cols
  else if (decide (s.key < 0) || decide (s.key ≥ (s.cols.length : Int))) = true then 1
  else if ((s.cols[s.key.toNat]?).map (·.null)).getD false = true then 13 else 0

theorem colsErr_at {cols : List Col} {i : Nat} {c : Col} (hc : cols[i]? = some c) (hall : ∀ j, j < i → ∀ y, cols[j]? = some y → colErr cols j y = 0) (hne : colErr cols i c ≠ 0) : colsErr cols = colErr cols i c := by
  unfold colsErr
  have : (cols.zipIdx.map fun (c, i) => colErr cols i c).find? (fun z => z != 0) = some (colErr cols i c) := by
    rw [List.find?_eq_some_iff_getElem]
    have hlt := (List.getElem?_eq_some_iff.1 hc).1
    refine ⟨by simpa using hne, i, by simpa using hlt, ?_, fun j hj => ?_⟩
    · have := (List.getElem?_eq_some_iff.1 hc).2
      simp [this]
    · have hjl : j < cols.length := by omega
      have := hall j hj cols[j] (by simp [hjl])
      simp [this]
  rw [this]; rfl
theorem colsErr_none {cols : List Col} (hall : ∀ j, j < cols.length → ∀ y, cols[j]? = some y → colErr cols j y = 0) : colsErr cols = 0 := by
  unfold colsErr
  have : (cols.zipIdx.map fun (c, i) => colErr cols i c).find? (fun z => z != 0) = none := by
    rw [List.find?_eq_none]
    intro x hx
    obtain ⟨⟨c, i⟩, hm, rfl⟩ := List.mem_map.1 hx
    have := List.mem_zipIdx_iff_getElem?.1 hm
    have hlt := (List.getElem?_eq_some_iff.1 this).1
    simp [hall i hlt c this]
  rw [this]; rfl

/-- The place of the first one of a name stands ahead, or it is this one. -/
theorem idx_lt {cols : List Col} {i : Nat} {c : Col} (hc : cols[i]? = some c) {z' : Int} (hr : IdxR cols (fun x => decide (x.name = c.name)) z') :
    decide (max z' 0 < (i : Int)) = (cols.take i).any fun x => decide (x.name = c.name) := by
  rcases hr.out with ⟨-, h⟩ | ⟨k, x, hk, hx, hp, hall⟩
  · have := h c (List.mem_of_getElem? hc)
    simp at this
  · have hz := hk.eq
    by_cases hlt : k < i
    · rw [decide_eq_true (by omega), eq_comm, List.any_eq_true]
      exact ⟨x, List.mem_of_getElem? (i := k) (by rw [List.getElem?_take, if_pos hlt]; exact hx), hp⟩
    · have hki : ¬ i < k := fun h => by have := hall i h c hc; simp at this
      rw [decide_eq_false (by omega), eq_comm, List.any_eq_false]
      intro y hy
      obtain ⟨j, hj⟩ := List.getElem?_of_mem hy
      rw [List.getElem?_take] at hj
      split at hj
      · rename_i hji
        have := hall j (by omega) y hj
        simpa using this
      · cases hj
end Go.S

set_option maxRecDepth 100000
namespace Go.S
open Go.Sx Go.Proofs

set_option maxHeartbeats 2000000 in
theorem check45 {nm : ByteArray} {cols : List Col} {key : Int} {only : Bool} {h : Heap} {b : Option Addr} {n c : Nat} (q : Sl 58 shCol h (.slice b n c) cols) :
    Ct 140 [.agg #[.string nm, .slice b n c, .int .i64 key, .bool only]] h (fun v h' => Le h h' ∧ ∃ z, v = .int .i64 z ∧ z = schErr ⟨nm, cols, key, only⟩) := by
  obtain ⟨A, hA⟩ := Ar.ex
  have hlen := q.len
  obtain ⟨hb1, hb2⟩ := q.bound
  have hn : A .nat n = (cols.length : Int) := by rw [hA.nat, hlen]; rfl
  have hnN : IsN (A .nat n) n := ⟨by rw [hA.nat]; rfl⟩
  generalize e1 : A .icm .lss (A .nat n) 1 = t1
  generalize e2 : A .icm .gtr (A .nat n) 6 = t2
  have f12 : (decide ((cols.length : Int) < 1) || decide ((cols.length : Int) > 6)) = (t1 || t2) := by
    rw [← e1, ← e2, hn, icm_lss A, icm_gtr A]
  refine fn_of_sx A (tabOk T140.plan T140.pub) Tryz.func140 rfl (by kernel_rfl) ?_
  cbv
  intro sp h1 hsp e0
  have l1 : Le h h1 := by rw [e0]; exact Le.set hsp
  have gsp := (congrFun e0 sp).trans hset_self
  have s1 : Spl h1 sp := ⟨.inl gsp⟩
  have q1 := q.mono (l1.t _)
  clear e0
  cbv
  refine (name96 s1).mono (fun v h2 hR => ?_)
  obtain ⟨t, rfl, ht, k2, s2⟩ := hR
  cbv
  rw [hA.not]
  cases t with
  | false =>
    cbv
    refine ⟨l1.kpNew (by simpa using hsp) k2, 12, rfl, ?_⟩
    unfold schErr
    rw [← ht]; rfl
  | true =>
    cbv
    rw [e1]
    have many : (t1 || t2) = true → (4 : Int) = schErr ⟨nm, cols, key, only⟩ := fun hm => by
      unfold schErr
      rw [← ht, f12, hm]; rfl
    cases t1 with
    | true =>
      cbv
      exact ⟨l1.kpNew (by simpa using hsp) k2, 4, rfl, many rfl⟩
    | false =>
      cbv
      rw [e2]
      cases t2 with
      | true =>
        cbv
        exact ⟨l1.kpNew (by simpa using hsp) k2, 4, rfl, many rfl⟩
      | false =>
        clear many e1 e2
        cbv
        refine LoopX.go (G := Int) (fun z => [(25, .v (.int .i64 z))]) (fun _ => [(1, [.string nm, .slice b n c, .int .i64 key, .bool only])])
          (fun k z h' => ∃ i : Nat, IsN z i ∧ k = n - i ∧ i ≤ n ∧ Kp [sp] h1 h' ∧ Spl h' sp ∧ ∀ j, j < i → ∀ y, cols[j]? = some y → colErr cols j y = 0) n 0 ⟨?_, ?_, ?_⟩ ⟨0, ⟨rfl⟩, by omega, by omega, k2, s2, fun j hj => (by omega)⟩ ?_
        · cbv
        · cbv
        · cbv
        · intro k z h' hI
          cbv
          obtain ⟨i, hz, hk, hi, kp, sp', hall⟩ := hI
          refine bsel_mk (fun hc => ?_) (fun hc => ?_)
          · have hlt := hz.lt hc
            clear hc
            cbv
            obtain ⟨x, hx⟩ := get_ex (xs := cols) (i := i) (by omega)
            have q' := q1.mono (Kp.leT kp gsp (by decide))
            refine ⟨⟨q.isSm (by omega), hz.ix hlt⟩, ?_⟩
            cbv
            refine q'.load hx hz.eq (fun cs hcs => ?_)
            have hcs : cs = [.string x.name, .int .i64 x.kind, .bool x.null] := hcs
            subst hcs
            generalize hxn : x.name = xn at *
            generalize hxk : x.kind = xk at *
            cbv
            refine (find97 q').mono (fun v h3 hR => ?_)
            obtain ⟨l3, z3, t3, z', rfl, hr, hz3, ht3⟩ := hR
            have s3 : Spl h3 sp := by
              rcases sp'.out with g | ⟨m, g, mp, hm⟩
              · exact ⟨.inl (l3 _ _ g)⟩
              · exact ⟨.inr ⟨m, l3 _ _ g, mp.kp (l3.kp []) (by simp), hm⟩⟩
            have hil : A .icm .lss z3 z = (cols.take i).any fun y => decide (y.name = xn) := by
              rw [icm_lss A, hz3, hz.eq, ← hxn]
              exact idx_lt hx (by rw [hxn]; exact hr)
            cbv
            refine (name96 s3).mono (fun v h4 hR => ?_)
            obtain ⟨t, rfl, ht4, k4, s4⟩ := hR
            have kp4 := (kp.trans (l3.kp _)).trans k4
            have lle : Le h h4 := l1.kpNew (by simpa using hsp) kp4
            -- an error of this column is the answer
            have bad : ∀ e : Int, colErr cols i x = e → e ≠ 0 → e = schErr ⟨nm, cols, key, only⟩ := fun e he hne => by
              have h5 := colsErr_at hx hall (by rw [he]; exact hne)
              unfold schErr
              rw [← ht, f12]
              simp only [h5, he]
              rw [if_neg (by simp), if_neg (by simp), if_pos hne]
            have good : colErr cols i x = 0 → ∀ j, j < i + 1 → ∀ y, cols[j]? = some y → colErr cols j y = 0 := fun e j hj y hy => by
              rcases Nat.lt_or_ge j i with hji | hji
              · exact hall j hji y hy
              · have : j = i := by omega
                subst this
                rw [hx] at hy; cases hy
                exact e
            generalize e1 : A .icm .lss z3 z = u1 at *
            generalize e2 : A .icm .lss xk 1 = u2
            generalize e3 : A .icm .gtr xk 3 = u3
            have hce : colErr cols i x = if (!t || u1) = true then 12 else if (u2 || u3) = true then 3 else 0 := by
              unfold colErr
              rw [hxn, hxk, ← ht4, ← hil, ← e2, ← e3, icm_lss A, icm_gtr A]
            cbv
            rw [hA.not]
            cases t with
            | false =>
              cbv
              exact ⟨lle, 12, rfl, bad 12 hce (by decide)⟩
            | true =>
              cbv
              try rw [e1]
              cases u1 with
              | true =>
                cbv
                exact ⟨lle, 12, rfl, bad 12 hce (by decide)⟩
              | false =>
                cbv
                rw [e2]
                cases u2 with
                | true =>
                  cbv
                  exact ⟨lle, 3, rfl, bad 3 hce (by decide)⟩
                | false =>
                  cbv
                  rw [e3]
                  cases u3 with
                  | true =>
                    cbv
                    exact ⟨lle, 3, rfl, bad 3 hce (by decide)⟩
                  | false =>
                    cbv
                    refine ⟨n - (i + 1), _, by omega, ⟨?_, ?_, ?_⟩, i + 1, hz.succ (A := A) (by omega), rfl, by omega, kp4, s4, good hce⟩
                    · cbv
                    · cbv
                    · cbv
          · have hge := hz.ge hc
            have h0 : colsErr cols = 0 := colsErr_none fun j hj y hy => hall j (by omega) y hy
            have lle : Le h h' := l1.kpNew (by simpa using hsp) kp
            have q' := q1.mono (Kp.leT kp gsp (by decide))
            generalize e1 : A .icm .lss key 0 = u1
            generalize e2 : A .icm .geq key (A .nat n) = u2
            have hs : schErr ⟨nm, cols, key, only⟩ = if (u1 || u2) = true then 1 else if ((cols[key.toNat]?).map (·.null)).getD false = true then 13 else 0 := by
              unfold schErr
              rw [← ht, f12]
              simp only [h0]
              rw [if_neg (by simp), if_neg (by simp), if_neg (by simp), ← e1, ← e2, icm_lss A, icm_geq A, hn]
            cbv
            rw [e1]
            cases u1 with
            | true =>
              cbv
              exact ⟨lle, 1, rfl, hs.symm⟩
            | false =>
              cbv
              rw [e2]
              cases u2 with
              | true =>
                cbv
                exact ⟨lle, 1, rfl, hs.symm⟩
              | false =>
                obtain ⟨hk1, hk2⟩ := key_in A e1 e2
                obtain ⟨x, hx⟩ := get_ex (xs := cols) (i := key.toNat) (by omega)
                rw [hx] at hs
                cbv
                refine ⟨⟨q.isSm (by omega), hk1.ix hk2⟩, ?_⟩
                cbv
                refine q'.loadF hx hk1.eq (by decide) (fun cs hcs => ?_)
                have hcs : cs = [.string x.name, .int .i64 x.kind, .bool x.null] := hcs
                subst hcs
                have hs : schErr ⟨nm, cols, key, only⟩ = if x.null = true then 13 else 0 := hs
                generalize x.null = nl at *
                cases nl with
                | true =>
                  cbv
                  exact ⟨lle, 13, rfl, hs.symm⟩
                | false =>
                  cbv
                  exact ⟨lle, 0, rfl, hs.symm⟩
end Go.S

set_option maxRecDepth 100000
namespace Go.S
open Go.Sx Go.Proofs

theorem table46 {h : Heap} {c tb wb ct cw : Nat} {T : List Tbl} {W : List (Wrk × Bool)} {H Wt : List Hld} {e : Int} (q : Cst h c tb wb ct cw T W H Wt e) (name : ByteArray) :
    Ct 141 [.pointer (some ⟨c, 0, none⟩), .string name] h (fun v h' => Le h h' ∧ ∃ z t, v = .tuple #[.int .i64 z, .bool t] ∧ BsR (T.map (fun x => cmpB x.S.name name)) z t) := by
  obtain ⟨A, hA⟩ := Ar.ex
  obtain ⟨n1, n2, b3, n3, c3, b4, n4, c4, o, g0, g1, g2, g3, g4, g5, g6, g7⟩ := q.out
  refine fn_of_sx A (tabOk T141.plan T141.pub) Tryz.func141 rfl (by kernel_rfl) ?_
  cbv
  rw [offm A]
  rw [offm A]
  refine ldb g0 rfl rfl ?_
  cbv
  refine (bs98 (g3.sl g2) name).mono (fun v h2 hR => ?_)
  obtain ⟨l2, z, t, rfl, hz⟩ := hR
  cbv
  exact ⟨l2, z, t, rfl, hz⟩
end Go.S

set_option maxRecDepth 100000
namespace Go.S
open Go.Sx Go.Proofs

theorem insert48 {xs : List Tbl} {x : Tbl} {h : Heap} {b vb : Option Addr} {n cv : Nat} (q : Sl 100 shTbl h (.slice b n n) xs) (qv : Sl 100 shTbl h (.slice vb 1 cv) [x]) {z : Int} {i : Nat} (hz : IsN z i) (hi : i ≤ n) (hn : n ≤ 2 ^ 38) :
    Ct 142 [.slice b n n, .int .i64 z, .slice vb 1 cv] h (fun v h' => Le h h' ∧ ∃ nb c m, v = .slice (some ⟨nb, 0, none⟩) m c ∧ h nb = none ∧ m = n + 1 ∧ Own 100 shTbl h' nb c (xs.take i ++ [x] ++ xs.drop i)) := by
  obtain ⟨A, hA⟩ := Ar.ex
  have hlen := q.len
  have hnN : IsN (A .nat n) n := ⟨by rw [hA.nat]; rfl⟩
  have h1N : IsN (A .nat 1) 1 := ⟨by rw [hA.nat]; rfl⟩
  have e1 : A .icm .eql (A .nat 1) 0 = false := by rw [icm_eql A, hA.nat]; rfl
  have e2 : A .icm .eql z (A .nat n) = decide (i = n) := by
    rw [icm_eql A, hA.nat]
    have := hz.eq
    rw [decide_eq_decide]
    simp only [Int.ofNat_eq_natCast]; omega
  have e3 : A .icm .gtr (A .ari .add .i64 (A .nat n) (A .nat 1)) (A .nat n) = true := by
    rw [icm_gtr A, decide_eq_true_eq, hA.ari, hA.nat]
    simp only [ari, Int.ofNat_eq_natCast]
    rw [IntWalk.i64_in _ (by omega)]
    omega
  have hw := (hnN.add (A := A) h1N (by omega)).sub (A := A) hz (by omega) (by omega)
  have hck := chk_make hw (bytes := 80) (by omega) (by decide)
  have hzi : 0 ≤ z ∧ z ≤ (n : Int) := by have := hz.eq; omega
  refine fn_of_sx A (tabOk T142.plan T142.pub) Tryz.func142 rfl (by kernel_rfl) ?_
  cbv
  refine ⟨hzi, ?_⟩
  cbv
  rw [e1]
  cbv
  rw [e2]
  by_cases hin : i = n
  · rw [decide_eq_true hin]
    cbv
    refine appendX_own q qv (by omega) rfl (by decide) (by omega) (fun nb c h1 hnb l1 hc ho => ?_)
    cbv
    refine ⟨l1, nb, c, _, rfl, hnb, rfl, ?_⟩
    rw [hin, hlen, List.take_length, List.drop_length, List.append_nil]
    exact ho
  · rw [decide_eq_false hin]
    cbv
    rw [e3]
    cbv
    refine ⟨hzi, ?_⟩
    cbv
    refine ⟨hck, ?_⟩
    cbv
    rw [dif_z0 (A := A) hz]
    rw [dif_z0 (A := A) hw]
    refine appendZ_own (q.takeX (A := A) hi) (by omega) rfl (by decide) (by omega) rfl rfl (fun nb c h1 hnb l1 hc ho => ?_)
    obtain ⟨m, hm⟩ : ∃ m, m = n + 1 := ⟨_, rfl⟩
    rw [show i + (n + 1 - i) = m by omega]
    have hmN : IsN (A .nat m) m := ⟨by rw [hA.nat]; rfl⟩
    have hcN : IsN (A .nat c) c := ⟨by rw [hA.nat]; rfl⟩
    have hzm : 0 ≤ z ∧ z ≤ (m : Int) := by have := hz.eq; omega
    have hz1 := hz.add (A := A) h1N (by omega)
    have hz1m : 0 ≤ A .ari .add .i64 z (A .nat 1) ∧ A .ari .add .i64 z (A .nat 1) ≤ (m : Int) := by have := hz1.eq; omega
    have hlt : (xs.take i).length = i := by rw [List.length_take]; omega
    cbv
    refine ⟨hzm, ?_⟩
    cbv
    rw [cut_own (A := A) hz (by omega), dif_nz (A := A) hz]
    have qv1 := qv.mono (l1.t _)
    refine copy_own ho (by decide) (i := i) (by omega) qv1 (by omega) (by omega) (by omega) rfl (fun h2 k2 t2 o2 => ?_)
    rw [List.take_take, Nat.min_self, List.drop_eq_nil_of_le (by omega), List.append_nil] at o2
    have l2 : Le h h2 := l1.kpNew (by simpa using hnb) k2
    have q2 := q.mono (l2.t _)
    generalize ((min 1 (m - i) : Nat) : Int) = w1
    cbv
    refine ⟨hz1m, ?_⟩
    cbv
    refine ⟨hzi, ?_⟩
    cbv
    rw [cut_own (A := A) hz1 (by omega), dif_nz (A := A) hz1, dif_nz (A := A) hz, dif_nz (A := A) hz]
    refine copy_own o2 (by decide) (i := i + 1) (by simp; omega) (q2.dropX (A := A) hz hi rfl rfl) (by omega) (by omega) (by omega) rfl (fun h3 k3 t3 o3 => ?_)
    generalize ((min (n - i) (m - (i + 1)) : Nat) : Int) = w2
    cbv
    refine ⟨l2.kpNew (by simpa using hnb) k3, nb, c, m, rfl, hnb, hm, ?_⟩
    have e5 : (List.take i xs ++ [x]).length = i + 1 := by simp; omega
    have e6 : List.take (i + 1) (List.take i xs ++ [x]) = List.take i xs ++ [x] := List.take_of_length_le (by omega)
    have e7 : List.drop (i + 1 + (n - i)) (List.take i xs ++ [x]) = [] := List.drop_eq_nil_of_le (by omega)
    rw [e6, e7, List.append_nil] at o3
    exact o3
end Go.S

set_option maxRecDepth 100000
namespace Go.S
open Go.Sx Go.Proofs

end Go.S

set_option maxRecDepth 100000
namespace Go.S
open Go.Sx Go.Proofs

theorem RDB.form {h : Heap} {v : Value} {d : DB} (q : RDB h v d) : ∃ b1 n1 c1 b2 n2 c2 b3 n3 c3 b4 n4 c4, v = .agg #[.slice b1 n1 c1, .slice b2 n2 c2, .slice b3 n3 c3, .slice b4 n4 c4] := by
  obtain ⟨b1, n1, c1, b2, n2, c2, b3, n3, c3, b4, n4, c4, ws, rfl, -⟩ := q.out
  exact ⟨_, _, _, _, _, _, _, _, _, _, _, _, rfl⟩
theorem RDB.mono {h h' : Heap} {v : Value} {d : DB} (q : RDB h v d) (l : Le h h') : RDB h' v d := by
  obtain ⟨b1, n1, c1, b2, n2, c2, b3, n3, c3, b4, n4, c4, ws, rfl, q1, q2, q3, q4, q5⟩ := q.out
  exact ⟨_, _, _, _, _, _, _, _, _, _, _, _, ws, rfl, q1.mono (l.t _), q2.mono (l.t _), q3.mono (l.t _), q4.mono (l.t _), q5⟩

theorem own47' {d : DB} {h : Heap} {v : Value} (q : RDB h v d) : Ct 78 [v] h (fun v' h' => Le h h' ∧ RDB h' v' d) := by
  refine (own47 q).mono (fun v h1 hR => ?_)
  obtain ⟨l1, tb, wb, n1, n2, b3, n3, c3, b4, n4, c4, W, htb, hwb, rfl, g1, g2, g3, g4, g5, g6, g7⟩ := hR
  exact ⟨l1, ⟨_, _, _, _, _, _, _, _, _, _, _, _, W, rfl, g2.sl g1, g4.sl g3, g5, g6, by rw [g7, List.map_map]; simp [Function.comp_def]⟩⟩

def setWorks (d : DB) (w : List Wrk) : DB := { d with works := w }

/-- What 'Begin' does, given where the session would stand. -/
def beginR (d : DB) (sid : Int) (i : Nat) (is : Bool) : DB × Int :=
  if (decide (sid < 0) || decide (sid ≥ 8)) = true then (d, 1)
  else if is = true then (d, 7)
  else (setWorks d (d.works.take i ++ [⟨sid, [], []⟩] ++ d.works.drop i), 0)

end Go.S

set_option maxRecDepth 100000
namespace Go.S
open Go.Sx Go.Proofs

def setTabs (d : DB) (t : List Tbl) : DB := { d with tabs := t }
/-- The error of 'Create'. -/
def createE (d : DB) (s : Sch) (is : Bool) : Int :=
  if schErr s ≠ 0 then schErr s
  else if is = true then 7
  else if decide (d.tabs.length ≥ 8) = true then 4
  else if decide (d.works.length > 0) = true then 18 else 0
def createR (d : DB) (s : Sch) (i : Nat) (is : Bool) : DB × Int :=
  if createE d s is = 0 then (setTabs d (d.tabs.take i ++ [⟨s, []⟩] ++ d.tabs.drop i), 0) else (d, createE d s is)

theorem create17 {d : DB} {h : Heap} {v : Value} (q : RDB h v d) {nm : ByteArray} {cols : List Col} {key : Int} {only : Bool} {sb : Option Addr} {sn sc : Nat} (qs : Sl 58 shCol h (.slice sb sn sc) cols) (hlen : d.tabs.length ≤ 2 ^ 37) (hlw : d.works.length ≤ 2 ^ 37) :
    Ct 59 [v, .agg #[.string nm, .slice sb sn sc, .int .i64 key, .bool only]] h (fun v' h' => ∃ v1 e z i is, v' = .tuple #[v1, .int .i64 e] ∧ Le h h' ∧ RDB h' v1 (createR d ⟨nm, cols, key, only⟩ i is).1 ∧ e = (createR d ⟨nm, cols, key, only⟩ i is).2 ∧ IsN z i ∧ BsR (d.tabs.map fun x => cmpB x.S.name nm) z is) := by
  obtain ⟨A, hA⟩ := Ar.ex
  have q0 := q
  obtain ⟨b1, n1, c1, b2, n2, c2, b3, n3, c3, b4, n4, c4, ws, rfl, q1, q2, -, -, qw⟩ := q0.out
  refine fn_of_sx A (tabOk T59.plan T59.pub) Tryz.func59 rfl (by kernel_rfl) ?_
  cbv
  refine (begun43 q).mono (fun v h1 hR => ?_)
  obtain ⟨l1, c, tb, wb, ct, cw, W, rfl, hc, htb, hwb, hct, hcw, hW, ect, ecw, cs⟩ := hR
  cbv
  refine (check45 (key := key) (only := only) (nm := nm) (qs.mono (l1.t _))).mono (fun v h2 hR => ?_)
  obtain ⟨l2, e0, rfl, he0⟩ := hR
  cbv
  refine (fail44 (cs.mono l2) hct hcw).mono (fun v h3 hR => ?_)
  obtain ⟨rfl, k3, cs3⟩ := hR
  have lh3 : Le h h3 := (l1.trans l2).kpNew (by simpa using hc) k3
  cbv
  refine (table46 cs3 nm).mono (fun v h4 hR => ?_)
  obtain ⟨l4, z, t, rfl, hb⟩ := hR
  rw [if_pos rfl] at cs3
  obtain ⟨i, hz, hi, ht⟩ := hb.out
  have bad : ∀ (E : Int) (v : Value) {hh : Heap}, Le h hh → E ≠ 0 → createE d ⟨nm, cols, key, only⟩ t = E → RDB hh v d → ∃ v1 e1 z i is, Value.tuple #[v, .int .i64 E] = .tuple #[v1, .int .i64 e1] ∧ Le h hh ∧ RDB hh v1 (createR d ⟨nm, cols, key, only⟩ i is).1 ∧ e1 = (createR d ⟨nm, cols, key, only⟩ i is).2 ∧ IsN z i ∧ BsR (d.tabs.map fun x => cmpB x.S.name nm) z is := fun E v hh l hE hc hd => by
    have : createR d ⟨nm, cols, key, only⟩ i t = (d, E) := by unfold createR; rw [hc, if_neg hE]
    exact ⟨v, E, z, i, t, rfl, l, by rw [this]; exact hd, by rw [this], hz, hb⟩
  cases t with
  | true =>
    cbv
    refine (fail44 (cs3.mono l4) hct hcw).mono (fun v h5 hR => ?_)
    obtain ⟨rfl, k5, cs5⟩ := hR
    have lh5 : Le h h5 := (lh3.trans l4).kpNew (by simpa using hc) k5
    obtain ⟨E, hE⟩ : ∃ E, E = (if e0 = 0 then 7 else e0) := ⟨_, rfl⟩
    rw [← hE] at cs5
    have hcE : createE d ⟨nm, cols, key, only⟩ true = E := by
      unfold createE
      rw [hE, ← he0]
      by_cases h0 : e0 = 0 <;> simp [h0]
    cbv
    obtain ⟨m1, m2, x3, m3, k3, x4, m4, k4, o, g0, go, g2, g3, g4, g5, g6, g7⟩ := cs5.out
    generalize ez : A .icm .neq E 0 = u
    rw [icm_neq A] at ez
    rw [offm A]
    refine ldb g0 rfl rfl ?_
    cbv
    rw [icm_neq A, ez]
    cases u with
    | true =>
      cbv
      rw [offm A]
      refine ldb g0 rfl rfl ?_
      cbv
      refine (own47' (q.mono lh5)).mono (fun v h6 hR => ?_)
      obtain ⟨l6, hd⟩ := hR
      have hd6 := hd
      obtain ⟨b1, n1, c1, b2, n2, c2, b3, n3, c3, b4, n4, c4, rfl⟩ := hd.form
      cbv
      refine ldb (l6 _ _ g0) rfl rfl ?_
      cbv
      refine ⟨⟨_, rfl, rfl⟩, ?_⟩
      cbv
      refine ldb (l6 _ _ g0) rfl rfl ?_
      cbv
      refine ⟨⟨_, rfl, rfl⟩, ?_⟩
      cbv
      exact bad _ _ (lh5.trans l6) (of_decide_eq_true ez) hcE hd6
    | false =>
      exact absurd (of_decide_eq_false ez) (by rw [hE]; by_cases h0 : e0 = 0 <;> simp [h0])
  | false =>
    generalize eg : A .icm .geq (A .nat n1) 8 = ug
    generalize ew : A .icm .gtr (A .nat n2) 0 = uw
    have hg : ug = decide (d.tabs.length ≥ 8) := by
      rw [← eg, icm_geq A, hA.nat, q1.len, decide_eq_decide]; simp only [Int.ofNat_eq_natCast]; omega
    have hw : uw = decide (d.works.length > 0) := by
      rw [← ew, icm_gtr A, hA.nat, q2.len, decide_eq_decide]; simp only [Int.ofNat_eq_natCast]
      have : ws.length = d.works.length := by rw [← qw, List.length_map]
      omega
    cbv
    rw [eg]
    cases ug with
    | true =>
      cbv
      refine (fail44 (cs3.mono l4) hct hcw).mono (fun v h5 hR => ?_)
      obtain ⟨rfl, k5, cs5⟩ := hR
      have lh5 : Le h h5 := (lh3.trans l4).kpNew (by simpa using hc) k5
      obtain ⟨E, hE⟩ : ∃ E, E = (if e0 = 0 then 4 else e0) := ⟨_, rfl⟩
      rw [← hE] at cs5
      have hcE : createE d ⟨nm, cols, key, only⟩ false = E := by
        unfold createE
        rw [hE, ← he0, ← hg]
        by_cases h0 : e0 = 0 <;> simp [h0]
      cbv
      obtain ⟨m1, m2, x3, m3, k3, x4, m4, k4, o, g0, go, g2, g3, g4, g5, g6, g7⟩ := cs5.out
      generalize ez : A .icm .neq E 0 = u
      rw [icm_neq A] at ez
      rw [offm A]
      refine ldb g0 rfl rfl ?_
      cbv
      rw [icm_neq A, ez]
      cases u with
      | true =>
        cbv
        rw [offm A]
        refine ldb g0 rfl rfl ?_
        cbv
        refine (own47' (q.mono lh5)).mono (fun v h6 hR => ?_)
        obtain ⟨l6, hd⟩ := hR
        have hd6 := hd
        obtain ⟨b1, n1, c1, b2, n2, c2, b3, n3, c3, b4, n4, c4, rfl⟩ := hd.form
        cbv
        refine ldb (l6 _ _ g0) rfl rfl ?_
        cbv
        refine ⟨⟨_, rfl, rfl⟩, ?_⟩
        cbv
        refine ldb (l6 _ _ g0) rfl rfl ?_
        cbv
        refine ⟨⟨_, rfl, rfl⟩, ?_⟩
        cbv
        exact bad _ _ (lh5.trans l6) (of_decide_eq_true ez) hcE hd6
      | false =>
        exact absurd (of_decide_eq_false ez) (by rw [hE]; by_cases h0 : e0 = 0 <;> simp [h0])
    | false =>
      cbv
      rw [ew]
      cases uw with
      | true =>
        cbv
        refine (fail44 (cs3.mono l4) hct hcw).mono (fun v h5 hR => ?_)
        obtain ⟨rfl, k5, cs5⟩ := hR
        have lh5 : Le h h5 := (lh3.trans l4).kpNew (by simpa using hc) k5
        obtain ⟨E, hE⟩ : ∃ E, E = (if e0 = 0 then 18 else e0) := ⟨_, rfl⟩
        rw [← hE] at cs5
        have hcE : createE d ⟨nm, cols, key, only⟩ false = E := by
          unfold createE
          rw [hE, ← he0, ← hg, ← hw]
          by_cases h0 : e0 = 0 <;> simp [h0]
        cbv
        obtain ⟨m1, m2, x3, m3, k3, x4, m4, k4, o, g0, go, g2, g3, g4, g5, g6, g7⟩ := cs5.out
        generalize ez : A .icm .neq E 0 = u
        rw [icm_neq A] at ez
        rw [offm A]
        refine ldb g0 rfl rfl ?_
        cbv
        rw [icm_neq A, ez]
        cases u with
        | true =>
          cbv
          rw [offm A]
          refine ldb g0 rfl rfl ?_
          cbv
          refine (own47' (q.mono lh5)).mono (fun v h6 hR => ?_)
          obtain ⟨l6, hd⟩ := hR
          have hd6 := hd
          obtain ⟨b1, n1, c1, b2, n2, c2, b3, n3, c3, b4, n4, c4, rfl⟩ := hd.form
          cbv
          refine ldb (l6 _ _ g0) rfl rfl ?_
          cbv
          refine ⟨⟨_, rfl, rfl⟩, ?_⟩
          cbv
          refine ldb (l6 _ _ g0) rfl rfl ?_
          cbv
          refine ⟨⟨_, rfl, rfl⟩, ?_⟩
          cbv
          exact bad _ _ (lh5.trans l6) (of_decide_eq_true ez) hcE hd6
        | false =>
          exact absurd (of_decide_eq_false ez) (by rw [hE]; by_cases h0 : e0 = 0 <;> simp [h0])
      | false =>
        have cs5 := cs3.mono l4
        have lh5 : Le h h4 := lh3.trans l4
        obtain ⟨E, hE⟩ : ∃ E, E = e0 := ⟨_, rfl⟩
        rw [← hE] at cs5
        have hcE : createE d ⟨nm, cols, key, only⟩ false = E := by
          unfold createE
          rw [hE, ← he0, ← hg, ← hw]
          by_cases h0 : e0 = 0 <;> simp [h0]
        cbv
        obtain ⟨m1, m2, x3, m3, k3, x4, m4, k4, o, g0, go, g2, g3, g4, g5, g6, g7⟩ := cs5.out
        generalize ez : A .icm .neq E 0 = u
        rw [icm_neq A] at ez
        rw [offm A]
        refine ldb g0 rfl rfl ?_
        cbv
        rw [icm_neq A, ez]
        cases u with
        | true =>
          cbv
          rw [offm A]
          refine ldb g0 rfl rfl ?_
          cbv
          refine (own47' (q.mono lh5)).mono (fun v h6 hR => ?_)
          obtain ⟨l6, hd⟩ := hR
          have hd6 := hd
          obtain ⟨b1, n1, c1, b2, n2, c2, b3, n3, c3, b4, n4, c4, rfl⟩ := hd.form
          cbv
          refine ldb (l6 _ _ g0) rfl rfl ?_
          cbv
          refine ⟨⟨_, rfl, rfl⟩, ?_⟩
          cbv
          refine ldb (l6 _ _ g0) rfl rfl ?_
          cbv
          refine ⟨⟨_, rfl, rfl⟩, ?_⟩
          cbv
          exact bad _ _ (lh5.trans l6) (of_decide_eq_true ez) hcE hd6
        | false =>
          have hE0 : E = 0 := by have := of_decide_eq_false ez; omega
          cbv
          rw [offm A]
          rw [offm A]
          refine ldb g0 rfl rfl ?_
          cbv
          have sT : shTbl.R h4 [.string nm, .slice sb sn sc, .int .i64 key, .bool only, .slice none 0 0] ⟨⟨nm, cols, key, only⟩, []⟩ := ⟨_, _, _, _, _, _, rfl, qs.mono (lh5.t _), Sl.nil⟩
          refine (own49 sT).mono (fun v h6 hR => ?_)
          obtain ⟨l6, d0, d1, d2, d3, d4, rfl, rT⟩ := hR
          obtain ⟨w1, w2, w3, w4, w5, w6, he, rT1, rT2⟩ := rT
          cases he
          have g06 := l6 _ _ g0
          cbv
          refine ldb g06 rfl rfl ?_
          cbv
          refine ⟨⟨_, rfl, rfl⟩, ?_⟩
          cbv
          intro nb h7 hnb e7
          have l7 : Le h6 h7 := by rw [e7]; exact Le.set hnb
          have gx := (congrFun e7 nb).trans hset_self
          have sx : Sl 100 shTbl h7 (.slice (some ⟨nb, 0, none⟩) 1 1) [(⟨⟨nm, cols, key, only⟩, []⟩ : Tbl)] := by
            refine Sl.fresh (xs := [(⟨⟨nm, cols, key, only⟩, []⟩ : Tbl)]) gx ⟨by simp [shTbl], fun j y hj => ?_⟩ (by simp) (by simp)
            have hj0 : j = 0 := by
              have := (List.getElem?_eq_some_iff.1 hj).1
              simp at this; exact this
            subst hj0
            simp at hj
            subst hj
            exact ⟨_, _, _, _, _, _, rfl, rT1.mono (l7.t _), rT2.mono (l7.t _)⟩
          have g07 := l7 _ _ g06
          have em : m1 = ct := by rw [g2, ect]
          subst em
          have hil : i ≤ m1 := by
            have := (bsAt_le (d.tabs.map fun x => cmpB x.S.name nm) 0 (d.tabs.map fun x => cmpB x.S.name nm).length (Nat.zero_le _)).1
            rw [hi, g2]
            simpa using this
          cbv
          refine ldb g07 rfl rfl ?_
          cbv
          refine ⟨⟨_, rfl, rfl⟩, ?_⟩
          cbv
          refine (insert48 ((g3.sl g2).mono ((l6.trans l7).t _)) sx hz hil (by omega)).mono (fun v h8 hR => ?_)
          obtain ⟨l8, tb2, ct2, m5, rfl, htb2, em5, ot⟩ := hR
          have g08 := l8 _ _ g07
          cbv
          rw [offm A]
          rw [offm A]
          refine stb g08 (by simp) (fun h9 e9 => ?_)
          have gc9 := (congrFun e9 c).trans hset_self
          have k9 : Kp [c] h8 h9 := by rw [e9]; exact Kp.set (by simp)
          have t9 : ∀ tys, 226 ∉ tys → LeT tys h8 h9 := fun tys hn => by rw [e9]; exact LeT.set g08 hn
          have lh9 : Le h h9 := (((lh5.trans l6).trans l7).trans l8).kpNew (by simpa using hc) k9
          have hdb : RDB h9 (.agg #[.slice (some ⟨tb2, 0, none⟩) m5 ct2, .slice (some ⟨wb, 0, none⟩) m2 cw, .slice x3 m3 k3, .slice x4 m4 k4]) (setTabs d (d.tabs.take i ++ [⟨⟨nm, cols, key, only⟩, []⟩] ++ d.tabs.drop i)) := by
            have l48 := (l6.trans l7).trans l8
            refine ⟨_, _, _, _, _, _, _, _, _, _, _, _, _, rfl, (ot.sl ?_).mono (t9 _ (by decide)), ((g5.sl g4).mono (l48.t _)).mono (t9 _ (by decide)), (g6.mono (l48.t _)).mono (t9 _ (by decide)), (g7.mono (l48.t _)).mono (t9 _ (by decide)), ?_⟩
            · rw [em5]; simp; omega
            · rw [hW]; simp [setTabs, Function.comp_def]
          cbv
          rw [offm A]
          refine ldb gc9 rfl rfl ?_
          cbv
          refine (own47' hdb).mono (fun v h10 hR => ?_)
          obtain ⟨l10, hd⟩ := hR
          have hnew : createR d ⟨nm, cols, key, only⟩ i false = (setTabs d (d.tabs.take i ++ [⟨⟨nm, cols, key, only⟩, []⟩] ++ d.tabs.drop i), 0) := by unfold createR; rw [if_pos (hcE.trans hE0)]
          have hd6 := hd
          generalize setTabs d (d.tabs.take i ++ [⟨⟨nm, cols, key, only⟩, []⟩] ++ d.tabs.drop i) = d' at *
          obtain ⟨b1, n1, c1, b2, n2, c2, b3, n3, c3, b4, n4, c4, rfl⟩ := hd.form
          cbv
          exact ⟨_, 0, z, i, false, rfl, lh9.trans l10, by rw [hnew]; exact hd6, by rw [hnew], hz, hb⟩
end Go.S

