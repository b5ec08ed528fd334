import Derived.Test.YtnfijhlegoagjaaGreatLA
import Derived.Test.YtnfijhlegoagjaaGreatGB
import Derived.Test.YtnfijhlegoagjaaGreatRd
set_option linter.unusedVariables false
set_option linter.unusedSimpArgs false
set_option linter.unusedSectionVars false
set_option maxRecDepth 100000
set_option maxHeartbeats 8000000
set_option linter.unusedVariables false
set_option linter.unusedSimpArgs false
namespace Go.S
open Go.Sx Go.Proofs
theorem agst_symm (a b : Hld) : agst a b = agst b a := by
  unfold agst
  have e1 : decide (a.s ≠ b.s) = decide (b.s ≠ a.s) := by rw [decide_eq_decide]; exact ne_comm
  have e2 : decide (a.table = b.table) = decide (b.table = a.table) := by rw [decide_eq_decide]; exact eq_comm
  rw [e1, e2, Bool.or_comm]
/-- A session holds a table once. -/
def HU (H : List Hld) : Prop := ∀ (i j : Nat) (x y : Hld), H[i]? = some x → H[j]? = some y → x.s = y.s → x.table = y.table → i = j
theorem mine_none {H : List Hld} {hd : Hld} (h : ∀ (j : Nat) (y : Hld), H[j]? = some y → mineP hd y = false) : mineI H hd = none := by
  unfold mineI
  rw [List.findIdx?_eq_none_iff]
  intro x hx
  obtain ⟨j, hj⟩ := List.getElem?_of_mem hx
  exact h j x hj
theorem mine_some {H : List Hld} (hu : HU H) {hd : Hld} {i : Nat} {x : Hld} (hx : H[i]? = some x) (hp : mineP hd x = true) : mineI H hd = some i := by
  unfold mineI
  rw [List.findIdx?_eq_some_iff_getElem]
  have hi := List.getElem?_eq_some_iff.1 hx
  refine ⟨hi.1, by rw [hi.2]; exact hp, fun j hj => ?_⟩
  have hjl : j < H.length := by have := hi.1; omega
  intro hpj
  have h1 : H[j]? = some (H[j]'hjl) := List.getElem?_eq_getElem hjl
  unfold mineP at hp hpj
  simp only [Bool.and_eq_true, decide_eq_true_eq] at hp hpj
  have := hu i j x _ hx h1 (by rw [hp.1, hpj.1]) (by rw [hp.2, hpj.2])
  omega
/-- How the document asks. -/
theorem ask_none {H W : List Hld} {hd : Hld} (h : mineI H hd = none) : askFree H hd = !(H.any (agst hd)) ∧ (H.any (agst hd) = false → askH H hd = H ++ [hd]) ∧ (H.any (agst hd) = true → askH H hd = H) := by
  have hh : askHas H hd = false := by unfold askHas; rw [h]
  have hf : askFree H hd = !(H.any (agst hd)) := by unfold askFree; rw [hh]; rfl
  refine ⟨hf, fun h1 => ?_, fun h1 => ?_⟩
  · unfold askH
    rw [hf, h1, hh, h]
    rfl
  · unfold askH
    rw [hf, h1]
    rfl
theorem ask_some {H W : List Hld} {hd : Hld} {i : Nat} {x : Hld} (h : mineI H hd = some i) (hx : H[i]? = some x) (hp : mineP hd x = true) :
    ((x.x || !hd.x) = true → askFree H hd = true ∧ askH H hd = H) ∧ ((x.x || !hd.x) = false → askFree H hd = !(H.any (agst hd)) ∧ (H.any (agst hd) = false → askH H hd = H.set i ⟨x.s, x.table, true⟩) ∧ (H.any (agst hd) = true → askH H hd = H)) := by
  obtain ⟨xs, xt, xx⟩ := x
  obtain ⟨hs, ht, hx'⟩ := hd
  unfold mineP at hp
  simp only [Bool.and_eq_true, decide_eq_true_eq] at hp
  obtain ⟨rfl, rfl⟩ := hp
  have hh : askHas H ⟨xs, xt, hx'⟩ = (xx || !hx') := by
    unfold askHas
    rw [h]
    simp only
    rw [hx]
    simp only [Option.any_some, sameH, decide_true, Bool.true_and]
    cases xx <;> cases hx' <;> rfl
  refine ⟨fun h1 => ?_, fun h1 => ?_⟩
  · have hf : askFree H ⟨xs, xt, hx'⟩ = true := by unfold askFree; rw [hh]; simp only at h1; rw [h1]; rfl
    refine ⟨hf, ?_⟩
    unfold askH
    rw [hf, hh]
    simp only at h1
    rw [h1]
    rfl
  · simp only at h1
    rw [h1] at hh
    have hf : askFree H ⟨xs, xt, hx'⟩ = !(H.any (agst ⟨xs, xt, hx'⟩)) := by unfold askFree; rw [hh]; rfl
    have hxt : hx' = true := by cases hx' <;> simp_all
    refine ⟨hf, fun h2 => ?_, fun h2 => ?_⟩
    · unfold askH
      rw [hf, h2, hh, h, hxt]
      rfl
    · unfold askH
      rw [hf, h2]
      rfl
theorem any_take {H : List Hld} {p : Hld → Bool} {i : Nat} {x : Hld} (hx : H[i]? = some x) : (H.take (i + 1)).any p = ((H.take i).any p || p x) := by
  rw [List.take_add_one, hx, List.any_append]
  simp
end Go.S

set_option maxRecDepth 100000
set_option maxHeartbeats 8000000
set_option linter.unusedVariables false
set_option linter.unusedSimpArgs false
namespace Go.S
open Go.Sx Go.Proofs
theorem ask127 {H W : List Hld} {h : Heap} {b3 b4 : Option Addr} {n3 c3 n4 c4 : Nat} (q3 : Sl 209 shHld h (.slice b3 n3 c3) H) (q4 : Sl 209 shHld h (.slice b4 n4 c4) W) (h3 : n3 ≤ 2 ^ 36) (h4 : n4 ≤ 2 ^ 36) (hu : HU H) (s : Int) (t : ByteArray) (x : Bool) {k : Value → Heap → Prop}
    (hk : ∀ h' e3 m3 f3 e4 m4 f4 u, Le h h' → u = askFree H ⟨s, t, x⟩ → Sl 209 shHld h' (.slice e3 m3 f3) (askH H ⟨s, t, x⟩) → Sl 209 shHld h' (.slice e4 m4 f4) (askW H W ⟨s, t, x⟩) → k (.tuple #[.agg #[.slice e3 m3 f3, .slice e4 m4 f4], .bool u]) h') :
    Ct 127 [.agg #[.slice b3 n3 c3, .slice b4 n4 c4], .agg #[.int .i64 s, .string t, .bool x]] h k := by
  obtain ⟨A, hA⟩ := Ar.ex
  have hlen := q3.len
  have hbd := q3.bound
  have hnota : ∀ b : Bool, A .not b = !b := fun b => by rw [hA.not]
  obtain ⟨hd, hhd⟩ : ∃ hd : Hld, hd = ⟨s, t, x⟩ := ⟨_, rfl⟩
  have hmine : ∀ y : Hld, mineP hd y = (decide (y.s = s) && decide (y.table = t)) := fun y => by rw [hhd]; rfl
  rw [← hhd] at hk
  obtain ⟨I, hI0⟩ : ∃ I : Nat → (Int × Int × Bool) → Heap → Prop, ∀ m g h', I m g h' = ∃ i : Nat, IsN g.1 i ∧ m = n3 - i ∧ i ≤ n3 ∧ h' = h ∧ ((g.2.1 = -1 ∧ ∀ (j : Nat) y, j < i → H[j]? = some y → mineP hd y = false) ∨ ∃ j y, IsN g.2.1 j ∧ j < i ∧ H[j]? = some y ∧ mineP hd y = true) ∧ g.2.2 = !((H.take i).any (agst hd)) := ⟨_, fun _ _ _ => rfl⟩
  refine fn_of_sx A (tabOk T127.plan T127.pub) Tryz.func127 rfl (by kernel_rfl) ?_
  cbv
  refine LoopX.go (G := Int × Int × Bool) (fun g => [(8, .v (.int .i64 g.1)), (6, .v (.int .i64 g.2.1)), (7, .v (.bool g.2.2))]) (fun _ => [(2, [.slice b3 n3 c3, .slice b4 n4 c4]), (3, [.int .i64 s, .string t, .bool x]), (4, [.slice none 0 0, .slice none 0 0])]) (fun m g h' => I m g h') n3 (0, -1, true) ⟨?_, ?_, ?_⟩ (by rw [hI0]; exact ⟨0, ⟨rfl⟩, rfl, by omega, rfl, .inl ⟨rfl, fun j y hj => absurd hj (by omega)⟩, by simp⟩) ?_
  · cbv
  · cbv
  · cbv
  · intro m g h' hI
    rw [hI0] at hI
    cbv
    obtain ⟨i, hz, hm, hi, rfl, hown, hfr⟩ := hI
    obtain ⟨z, own, fr⟩ := g
    have hz : IsN z i := hz
    have hown : (own = -1 ∧ ∀ (j : Nat) y, j < i → H[j]? = some y → mineP hd y = false) ∨ ∃ j y, IsN own j ∧ j < i ∧ H[j]? = some y ∧ mineP hd y = true := hown
    have hfr : fr = !((H.take i).any (agst hd)) := hfr
    have f1 : A .icm .lss z (A .nat n3) = decide (i < n3) := hz.lt2 (IsN.nat n3)
    rw [f1]
    by_cases hlt : i < n3
    · obtain ⟨⟨ys, yt, yx⟩, hy⟩ := get_ex (xs := H) (i := i) (by omega)
      have hck : b3.isSome = true ∧ 0 ≤ z ∧ z < (n3 : Int) := ⟨q3.isSm (by omega), hz.ix hlt⟩
      have hze := hz.eq
      have hnx := hz.succ (A := A) (by omega)
      have f2 : A .icm .eql ys s = decide (ys = s) := icm_eql A ..
      have f3 : A .scm .eql yt t = decide (yt = t) := scm_eql A ..
      have hmp0 := hmine ⟨ys, yt, yx⟩
      have hmp0 : mineP hd ⟨ys, yt, yx⟩ = (decide (ys = s) && decide (yt = t)) := hmp0
      have hany := any_take (p := agst hd) hy
      have hstep : mineP hd ⟨ys, yt, yx⟩ = false → (own = -1 ∧ ∀ (j : Nat) y, j < i + 1 → H[j]? = some y → mineP hd y = false) ∨ ∃ j y, IsN own j ∧ j < i + 1 ∧ H[j]? = some y ∧ mineP hd y = true := fun hf => by
        rcases hown with ⟨h1, h2⟩ | ⟨j, y, h1, h2, h3⟩
        · refine .inl ⟨h1, fun j y hj hjy => ?_⟩
          rcases Nat.lt_or_ge j i with h | h
          · exact h2 j y h hjy
          · have : j = i := by omega
            subst this
            rw [hy] at hjy; cases hjy; exact hf
        · exact .inr ⟨j, y, h1, by omega, h3⟩
      have hdd : agst hd ⟨ys, yt, yx⟩ = agst ⟨s, t, x⟩ ⟨ys, yt, yx⟩ := by rw [hhd]
      rw [hdd] at hany
      clear hown
      have hF : fr = false → false = !((H.take (i + 1)).any (agst hd)) := fun e => by
        rw [hany]
        rw [e] at hfr
        have : (H.take i).any (agst hd) = true := by
          cases h : (H.take i).any (agst hd) with
          | true => rfl
          | false => rw [h] at hfr; cases hfr
        rw [this]; rfl
      have hTt : fr = true → ∀ ta, ta = agst ⟨s, t, x⟩ ⟨ys, yt, yx⟩ → (!ta) = !((H.take (i + 1)).any (agst hd)) := fun e ta hta => by
        rw [hany, hta]
        rw [e] at hfr
        have : (H.take i).any (agst hd) = false := by
          cases h : (H.take i).any (agst hd) with
          | false => rfl
          | true => rw [h] at hfr; cases hfr
        rw [this]; rfl
      have hmlt : n3 - (i + 1) < m := by omega
      generalize decide (ys = s) = us at *
      generalize decide (yt = t) = ut at *
      rw [decide_eq_true hlt]
      cbv
      refine ⟨hck, ?_⟩
      cbv
      refine q3.loadF hy hze (o := 0) (m := 1) (by decide) (fun cs hcs => ?_)
      have hcs : cs = [.int .i64 ys, .string yt, .bool yx] := hcs
      subst hcs
      cbv
      rw [f2]
      cases us with
      | false =>
        have hno := hstep (by rw [hmp0]; rfl)
        cbv
        cases fr with
        | false =>
          have hI2 : I (n3 - (i + 1)) (A .ari .add .i64 z 1, own, false) h' := by
            rw [hI0]
            exact ⟨i + 1, hnx, rfl, hlt, rfl, hno, hF rfl⟩
          cbv
          refine ⟨n3 - (i + 1), (_, own, false), hmlt, ⟨?_, ?_, ?_⟩, hI2⟩
          · cbv
          · cbv
          · cbv
        | true =>
          cbv
          refine ⟨hck, ?_⟩
          cbv
          refine q3.load hy hze (fun cs hcs => ?_)
          have hcs : cs = [.int .i64 ys, .string yt, .bool yx] := hcs
          subst hcs
          cbv
          refine against164 ys s yt t yx x (fun ta hta => ?_)
          rw [agst_symm] at hta
          cbv
          rw [hnota]
          have hI2 : I (n3 - (i + 1)) (A .ari .add .i64 z 1, own, !ta) h' := by
            rw [hI0]
            exact ⟨i + 1, hnx, rfl, hlt, rfl, hno, hTt rfl ta hta⟩
          cbv
          refine ⟨n3 - (i + 1), (_, own, !ta), hmlt, ⟨?_, ?_, ?_⟩, hI2⟩
          · cbv
          · cbv
          · cbv
      | true =>
        cbv
        refine ⟨hck, ?_⟩
        cbv
        refine q3.loadF hy hze (o := 1) (m := 1) (by decide) (fun cs hcs => ?_)
        have hcs : cs = [.int .i64 ys, .string yt, .bool yx] := hcs
        subst hcs
        cbv
        rw [f3]
        cases ut with
        | false =>
          have hno := hstep (by rw [hmp0]; rfl)
          cbv
          cases fr with
          | false =>
            have hI2 : I (n3 - (i + 1)) (A .ari .add .i64 z 1, own, false) h' := by
              rw [hI0]
              exact ⟨i + 1, hnx, rfl, hlt, rfl, hno, hF rfl⟩
            cbv
            refine ⟨n3 - (i + 1), (_, own, false), hmlt, ⟨?_, ?_, ?_⟩, hI2⟩
            · cbv
            · cbv
            · cbv
          | true =>
            cbv
            refine ⟨hck, ?_⟩
            cbv
            refine q3.load hy hze (fun cs hcs => ?_)
            have hcs : cs = [.int .i64 ys, .string yt, .bool yx] := hcs
            subst hcs
            cbv
            refine against164 ys s yt t yx x (fun ta hta => ?_)
            rw [agst_symm] at hta
            cbv
            rw [hnota]
            have hI2 : I (n3 - (i + 1)) (A .ari .add .i64 z 1, own, !ta) h' := by
              rw [hI0]
              exact ⟨i + 1, hnx, rfl, hlt, rfl, hno, hTt rfl ta hta⟩
            cbv
            refine ⟨n3 - (i + 1), (_, own, !ta), hmlt, ⟨?_, ?_, ?_⟩, hI2⟩
            · cbv
            · cbv
            · cbv
        | true =>
          have hmp : mineP hd ⟨ys, yt, yx⟩ = true := by rw [hmp0]; rfl
          cbv
          cases fr with
          | false =>
            have hI2 : I (n3 - (i + 1)) (A .ari .add .i64 z 1, z, false) h' := by
              rw [hI0]
              exact ⟨i + 1, hnx, rfl, hlt, rfl, .inr ⟨i, _, hz, by omega, hy, hmp⟩, hF rfl⟩
            cbv
            refine ⟨n3 - (i + 1), (_, z, false), hmlt, ⟨?_, ?_, ?_⟩, hI2⟩
            · cbv
            · cbv
            · cbv
          | true =>
            cbv
            refine ⟨hck, ?_⟩
            cbv
            refine q3.load hy hze (fun cs hcs => ?_)
            have hcs : cs = [.int .i64 ys, .string yt, .bool yx] := hcs
            subst hcs
            cbv
            refine against164 ys s yt t yx x (fun ta hta => ?_)
            rw [agst_symm] at hta
            cbv
            rw [hnota]
            have hI2 : I (n3 - (i + 1)) (A .ari .add .i64 z 1, z, !ta) h' := by
              rw [hI0]
              exact ⟨i + 1, hnx, rfl, hlt, rfl, .inr ⟨i, _, hz, by omega, hy, hmp⟩, hTt rfl ta hta⟩
            cbv
            refine ⟨n3 - (i + 1), (_, z, !ta), hmlt, ⟨?_, ?_, ?_⟩, hI2⟩
            · cbv
            · cbv
            · cbv
    · rw [decide_eq_false hlt]
      have hin : i = n3 := by omega
      have hall : (H.take i).any (agst hd) = H.any (agst hd) := by rw [List.take_of_length_le (by omega)]
      have hfr2 := hfr
      clear hfr
      rw [hall] at hfr2
      rcases hown with ⟨rfl, hno⟩ | ⟨j, y, hzj, hji, hy, hmp⟩
      · have gm1 : A .icm .geq (-1) 0 = false := by rw [icm_geq A]; rfl
        have hmn : mineI H hd = none := mine_none (fun j y hj => hno j y (by have := (List.getElem?_eq_some_iff.1 hj).1; omega) hj)
        obtain ⟨a1, a2, a3⟩ := ask_none (W := W) hmn
        clear hno hmn
        cbv
        rw [gm1]
        cbv
        rw [hnota]
        cases fr with
        | false =>
          have hany : H.any (agst hd) = true := by
            cases h : H.any (agst hd) with
            | true => rfl
            | false => rw [h] at hfr2; cases hfr2
          have a3 := a3 hany
          rw [hany] at a1
          have a1 : askFree H hd = false := a1
          have a4 : askW H W hd = wout W s ++ [hd] := by unfold askW; rw [a1, hhd]; rfl
          cbv
          refine ⟨?_, ?_⟩
          · refine without165 q4 (by omega) s (fun h5 e4 m4 f4 l5 hb5 => ?_)
            have hm4 : m4 ≤ n4 := by
              rw [hb5.sl.len, q4.len]; exact List.length_filter_le _ _
            cbv
            intro n6 h6 g6 e6
            have l6 : Le h5 h6 := by rw [e6]; exact Le.set g6
            have f6 := (congrFun e6 n6).trans hset_self
            have v6 : Sl 209 shHld h6 (.slice (some ⟨n6, 0, none⟩) 1 1) [hd] := by rw [hhd]; exact one_sl (s := shHld) f6 rfl
            cbv
            refine (hb5.mono (l6.t _)).append v6 (by decide) rfl (by decide) (by omega) (l5.trans l6) (fun m7 b7 c7 h7 em7 l7 t7 k7 hb7 => ?_)
            have hfin := hk h7 b3 n3 c3 b7 m7 c7 false l7 a1.symm (by rw [a3]; exact q3.mono (l7.t _)) (by rw [a4]; exact hb7.sl)
            cbv
            exact hfin
          · intro n6 h6 g6 e6
            have l6 : Le h' h6 := by rw [e6]; exact Le.set g6
            have f6 := (congrFun e6 n6).trans hset_self
            have v6 : Sl 209 shHld h6 (.slice (some ⟨n6, 0, none⟩) 1 1) [hd] := by rw [hhd]; exact one_sl (s := shHld) f6 rfl
            cbv
            refine without165 (q4.mono (l6.t _)) (by omega) s (fun h5 e4 m4 f4 l5 hb5 => ?_)
            have hm4 : m4 ≤ n4 := by
              rw [hb5.sl.len, q4.len]; exact List.length_filter_le _ _
            cbv
            refine hb5.append (v6.mono (l5.t _)) (by decide) rfl (by decide) (by omega) l5 (fun m7 b7 c7 h7 em7 l7 t7 k7 hb7 => ?_)
            have l67 := l6.trans l7
            have hfin := hk h7 b3 n3 c3 b7 m7 c7 false l67 a1.symm (by rw [a3]; exact q3.mono (l67.t _)) (by rw [a4]; exact hb7.sl)
            cbv
            exact hfin
        | true =>
          have hany : H.any (agst hd) = false := by
            cases h : H.any (agst hd) with
            | false => rfl
            | true => rw [h] at hfr2; cases hfr2
          have a2 := a2 hany
          rw [hany] at a1
          have a1 : askFree H hd = true := a1
          have a4 : askW H W hd = wout W s := by unfold askW; rw [a1, hhd]; rfl
          cbv
          intro n6 h6 g6 e6
          have l6 : Le h' h6 := by rw [e6]; exact Le.set g6
          have hnil : Buf 209 shHld h' h6 (.slice (some ⟨n6, 0, none⟩) 0 0) ([] : List Hld) := Buf.nil
          cbv
          refine hnil.append (q3.mono (l6.t _)) (by decide) rfl (by decide) (by omega) l6 (fun m7 b7 c7 h7 em7 l7 t7 k7 hb7 => ?_)
          rw [List.nil_append] at hb7
          cbv
          rw [gm1]
          cbv
          intro n8 h8 g8 e8
          have l8 : Le h7 h8 := by rw [e8]; exact Le.set g8
          have f8 := (congrFun e8 n8).trans hset_self
          have v8 : Sl 209 shHld h8 (.slice (some ⟨n8, 0, none⟩) 1 1) [hd] := by rw [hhd]; exact one_sl (s := shHld) f8 rfl
          cbv
          refine (hb7.mono (l8.t _)).append v8 (by decide) rfl (by decide) (by omega) (l7.trans l8) (fun m9 b9 c9 h9 em9 l9 t9 k9 hb9 => ?_)
          cbv
          refine without165 (q4.mono (l9.t _)) (by omega) s (fun h10 e4 m4 f4 l10 hb10 => ?_)
          have hfin := hk h10 b9 m9 c9 e4 m4 f4 true (l9.trans l10) a1.symm (by rw [a2]; exact hb9.sl.mono (l10.t _)) (by rw [a4]; exact hb10.sl)
          cbv
          exact hfin
      · have hjn : j < n3 := by omega
        have hu1 := mine_some hu hy hmp
        obtain ⟨a1, a2⟩ := ask_some (W := W) hu1 hy hmp
        obtain ⟨ys, yt, yx⟩ := y
        have hgj : A .icm .geq own 0 = true := by
          have := hzj.eq
          rw [icm_geq A]; exact decide_eq_true (by omega)
        have hckj : b3.isSome = true ∧ 0 ≤ own ∧ own < (n3 : Int) := ⟨q3.isSm (by omega), hzj.ix hjn⟩
        have hje := hzj.eq
        have hdx : hd.x = x := by rw [hhd]
        rw [hdx] at a1 a2
        clear hu1
        cbv
        rw [hgj]
        cbv
        refine ⟨hckj, ?_⟩
        cbv
        refine q3.loadF hy hje (o := 2) (m := 1) (by decide) (fun cs hcs => ?_)
        have hcs : cs = [.int .i64 ys, .string yt, .bool yx] := hcs
        subst hcs
        cbv
        cases yx with
        | true =>
          have hhas : (true || !x) = true := rfl
          have a4 : askW H W hd = wout W s := by unfold askW; rw [(a1 hhas).1, hhd]; rfl
          cbv
          refine without165 q4 (by omega) s (fun h5 e4 m4 f4 l5 hb5 => ?_)
          have hfin := hk h5 b3 n3 c3 e4 m4 f4 true l5 (a1 hhas).1.symm (by rw [(a1 hhas).2]; exact q3.mono (l5.t _)) (by rw [a4]; exact hb5.sl)
          cbv
          exact hfin
        | false =>
          cbv
          rw [hnota]
          cases x with
          | false =>
            have hhas : (false || !false) = true := rfl
            have a4 : askW H W hd = wout W s := by unfold askW; rw [(a1 hhas).1, hhd]; rfl
            cbv
            refine without165 q4 (by omega) s (fun h5 e4 m4 f4 l5 hb5 => ?_)
            have hfin := hk h5 b3 n3 c3 e4 m4 f4 true l5 (a1 hhas).1.symm (by rw [(a1 hhas).2]; exact q3.mono (l5.t _)) (by rw [a4]; exact hb5.sl)
            cbv
            exact hfin
          | true =>
            obtain ⟨a1, a2, a3⟩ := a2 rfl
            cbv
            rw [hnota]
            cases fr with
            | false =>
              have hany : H.any (agst hd) = true := by
                cases h : H.any (agst hd) with
                | true => rfl
                | false => rw [h] at hfr2; cases hfr2
              have a3 := a3 hany
              rw [hany] at a1
              have a1 : askFree H hd = false := a1
              have a4 : askW H W hd = wout W s ++ [hd] := by unfold askW; rw [a1, hhd]; rfl
              cbv
              refine ⟨?_, ?_⟩
              · refine without165 q4 (by omega) s (fun h5 e4 m4 f4 l5 hb5 => ?_)
                have hm4 : m4 ≤ n4 := by
                  rw [hb5.sl.len, q4.len]; exact List.length_filter_le _ _
                cbv
                intro n6 h6 g6 e6
                have l6 : Le h5 h6 := by rw [e6]; exact Le.set g6
                have f6 := (congrFun e6 n6).trans hset_self
                have v6 : Sl 209 shHld h6 (.slice (some ⟨n6, 0, none⟩) 1 1) [hd] := by rw [hhd]; exact one_sl (s := shHld) f6 rfl
                cbv
                refine (hb5.mono (l6.t _)).append v6 (by decide) rfl (by decide) (by omega) (l5.trans l6) (fun m7 b7 c7 h7 em7 l7 t7 k7 hb7 => ?_)
                have hfin := hk h7 b3 n3 c3 b7 m7 c7 false l7 a1.symm (by rw [a3]; exact q3.mono (l7.t _)) (by rw [a4]; exact hb7.sl)
                cbv
                exact hfin
              · intro n6 h6 g6 e6
                have l6 : Le h' h6 := by rw [e6]; exact Le.set g6
                have f6 := (congrFun e6 n6).trans hset_self
                have v6 : Sl 209 shHld h6 (.slice (some ⟨n6, 0, none⟩) 1 1) [hd] := by rw [hhd]; exact one_sl (s := shHld) f6 rfl
                cbv
                refine without165 (q4.mono (l6.t _)) (by omega) s (fun h5 e4 m4 f4 l5 hb5 => ?_)
                have hm4 : m4 ≤ n4 := by
                  rw [hb5.sl.len, q4.len]; exact List.length_filter_le _ _
                cbv
                refine hb5.append (v6.mono (l5.t _)) (by decide) rfl (by decide) (by omega) l5 (fun m7 b7 c7 h7 em7 l7 t7 k7 hb7 => ?_)
                have l67 := l6.trans l7
                have hfin := hk h7 b3 n3 c3 b7 m7 c7 false l67 a1.symm (by rw [a3]; exact q3.mono (l67.t _)) (by rw [a4]; exact hb7.sl)
                cbv
                exact hfin
            | true =>
              have hany : H.any (agst hd) = false := by
                cases h : H.any (agst hd) with
                | false => rfl
                | true => rw [h] at hfr2; cases hfr2
              have a2 := a2 hany
              rw [hany] at a1
              have a1 : askFree H hd = true := a1
              have a4 : askW H W hd = wout W s := by unfold askW; rw [a1, hhd]; rfl
              cbv
              intro n6 h6 g6 e6
              have l6 : Le h' h6 := by rw [e6]; exact Le.set g6
              cbv
              refine append_new (q3.mono (l6.t _)) (by decide) rfl (by decide) (fun h0 => absurd h0 (by omega)) (fun nb cap h7 hnb _ l7 ho => ?_)
              have l67 := l6.trans l7
              have hckn : (some (⟨nb, 0, none⟩ : Addr)).isSome = true ∧ 0 ≤ own ∧ own < (n3 : Int) := ⟨rfl, hckj.2⟩
              cbv
              rw [hgj]
              cbv
              refine ⟨hckn, ?_⟩
              cbv
              refine ho.setF (by decide) hy hje rfl (off := 2) (by decide) (x' := ⟨ys, yt, true⟩) (fun cs hcs => ?_) (fun h8 k8 t8 o8 => ?_)
              · have hcs : cs = [.int .i64 ys, .string yt, .bool false] := hcs
                rw [hcs]; rfl
              have l8 : Le h' h8 := l67.kpNew (bs := [nb]) (by simpa using l6.none hnb) k8
              cbv
              refine without165 (q4.mono (l8.t _)) (by omega) s (fun h10 e4 m4 f4 l10 hb10 => ?_)
              have hfin := hk h10 (some ⟨nb, 0, none⟩) n3 cap e4 m4 f4 true (l8.trans l10) a1.symm (by rw [a2]; exact (o8.sl (by rw [List.length_set]; exact hlen)).mono (l10.t _)) (by rw [a4]; exact hb10.sl)
              cbv
              exact hfin
end Go.S

set_option maxRecDepth 100000
set_option maxHeartbeats 8000000
set_option linter.unusedVariables false
set_option linter.unusedSimpArgs false
namespace Go.S
open Go.Sx Go.Proofs
theorem commit85 {d : DB} {h : Heap} {b1 b2 b3 b4 : Option Addr} {n1 c1 n2 c2 n3 c3 n4 c4 : Nat} (q : RP h b1 n1 c1 b2 n2 c2 b3 n3 c3 b4 n4 c4 d) (hI : SI d) (s : Int) (hs : -2 ^ 63 ≤ s ∧ s < 2 ^ 63) {D : DB × List Chg × Int} (hD : commitD d s = D) {k : Value → Heap → Prop}
    (hk : ∀ h' b1 n1 c1 b2 n2 c2 b3 n3 c3 b4 n4 c4 b5 n5 c5, Le h h' → RP h' b1 n1 c1 b2 n2 c2 b3 n3 c3 b4 n4 c4 D.1 → Sl 77 shChg h' (.slice b5 n5 c5) D.2.1 → k (.tuple #[.agg #[.slice b1 n1 c1, .slice b2 n2 c2, .slice b3 n3 c3, .slice b4 n4 c4], .slice b5 n5 c5, .int .i64 D.2.2]) h') :
    Ct 85 [.agg #[.slice b1 n1 c1, .slice b2 n2 c2, .slice b3 n3 c3, .slice b4 n4 c4], .int .i64 s] h k := by
  obtain ⟨A, hA⟩ := Ar.ex
  have hwl := works_len hI.srt hI.rng
  have lm1 : A .icm .lss (-1) 0 = true := by rw [icm_lss A]; rfl
  refine fn_of_sx A (tabOk T85.plan T85.pub) Tryz.func85 rfl (by kernel_rfl) ?_
  cbv
  refine who39 q s (fun z hidx => ?_)
  rcases work_idx hI hs hidx with ⟨rfl, hb⟩ | ⟨i, w, hz, hw, hws, e1, e2⟩
  · have hDe : D = (d, [], 2) := by rw [← hD]; unfold commitD; rw [hb]; rfl
    subst hDe
    have hfin := hk h b1 n1 c1 b2 n2 c2 b3 n3 c3 b4 n4 c4 none 0 0 (Le.refl _) q Sl.nil
    cbv
    rw [lm1]
    cbv
    exact hfin
  · have hil := (List.getElem?_eq_some_iff.1 hw).1
    have hlog := hI.log w (List.mem_of_getElem? hw)
    have hun := work_uniq hI.srt hw
    have hDe : D = (⟨d.tabs, d.works.take i ++ d.works.drop (i + 1), wout d.holds s, wout d.waits s⟩, w.log, 0) := by
      rw [← hD]
      unfold commitD endK
      rw [e2, e1, hw]
      simp only [if_true]
      rw [List.eraseIdx_eq_take_drop_succ]
    clear hD hidx
    subst hDe
    have hlt : A .icm .lss z 0 = false := hz.nlt0 (A := A)
    have h30 := hI.holds
    have h31 := hI.waits
    have hn2 := q.works.len
    have hck : b2.isSome = true ∧ 0 ≤ z ∧ z < (n2 : Int) := ⟨q.works.isSm (by omega), hz.ix (by omega)⟩
    have hze := hz.eq
    have hll := hlog.2
    clear hlog
    obtain ⟨ws, wl, wm⟩ := w
    have hll : wl.length ≤ 60 := hll
    cbv
    rw [hlt]
    cbv
    intro n6 h6 g6 e6
    have l6 : Le h h6 := by rw [e6]; exact Le.set g6
    have q6 := q.mono l6
    have hnil : Buf 77 shChg h h6 (.slice (some ⟨n6, 0, none⟩) 0 0) ([] : List Chg) := Buf.nil
    cbv
    refine ⟨hck, ?_⟩
    cbv
    refine q6.works.loadF hw hze (o := 1) (m := 1) (by decide) (fun cs hcs => ?_)
    obtain ⟨u1, v1, w1, u2, v2, w2, rfl, ql, qm⟩ := hcs
    have ql : Sl 77 shChg h6 (.slice u1 v1 w1) wl := ql
    have hv1 := ql.len
    cbv
    refine hnil.append ql (by decide) rfl (by decide) (by omega) l6 (fun m7 b7 c7 h7 em7 l7 t7 k7 hb7 => ?_)
    rw [List.nil_append] at hb7
    cbv
    refine end137 (q.mono l7) (by omega) (by omega) (by omega) hw hws (fun j y hy he => hun j y hy (by rw [he, hws])) (fun h8 b1 n1 c1 b2 n2 c2 b3 n3 c3 b4 n4 c4 l8 q8 => ?_)
    have hfin := hk h8 b1 n1 c1 b2 n2 c2 b3 n3 c3 b4 n4 c4 b7 m7 c7 (l7.trans l8) q8 (hb7.sl.mono (l8.t _))
    cbv
    exact hfin
end Go.S

set_option maxRecDepth 100000
set_option maxHeartbeats 8000000
set_option linter.unusedVariables false
set_option linter.unusedSimpArgs false
namespace Go.S
open Go.Sx Go.Proofs
theorem drop87 {d : DB} {h : Heap} {b1 b2 b3 b4 : Option Addr} {n1 c1 n2 c2 n3 c3 n4 c4 : Nat} (q : RP h b1 n1 c1 b2 n2 c2 b3 n3 c3 b4 n4 c4 d) (hI : SI d) (nm : ByteArray) {D : DB × Int} (hD : dropD d nm = D) {k : Value → Heap → Prop} (hk : RK h D.1 D.2 k) :
    Ct 87 [.agg #[.slice b1 n1 c1, .slice b2 n2 c2, .slice b3 n3 c3, .slice b4 n4 c4], .string nm] h k := by
  obtain ⟨A, hA⟩ := Ar.ex
  have lm1 : A .icm .lss (-1) 0 = true := by rw [icm_lss A]; rfl
  have hn1 := q.tabs.len
  have hn2 := q.works.len
  have hbd := q.tabs.bound
  have htl := hI.tw.le
  have f1 : A .icm .gtr (A .nat n2) 0 = decide ((d.works.length : Int) > 0) := by rw [icm_gtr A, hA.nat, hn2]; rfl
  refine fn_of_sx A (tabOk T87.plan T87.pub) Tryz.func87 rfl (by kernel_rfl) ?_
  cbv
  refine (find25 q).mono (fun v h5 hR => ?_)
  obtain ⟨l5, zf, rfl, hidx⟩ := hR
  have q5 := q.mono l5
  rcases tab_idx hI.tw.srt hidx with ⟨rfl, hb, -⟩ | ⟨i, t, hz, ht, hnn, e1, e2⟩
  · have hDe : D = (d, 2) := by rw [← hD]; unfold dropD; rw [hb]; rfl
    subst hDe
    have hfin := hk h5 b1 n1 c1 b2 n2 c2 b3 n3 c3 b4 n4 c4 l5 q5
    cbv
    rw [lm1]
    cbv
    exact hfin
  · have hil := (List.getElem?_eq_some_iff.1 ht).1
    have hDe : D = if decide ((d.works.length : Int) > 0) = true then (d, 18) else (⟨d.tabs.take i ++ d.tabs.drop (i + 1), d.works, d.holds, d.waits⟩, 0) := by
      rw [← hD]
      unfold dropD
      rw [e2, e1, List.eraseIdx_eq_take_drop_succ]
      rfl
    clear hD hidx
    have hlt : A .icm .lss zf 0 = false := hz.nlt0 (A := A)
    have hz1 := hz.succ (A := A) (by omega)
    have hdz : A .dif zf 0 = i := dif_z0 (A := A) hz
    have hdn := dif_nz (A := A) hz1 (n := n1)
    obtain ⟨hcb1, hcb2⟩ := hbd
    have hzi : 0 ≤ zf ∧ zf ≤ (c1 : Int) := by have := hz.eq; omega
    have hzn : 0 ≤ A .ari .add .i64 zf 1 ∧ A .ari .add .i64 zf 1 ≤ (n1 : Int) := by have := hz1.eq; omega
    have hin : i ≤ n1 := by omega
    have hin1 : i + 1 ≤ n1 := by omega
    cbv
    rw [hlt]
    cbv
    rw [f1]
    generalize decide ((d.works.length : Int) > 0) = u at *
    cases u with
    | true =>
      have hDe : D = (d, 18) := hDe
      subst hDe
      have hfin := hk h5 b1 n1 c1 b2 n2 c2 b3 n3 c3 b4 n4 c4 l5 q5
      cbv
      exact hfin
    | false =>
      have hDe : D = (⟨d.tabs.take i ++ d.tabs.drop (i + 1), d.works, d.holds, d.waits⟩, 0) := hDe
      subst hDe
      cbv
      intro n6 h6 g6 e6
      have l6 : Le h5 h6 := by rw [e6]; exact Le.set g6
      have q6 := q5.mono l6
      have hnil : Buf 100 shTbl h5 h6 (.slice (some ⟨n6, 0, none⟩) 0 0) ([] : List Tbl) := Buf.nil
      cbv
      refine ⟨hzi, ?_⟩
      cbv
      refine hnil.append (q6.tabs.takeM (A := A) (s := shTbl) (z := A .nat c1) hin hdz hdz) (by decide) rfl (by decide) (by rw [hdz]; omega) l6 (fun m7 b7 c7 h7 em7 l7 t7 k7 hb7 => ?_)
      rw [List.nil_append] at hb7
      have q7 := q5.mono l7
      cbv
      refine ⟨hzn, ?_⟩
      cbv
      refine hb7.append (q7.tabs.dropX (A := A) (s := shTbl) hz1 hin1 hdn (c' := c1 - (i + 1)) rfl) (by decide) rfl (by decide) (by rw [hdn]; omega) l7 (fun m8 b8 c8 h8 em8 l8 t8 k8 hb8 => ?_)
      have q8 := q5.mono l8
      have hfin := hk h8 b8 m8 c8 b2 n2 c2 b3 n3 c3 b4 n4 c4 (l5.trans l8) ⟨hb8.sl, q8.works, q8.holds, q8.waits⟩
      cbv
      exact hfin
end Go.S

set_option maxRecDepth 100000
set_option maxHeartbeats 8000000
set_option linter.unusedVariables false
set_option linter.unusedSimpArgs false
namespace Go.S
open Go.Sx Go.Proofs
theorem mark_name (nm : ByteArray) : markBad nm = !nameOk nm := by
  unfold markBad schErr
  simp only
  cases h : nameOk nm with
  | false => rfl
  | true =>
    have e1 : colsErr [⟨nA, 2, false⟩] = 0 := by kernel_rfl
    rw [e1]
    rfl
theorem save83 {d : DB} {h : Heap} {b1 b2 b3 b4 : Option Addr} {n1 c1 n2 c2 n3 c3 n4 c4 : Nat} (q : RP h b1 n1 c1 b2 n2 c2 b3 n3 c3 b4 n4 c4 d) (hI : SI d) (s : Int) (hs : -2 ^ 63 ≤ s ∧ s < 2 ^ 63) (nm : ByteArray) {D : DB × Int} (hD : saveD d s nm = D) {k : Value → Heap → Prop} (hk : RK h D.1 D.2 k) :
    Ct 83 [.agg #[.slice b1 n1 c1, .slice b2 n2 c2, .slice b3 n3 c3, .slice b4 n4 c4], .int .i64 s, .string nm] h k := by
  obtain ⟨A, hA⟩ := Ar.ex
  have hwl := works_len hI.srt hI.rng
  have lm1 : A .icm .lss (-1) 0 = true := by rw [icm_lss A]; rfl
  have hnota : ∀ b : Bool, A .not b = !b := fun b => by rw [hA.not]
  refine fn_of_sx A (tabOk T83.plan T83.pub) Tryz.func83 rfl (by kernel_rfl) ?_
  cbv
  refine who39 q s (fun z hidx => ?_)
  rcases work_idx hI hs hidx with ⟨rfl, hb⟩ | ⟨i, w, hz, hw, hws, e1, e2⟩
  · have hDe : D = (d, 2) := by rw [← hD]; unfold saveD; rw [hb]; rfl
    subst hDe
    have hfin := hk h b1 n1 c1 b2 n2 c2 b3 n3 c3 b4 n4 c4 (Le.refl _) q
    cbv
    rw [lm1]
    cbv
    exact hfin
  · have hil := (List.getElem?_eq_some_iff.1 hw).1
    have hlog := (hI.log w (List.mem_of_getElem? hw)).2
    have hDe : D = if (!nameOk nm) = true then (d, 12) else if decide ((w.marks.length : Int) ≥ 10) = true then (d, 4) else (⟨d.tabs, d.works.set i ⟨w.s, w.log, w.marks ++ [⟨nm, (w.log.length : Int)⟩]⟩, d.holds, d.waits⟩, 0) := by
      rw [← hD]
      unfold saveD
      rw [e2, e1, hw, mark_name]
      rfl
    clear hD hidx
    have hlt : A .icm .lss z 0 = false := hz.nlt0 (A := A)
    have hn2 := q.works.len
    have hck : b2.isSome = true ∧ 0 ≤ z ∧ z < (n2 : Int) := ⟨q.works.isSm (by omega), hz.ix (by omega)⟩
    have hze := hz.eq
    obtain ⟨ws, wl, wm⟩ := w
    have hlog : wl.length ≤ 60 := hlog
    have hDe : D = if (!nameOk nm) = true then (d, 12) else if decide ((wm.length : Int) ≥ 10) = true then (d, 4) else (⟨d.tabs, d.works.set i ⟨ws, wl, wm ++ [⟨nm, (wl.length : Int)⟩]⟩, d.holds, d.waits⟩, 0) := hDe
    obtain ⟨zL, hzL0⟩ : ∃ z : Int, z = (wl.length : Int) := ⟨_, rfl⟩
    obtain ⟨u, hu⟩ : ∃ u, u = decide ((wm.length : Int) ≥ 10) := ⟨_, rfl⟩
    rw [← hzL0, ← hu] at hDe
    have hzLv : ∀ v, v = wl.length → A .nat v = zL := fun v hv => by rw [hA.nat, hv, hzL0]; rfl
    have hm10v : ∀ v, v = wm.length → A .icm .geq (A .nat v) 10 = u := fun v hv => by rw [icm_geq A, hA.nat, hv, hu]; rfl
    have hm10 : u = false → wm.length < 10 := fun h => by rw [h] at hu; have := of_decide_eq_false hu.symm; omega
    clear hzL0 hu
    cbv
    rw [hlt]
    cbv
    refine (name134 (s := nm)).mono (fun v h5 hR => ?_)
    obtain ⟨l5, t, hv, ht⟩ := hR
    rw [hv]
    cbv
    rw [hnota]
    rw [← ht] at hDe
    cases t with
    | false =>
      have hDe : D = (d, 12) := hDe
      subst hDe
      have hfin := hk h5 b1 n1 c1 b2 n2 c2 b3 n3 c3 b4 n4 c4 l5 (q.mono l5)
      cbv
      exact hfin
    | true =>
      have hDe : D = if u = true then (d, 4) else (⟨d.tabs, d.works.set i ⟨ws, wl, wm ++ [⟨nm, zL⟩]⟩, d.holds, d.waits⟩, 0) := hDe
      have hk' : RK h5 D.1 D.2 k := fun h' b1 n1 c1 b2 n2 c2 b3 n3 c3 b4 n4 c4 l q' => hk h' b1 n1 c1 b2 n2 c2 b3 n3 c3 b4 n4 c4 (l5.trans l) q'
      clear hk
      have hk := hk'
      clear hk'
      have q0 := q
      clear q
      have q := q0.mono l5
      clear q0 l5 ht hv
      cbv
      refine ⟨hck, ?_⟩
      cbv
      refine q.works.load hw hze (fun cs hcs => ?_)
      obtain ⟨u1, v1, w1, u2, v2, w2, rfl, ql, qm⟩ := hcs
      have ql : Sl 77 shChg h5 (.slice u1 v1 w1) wl := ql
      have qm : Sl 146 shMrk h5 (.slice u2 v2 w2) wm := qm
      have hv1 := ql.len
      have hv2 := qm.len
      have f10 := hm10v v2 hv2
      have hzL := hzLv v1 hv1
      cbv
      rw [f10]
      cases u with
      | true =>
        have hDe : D = (d, 4) := hDe
        subst hDe
        have hfin := hk h5 b1 n1 c1 b2 n2 c2 b3 n3 c3 b4 n4 c4 (Le.refl _) q
        cbv
        exact hfin
      | false =>
        have hDe : D = (⟨d.tabs, d.works.set i ⟨ws, wl, wm ++ [⟨nm, zL⟩]⟩, d.holds, d.waits⟩, 0) := hDe
        have hm10 := hm10 rfl
        subst hDe
        cbv
        rw [hzL]
        refine ⟨?_, ?_⟩
        · intro n7 h7 g7 e7
          have l7 : Le h5 h7 := by rw [e7]; exact Le.set g7
          cbv
          refine ⟨?_, ?_⟩
          · cbv
            refine append_new (qm.mono (l7.t _)) (by decide) rfl (by decide) (fun h0 => ?_) (fun n9 c9 h9 hn9 _ l9 ho9 => ?_)
            · have hwm0 : wm = [] := List.eq_nil_of_length_eq_zero (by omega)
              cbv
              intro n8 h8 g8 e8
              have l8 : Le h7 h8 := by rw [e8]; exact Le.set g8
              have f8 := (congrFun e8 n8).trans hset_self
              have vX : Sl 146 shMrk h8 (.slice (some ⟨n8, 0, none⟩) 1 1) [⟨nm, zL⟩] := one_sl (s := shMrk) f8 rfl
              have hb9 : Buf 146 shMrk h5 h8 (.slice (some ⟨n7, 0, none⟩) 0 0) wm := by rw [hwm0]; exact Buf.nil
              have lX := l7.trans l8
              cbv
              refine hb9.append vX (by decide) rfl (by decide) (by omega) lX (fun m10 b10 c10 h10 em10 l10 t10 k10 hb10 => ?_)
              cbv
              refine put135 (q.mono l10) (by omega) hz hil (ql.mono (l10.t _)) hb10.sl (fun h11 b1 n1 c1 b2 n2 c2 b3 n3 c3 b4 n4 c4 l11 q11 => ?_)
              have hfin := hk h11 b1 n1 c1 b2 n2 c2 b3 n3 c3 b4 n4 c4 (l10.trans l11) q11
              cbv
              exact hfin
            · have hb90 : Buf 146 shMrk h5 h9 (.slice (some ⟨n9, 0, none⟩) v2 c9) wm := ho9.buf (l7.none hn9) hv2
              cbv
              intro n8 h8 g8 e8
              have l8 : Le h9 h8 := by rw [e8]; exact Le.set g8
              have f8 := (congrFun e8 n8).trans hset_self
              have vX : Sl 146 shMrk h8 (.slice (some ⟨n8, 0, none⟩) 1 1) [⟨nm, zL⟩] := one_sl (s := shMrk) f8 rfl
              have hb9 := hb90.mono (l8.t _)
              have lX := (l7.trans l9).trans l8
              cbv
              refine hb9.append vX (by decide) rfl (by decide) (by omega) lX (fun m10 b10 c10 h10 em10 l10 t10 k10 hb10 => ?_)
              cbv
              refine put135 (q.mono l10) (by omega) hz hil (ql.mono (l10.t _)) hb10.sl (fun h11 b1 n1 c1 b2 n2 c2 b3 n3 c3 b4 n4 c4 l11 q11 => ?_)
              have hfin := hk h11 b1 n1 c1 b2 n2 c2 b3 n3 c3 b4 n4 c4 (l10.trans l11) q11
              cbv
              exact hfin
          · cbv
            intro n8 h8 g8 e8
            have l8 : Le h7 h8 := by rw [e8]; exact Le.set g8
            have f8 := (congrFun e8 n8).trans hset_self
            have v8 : Sl 146 shMrk h8 (.slice (some ⟨n8, 0, none⟩) 1 1) [⟨nm, zL⟩] := one_sl (s := shMrk) f8 rfl
            have l78 := l7.trans l8
            cbv
            refine append_new (qm.mono (l78.t _)) (by decide) rfl (by decide) (fun h0 => ?_) (fun n9 c9 h9 hn9 _ l9 ho9 => ?_)
            · have hwm0 : wm = [] := List.eq_nil_of_length_eq_zero (by omega)
              have hb9 : Buf 146 shMrk h5 h8 (.slice (some ⟨n7, 0, none⟩) 0 0) wm := by rw [hwm0]; exact Buf.nil
              have vX := v8
              have lX := l78
              cbv
              refine hb9.append vX (by decide) rfl (by decide) (by omega) lX (fun m10 b10 c10 h10 em10 l10 t10 k10 hb10 => ?_)
              cbv
              refine put135 (q.mono l10) (by omega) hz hil (ql.mono (l10.t _)) hb10.sl (fun h11 b1 n1 c1 b2 n2 c2 b3 n3 c3 b4 n4 c4 l11 q11 => ?_)
              have hfin := hk h11 b1 n1 c1 b2 n2 c2 b3 n3 c3 b4 n4 c4 (l10.trans l11) q11
              cbv
              exact hfin
            · have hb9 : Buf 146 shMrk h5 h9 (.slice (some ⟨n9, 0, none⟩) v2 c9) wm := ho9.buf (l78.none hn9) hv2
              have vX := v8.mono (l9.t _)
              have lX := l78.trans l9
              cbv
              refine hb9.append vX (by decide) rfl (by decide) (by omega) lX (fun m10 b10 c10 h10 em10 l10 t10 k10 hb10 => ?_)
              cbv
              refine put135 (q.mono l10) (by omega) hz hil (ql.mono (l10.t _)) hb10.sl (fun h11 b1 n1 c1 b2 n2 c2 b3 n3 c3 b4 n4 c4 l11 q11 => ?_)
              have hfin := hk h11 b1 n1 c1 b2 n2 c2 b3 n3 c3 b4 n4 c4 (l10.trans l11) q11
              cbv
              exact hfin
        · intro n8 h8 g8 e8
          have l8 : Le h5 h8 := by rw [e8]; exact Le.set g8
          have f8 := (congrFun e8 n8).trans hset_self
          cbv
          intro n7 h7 g7 e7
          have l7 : Le h8 h7 := by rw [e7]; exact Le.set g7
          have v8 : Sl 146 shMrk h7 (.slice (some ⟨n8, 0, none⟩) 1 1) [⟨nm, zL⟩] := (one_sl (s := shMrk) (x := ⟨nm, zL⟩) f8 rfl).mono (l7.t _)
          have l78 := l8.trans l7
          cbv
          refine append_new (qm.mono (l78.t _)) (by decide) rfl (by decide) (fun h0 => ?_) (fun n9 c9 h9 hn9 _ l9 ho9 => ?_)
          · have hwm0 : wm = [] := List.eq_nil_of_length_eq_zero (by omega)
            have hb9 : Buf 146 shMrk h5 h7 (.slice (some ⟨n7, 0, none⟩) 0 0) wm := by rw [hwm0]; exact Buf.nil
            have vX := v8
            have lX := l78
            cbv
            refine hb9.append vX (by decide) rfl (by decide) (by omega) lX (fun m10 b10 c10 h10 em10 l10 t10 k10 hb10 => ?_)
            cbv
            refine put135 (q.mono l10) (by omega) hz hil (ql.mono (l10.t _)) hb10.sl (fun h11 b1 n1 c1 b2 n2 c2 b3 n3 c3 b4 n4 c4 l11 q11 => ?_)
            have hfin := hk h11 b1 n1 c1 b2 n2 c2 b3 n3 c3 b4 n4 c4 (l10.trans l11) q11
            cbv
            exact hfin
          · have hb9 : Buf 146 shMrk h5 h9 (.slice (some ⟨n9, 0, none⟩) v2 c9) wm := ho9.buf (l78.none hn9) hv2
            have vX := v8.mono (l9.t _)
            have lX := l78.trans l9
            cbv
            refine hb9.append vX (by decide) rfl (by decide) (by omega) lX (fun m10 b10 c10 h10 em10 l10 t10 k10 hb10 => ?_)
            cbv
            refine put135 (q.mono l10) (by omega) hz hil (ql.mono (l10.t _)) hb10.sl (fun h11 b1 n1 c1 b2 n2 c2 b3 n3 c3 b4 n4 c4 l11 q11 => ?_)
            have hfin := hk h11 b1 n1 c1 b2 n2 c2 b3 n3 c3 b4 n4 c4 (l10.trans l11) q11
            cbv
            exact hfin
end Go.S

set_option maxRecDepth 100000
set_option maxHeartbeats 8000000
set_option linter.unusedVariables false
set_option linter.unusedSimpArgs false
namespace Go.S
open Go.Sx Go.Proofs
theorem wrap_small {x : Int} (h : -2 ^ 62 ≤ x ∧ x < 2 ^ 62) : IntKind.i64.wrap x = x := IntWalk.i64_in _ (by omega)
theorem work_pos {d : DB} (hI : SI d) {s : Int} (hs : 0 ≤ s ∧ s < 8) {i : Nat} (hi : i ≤ d.works.length) (hlo : ∀ (j : Nat) w, j < i → d.works[j]? = some w → w.s < s) (hhi : ∀ w, d.works[i]? = some w → ¬ w.s < s) : bsI (wrkC d.works s) = i := by
  have hl : (wrkC d.works s).length = d.works.length := by simp [wrkC]
  have get : ∀ j, j < d.works.length → ∃ w, d.works[j]? = some w ∧ (wrkC d.works s).getD j 0 = w.s - s := fun j hj => by
    obtain ⟨w, hw⟩ := get_ex hj
    have hr := hI.rng w (List.mem_of_getElem? hw)
    exact ⟨w, hw, by rw [wrkC_get hw, wrap_small (by omega)]⟩
  unfold bsI
  refine bsAt_eq _ i (fun j hj => ?_) 0 _ (fun j h1 h2 => ?_) (Nat.zero_le _) (by omega)
  · obtain ⟨w, hw, e⟩ := get j (by omega)
    rw [e]
    have := hlo j w hj hw
    omega
  · obtain ⟨w, hw, e⟩ := get j (by omega)
    rw [e]
    rcases Nat.eq_or_lt_of_le h1 with h3 | h3
    · subst h3
      have := hhi w hw
      omega
    · obtain ⟨w0, hw0⟩ := get_ex (xs := d.works) (i := i) (by omega)
      have h4 := hhi w0 hw0
      have h5 := List.pairwise_iff_getElem.1 hI.srt i j (List.getElem?_eq_some_iff.1 hw0).1 (List.getElem?_eq_some_iff.1 hw).1 h3
      rw [(List.getElem?_eq_some_iff.1 hw0).2, (List.getElem?_eq_some_iff.1 hw).2] at h5
      omega
theorem begin36 {d : DB} {h : Heap} {b1 b2 b3 b4 : Option Addr} {n1 c1 n2 c2 n3 c3 n4 c4 : Nat} (q : RP h b1 n1 c1 b2 n2 c2 b3 n3 c3 b4 n4 c4 d) (hI : SI d) (s : Int) (hs : -2 ^ 63 ≤ s ∧ s < 2 ^ 63) {D : DB × Int} (hD : beginD d s = D) {k : Value → Heap → Prop} (hk : RK h D.1 D.2 k) :
    Ct 36 [.agg #[.slice b1 n1 c1, .slice b2 n2 c2, .slice b3 n3 c3, .slice b4 n4 c4], .int .i64 s] h k := by
  obtain ⟨A, hA⟩ := Ar.ex
  have hwl := works_len hI.srt hI.rng
  have gm1 : A .icm .geq (-1) 0 = false := by rw [icm_geq A]; rfl
  have hn2 := q.works.len
  have hbd := q.works.bound
  have f1 : A .icm .lss s 0 = decide (s < 0) := icm_lss A ..
  have f2 : A .icm .geq s 8 = decide (s ≥ 8) := icm_geq A ..
  have key : ¬ s < 0 → ¬ s ≥ 8 → D = if bsB (wrkC d.works s) = true then (d, 7) else (⟨d.tabs, d.works.take (bsI (wrkC d.works s)) ++ [⟨s, [], []⟩] ++ d.works.drop (bsI (wrkC d.works s)), d.holds, d.waits⟩, 0) := fun h1 h2 => by
    rw [← hD]
    unfold beginD beginR
    rw [decide_eq_false h1, decide_eq_false h2]
    rfl
  have bad : (s < 0 ∨ s ≥ 8) → D = (d, 1) := fun h => by
    rw [← hD]
    unfold beginD beginR
    rw [if_pos (by simpa using h)]
  clear hD
  refine fn_of_sx A (tabOk T36.plan T36.pub) Tryz.func36 rfl (by kernel_rfl) ?_
  cbv
  rw [f1]
  by_cases h0 : s < 0
  · have hDe := bad (.inl h0)
    subst hDe
    have hfin := hk h b1 n1 c1 b2 n2 c2 b3 n3 c3 b4 n4 c4 (Le.refl _) q
    rw [decide_eq_true h0]
    cbv
    exact hfin
  · rw [decide_eq_false h0]
    cbv
    rw [f2]
    by_cases h8 : s ≥ 8
    · have hDe := bad (.inr h8)
      subst hDe
      have hfin := hk h b1 n1 c1 b2 n2 c2 b3 n3 c3 b4 n4 c4 (Le.refl _) q
      rw [decide_eq_true h8]
      cbv
      exact hfin
    · have hDe := key h0 h8
      clear key bad
      rw [decide_eq_false h8]
      cbv
      refine who39 q s (fun z hidx => ?_)
      rcases work_idx hI hs hidx with ⟨rfl, hb⟩ | ⟨i, w, hz, hw, hws, e1, e2⟩
      · rw [hb] at hDe
        have hDe : D = (⟨d.tabs, d.works.take (bsI (wrkC d.works s)) ++ [⟨s, [], []⟩] ++ d.works.drop (bsI (wrkC d.works s)), d.holds, d.waits⟩, 0) := hDe
        have hpos := fun (i : Nat) => work_pos hI (s := s) (by omega) (i := i)
        clear hidx
        obtain ⟨J, hJ0⟩ : ∃ J : Nat → Int → Heap → Prop, ∀ m z h', J m z h' = ∃ i : Nat, IsN z i ∧ m = n2 - i ∧ i ≤ n2 ∧ h' = h ∧ ∀ (j : Nat) w, j < i → d.works[j]? = some w → w.s < s := ⟨_, fun _ _ _ => rfl⟩
        cbv
        rw [gm1]
        cbv
        refine LoopX.go (G := Int) (fun z => [(6, .v (.int .i64 z))]) (fun _ => [(2, [.slice b1 n1 c1, .slice b2 n2 c2, .slice b3 n3 c3, .slice b4 n4 c4]), (4, [.slice none 0 0, .slice none 0 0, .slice none 0 0, .slice none 0 0])]) (fun m z h' => J m z h') n2 0 ⟨?_, ?_, ?_⟩ (by rw [hJ0]; exact ⟨0, ⟨rfl⟩, by omega, by omega, rfl, fun j w hj => absurd hj (by omega)⟩) ?_
        · cbv
        · cbv
        · cbv
        · intro m z h' hJ
          rw [hJ0] at hJ
          cbv
          obtain ⟨i, hz, hm, hi, rfl, hall⟩ := hJ
          have g1 : A .icm .lss z (A .nat n2) = decide (i < n2) := hz.lt2 (IsN.nat n2)
          have hstop : (∀ w, d.works[i]? = some w → ¬ w.s < s) → D = (⟨d.tabs, d.works.take i ++ [⟨s, [], []⟩] ++ d.works.drop i, d.holds, d.waits⟩, 0) := fun hh => by
            have := hpos i (by omega) hall hh
            rw [this] at hDe
            exact hDe
          clear hpos hDe
          have hdz : A .dif z 0 = i := dif_z0 (A := A) hz
          have hdn := dif_nz (A := A) hz (n := n2)
          obtain ⟨hcb1, hcb2⟩ := hbd
          have hzi : 0 ≤ z ∧ z ≤ (c2 : Int) := by have := hz.eq; omega
          have hzn : 0 ≤ z ∧ z ≤ (n2 : Int) := by have := hz.eq; omega
          have hin : i ≤ n2 := hi
          have hi9 : i ≤ 8 := by omega
          rw [g1]
          by_cases hlt : i < n2
          · obtain ⟨⟨ws, wl, wm⟩, hw⟩ := get_ex (xs := d.works) (i := i) (by omega)
            have hck : b2.isSome = true ∧ 0 ≤ z ∧ z < (n2 : Int) := ⟨q.works.isSm (by omega), hz.ix hlt⟩
            have hze := hz.eq
            have hnx := hz.succ (A := A) (by omega)
            have g2 : A .icm .lss ws s = decide (ws < s) := icm_lss A ..
            rw [decide_eq_true hlt]
            cbv
            refine ⟨hck, ?_⟩
            cbv
            refine q.works.loadF hw hze (o := 0) (m := 1) (by decide) (fun cs hcs => ?_)
            obtain ⟨u1, v1, w1, u2, v2, w2, rfl, -, -⟩ := hcs
            cbv
            rw [g2]
            by_cases hws : ws < s
            · have hJ2 : J (n2 - (i + 1)) (A .ari .add .i64 z 1) h' := by
                rw [hJ0]
                refine ⟨i + 1, hnx, rfl, by omega, rfl, fun j w' hj hw' => ?_⟩
                rcases Nat.lt_or_ge j i with h | h
                · exact hall j w' h hw'
                · have : j = i := by omega
                  subst this
                  rw [hw] at hw'; cases hw'; exact hws
              rw [decide_eq_true hws]
              cbv
              refine ⟨n2 - (i + 1), _, by omega, ⟨?_, ?_, ?_⟩, hJ2⟩
              · cbv
              · cbv
              · cbv
            · have hDe := hstop (fun w' hw' => by rw [hw] at hw'; cases hw'; exact hws)
              subst hDe
              rw [decide_eq_false hws]
              cbv
              intro n6 h6 g6 e6
              have l6 : Le h' h6 := by rw [e6]; exact Le.set g6
              have q6 := q.mono l6
              have hnil : Buf 143 shWrkR h' h6 (.slice (some ⟨n6, 0, none⟩) 0 0) ([] : List Wrk) := Buf.nil
              cbv
              refine ⟨hzi, ?_⟩
              cbv
              refine hnil.append (q6.works.takeM (A := A) (s := shWrkR) (z := A .nat c2) hin hdz hdz) (by decide) rfl (by decide) (by rw [hdz]; omega) l6 (fun m7 b7 c7 h7 em7 l7 t7 k7 hb7 => ?_)
              rw [List.nil_append] at hb7
              cbv
              intro n8 h8 g8 e8
              have l8 : Le h7 h8 := by rw [e8]; exact Le.set g8
              have f8 := (congrFun e8 n8).trans hset_self
              have v8 : Sl 143 shWrkR h8 (.slice (some ⟨n8, 0, none⟩) 1 1) [⟨s, [], []⟩] := one_sl (s := shWrkR) f8 ⟨_, _, _, _, _, _, rfl, Sl.nil, Sl.nil⟩
              cbv
              refine (hb7.mono (l8.t _)).append v8 (by decide) rfl (by decide) (by omega) (l7.trans l8) (fun m9 b9 c9 h9 em9 l9 t9 k9 hb9 => ?_)
              have q9 := q.mono l9
              cbv
              refine ⟨hzn, ?_⟩
              cbv
              refine hb9.append (q9.works.dropX (A := A) (s := shWrkR) hz hin hdn (c' := c2 - i) rfl) (by decide) rfl (by decide) (by rw [hdn]; omega) l9 (fun m10 b10 c10 h10 em10 l10 t10 k10 hb10 => ?_)
              have q10 := q.mono l10
              have hfin := hk h10 b1 n1 c1 b10 m10 c10 b3 n3 c3 b4 n4 c4 l10 ⟨q10.tabs, hb10.sl, q10.holds, q10.waits⟩
              cbv
              exact hfin
          · have hDe := hstop (fun w' hw' => by
              have := (List.getElem?_eq_some_iff.1 hw').1
              omega)
            subst hDe
            rw [decide_eq_false hlt]
            cbv
            intro n6 h6 g6 e6
            have l6 : Le h' h6 := by rw [e6]; exact Le.set g6
            have q6 := q.mono l6
            have hnil : Buf 143 shWrkR h' h6 (.slice (some ⟨n6, 0, none⟩) 0 0) ([] : List Wrk) := Buf.nil
            cbv
            refine ⟨hzi, ?_⟩
            cbv
            refine hnil.append (q6.works.takeM (A := A) (s := shWrkR) (z := A .nat c2) hin hdz hdz) (by decide) rfl (by decide) (by rw [hdz]; omega) l6 (fun m7 b7 c7 h7 em7 l7 t7 k7 hb7 => ?_)
            rw [List.nil_append] at hb7
            cbv
            intro n8 h8 g8 e8
            have l8 : Le h7 h8 := by rw [e8]; exact Le.set g8
            have f8 := (congrFun e8 n8).trans hset_self
            have v8 : Sl 143 shWrkR h8 (.slice (some ⟨n8, 0, none⟩) 1 1) [⟨s, [], []⟩] := one_sl (s := shWrkR) f8 ⟨_, _, _, _, _, _, rfl, Sl.nil, Sl.nil⟩
            cbv
            refine (hb7.mono (l8.t _)).append v8 (by decide) rfl (by decide) (by omega) (l7.trans l8) (fun m9 b9 c9 h9 em9 l9 t9 k9 hb9 => ?_)
            have q9 := q.mono l9
            cbv
            refine ⟨hzn, ?_⟩
            cbv
            refine hb9.append (q9.works.dropX (A := A) (s := shWrkR) hz hin hdn (c' := c2 - i) rfl) (by decide) rfl (by decide) (by rw [hdn]; omega) l9 (fun m10 b10 c10 h10 em10 l10 t10 k10 hb10 => ?_)
            have q10 := q.mono l10
            have hfin := hk h10 b1 n1 c1 b10 m10 c10 b3 n3 c3 b4 n4 c4 l10 ⟨q10.tabs, hb10.sl, q10.holds, q10.waits⟩
            cbv
            exact hfin
      · rw [e2] at hDe
        have hDe : D = (d, 7) := hDe
        subst hDe
        have hgz : A .icm .geq z 0 = true := by
          have := hz.eq
          rw [icm_geq A]; exact decide_eq_true (by omega)
        have hfin := hk h b1 n1 c1 b2 n2 c2 b3 n3 c3 b4 n4 c4 (Le.refl _) q
        cbv
        rw [hgz]
        cbv
        exact hfin
end Go.S

set_option maxRecDepth 100000
set_option maxHeartbeats 8000000
set_option linter.unusedVariables false
set_option linter.unusedSimpArgs false
namespace Go.S
open Go.Sx Go.Proofs
/-- Marks as sessions make them. -/
def MkOk (d : DB) : Prop := ∀ w ∈ d.works, w.marks.length ≤ 10 ∧ ∀ m ∈ w.marks, ∃ n : Nat, m.at_ = (n : Int) ∧ n ≤ w.log.length
theorem back84 {d : DB} {h : Heap} {b1 b2 b3 b4 : Option Addr} {n1 c1 n2 c2 n3 c3 n4 c4 : Nat} (q : RP h b1 n1 c1 b2 n2 c2 b3 n3 c3 b4 n4 c4 d) (hI : SI d) (hM : MkOk d) (s : Int) (hs : -2 ^ 63 ≤ s ∧ s < 2 ^ 63) (nm : ByteArray) {D : DB × Int} (hD : backM d s nm = D) {k : Value → Heap → Prop} (hk : RK h D.1 D.2 k) :
    Ct 84 [.agg #[.slice b1 n1 c1, .slice b2 n2 c2, .slice b3 n3 c3, .slice b4 n4 c4], .int .i64 s, .string nm] h k := by
  obtain ⟨A, hA⟩ := Ar.ex
  have hwl := works_len hI.srt hI.rng
  have lm1 : A .icm .lss (-1) 0 = true := by rw [icm_lss A]; rfl
  have hn2 := q.works.len
  refine fn_of_sx A (tabOk T84.plan T84.pub) Tryz.func84 rfl (by kernel_rfl) ?_
  cbv
  refine who39 q s (fun z hidx => ?_)
  rcases work_idx hI hs hidx with ⟨rfl, hb⟩ | ⟨i, w, hz, hw, hws, e1, e2⟩
  · have hDe : D = (d, 2) := by rw [← hD]; unfold backM; rw [hb]; rfl
    subst hDe
    have hfin := hk h b1 n1 c1 b2 n2 c2 b3 n3 c3 b4 n4 c4 (Le.refl _) q
    cbv
    rw [lm1]
    cbv
    exact hfin
  · have hil := (List.getElem?_eq_some_iff.1 hw).1
    have hlog := hI.log w (List.mem_of_getElem? hw)
    have hmk := hM w (List.mem_of_getElem? hw)
    have hDe : (match mkF w.marks nm w.marks.length with
      | some k => ((⟨undoL d.tabs (w.log.drop (undoN (((w.marks[k]?).map (·.at_)).getD 0) w.log.length)), d.works.set i ⟨w.s, w.log.take (undoN (((w.marks[k]?).map (·.at_)).getD 0) w.log.length), w.marks.take (k + 1)⟩, d.holds, d.waits⟩, 0) : DB × Int)
      | none => (d, 2)) = D := by rw [← hD]; unfold backM; rw [e2, e1, hw]; rfl
    clear hD hidx
    have hlt : A .icm .lss z 0 = false := hz.nlt0 (A := A)
    have hck : b2.isSome = true ∧ 0 ≤ z ∧ z < (n2 : Int) := ⟨q.works.isSm (by omega), hz.ix (by omega)⟩
    have hze := hz.eq
    obtain ⟨ws, wl, wm⟩ := w
    have hmk : wm.length ≤ 10 ∧ ∀ m ∈ wm, ∃ n : Nat, m.at_ = (n : Int) ∧ n ≤ wl.length := hmk
    have hlog : (∀ x ∈ wl, ChOk d.tabs x) ∧ wl.length ≤ 60 := hlog
    have hDe : (match mkF wm nm wm.length with
      | some k => ((⟨undoL d.tabs (wl.drop (undoN (((wm[k]?).map (·.at_)).getD 0) wl.length)), d.works.set i ⟨ws, wl.take (undoN (((wm[k]?).map (·.at_)).getD 0) wl.length), wm.take (k + 1)⟩, d.holds, d.waits⟩, 0) : DB × Int)
      | none => (d, 2)) = D := hDe
    cbv
    rw [hlt]
    cbv
    refine ⟨hck, ?_⟩
    cbv
    refine q.works.loadFP hw hze (o := 2) (m := 1) (by decide) (fun cs hcs ag => ?_)
    obtain ⟨u1, v1, w1, y1, y2, y3, rfl, ql, qm⟩ := hcs
    have qm : Sl 146 shMrk h (.slice y1 y2 y3) wm := qm
    have hml := qm.len
    have hmb := qm.bound
    have hzn : IsM (A .ari .sub .i64 (A .nat y2) 1) y2 := (IsN.nat y2).pred (by omega)
    obtain ⟨J, hJ0⟩ : ∃ I : Nat → Int → Heap → Prop, ∀ m g h', I m g h' = ∃ j : Nat, IsM g j ∧ m = j ∧ j ≤ y2 ∧ h' = h ∧ mkF wm nm wm.length = mkF wm nm j := ⟨_, fun _ _ _ => rfl⟩
    cbv
    refine LoopX.go (G := Int) (fun g => [(9, .v (.int .i64 g))]) (fun _ => [(3, [.slice b1 n1 c1, .slice b2 n2 c2, .slice b3 n3 c3, .slice b4 n4 c4]), (6, [.slice none 0 0, .slice none 0 0, .slice none 0 0, .slice none 0 0])]) (fun m g h' => J m g h') y2 (A .ari .sub .i64 (A .nat y2) 1) ⟨?_, ?_, ?_⟩ (by rw [hJ0]; exact ⟨y2, hzn, rfl, Nat.le_refl _, rfl, by rw [hml]⟩) ?_
    · cbv
    · cbv
    · cbv
    · intro m g h' hJ
      rw [hJ0] at hJ
      cbv
      obtain ⟨j, hg, hm, hj, rfl, hF⟩ := hJ
      rw [hg.ge (A := A)]
      cases j with
      | zero =>
        have hF : mkF wm nm wm.length = none := hF
        rw [hF] at hDe
        have hDe : (d, 2) = D := hDe
        subst hDe
        have hgl : A .icm .lss g 0 = true := by
          have := hg.eq
          rw [icm_lss A]; exact decide_eq_true (by omega)
        have hfin := hk h' b1 n1 c1 b2 n2 c2 b3 n3 c3 b4 n4 c4 (Le.refl _) q
        rw [show decide (1 ≤ 0) = false from rfl]
        cbv
        rw [hgl]
        cbv
        exact hfin
      | succ j =>
        have hgN : IsN g j := hg.isn
        obtain ⟨⟨xn, xa⟩, hx⟩ := get_ex (xs := wm) (i := j) (by omega)
        have hckm : y1.isSome = true ∧ 0 ≤ g ∧ g < (y2 : Int) := ⟨qm.isSm (by omega), hgN.ix (by omega)⟩
        have hstep : mkF wm nm (j + 1) = if decide (xn = nm) = true then some j else mkF wm nm j := by
          show (match wm[j]? with | some m => if decide (m.name = nm) = true then some j else mkF wm nm j | none => mkF wm nm j) = _
          rw [hx]
        rw [hstep] at hF
        have eu0 : A .scm .neq xn nm = !decide (xn = nm) := by
          have h1 := scm_eql A (a := xn) (b := nm)
          rw [hA.scm] at h1 ⊢
          rw [← h1]; rfl
        rw [show decide (1 ≤ j + 1) = true from decide_eq_true (by omega)]
        cbv
        refine ⟨hck, ?_⟩
        cbv
        refine ag _ _ (Le.refl _) ?_
        cbv
        refine ⟨hckm, ?_⟩
        cbv
        refine qm.loadF hx hgN.eq (o := 0) (m := 1) (by decide) (fun cs hcs => ?_)
        have hcs : cs = [.string xn, .int .i64 xa] := hcs
        subst hcs
        cbv
        rw [eu0]
        generalize decide (xn = nm) = u at *
        cases u with
        | false =>
          have hF : mkF wm nm wm.length = mkF wm nm j := hF
          have hn := hgN.pred (A := A) (by omega)
          have hJ2 : J j (A .ari .sub .i64 g 1) h' := by rw [hJ0]; exact ⟨j, hn, rfl, by omega, rfl, hF⟩
          cbv
          refine ⟨j, _, by omega, ⟨?_, ?_, ?_⟩, hJ2⟩
          · cbv
          · cbv
          · cbv
        | true =>
          have hF : mkF wm nm wm.length = some j := hF
          rw [hF] at hDe
          have hDe : ((⟨undoL d.tabs (wl.drop (undoN (((wm[j]?).map (·.at_)).getD 0) wl.length)), d.works.set i ⟨ws, wl.take (undoN (((wm[j]?).map (·.at_)).getD 0) wl.length), wm.take (j + 1)⟩, d.holds, d.waits⟩, 0) : DB × Int) = D := hDe
          rw [hx] at hDe
          obtain ⟨n, hn, hnl⟩ := hmk.2 _ (List.mem_of_getElem? hx)
          have hn : xa = (n : Int) := hn
          have hun : undoN xa wl.length = min n wl.length := by unfold undoN; rw [hn]; rfl
          have hDe : ((⟨undoL d.tabs (wl.drop (undoN xa wl.length)), d.works.set i ⟨ws, wl.take (undoN xa wl.length), wm.take (j + 1)⟩, d.holds, d.waits⟩, 0) : DB × Int) = D := hDe
          rw [hun] at hDe
          have hxN : IsN xa n := ⟨hn⟩
          have hgl : A .icm .lss g 0 = false := hgN.nlt0 (A := A)
          have h1N := hgN.succ (A := A) (by omega)
          have hdz := dif_z0 (A := A) h1N
          have hgi : (d.works.set i ⟨ws, wl.take (min n wl.length), wm⟩)[i]? = some ⟨ws, wl.take (min n wl.length), wm⟩ := List.getElem?_set_self (by omega)
          have hjn : j + 1 ≤ wm.length := by omega
          have hm10 := hmk.1
          clear hn
          cbv
          rw [hgl]
          cbv
          refine ⟨hck, ?_⟩
          cbv
          refine ag _ _ (Le.refl _) ?_
          cbv
          refine ⟨hckm, ?_⟩
          cbv
          refine qm.loadF hx hgN.eq (o := 1) (m := 1) (by decide) (fun cs hcs => ?_)
          have hcs : cs = [.string xn, .int .i64 xa] := hcs
          subst hcs
          cbv
          refine undo136 q hI.tw (by omega) hw hlog.1 (by show wl.length ≤ _; omega) hz hxN (fun h5 f1 p1 g1 f2 p2 g2 f3 p3 g3 f4 p4 g4 l5 q5' => ?_)
          have q5 : RP h5 f1 p1 g1 f2 p2 g2 f3 p3 g3 f4 p4 g4 ⟨undoL d.tabs (wl.drop (min n wl.length)), d.works.set i ⟨ws, wl.take (min n wl.length), wm⟩, d.holds, d.waits⟩ := q5'
          clear q5'
          have hp2 : p2 = d.works.length := by rw [q5.works.len]; exact List.length_set
          have hck5 : f2.isSome = true ∧ 0 ≤ z ∧ z < (p2 : Int) := ⟨q5.works.isSm (by omega), hz.ix (by omega)⟩
          cbv
          refine ⟨hck5, ?_⟩
          cbv
          refine q5.works.load hgi hze (fun cs hcs => ?_)
          obtain ⟨u5, v5, w5, t1, t2, t3, rfl, qL5, qM5⟩ := hcs
          have qL5 : Sl 77 shChg h5 (.slice u5 v5 w5) (wl.take (min n wl.length)) := qL5
          have qM5 : Sl 146 shMrk h5 (.slice t1 t2 t3) wm := qM5
          have ht2 := qM5.len
          have htb := qM5.bound
          have hck6 : 0 ≤ A .ari .add .i64 g 1 ∧ A .ari .add .i64 g 1 ≤ (t3 : Int) := by have := h1N.eq; omega
          cbv
          intro n6 h6 g6 e6
          have l6 : Le h5 h6 := by rw [e6]; exact Le.set g6
          have hnil : Buf 146 shMrk h5 h6 (.slice (some ⟨n6, 0, none⟩) 0 0) ([] : List Mrk) := Buf.nil
          have hjt : j + 1 ≤ t2 := by omega
          cbv
          refine ⟨hck6, ?_⟩
          cbv
          refine hnil.append ((qM5.mono (l6.t _)).takeM (A := A) (s := shMrk) (z := A .nat t3) hjt hdz hdz) (by decide) rfl (by decide) (by rw [hdz]; omega) l6 (fun m7 b7 c7 h7 em7 l7 t7 k7 hb7 => ?_)
          rw [List.nil_append] at hb7
          have q7 := q5.mono l7
          cbv
          refine put135 q7 (by show (d.works.set i _).length ≤ _; rw [List.length_set]; omega) hz (by show i < (d.works.set i _).length; rw [List.length_set]; omega) (qL5.mono (l7.t _)) hb7.sl (fun h8 b1 n1 c1 b2 n2 c2 b3 n3 c3 b4 n4 c4 l8 q8' => ?_)
          have q8 : RP h8 b1 n1 c1 b2 n2 c2 b3 n3 c3 b4 n4 c4 ⟨undoL d.tabs (wl.drop (min n wl.length)), (d.works.set i ⟨ws, wl.take (min n wl.length), wm⟩).set i ⟨ws, wl.take (min n wl.length), wm.take (j + 1)⟩, d.holds, d.waits⟩ := q8'
          clear q8'
          rw [List.set_set] at q8
          subst hDe
          have hfin := hk h8 b1 n1 c1 b2 n2 c2 b3 n3 c3 b4 n4 c4 ((l5.trans l7).trans l8) q8
          cbv
          exact hfin
end Go.S

set_option maxRecDepth 100000
set_option maxHeartbeats 8000000
set_option linter.unusedVariables false
set_option linter.unusedSimpArgs false
namespace Go.S
open Go.Sx Go.Proofs
/-- Whom one waits for, wait by wait. -/
def sucW (H : List Hld) (a : Int) (w : Hld) : List Int := if w.s = a then (H.filter (agst w)).map (·.s) else []
theorem succs_app (E F : List (Int × Int)) (a : Int) : succs (E ++ F) a = succs E a ++ succs F a := by simp [succs]
theorem succs_W (H : List Hld) (a : Int) (w : Hld) : succs (edgesW w H) a = sucW H a w := by
  unfold succs edgesW sucW
  rw [List.filter_map, List.map_map]
  by_cases h : w.s = a
  · rw [if_pos h]
    have : (H.filter (agst w)).filter ((fun p : Int × Int => decide (p.1 = a)) ∘ fun h => (w.s, h.s)) = H.filter (agst w) := by
      rw [List.filter_eq_self]
      intro x _
      simpa using h
    rw [this]
    rfl
  · rw [if_neg h]
    have : (H.filter (agst w)).filter ((fun p : Int × Int => decide (p.1 = a)) ∘ fun h => (w.s, h.s)) = [] := by
      rw [List.filter_eq_nil_iff]
      intro x _
      simpa using h
    rw [this]
    rfl
theorem succs_edges (H : List Hld) (a : Int) : ∀ W : List Hld, succs (edges H W) a = W.flatMap (sucW H a)
  | [] => rfl
  | w :: r => by
    have ih := succs_edges H a r
    show succs (edgesW w H ++ edges H r) a = _
    rw [succs_app, ih, succs_W]
    rfl
theorem sucW_take (H : List Hld) {a : Int} {w : Hld} (hw : w.s = a) {k : Nat} {x : Hld} (hx : H[k]? = some x) : sucW (H.take (k + 1)) a w = sucW (H.take k) a w ++ if agst w x = true then [x.s] else [] := by
  unfold sucW
  rw [if_pos hw, if_pos hw, List.take_add_one, hx, List.filter_append, List.map_append]
  congr 1
  by_cases h : agst w x = true
  · simp [h]
  · simp [h]
end Go.S

