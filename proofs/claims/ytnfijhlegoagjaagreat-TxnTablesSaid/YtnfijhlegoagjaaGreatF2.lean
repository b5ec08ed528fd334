import Derived.Test.YtnfijhlegoagjaaGreatF1
import Derived.Test.YtnfijhlegoagjaaGreatEC
import Derived.Laws.BytesArg
set_option linter.unusedVariables false
set_option linter.unusedSimpArgs false
set_option linter.unusedSectionVars false
set_option maxRecDepth 100000
set_option maxHeartbeats 16000000
set_option linter.unusedVariables false
set_option linter.unusedSimpArgs false
namespace Go.S
open Go.Sx Go.Proofs

def shBool : Sh Bool where
  n := 1
  R _ cs v := cs = [.bool v]
  len := by rintro h cs x rfl; rfl
  one := by rintro h cs x rfl; rfl
  tys := []
  mono := fun _ q => q

structure V12 where
  b1 : Option Addr
  n1 : Nat
  c1 : Nat
  b2 : Option Addr
  n2 : Nat
  c2 : Nat
  b3 : Option Addr
  n3 : Nat
  c3 : Nat
  b4 : Option Addr
  n4 : Nat
  c4 : Nat
abbrev V12.cells (v : V12) : List Value := [.slice v.b1 v.n1 v.c1, .slice v.b2 v.n2 v.c2, .slice v.b3 v.n3 v.c3, .slice v.b4 v.n4 v.c4]
abbrev V12.val (v : V12) : Value := .agg #[.slice v.b1 v.n1 v.c1, .slice v.b2 v.n2 v.c2, .slice v.b3 v.n3 v.c3, .slice v.b4 v.n4 v.c4]

theorem u37 : Tryz.prog.underlying 37 = some (.slice 5) := by kernel_rfl
theorem u5 : Tryz.prog.underlying 5 = some (.int .u8) := by kernel_rfl
theorem sem_bytes1 {h : Heap} {nb e : Nat} {x : Int} (g : h nb = some (.cells #[.int .u8 x] e (0, 0))) {k : Value → Heap → Prop} (hk : k (.string (strOfNums [x])) h) :
    SemX (fun _ => Tryz.prog) (fun _ => Go.convert 37 9 (.slice (some ⟨nb, 0, none⟩) 1 1)) h k :=
  ⟨fun w hw => ⟨_, w, h, run_convert_bytes_arg w 37 5 u37 u5 nb 0 1 1 [x] rfl (fun i hi => by
    have := hw _ _ g
    have hi0 : i = 0 := by omega
    subst hi0
    simp [World.cell?, this]) 9 u9, hk, After.refl hw⟩⟩

theorem replicate_own {h : Heap} {nb : Nat} (g : h nb = some (.cells (List.toArray (List.replicate 26 (.bool false))) 31 (0, 0))) : Own 31 shBool h nb 26 (List.replicate 26 false) := by
  refine ⟨⟨_, g, ⟨by simp [shBool], fun i x hx => ?_⟩, by simp [shBool]⟩, by simp, by simp⟩
  have hi : i < 26 := by simpa using (List.getElem?_eq_some_iff.1 hx).1
  have hxf : x = false := by
    rw [List.getElem?_replicate, if_pos hi] at hx
    exact (Option.some.inj hx).symm
  subst hxf
  show _ = _
  simp only [Nat.zero_add, shBool, Nat.mul_one, List.drop_replicate, List.take_replicate]
  rw [show min 1 (26 - i) = 1 by omega]
  rfl

theorem RDB.tabsSl {h : Heap} {d : DB} {b1 b2 b3 b4 : Option Addr} {n1 c1 n2 c2 n3 c3 n4 c4 : Nat} (q : RDB h (.agg #[.slice b1 n1 c1, .slice b2 n2 c2, .slice b3 n3 c3, .slice b4 n4 c4]) d) : Sl 43 shTbl h (.slice b1 n1 c1) d.tabs := by
  obtain ⟨_, _, _, _, _, _, _, _, _, _, _, _, ws, he, qt, _⟩ := q.out
  cases he
  exact qt
theorem RDB.worksLen {h : Heap} {d : DB} {b1 b2 b3 b4 : Option Addr} {n1 c1 n2 c2 n3 c3 n4 c4 : Nat} (q : RDB h (.agg #[.slice b1 n1 c1, .slice b2 n2 c2, .slice b3 n3 c3, .slice b4 n4 c4]) d) : n2 = d.works.length := by
  obtain ⟨_, _, _, _, _, _, _, _, _, _, _, _, ws, he, _, q2, _, _, hm⟩ := q.out
  cases he
  rw [q2.len, ← hm, List.length_map]

theorem RDB.lt {h h' : Heap} {v : Value} {d : DB} (q : RDB h v d) (l : LeT [43, 104, 63, 68, 60, 77, 145, 188] h h') : RDB h' v d := by
  obtain ⟨_, _, _, _, _, _, _, _, _, _, _, _, ws, rfl, q1, q2, q3, q4, q5⟩ := q.out
  exact ⟨_, _, _, _, _, _, _, _, _, _, _, _, ws, rfl, q1.mono (l.sub (by decide)), q2.mono (l.sub (by decide)), q3.mono (l.sub (by decide)), q4.mono (l.sub (by decide)), q5⟩

theorem wrap_u8 {n : Nat} (h : n < 256) : IntKind.u8.wrap (n : Int) = (n : Int) := by
  have hs : IntKind.u8.signed = false := rfl
  simp only [IntKind.wrap, IntKind.bits, hs]
  simp
  omega
theorem tn_str (kk : Nat) : (⟨#[116]⟩ : ByteArray) ++ strOfNums [((97 + kk : Nat) : Int)] = tn kk := by
  apply ByteArray.ext
  simp only [ByteArray.data_append, strOfNums, tn, List.map_cons, List.map_nil, Int.toNat_natCast]
  rfl

theorem rep_mem (n j : Nat) : (List.replicate n false)[j]? = some true ↔ j ∈ ([] : List Nat) := by
  rw [List.getElem?_replicate]
  split <;> simp

structure TabInv (h0 h : Heap) (nb : Nat) (v : V12) (ks : List Nat) (seen : List Bool) : Prop where
  le : Le h0 h
  rdb : RDB h v.val (dk ks)
  own : Own 31 shBool h nb 26 seen
  len : seen.length = 26
  sorted : ks.Pairwise (· < ·)
  lt : ∀ j ∈ ks, j < 26
  mem : ∀ j, j < 26 → (seen[j]? = some true ↔ j ∈ ks)

theorem small_dk {ks : List Nat} (h : ks.length ≤ 8) : Small (dk ks) :=
  ⟨by simp [dk]; omega, by simp [dk], fun t ht => by simp [dk] at ht; obtain ⟨a, -, rfl⟩ := ht; simp, by simp [dk], by simp [dk]⟩

theorem tables3 {h : Heap} {b : Option Addr} {len cap : Nat} {xs : List Int} (q : SlB shInt h (.slice b len cap) xs) : Ct 3 [.slice b len cap] h (fun v h' => Le h h' ∧ v = .bool true) := by
  obtain ⟨A, hA⟩ := Ar.ex
  have hlen := q.len
  have hb50 := q.bound
  have hnot1 : A .not true = false := by rw [hA.not]; rfl
  have hnot0 : A .not false = true := by rw [hA.not]; rfl
  refine fn_of_sx A (tabOk T3.plan (fun s => s == 5)) Tryz.func3 rfl (by kernel_rfl) ?_
  cbv
  refine (known14 h).mono (fun v h1 hR => ?_)
  obtain ⟨l1, rfl⟩ := hR
  cbv
  rw [hnot1]
  cbv
  intro nb h2 hnb e2
  have l2 : Le h1 h2 := by rw [e2]; exact Le.set hnb
  have g2 := (congrFun e2 nb).trans hset_self
  have o2 : Own 31 shBool h2 nb 26 (List.replicate 26 false) := replicate_own g2
  have l12 := l1.trans l2
  have inv0 : TabInv h h2 nb ⟨none, 0, 0, none, 0, 0, none, 0, 0, none, 0, 0⟩ [] (List.replicate 26 false) :=
    ⟨l12, rdb0 h2, o2, by simp, by simp, by simp, fun j hj => rep_mem 26 j⟩
  cbv
  refine LoopX.go (G := Int × Int × V12) (fun g => [(6, .v (.int .i64 g.1)), (4, .v (.int .i64 g.2.1))]) (fun g => [(3, [.slice g.2.2.b1 g.2.2.n1 g.2.2.c1, .slice g.2.2.b2 g.2.2.n2 g.2.2.c2, .slice g.2.2.b3 g.2.2.n3 g.2.2.c3, .slice g.2.2.b4 g.2.2.n4 g.2.2.c4])])
    (fun k g h' => ∃ i ks seen, IsN g.1 i ∧ IsN g.2.1 ks.length ∧ ks.length ≤ 8 ∧ k = 20 - i ∧ i ≤ 20 ∧ i ≤ len ∧ TabInv h h' nb g.2.2 ks seen) 20 (0, 0, ⟨none, 0, 0, none, 0, 0, none, 0, 0, none, 0, 0⟩) ⟨?_, ?_, ?_⟩
    ⟨0, [], _, ⟨rfl⟩, ⟨rfl⟩, by simp, by omega, by omega, by omega, inv0⟩ ?_
  · cbv
  · cbv
  · cbv
  · intro k g h' hI
    cbv
    obtain ⟨i, ks, seen, hz, hw, hk8, hk, hi20, hil, inv⟩ := hI
    obtain ⟨z, w, ⟨b1, n1, c1, b2, n2, c2, b3, n3, c3, b4, n4, c4⟩⟩ := g
    have hz : IsN z i := hz
    have hw : IsN w ks.length := hw
    -- BODY
    have inv : TabInv h h' nb ⟨b1, n1, c1, b2, n2, c2, b3, n3, c3, b4, n4, c4⟩ ks seen := inv
    have f1 : A .icm .lss z (A .nat len) = decide (i < len) := hz.lt2 (IsN.nat len)
    have f2 : A .icm .lss z 20 = decide (i < 20) := hz.lt2 (w := 20) (j := 20) ⟨rfl⟩
    cbv
    rw [f1]
    by_cases hc1 : i < len
    · rw [decide_eq_true hc1]
      cbv
      rw [f2]
      by_cases hc2 : i < 20
      · rw [decide_eq_true hc2]
        cbv
        have hi26 : i < xs.length := by omega
        obtain ⟨x, hx⟩ := get_ex (xs := xs) (i := i) hi26
        have hck : b.isSome = true ∧ 0 ≤ z ∧ z < (len : Int) := ⟨q.isSm (by omega), hz.ix hc1⟩
        refine ⟨hck, ?_⟩
        cbv
        refine (q.mono inv.le).load hx hz.eq (fun cs hcs => ?_)
        have hcs : cs = [.int .i64 x] := hcs
        subst hcs
        cbv
        refine within15 x 26 (by omega) (by omega) h' (fun zk kk hzk hkk hk26 => ?_)
        cbv
        refine shape16 (z := 0) (t := 0) ⟨rfl⟩ (by omega) h' (fun h3 sb sn sc nm o l3 hnm ho qs => ?_)
        have ho : o = false := ho
        subst ho
        cbv
        intro nb4 h4 hnb4 e4
        have l4 : Le h3 h4 := by rw [e4]; exact Le.set hnb4
        have g4 := (congrFun e4 nb4).trans hset_self
        cbv
        refine sem_bytes1 g4 ?_
        have hsz : (strOfNums [A .conv .u8 (A .ari .add .i64 97 zk)]).size = 1 := strOfNums_size _
        have hstr : A .cat ⟨#[116]⟩ (strOfNums [A .conv .u8 (A .ari .add .i64 97 zk)]) = tn kk := by
          have hzz := hzk.eq
          have hadd : A .ari .add .i64 97 zk = ((97 + kk : Nat) : Int) := by
            rw [hA.ari]; simp only [ari]
            rw [IntWalk.i64_in _ (by omega)]; omega
          rw [hadd, hA.conv, hA.cat]
          simp only [wrap_u8 (show 97 + kk < 256 by omega)]
          exact tn_str kk
        generalize strOfNums [A .conv .u8 (A .ari .add .i64 97 zk)] = str at hsz hstr
        cbv
        refine ⟨by rw [hsz]; decide, ?_⟩
        cbv
        rw [hstr]
        have f3 : A .scm .eql (tn kk) ⟨#[116, 111]⟩ = decide (kk = 14) := by
          rw [scm_eql A, decide_eq_decide]
          constructor
          · intro e
            have h : ((List.range 26).all fun k => decide (tn k = ⟨#[116, 111]⟩ → k = 14)) = true := by kernel_rfl
            exact (of_decide_eq_true (List.all_eq_true.1 h kk (by simpa using hk26))) e
          · rintro rfl; rfl
        have l34 := l3.trans l4
        have inv4 : TabInv h h4 nb ⟨b1, n1, c1, b2, n2, c2, b3, n3, c3, b4, n4, c4⟩ ks seen := ⟨inv.le.trans l34, inv.rdb.mono l34, inv.own.mono (l34.t _), inv.len, inv.sorted, inv.lt, inv.mem⟩
        generalize htn : tn kk = tname at f3
        cbv
        rw [f3]
        by_cases h14 : kk = 14
        · rw [decide_eq_true h14]
          cbv
          refine ⟨20 - (i + 1), (_, w, ⟨b1, n1, c1, b2, n2, c2, b3, n3, c3, b4, n4, c4⟩), by omega, ⟨?_, ?_, ?_⟩, i + 1, ks, seen, hz.succ (A := A) (by omega), hw, hk8, rfl, by omega, by omega, inv4⟩
          · cbv
          · cbv
          · cbv
        · rw [decide_eq_false h14]
          have hcr := create_dk inv.sorted inv.lt hk26 h14
          unfold tSch at hcr
          rw [htn] at hcr
          have qs4 : Sl 104 shCol h4 (.slice sb sn sc) shCols := qs.mono (l4.t _)
          have hckk : (0 : Int) ≤ zk ∧ zk < ((26 : Nat) : Int) := hzk.ix hk26
          obtain ⟨sk, hsk⟩ := get_ex (xs := seen) (i := kk) (by rw [inv.len]; exact hk26)
          have hskm : sk = decide (kk ∈ ks) := by
            have := inv.mem kk hk26
            rw [hsk] at this
            cases sk with
            | true => rw [decide_eq_true (this.1 rfl)]
            | false => rw [decide_eq_false (fun hm => by have := this.2 hm; cases this)]
          by_cases hmem : kk ∈ ks
          · have hsk1 : sk = true := by rw [hskm]; exact decide_eq_true hmem
            rw [hsk1] at hsk
            rw [if_pos hmem] at hcr
            cbv
            refine create17K inv4.rdb (nm := tname) (key := 0) (only := false) qs4 (small_dk hk8) hcr (fun h5 d1 m1 e1 d2 m2 e2 d3 m3 e3 d4 m4 e4 l5 hd5 => ?_)
            have own5 := inv4.own.mono (l5.t _)
            have lh5 := inv4.le.trans l5
            cbv
            refine ⟨hckk, ?_⟩
            cbv
            refine (own5.sl (n := 26) inv.len.symm).load hsk hzk.eq (fun cs hcs => ?_)
            have hcs : cs = [.bool true] := hcs
            subst hcs
            have f7 : A .icm .neq 7 7 = false := by rw [icm_neq A]; rfl
            have inv5 : TabInv h h5 nb ⟨d1, m1, e1, d2, m2, e2, d3, m3, e3, d4, m4, e4⟩ ks seen := ⟨lh5, hd5, own5, inv.len, inv.sorted, inv.lt, inv.mem⟩
            cbv
            rw [f7]
            cbv
            refine ⟨20 - (i + 1), (_, w, ⟨d1, m1, e1, d2, m2, e2, d3, m3, e3, d4, m4, e4⟩), by omega, ⟨?_, ?_, ?_⟩, i + 1, ks, seen, hz.succ (A := A) (by omega), hw, hk8, rfl, by omega, by omega, inv5⟩
            · cbv
            · cbv
            · cbv
          · have hsk1 : sk = false := by rw [hskm]; exact decide_eq_false hmem
            rw [hsk1] at hsk
            rw [if_neg hmem] at hcr
            have f8 : A .icm .geq w 8 = decide (ks.length ≥ 8) := by
              rw [icm_geq A, decide_eq_decide]; have := hw.eq; omega
            by_cases h8 : ks.length ≥ 8
            · rw [if_pos h8] at hcr
              rw [decide_eq_true h8] at f8
              cbv
              refine create17K inv4.rdb (nm := tname) (key := 0) (only := false) qs4 (small_dk hk8) hcr (fun h5 d1 m1 e1 d2 m2 e2 d3 m3 e3 d4 m4 e4 l5 hd5 => ?_)
              have own5 := inv4.own.mono (l5.t _)
              have lh5 := inv4.le.trans l5
              cbv
              refine ⟨hckk, ?_⟩
              cbv
              refine (own5.sl (n := 26) inv.len.symm).load hsk hzk.eq (fun cs hcs => ?_)
              have hcs : cs = [.bool false] := hcs
              subst hcs
              have f44 : A .icm .neq 4 4 = false := by rw [icm_neq A]; rfl
              have inv5 : TabInv h h5 nb ⟨d1, m1, e1, d2, m2, e2, d3, m3, e3, d4, m4, e4⟩ ks seen := ⟨lh5, hd5, own5, inv.len, inv.sorted, inv.lt, inv.mem⟩
              cbv
              rw [f8]
              cbv
              rw [f44]
              cbv
              refine ⟨20 - (i + 1), (_, w, ⟨d1, m1, e1, d2, m2, e2, d3, m3, e3, d4, m4, e4⟩), by omega, ⟨?_, ?_, ?_⟩, i + 1, ks, seen, hz.succ (A := A) (by omega), hw, hk8, rfl, by omega, by omega, inv5⟩
              · cbv
              · cbv
              · cbv
            · rw [if_neg h8] at hcr
              rw [decide_eq_false h8] at f8
              cbv
              refine create17K inv4.rdb (nm := tname) (key := 0) (only := false) qs4 (small_dk hk8) hcr (fun h5 d1 m1 e1 d2 m2 e2 d3 m3 e3 d4 m4 e4 l5 hd5 => ?_)
              have own5 := inv4.own.mono (l5.t _)
              have lh5 := inv4.le.trans l5
              cbv
              refine ⟨hckk, ?_⟩
              cbv
              refine (own5.sl (n := 26) inv.len.symm).load hsk hzk.eq (fun cs hcs => ?_)
              have hcs : cs = [.bool false] := hcs
              subst hcs
              have f00 : A .icm .neq 0 0 = false := by rw [icm_neq A]; rfl
              have hw1 := hw.succ (A := A) (by omega)
              cbv
              rw [f8]
              cbv
              rw [f00]
              cbv
              refine ⟨hckk, ?_⟩
              cbv
              refine own5.setAt (by decide) (i := kk) (by rw [inv.len]; exact hk26) hzk.eq rfl (x := true) rfl (fun h6 k6 t6 o6 => ?_)
              have inv6 : TabInv h h6 nb ⟨d1, m1, e1, d2, m2, e2, d3, m3, e3, d4, m4, e4⟩ (insK ks kk) (seen.set kk true) := by
                refine ⟨lh5.kpNew (by simpa using l1.none hnb) k6, hd5.lt (t6 _ (by decide)), o6, by rw [List.length_set]; exact inv.len, insK_sorted inv.sorted hmem, fun j hj => ?_, fun j hj => ?_⟩
                · rcases insK_mem.1 hj with rfl | h
                  · exact hk26
                  · exact inv.lt j h
                · rw [insK_mem, List.getElem?_set]
                  by_cases hjk : kk = j
                  · subst hjk
                    rw [if_pos rfl, if_pos (by rw [inv.len]; exact hk26)]; simp
                  · rw [if_neg hjk, inv.mem j hj]
                    constructor
                    · exact fun h => .inr h
                    · rintro (h | h)
                      · exact absurd h.symm hjk
                      · exact h
              cbv
              refine ⟨20 - (i + 1), (_, _, ⟨d1, m1, e1, d2, m2, e2, d3, m3, e3, d4, m4, e4⟩), by omega, ⟨?_, ?_, ?_⟩, i + 1, insK ks kk, seen.set kk true, hz.succ (A := A) (by omega), by rw [insK_len]; exact hw1, by rw [insK_len]; omega, rfl, by omega, by omega, inv6⟩
              · cbv
              · cbv
              · cbv
      · rw [decide_eq_false hc2]
        have qT : Sl 43 shTbl h' (.slice b1 n1 c1) (dk ks).tabs := inv.rdb.tabsSl
        have hn1 : n1 = ks.length := by have h1 := qT.len; have h2 : (dk ks).tabs.length = ks.length := by simp [dk]
                                        omega
        have rdbd := inv.rdb
        have hle := inv.le
        cbv
        refine LoopX.go (G := Int) (fun z2 => [(11, .v (.int .i64 z2))]) (fun _ => [(3, [.slice b1 n1 c1, .slice b2 n2 c2, .slice b3 n3 c3, .slice b4 n4 c4])])
          (fun k z2 h2 => ∃ j, IsN z2 j ∧ 1 ≤ j ∧ k = 9 - j ∧ j ≤ 9 ∧ h2 = h') 8 1 ⟨?_, ?_, ?_⟩ ⟨1, ⟨rfl⟩, by omega, by omega, by omega, rfl⟩ ?_
        · cbv
        · cbv
        · cbv
        · intro k2 z2 h2 hI2
          cbv
          obtain ⟨j, hz2, hj1, hk2, hj9, rfl⟩ := hI2
          refine bsel_mk (fun hc => ?_) (fun hc => ?_)
          · have hlt := hz2.lt hc
            clear hc
            have hm1 := hz2.sub (A := A) (w := 1) (j := 1) ⟨rfl⟩ (by omega) hj1
            obtain ⟨t1, ht1⟩ := get_ex (xs := (dk ks).tabs) (i := j - 1) (by have := qT.len; omega)
            obtain ⟨t2, ht2⟩ := get_ex (xs := (dk ks).tabs) (i := j) (by have := qT.len; omega)
            have hk1 : t1.S.name = tn (ks.getD (j - 1) 0) ∧ t2.S.name = tn (ks.getD j 0) ∧ ks.getD (j - 1) 0 < ks.getD j 0 ∧ ks.getD j 0 < 26 := by
              have a1 : j - 1 < ks.length := by omega
              have a2 : j < ks.length := by omega
              simp only [dk, List.getElem?_map, List.getElem?_eq_getElem a1, List.getElem?_eq_getElem a2, Option.map_some] at ht1 ht2
              cases ht1
              cases ht2
              rw [List.getD_eq_getElem?_getD, List.getD_eq_getElem?_getD, List.getElem?_eq_getElem a1, List.getElem?_eq_getElem a2]
              exact ⟨rfl, rfl, List.pairwise_iff_getElem.1 inv.sorted (j - 1) j a1 a2 (by omega), inv.lt _ (List.getElem_mem a2)⟩
            have hcmp : A .scm .geq t1.S.name t2.S.name = false := by
              rw [hk1.1, hk1.2.1, hA.scm]; simp only [scm]
              rw [less_tn hk1.2.2.1 hk1.2.2.2]; rfl
            have hck1 : b1.isSome = true ∧ 0 ≤ A .ari .sub .i64 z2 1 ∧ A .ari .sub .i64 z2 1 < (n1 : Int) := ⟨qT.isSm (by omega), hm1.ix (by omega)⟩
            have hck2 : b1.isSome = true ∧ 0 ≤ z2 ∧ z2 < (n1 : Int) := ⟨qT.isSm (by omega), hz2.ix (by omega)⟩
            cbv
            refine ⟨hck1, ?_⟩
            cbv
            refine qT.loadFF ht1 hm1.eq (o1 := 0) (o2 := 0) (m := 1) (by decide) (fun cs hcs => ?_)
            obtain ⟨_, _, _, _, _, _, rfl, -, -⟩ := hcs
            cbv
            refine ⟨hck2, ?_⟩
            cbv
            refine qT.loadFF ht2 hz2.eq (o1 := 0) (o2 := 0) (m := 1) (by decide) (fun cs hcs => ?_)
            obtain ⟨_, _, _, _, _, _, rfl, -, -⟩ := hcs
            cbv
            rw [hcmp]
            cbv
            refine ⟨9 - (j + 1), _, by omega, ⟨?_, ?_, ?_⟩, j + 1, hz2.succ (A := A) (by omega), by omega, rfl, by omega, rfl⟩
            · cbv
            · cbv
            · cbv
          · clear hc
            cbv
            refine begin18K rdbd 3 (small_dk hk8) (begin_dk ks) (fun h3 d1 m1 e1 d2 m2 e2 d3 m3 e3 d4 m4 e4 l3 hd3 => ?_)
            cbv
            refine shape16 (z := 1) (t := 1) ⟨rfl⟩ (by omega) h3 (fun h4 sb sn sc nm o l4 hnm ho qs => ?_)
            have ho : o = false := ho
            subst ho
            have sm3 : Small ⟨(dk ks).tabs, [⟨3, [], []⟩], [], []⟩ := ⟨(small_dk hk8).tabs, by simp, (small_dk hk8).rows, by simp, by simp⟩
            cbv
            refine create17K (hd3.mono l4) (nm := ⟨#[122, 122]⟩) (key := 0) (only := false) qs sm3 (D := createD ⟨(dk ks).tabs, [⟨3, [], []⟩], [], []⟩ zzSch) rfl (fun h5 d1 m1 e1 d2 m2 e2 d3 m3 e3 d4 m4 e4 l5 hd5 => ?_)
            rw [create_zz inv.lt]
            have hfin := (hle.trans l3).trans (l4.trans l5)
            have q1 : A .icm .eql (A .nat n1) w = true := by
              rw [icm_eql A, hA.nat]; have := hw.eq; simp only [Int.ofNat_eq_natCast]; exact decide_eq_true (by omega)
            have q2 : A .icm .geq w 8 = decide (ks.length ≥ 8) := by
              rw [icm_geq A, decide_eq_decide]; have := hw.eq; omega
            have q3 : A .icm .eql 4 18 = false := by rw [icm_eql A]; rfl
            have q4 : A .icm .eql 4 4 = true := by rw [icm_eql A]; rfl
            have q5 : A .icm .eql 18 18 = true := by rw [icm_eql A]; rfl
            by_cases h8 : ks.length ≥ 8
            · rw [if_pos h8]
              rw [decide_eq_true h8] at q2
              cbv
              rw [q1]
              cbv
              rw [q3]
              cbv
              rw [q2]
              cbv
              rw [q4]
              exact ⟨hfin, rfl⟩
            · rw [if_neg h8]
              cbv
              rw [q1]
              cbv
              rw [q5]
              exact ⟨hfin, rfl⟩
    · rw [decide_eq_false hc1]
      have qT : Sl 43 shTbl h' (.slice b1 n1 c1) (dk ks).tabs := inv.rdb.tabsSl
      have hn1 : n1 = ks.length := by have h1 := qT.len; have h2 : (dk ks).tabs.length = ks.length := by simp [dk]
                                      omega
      have rdbd := inv.rdb
      have hle := inv.le
      cbv
      refine LoopX.go (G := Int) (fun z2 => [(11, .v (.int .i64 z2))]) (fun _ => [(3, [.slice b1 n1 c1, .slice b2 n2 c2, .slice b3 n3 c3, .slice b4 n4 c4])])
        (fun k z2 h2 => ∃ j, IsN z2 j ∧ 1 ≤ j ∧ k = 9 - j ∧ j ≤ 9 ∧ h2 = h') 8 1 ⟨?_, ?_, ?_⟩ ⟨1, ⟨rfl⟩, by omega, by omega, by omega, rfl⟩ ?_
      · cbv
      · cbv
      · cbv
      · intro k2 z2 h2 hI2
        cbv
        obtain ⟨j, hz2, hj1, hk2, hj9, rfl⟩ := hI2
        refine bsel_mk (fun hc => ?_) (fun hc => ?_)
        · have hlt := hz2.lt hc
          clear hc
          have hm1 := hz2.sub (A := A) (w := 1) (j := 1) ⟨rfl⟩ (by omega) hj1
          obtain ⟨t1, ht1⟩ := get_ex (xs := (dk ks).tabs) (i := j - 1) (by have := qT.len; omega)
          obtain ⟨t2, ht2⟩ := get_ex (xs := (dk ks).tabs) (i := j) (by have := qT.len; omega)
          have hk1 : t1.S.name = tn (ks.getD (j - 1) 0) ∧ t2.S.name = tn (ks.getD j 0) ∧ ks.getD (j - 1) 0 < ks.getD j 0 ∧ ks.getD j 0 < 26 := by
            have a1 : j - 1 < ks.length := by omega
            have a2 : j < ks.length := by omega
            simp only [dk, List.getElem?_map, List.getElem?_eq_getElem a1, List.getElem?_eq_getElem a2, Option.map_some] at ht1 ht2
            cases ht1
            cases ht2
            rw [List.getD_eq_getElem?_getD, List.getD_eq_getElem?_getD, List.getElem?_eq_getElem a1, List.getElem?_eq_getElem a2]
            exact ⟨rfl, rfl, List.pairwise_iff_getElem.1 inv.sorted (j - 1) j a1 a2 (by omega), inv.lt _ (List.getElem_mem a2)⟩
          have hcmp : A .scm .geq t1.S.name t2.S.name = false := by
            rw [hk1.1, hk1.2.1, hA.scm]; simp only [scm]
            rw [less_tn hk1.2.2.1 hk1.2.2.2]; rfl
          have hck1 : b1.isSome = true ∧ 0 ≤ A .ari .sub .i64 z2 1 ∧ A .ari .sub .i64 z2 1 < (n1 : Int) := ⟨qT.isSm (by omega), hm1.ix (by omega)⟩
          have hck2 : b1.isSome = true ∧ 0 ≤ z2 ∧ z2 < (n1 : Int) := ⟨qT.isSm (by omega), hz2.ix (by omega)⟩
          cbv
          refine ⟨hck1, ?_⟩
          cbv
          refine qT.loadFF ht1 hm1.eq (o1 := 0) (o2 := 0) (m := 1) (by decide) (fun cs hcs => ?_)
          obtain ⟨_, _, _, _, _, _, rfl, -, -⟩ := hcs
          cbv
          refine ⟨hck2, ?_⟩
          cbv
          refine qT.loadFF ht2 hz2.eq (o1 := 0) (o2 := 0) (m := 1) (by decide) (fun cs hcs => ?_)
          obtain ⟨_, _, _, _, _, _, rfl, -, -⟩ := hcs
          cbv
          rw [hcmp]
          cbv
          refine ⟨9 - (j + 1), _, by omega, ⟨?_, ?_, ?_⟩, j + 1, hz2.succ (A := A) (by omega), by omega, rfl, by omega, rfl⟩
          · cbv
          · cbv
          · cbv
        · clear hc
          cbv
          refine begin18K rdbd 3 (small_dk hk8) (begin_dk ks) (fun h3 d1 m1 e1 d2 m2 e2 d3 m3 e3 d4 m4 e4 l3 hd3 => ?_)
          cbv
          refine shape16 (z := 1) (t := 1) ⟨rfl⟩ (by omega) h3 (fun h4 sb sn sc nm o l4 hnm ho qs => ?_)
          have ho : o = false := ho
          subst ho
          have sm3 : Small ⟨(dk ks).tabs, [⟨3, [], []⟩], [], []⟩ := ⟨(small_dk hk8).tabs, by simp, (small_dk hk8).rows, by simp, by simp⟩
          cbv
          refine create17K (hd3.mono l4) (nm := ⟨#[122, 122]⟩) (key := 0) (only := false) qs sm3 (D := createD ⟨(dk ks).tabs, [⟨3, [], []⟩], [], []⟩ zzSch) rfl (fun h5 d1 m1 e1 d2 m2 e2 d3 m3 e3 d4 m4 e4 l5 hd5 => ?_)
          rw [create_zz inv.lt]
          have hfin := (hle.trans l3).trans (l4.trans l5)
          have q1 : A .icm .eql (A .nat n1) w = true := by
            rw [icm_eql A, hA.nat]; have := hw.eq; simp only [Int.ofNat_eq_natCast]; exact decide_eq_true (by omega)
          have q2 : A .icm .geq w 8 = decide (ks.length ≥ 8) := by
            rw [icm_geq A, decide_eq_decide]; have := hw.eq; omega
          have q3 : A .icm .eql 4 18 = false := by rw [icm_eql A]; rfl
          have q4 : A .icm .eql 4 4 = true := by rw [icm_eql A]; rfl
          have q5 : A .icm .eql 18 18 = true := by rw [icm_eql A]; rfl
          by_cases h8 : ks.length ≥ 8
          · rw [if_pos h8]
            rw [decide_eq_true h8] at q2
            cbv
            rw [q1]
            cbv
            rw [q3]
            cbv
            rw [q2]
            cbv
            rw [q4]
            exact ⟨hfin, rfl⟩
          · rw [if_neg h8]
            cbv
            rw [q1]
            cbv
            rw [q5]
            exact ⟨hfin, rfl⟩
end Go.S

