import Derived.WalkKit
import Derived.ProofKit
import Derived.OpenShut
import Derived.ReadAgain
import Derived.ChangeFn
import Derived.Test.YtficmdggjjepmaaGreatRd
import Derived.Test.YtficmdggjjepmaaGreatRows
import Derived.Test.YtficmdggjjepmaaGreatEC
set_option linter.all false
namespace Go.Sx
open Go.ChangeShapes Go.WideShapes Go.ChangeAt Go.RowKit
variable {P : Program}

theorem keptBut_of_heap {W W' : World} (hos : W'.os = W.os) (hout : W'.output = W.output) (hb : ∀ b, b < W.heap.size → W'.heap[b]? = W.heap[b]?) (may : MemPlace → Prop) : W.keptBut W' may := by
  refine ⟨hos, hout, fun i hi => ?_⟩
  rw [hb i hi]
  cases h : W.heap[i]? with
  | none => rfl
  | some o => cases o <;> simp

theorem trod_grow {H : Type} {enc : TypeId × Value → H} {W W' : World} (hb : ∀ b, b < W.heap.size → W'.heap[b]? = W.heap[b]?) : ∀ {ts : List TypeId} {vs : List Value} {ds : List (DataW H)} {ps : List MemPlace},
    DataW.TrodAll enc P W 0 (fun _ => true) true ts vs ds ps → DataW.TrodAll enc P W' 0 (fun _ => true) true ts vs ds ps
  | [], [], [], _, h => h
  | t :: ts, v :: vs, d :: ds, ps, h => by
    obtain ⟨p, q, ⟨n, h1⟩, h2, e⟩ := h
    have hlt := DataW.TrodAll.lt (show DataW.TrodAll enc P W 0 (fun _ => true) true (t :: ts) (v :: vs) (d :: ds) ps from ⟨p, q, ⟨n, h1⟩, h2, e⟩)
    refine ⟨p, q, ⟨n, DataW.trod_carry n t _ _ h1 (fun x hx => ?_)⟩, trod_grow hb h2, e⟩
    have hxl := hlt x (by rw [e]; exact List.mem_append_left _ hx)
    cases x with
    | cell b off =>
      have hxl : b < W.heap.size := hxl
      simp only [World.sameAt, World.cell?, hb b hxl]
    | map b => exact hb b hxl

theorem same_post {H : Type} {enc : TypeId × Value → H} {f : Func} {s : ChangeSpec} {W W' : World} {args : Array Value} {ds gs : List (DataW H)} {before : List MemPlace} (hl : laidOutB P = true) (hm : mapsRowed P = true)
    (hz : ((List.range P.types.size).all fun t => match P.underlying t with | some (.slice e) => decide (0 < P.cellsOf e) | _ => true) = true) (hts : (f.params.toList.all fun t => decide (t < P.types.size)) = true)
    (hrt : f.resultTypes = #[4]) (h4 : P.underlying 4 = some .bool) (hW : DataW.Whole enc P f.params.toList s.vars false W args.toList ds gs before) (hvars : s.vars = []) (hfn : s.fn H (ds ++ gs) = { results := [.lit (.bool true)], args := ds })
    (hos : W'.os = W.os) (hout : W'.output = W.output) (hb : ∀ b, b < W.heap.size → W'.heap[b]? = W.heap[b]?) : s.post enc P f false true false false W args (.bool true) W' := by
  have hW' := hW
  obtain ⟨p, q, hA, hV, rfl, -, -⟩ := hW
  rw [hvars] at hV
  obtain ⟨rfl, rfl⟩ := trodVars_none hV
  have hpl := DataW.TrodAll.lt hA
  refine ⟨ds, [], p ++ [], [], p, [], hW', ?_, ?_, ?_, keptBut_of_heap hos hout hb _, fun h => by cases h⟩
  · rw [hfn, hrt]
    exact trodAll_cons_mk (shut_bool h4 _) trodAll_mk0
  · rw [hfn]
    have hg := trod_grow hb hA
    refine hg.respare (kids_rows hl hm) (slices_full_of P hz) (fun t ht => by simpa using List.all_eq_true.1 hts t ht) (fun x hx => ?_)
    simpa using hpl x hx
  · rw [hvars, hfn]
    rfl
end Go.Sx

set_option maxRecDepth 100000
set_option maxHeartbeats 8000000
namespace Go.S
open Go.Sx Go.Proofs Go.ChangeShapes Go.WideShapes Go.ChangeAt Go.RowKit

/-- The whole memory as a partial heap. -/
def full (w : World) : Heap := fun b => w.heap[b]?
theorem full_agr (w : World) : Agr (full w) w := fun b o h => h

/-- A law's call, in any memory: it answers true, and what was there is there. -/
theorem law_calls {f : FuncId} {args : List Value} {w : World} (c : Ct f args (full w) (fun v h' => Le (full w) h' ∧ v = .bool true)) :
    Calls Tryz.prog f args.toArray w fun e w' => e = .returned (.bool true) ∧ w'.os = w.os ∧ w'.output = w.output ∧ ∀ b, b < w.heap.size → w'.heap[b]? = w.heap[b]? :=
  (c.out w (full_agr w)).mono fun e w' ⟨v, h', he, ⟨hl, hv⟩, ha⟩ => by
    subst hv
    refine ⟨he, ha.os, ha.output, fun b hb => ?_⟩
    have h1 : w.heap[b]? = some w.heap[b] := by simp [hb]
    rw [ha.agr b _ (hl b _ (show full w b = _ from h1)), h1]

theorem addN (b o n : Nat) : (⟨b, o, none⟩ : Addr).add n = ⟨b, o + n, none⟩ := add_none b o n

theorem i64_of_wf {n : Int} (h : (Lit.int .i64 n).wf = true) : -2 ^ 63 ≤ n ∧ n < 2 ^ 63 := by
  have h : IntKind.i64.min ≤ n ∧ n ≤ 9223372036854775807 := by simpa [Lit.wf] using h
  have hm : IntKind.i64.min = -9223372036854775808 := by decide
  rw [hm] at h
  omega
/-- A slice of ints that was handed in. -/
theorem ints_arg {H : Type} {enc : TypeId × Value → H} {W : World} {v : Value} {d : DataW H} {p : List MemPlace} (h : DataW.Trod enc Tryz.prog W 0 (fun _ => true) true 46 v d p)
    (hok : ∃ a l c, v = .slice a l c) (hs : ∀ elems spare, d = .slice elems spare → (elems.length + spare.length) * 8 ≤ 2 ^ 47) : ∃ xs, SlB shInt (full W) v xs ∧ ∀ x ∈ xs, -2 ^ 63 ≤ x ∧ x < 2 ^ 63 := by
  obtain ⟨n, hn⟩ := h
  obtain ⟨a, l, c, rfl⟩ := hok
  rcases open_ints (k := .i64) Tryz.underlying46 Tryz.underlying3 (by kernel_rfl) hn with ⟨h1, h2⟩ | ⟨a', len, cap, zs, h1, h2, h3, h4, h5, h6, h7, h8⟩
  · cases h1
    exact ⟨[], ⟨_, _, rfl, by simp, .inl rfl⟩, by simp⟩
  · cases h1
    have hzl : zs.length = c := h5
    cases h6
    have hsz := hs _ _ rfl
    have hll : l ≤ 2 ^ 50 := by
      simp only [lits, List.length_map, List.length_take, List.length_drop] at hsz
      omega
    refine ⟨zs.take l, ⟨some a', c, ?_, ?_, ?_⟩, fun x hx => i64_of_wf (h8 x (List.mem_of_mem_take hx))⟩
    · rw [List.length_take, Nat.min_eq_left (by omega)]
    · rw [List.length_take]; omega
    · rcases Nat.eq_zero_or_pos l with h0 | h0
      · left; rw [h0]; simp
      · right
        have hc0 := h7 0 (by omega)
        obtain ⟨blk, off, spot⟩ := a'
        have hsp : spot = none := by
          cases spot with
          | none => rfl
          | some x =>
            simp only [World.cell?] at hc0
            split at hc0
            · simp [Addr.add] at hc0
            · cases hc0
        subst hsp
        rw [addN, Nat.add_zero] at hc0
        simp only [World.cell?] at hc0
        split at hc0
        · rename_i cc e fr hb
          refine ⟨blk, off, cc, e, fr, rfl, hb, ?_, fun i x hx => ?_⟩
          · rw [List.length_take]
            have hlast := h7 (l - 1) (by omega)
            rw [addN] at hlast
            simp only [World.cell?, hb] at hlast
            have := (Array.getElem?_eq_some_iff.1 (by simpa using hlast)).1
            simp only [shInt, Array.length_toList]
            omega
          · have hil : i < l := by
              have := (List.getElem?_eq_some_iff.1 hx).1
              rw [List.length_take] at this; omega
            have hci := h7 i (by omega)
            rw [addN] at hci
            simp only [World.cell?, hb] at hci
            have hci : cc[off + i]? = some (.int .i64 (zs.getD i 0)) := by simpa using hci
            have hxz : zs.getD i 0 = x := by
              rw [List.getElem?_take, if_pos hil] at hx
              rw [List.getD_eq_getElem?_getD, hx]; rfl
            rw [hxz] at hci
            show _ = _
            simp only [shInt, Nat.mul_one]
            have hl2 := (Array.getElem?_eq_some_iff.1 hci)
            rw [List.drop_eq_getElem_cons (by simpa using hl2.1)]
            simp [hl2.2]
        · cases hc0
end Go.S

