import Derived.WalkKit
import Derived.ProofKit
import Derived.OpenShut
import Derived.ReadAgain
import Derived.ChangeFn
import Derived.Test.YtkpikackiemhbaaGreatSC
set_option linter.all false
set_option maxRecDepth 1000000
set_option maxHeartbeats 8000000
namespace Go.Sx
open Go.ChangeShapes Go.WideShapes Go.ChangeAt Go.RowKit
variable {P : Program}

theorem keptBut_of_heap {W W' : World} (hos : W'.os = W.os) (hout : W'.output = W.output) (hb : ∀ b, b < W.heap.size → W'.heap[b]? = W.heap[b]?) (may : MemPlace → Prop) : W.keptBut W' may := by
  refine ⟨hos, hout, fun i hi => ?_⟩
  rw [hb i hi]
  cases h : W.heap[i]? with
  | none => rfl
  | some o => cases o <;> simp

theorem trod_grow {H : Type} {enc : TypeId × Value → H} {W W' : World} (hb : ∀ b, b < W.heap.size → W'.heap[b]? = W.heap[b]?) : ∀ {ts : List TypeId} {vs : List Value} {ds : List (DataW H)} {ps : List MemPlace},
    DataW.TrodAll enc P W 0 (fun _ => true) true ts vs ds ps → DataW.TrodAll enc P W' 0 (fun _ => true) true ts vs ds ps
  | [], [], [], _, h => h
  | t :: ts, v :: vs, d :: ds, ps, h => by
    obtain ⟨p, q, ⟨n, h1⟩, h2, e⟩ := h
    have hlt := DataW.TrodAll.lt (show DataW.TrodAll enc P W 0 (fun _ => true) true (t :: ts) (v :: vs) (d :: ds) ps from ⟨p, q, ⟨n, h1⟩, h2, e⟩)
    refine ⟨p, q, ⟨n, DataW.trod_carry n t _ _ h1 (fun x hx => ?_)⟩, trod_grow hb h2, e⟩
    have hxl := hlt x (by rw [e]; exact List.mem_append_left _ hx)
    cases x with
    | cell b off =>
      have hxl : b < W.heap.size := hxl
      simp only [World.sameAt, World.cell?, hb b hxl]
    | map b => exact hb b hxl

theorem same_post {H : Type} {enc : TypeId × Value → H} {f : Func} {s : ChangeSpec} {W W' : World} {args : Array Value} {ds gs : List (DataW H)} {before : List MemPlace} (hl : laidOutB P = true) (hm : mapsRowed P = true)
    (hz : ((List.range P.types.size).all fun t => match P.underlying t with | some (.slice e) => decide (0 < P.cellsOf e) | _ => true) = true) (hts : (f.params.toList.all fun t => decide (t < P.types.size)) = true)
    (hrt : f.resultTypes = #[4]) (h4 : P.underlying 4 = some .bool) (hW : DataW.Whole enc P f.params.toList s.vars false W args.toList ds gs before) (hvars : s.vars = []) (hfn : s.fn H (ds ++ gs) = { results := [.lit (.bool true)], args := ds })
    (hos : W'.os = W.os) (hout : W'.output = W.output) (hb : ∀ b, b < W.heap.size → W'.heap[b]? = W.heap[b]?) : s.post enc P f false true false false W args (.bool true) W' := by
  have hW' := hW
  obtain ⟨p, q, hA, hV, rfl, -, -⟩ := hW
  rw [hvars] at hV
  obtain ⟨rfl, rfl⟩ := trodVars_none hV
  have hpl := DataW.TrodAll.lt hA
  refine ⟨ds, [], p ++ [], [], p, [], hW', ?_, ?_, ?_, keptBut_of_heap hos hout hb _, fun h => by cases h⟩
  · rw [hfn, hrt]
    exact trodAll_cons_mk (shut_bool h4 _) trodAll_mk0
  · rw [hfn]
    have hg := trod_grow hb hA
    refine hg.respare (kids_rows hl hm) (slices_full_of P hz) (fun t ht => by simpa using List.all_eq_true.1 hts t ht) (fun x hx => ?_)
    simpa using hpl x hx
  · rw [hvars, hfn]
    rfl
end Go.Sx
