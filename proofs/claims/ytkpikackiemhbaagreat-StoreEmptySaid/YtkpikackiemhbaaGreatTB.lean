import Derived.Test.YtkpikackiemhbaaGreatTA
set_option linter.all false
set_option maxRecDepth 1000000
set_option maxHeartbeats 8000000
namespace Go.C
open Go.Sx Go.Cx Go.Proofs

theorem pickTy {c : Prop} [Decidable c] {a b : Ti} {q : Prop} (ha : c → a = .none ∨ q) (hb : ¬ c → b = .none ∨ q) : (if c then a else b) = .none ∨ q := by
  by_cases h : c
  · rw [if_pos h]; exact ha h
  · rw [if_neg h]; exact hb h
theorem ty_mem (t : Nat) : ty t = .none ∨ t ∈ tyIds := by
  unfold ty
  repeat' (first
    | exact .inl rfl
    | (refine pickTy (fun e => ?_) (fun e => ?_)))
  all_goals (right; rw [e]; decide)
theorem ty_map : tyIds.map ty = tyIds.map (mkTi Tryz.prog) := by kernel_rfl
theorem fn_all : ((List.range fnN).all fun f => fnBad.contains f || (match Tryz.prog.funcs[f]? with
    | some fn => fn.body.isSome && decide (fn.name ≠ "runtime.NumGoroutine")
    | none => false)) = true := by kernel_rfl
theorem mixed : Tryz.prog.follows .mixedOrders = true := by kernel_rfl
theorem hT (t : Nat) : ty t = mkTi Tryz.prog t ∨ ty t = .none := by
  rcases ty_mem t with h | h
  · exact .inr h
  · exact .inl (List.map_inj_left.1 ty_map t h)
theorem tabOk (pl : Nat → Plan) (pb : Nat → Bool) (rs : List Nat) (kp : List PanicEntry → List SV → Heap → Prop) : TabOk Tryz.prog (S.tab pl pb rs kp) where
  ty := hT
  fn f h := by
    have h : fnOk f = true := h
    unfold fnOk at h
    split at h
    · rename_i hlt
      have h1 := List.all_eq_true.1 fn_all f (by simpa using hlt)
      simp only [Bool.or_eq_true] at h1
      rcases h1 with h1 | h1
      · rw [h1] at h; cases h
      · split at h1
        · rename_i fn hfn
          simp only [Bool.and_eq_true, decide_eq_true_eq] at h1
          exact ⟨fn, hfn, h1.1, h1.2⟩
        · cases h1
    · cases h
  mixed := mixed
theorem us_all : (usL.all fun t => match Tryz.prog.underlying t with
    | some .unsafePointer => true
    | _ => false) = true := by kernel_rfl
theorem hus (t : Nat) (h : List.elem t usL = true) : Tryz.prog.underlying t = some .unsafePointer := by
  have h1 := List.all_eq_true.1 us_all t (List.elem_iff.1 h)
  split at h1
  · assumption
  · cases h1
def zOf (P : Program) (t : Nat) : Option CV := match P.underlying t with
  | some (.map _ et) => (match P.info? et with
    | some ti => (match ti.zero with
      | some zv => some (ofV zv)
      | none => none)
    | none => none)
  | _ => none
theorem zkOf {P : Program} {t : Nat} {z z' : CV} (h : some z' = some z) (h1 : zOf P t = some z') : ZOk P t z := by
  cases h
  unfold zOf at h1
  split at h1
  · rename_i kt et hu
    split at h1
    · rename_i ti hi
      split at h1
      · rename_i zv hz
        cases h1
        exact ⟨kt, et, zv, hu, fun w => by simp [zeroValue, typeInfo, hi, hz], fun ρ => ofV_ok ρ zv⟩
      · cases h1
    · cases h1
  · cases h1
theorem hzs (t : Nat) (z : CV) (h : zsT t = some z) : ZOk Tryz.prog t z := by
  unfold zsT at h
  split at h
  · rename_i e; subst e; exact zkOf h (by kernel_rfl)
  split at h
  · rename_i e; subst e; exact zkOf h (by kernel_rfl)
  cases h
theorem ekB {P : Program} {c g : Nat} {k f : NK} (h : NkOk P c k) (hf : NkOk P g f) : NkOk P g (if g = c then k else f) := by
  split
  · rename_i e; subst e; exact h
  · exact hf
theorem nodeB {P : Program} {g : Nat} {b : Bool} {x y : FB} (hx : FOk P g x) (hy : FOk P g y) : FOk P g (lkB b x y) := by
  cases b with
  | false => exact hy
  | true => exact hx
theorem nodeD {P : Program} {g : Nat} {b : Bool} {x y : FB} (hx : FDOk P g x) (hy : FDOk P g y) : FDOk P g (lkB b x y) := by
  cases b with
  | false => exact hy
  | true => exact hx
theorem leafB {P : Program} {g c : Nat} {x : FB} (h : FOk P c x) : FOk P g (lkB (Nat.beq g c) x .fail) := by
  cases hb : Nat.beq g c with
  | false => exact FOk.fail
  | true => rw [Nat.eq_of_beq_eq_true hb]; exact h
theorem leafD {P : Program} {g c : Nat} {x : FB} (h : FDOk P c x) : FDOk P g (lkB (Nat.beq g c) x .fail) := by
  cases hb : Nat.beq g c with
  | false => exact FDOk.fail
  | true => rw [Nat.eq_of_beq_eq_true hb]; exact h
theorem nk96 : NkOk Tryz.prog 96 (.loadP) := ⟨Tryz.f96, ⟨Tryz.func96, by kernel_rfl, by kernel_rfl, rfl⟩, rfl⟩
theorem nk101 : NkOk Tryz.prog 101 (.storeP) := ⟨Tryz.f101, ⟨Tryz.func101, by kernel_rfl, by kernel_rfl, rfl⟩, rfl⟩
theorem nk132 : NkOk Tryz.prog 132 (.load .u32) := ⟨Tryz.f132, ⟨Tryz.func132, by kernel_rfl, by kernel_rfl, rfl⟩, rfl⟩
theorem nk216 : NkOk Tryz.prog 216 (.store) := ⟨Tryz.f216, ⟨Tryz.func216, by kernel_rfl, by kernel_rfl, rfl⟩, rfl⟩
theorem nk229 : NkOk Tryz.prog 229 (.store) := ⟨Tryz.f229, ⟨Tryz.func229, by kernel_rfl, by kernel_rfl, rfl⟩, rfl⟩
theorem nk263 : NkOk Tryz.prog 263 (.cmp) := ⟨Tryz.f263, ⟨Tryz.func263, by kernel_rfl, by kernel_rfl, rfl⟩, rfl⟩
theorem nk264 : NkOk Tryz.prog 264 (.load .i64) := ⟨Tryz.f264, ⟨Tryz.func264, by kernel_rfl, by kernel_rfl, rfl⟩, rfl⟩
theorem nk267 : NkOk Tryz.prog 267 (.add .i64) := ⟨Tryz.f267, ⟨Tryz.func267, by kernel_rfl, by kernel_rfl, rfl⟩, rfl⟩
theorem nk274 : NkOk Tryz.prog 274 (.mark0) := ⟨Tryz.f274, ⟨Tryz.func274, by kernel_rfl, by kernel_rfl, rfl⟩, ⟨_, rfl⟩⟩
theorem nk275 : NkOk Tryz.prog 275 (.cas .i32) := ⟨Tryz.f275, ⟨Tryz.func275, by kernel_rfl, by kernel_rfl, rfl⟩, rfl⟩
theorem nk276 : NkOk Tryz.prog 276 (.mark0) := ⟨Tryz.f276, ⟨Tryz.func276, by kernel_rfl, by kernel_rfl, rfl⟩, ⟨_, rfl⟩⟩
theorem nk277 : NkOk Tryz.prog 277 (.mark1) := ⟨Tryz.f277, ⟨Tryz.func277, by kernel_rfl, by kernel_rfl, rfl⟩, ⟨_, rfl⟩⟩
theorem nk279 : NkOk Tryz.prog 279 (.mark1) := ⟨Tryz.f279, ⟨Tryz.func279, by kernel_rfl, by kernel_rfl, rfl⟩, ⟨_, rfl⟩⟩
theorem nk280 : NkOk Tryz.prog 280 (.add .i32) := ⟨Tryz.f280, ⟨Tryz.func280, by kernel_rfl, by kernel_rfl, rfl⟩, rfl⟩
theorem nkOk (g : Nat) : NkOk Tryz.prog g (ekT g) := by
  unfold ekT
  exact (ekB nk96 (ekB nk101 (ekB nk132 (ekB nk216 (ekB nk229 (ekB nk263 (ekB nk264 (ekB nk267 (ekB nk274 (ekB nk275 (ekB nk276 (ekB nk277 (ekB nk279 (ekB nk280 trivial))))))))))))))
theorem sOk (A : Ar) (hA : ArOk A) : SOk A Tryz.prog S := ⟨fun _ _ _ _ _ => othS_ok hT rfl, fun _ _ _ _ _ => ohS_ok hT hus hzs, extE_ok nkOk⟩
theorem oc3 : ∀ kp, okCode (S.tab pl3 pb3 [] kp) (bodyOf Tryz.f3) = true := fun kp => by kernel_rfl
theorem ok3 : FOk Tryz.prog 3 fb3 := fnB_ok sOk (tabOk pl3 pb3) Tryz.func3 rfl oc3
theorem og3 : FOk Tryz.prog 3 fc3 := ok3
theorem oc4 : ∀ kp, okCode (S.tab pl4 pb4 [] kp) (bodyOf Tryz.f4) = true := fun kp => by kernel_rfl
theorem ok4 : FOk Tryz.prog 4 fb4 := fnB_ok sOk (tabOk pl4 pb4) Tryz.func4 rfl oc4
theorem og4 : FOk Tryz.prog 4 fc4 := ok4
theorem oc5 : ∀ kp, okCode (S.tab pl5 pb5 [] kp) (bodyOf Tryz.f5) = true := fun kp => by kernel_rfl
theorem ok5 : FOk Tryz.prog 5 fb5 := fnB_ok sOk (tabOk pl5 pb5) Tryz.func5 rfl oc5
theorem og5 : FOk Tryz.prog 5 fc5 := ok5
theorem oc6 : ∀ kp, okCode (S.tab pl6 pb6 [] kp) (bodyOf Tryz.f6) = true := fun kp => by kernel_rfl
theorem ok6 : FOk Tryz.prog 6 fb6 := fnB_ok sOk (tabOk pl6 pb6) Tryz.func6 rfl oc6
theorem wk6 (a : Int) (m : Nat) (h : Heap) (hm : 0 < m) (hm2 : m ≤ 2 ^ 40) : FnX (fun _ => Tryz.prog) 6 [.int .i64 a, .int .i64 (m : Int)] h (fun v h' => v = .int .i64 (a % (m : Int)) ∧ h' = h) := by
  obtain ⟨A, hA⟩ := Ar.ex
  obtain ⟨z, hz⟩ : ∃ z : Int, z = (m : Int) := ⟨_, rfl⟩
  rw [← hz]
  have hz0 : 0 < z := by omega
  have hz2 : z ≤ 1099511627776 := by omega
  clear hz
  have hz1 : z ≠ 0 := by omega
  have hrem : A .ari .rem .i64 a z = a.tmod z := by rw [hA.ari]; rfl
  have hb1 : a.tmod z < z := Int.tmod_lt_of_pos a hz0
  have hb2 : -z < a.tmod z := Int.lt_tmod_of_pos a hz0
  have hemod := rem_tmod (a := a) hz0
  generalize hR : (fun (v : Value) (h' : Heap) => v = Value.int .i64 (a % z) ∧ h' = h) = R
  have key : R (.int .i64 (a % z)) h := by rw [← hR]; exact ⟨rfl, rfl⟩
  rw [hemod] at key
  clear hR hemod
  generalize a.tmod z = t at *
  generalize eu : A .icm .lss t 0 = u
  have fu := eu
  rw [icm_lss' A] at eu
  have hadd : A .ari .add .i64 t z = IntKind.i64.wrap (t + z) := by rw [hA.ari]; rfl
  refine fn_of_sx (T := S.tab pl6 pb6 [] fun _ _ _ => False) A (tabOk _ _ _ _) Tryz.func6 rfl (oc6 _) ?_
  cbv
  refine ⟨hz1, ?_⟩
  cbv
  rw [hrem]
  rw [fu]
  cases u with
  | true =>
    have hneg := of_decide_eq_true eu
    rw [if_pos hneg] at key
    cbv
    have hw : IntKind.i64.wrap (t + z) = t + z := IntWalk.i64_in (t + z) (by omega)
    rw [hadd, hw]
    exact key
  | false =>
    have hneg := of_decide_eq_false eu
    rw [if_neg hneg] at key
    cbv
    exact key
theorem og6 : FOk Tryz.prog 6 fc6 := withinB_ok ok6 wk6
theorem oc7 : ∀ kp, okCode (S.tab pl7 pb7 [] kp) (bodyOf Tryz.f7) = true := fun kp => by kernel_rfl
theorem ok7 : FOk Tryz.prog 7 fb7 := fnB_ok sOk (tabOk pl7 pb7) Tryz.func7 rfl oc7
theorem og7 : FOk Tryz.prog 7 fc7 := ok7
theorem oc8 : ∀ kp, okCode (S.tab pl8 pb8 [] kp) (bodyOf Tryz.f8) = true := fun kp => by kernel_rfl
theorem ok8 : FOk Tryz.prog 8 fb8 := fnB_ok sOk (tabOk pl8 pb8) Tryz.func8 rfl oc8
theorem og8 : FOk Tryz.prog 8 fc8 := ok8
theorem oc9 : ∀ kp, okCode (S.tab pl9 pb9 [] kp) (bodyOf Tryz.f9) = true := fun kp => by kernel_rfl
theorem ok9 : FOk Tryz.prog 9 fb9 := fnB_ok sOk (tabOk pl9 pb9) Tryz.func9 rfl oc9
theorem og9 : FOk Tryz.prog 9 fc9 := ok9
theorem oc10 : ∀ kp, okCode (S.tab pl10 pb10 [] kp) (bodyOf Tryz.f10) = true := fun kp => by kernel_rfl
theorem ok10 : FOk Tryz.prog 10 fb10 := fnB_ok sOk (tabOk pl10 pb10) Tryz.func10 rfl oc10
theorem wk10 (a : Int) (m : Nat) (h : Heap) (hm : 0 < m) (hm2 : m ≤ 2 ^ 40) : FnX (fun _ => Tryz.prog) 10 [.int .i64 a, .int .i64 (m : Int)] h (fun v h' => v = .int .i64 (a % (m : Int)) ∧ h' = h) := by
  obtain ⟨A, hA⟩ := Ar.ex
  obtain ⟨z, hz⟩ : ∃ z : Int, z = (m : Int) := ⟨_, rfl⟩
  rw [← hz]
  have hz0 : 0 < z := by omega
  have hz2 : z ≤ 1099511627776 := by omega
  clear hz
  have hz1 : z ≠ 0 := by omega
  have hrem : A .ari .rem .i64 a z = a.tmod z := by rw [hA.ari]; rfl
  have hb1 : a.tmod z < z := Int.tmod_lt_of_pos a hz0
  have hb2 : -z < a.tmod z := Int.lt_tmod_of_pos a hz0
  have hemod := rem_tmod (a := a) hz0
  generalize hR : (fun (v : Value) (h' : Heap) => v = Value.int .i64 (a % z) ∧ h' = h) = R
  have key : R (.int .i64 (a % z)) h := by rw [← hR]; exact ⟨rfl, rfl⟩
  rw [hemod] at key
  clear hR hemod
  generalize a.tmod z = t at *
  generalize eu : A .icm .lss t 0 = u
  have fu := eu
  rw [icm_lss' A] at eu
  have hadd : A .ari .add .i64 t z = IntKind.i64.wrap (t + z) := by rw [hA.ari]; rfl
  refine fn_of_sx (T := S.tab pl10 pb10 [] fun _ _ _ => False) A (tabOk _ _ _ _) Tryz.func10 rfl (oc10 _) ?_
  cbv
  refine ⟨hz1, ?_⟩
  cbv
  rw [hrem]
  rw [fu]
  cases u with
  | true =>
    have hneg := of_decide_eq_true eu
    rw [if_pos hneg] at key
    cbv
    have hw : IntKind.i64.wrap (t + z) = t + z := IntWalk.i64_in (t + z) (by omega)
    rw [hadd, hw]
    exact key
  | false =>
    have hneg := of_decide_eq_false eu
    rw [if_neg hneg] at key
    cbv
    exact key
theorem og10 : FOk Tryz.prog 10 fc10 := withinB_ok ok10 wk10
theorem oc11 : ∀ kp, okCode (S.tab pl11 pb11 [] kp) (bodyOf Tryz.f11) = true := fun kp => by kernel_rfl
theorem ok11 : FOk Tryz.prog 11 fb11 := fnB_ok sOk (tabOk pl11 pb11) Tryz.func11 rfl oc11
theorem og11 : FOk Tryz.prog 11 fc11 := ok11
theorem oc12 : ∀ kp, okCode (S.tab pl12 pb12 [] kp) (bodyOf Tryz.f12) = true := fun kp => by kernel_rfl
theorem ok12 : FOk Tryz.prog 12 fb12 := fnB_ok sOk (tabOk pl12 pb12) Tryz.func12 rfl oc12
theorem og12 : FOk Tryz.prog 12 fc12 := ok12
theorem oc13 : ∀ kp, okCode (S.tab pl13 pb13 [] kp) (bodyOf Tryz.f13) = true := fun kp => by kernel_rfl
theorem ok13 : FOk Tryz.prog 13 fb13 := fnB_ok sOk (tabOk pl13 pb13) Tryz.func13 rfl oc13
theorem og13 : FOk Tryz.prog 13 fc13 := ok13
theorem oc14 : ∀ kp, okCode (S.tab pl14 pb14 [] kp) (bodyOf Tryz.f14) = true := fun kp => by kernel_rfl
theorem ok14 : FOk Tryz.prog 14 fb14 := fnB_ok sOk (tabOk pl14 pb14) Tryz.func14 rfl oc14
theorem og14 : FOk Tryz.prog 14 fc14 := ok14
theorem oc15 : ∀ kp, okCode (S.tab pl15 pb15 [] kp) (bodyOf Tryz.f15) = true := fun kp => by kernel_rfl
theorem ok15 : FOk Tryz.prog 15 fb15 := fnB_ok sOk (tabOk pl15 pb15) Tryz.func15 rfl oc15
theorem og15 : FOk Tryz.prog 15 fc15 := ok15
theorem oc16 : ∀ kp, okCode (S.tab pl16 pb16 [] kp) (bodyOf Tryz.f16) = true := fun kp => by kernel_rfl
theorem ok16 : FOk Tryz.prog 16 fb16 := fnB_ok sOk (tabOk pl16 pb16) Tryz.func16 rfl oc16
theorem og16 : FOk Tryz.prog 16 fc16 := ok16
theorem oc17 : ∀ kp, okCode (S.tab pl17 pb17 [] kp) (bodyOf Tryz.f17) = true := fun kp => by kernel_rfl
theorem ok17 : FOk Tryz.prog 17 fb17 := fnB_ok sOk (tabOk pl17 pb17) Tryz.func17 rfl oc17
theorem og17 : FOk Tryz.prog 17 fc17 := ok17
theorem oc18 : ∀ kp, okCode (S.tab pl18 pb18 [] kp) (bodyOf Tryz.f18) = true := fun kp => by kernel_rfl
theorem ok18 : FOk Tryz.prog 18 fb18 := fnB_ok sOk (tabOk pl18 pb18) Tryz.func18 rfl oc18
theorem og18 : FOk Tryz.prog 18 fc18 := ok18
theorem oc19 : ∀ kp, okCode (S.tab pl19 pb19 [] kp) (bodyOf Tryz.f19) = true := fun kp => by kernel_rfl
theorem ok19 : FOk Tryz.prog 19 fb19 := fnB_ok sOk (tabOk pl19 pb19) Tryz.func19 rfl oc19
theorem og19 : FOk Tryz.prog 19 fc19 := ok19
theorem oc21 : ∀ kp, okCode (S.tab pl21 pb21 [] kp) (bodyOf Tryz.f21) = true := fun kp => by kernel_rfl
theorem ok21 : FOk Tryz.prog 21 fb21 := fnB_ok sOk (tabOk pl21 pb21) Tryz.func21 rfl oc21
theorem og21 : FOk Tryz.prog 21 fc21 := ok21
theorem oc23 : ∀ kp, okCode (S.tab pl23 pb23 [] kp) (bodyOf Tryz.f23) = true := fun kp => by kernel_rfl
theorem ok23 : FOk Tryz.prog 23 fb23 := fnB_ok sOk (tabOk pl23 pb23) Tryz.func23 rfl oc23
theorem og23 : FOk Tryz.prog 23 fc23 := ok23
theorem oc28 : ∀ kp, okCode (S.tab pl28 pb28 [] kp) (bodyOf Tryz.f28) = true := fun kp => by kernel_rfl
theorem ok28 : FOk Tryz.prog 28 fb28 := fnB_ok sOk (tabOk pl28 pb28) Tryz.func28 rfl oc28
theorem og28 : FOk Tryz.prog 28 fc28 := ok28
theorem oc29 : ∀ kp, okCode (S.tab pl29 pb29 [] kp) (bodyOf Tryz.f29) = true := fun kp => by kernel_rfl
theorem ok29 : FOk Tryz.prog 29 fb29 := fnB_ok sOk (tabOk pl29 pb29) Tryz.func29 rfl oc29
theorem og29 : FOk Tryz.prog 29 fc29 := ok29
theorem oc30 : ∀ kp, okCode (S.tab pl30 pb30 [] kp) (bodyOf Tryz.f30) = true := fun kp => by kernel_rfl
theorem ok30 : FOk Tryz.prog 30 fb30 := fnB_ok sOk (tabOk pl30 pb30) Tryz.func30 rfl oc30
theorem og30 : FOk Tryz.prog 30 fc30 := ok30
theorem oc31 : ∀ kp, okCode (S.tab pl31 pb31 [] kp) (bodyOf Tryz.f31) = true := fun kp => by kernel_rfl
theorem ok31 : FOk Tryz.prog 31 fb31 := fnB_ok sOk (tabOk pl31 pb31) Tryz.func31 rfl oc31
theorem og31 : FOk Tryz.prog 31 fc31 := ok31
theorem oc32 : ∀ kp, okCode (S.tab pl32 pb32 [] kp) (bodyOf Tryz.f32) = true := fun kp => by kernel_rfl
theorem ok32 : FOk Tryz.prog 32 fb32 := fnB_ok sOk (tabOk pl32 pb32) Tryz.func32 rfl oc32
theorem og32 : FOk Tryz.prog 32 fc32 := ok32
theorem oc33 : ∀ kp, okCode (S.tab pl33 pb33 [] kp) (bodyOf Tryz.f33) = true := fun kp => by kernel_rfl
theorem ok33 : FOk Tryz.prog 33 fb33 := fnB_ok sOk (tabOk pl33 pb33) Tryz.func33 rfl oc33
theorem og33 : FOk Tryz.prog 33 fc33 := ok33
theorem oc34 : ∀ kp, okCode (S.tab pl34 pb34 [] kp) (bodyOf Tryz.f34) = true := fun kp => by kernel_rfl
theorem ok34 : FOk Tryz.prog 34 fb34 := fnB_ok sOk (tabOk pl34 pb34) Tryz.func34 rfl oc34
theorem og34 : FOk Tryz.prog 34 fc34 := ok34
theorem oc35 : ∀ kp, okCode (S.tab pl35 pb35 [] kp) (bodyOf Tryz.f35) = true := fun kp => by kernel_rfl
theorem ok35 : FOk Tryz.prog 35 fb35 := fnB_ok sOk (tabOk pl35 pb35) Tryz.func35 rfl oc35
theorem og35 : FOk Tryz.prog 35 fc35 := ok35
theorem oc36 : ∀ kp, okCode (S.tab pl36 pb36 [] kp) (bodyOf Tryz.f36) = true := fun kp => by kernel_rfl
theorem ok36 : FOk Tryz.prog 36 fb36 := fnB_ok sOk (tabOk pl36 pb36) Tryz.func36 rfl oc36
theorem og36 : FOk Tryz.prog 36 fc36 := ok36
theorem oc37 : ∀ kp, okCode (S.tab pl37 pb37 [] kp) (bodyOf Tryz.f37) = true := fun kp => by kernel_rfl
theorem ok37 : FOk Tryz.prog 37 fb37 := fnB_ok sOk (tabOk pl37 pb37) Tryz.func37 rfl oc37
theorem og37 : FOk Tryz.prog 37 fc37 := ok37
theorem oc38 : ∀ kp, okCode (S.tab pl38 pb38 [] kp) (bodyOf Tryz.f38) = true := fun kp => by kernel_rfl
theorem ok38 : FOk Tryz.prog 38 fb38 := fnB_ok sOk (tabOk pl38 pb38) Tryz.func38 rfl oc38
theorem og38 : FOk Tryz.prog 38 fc38 := ok38
theorem oc39 : ∀ kp, okCode (S.tab pl39 pb39 [] kp) (bodyOf Tryz.f39) = true := fun kp => by kernel_rfl
theorem ok39 : FOk Tryz.prog 39 fb39 := fnB_ok sOk (tabOk pl39 pb39) Tryz.func39 rfl oc39
theorem og39 : FOk Tryz.prog 39 fc39 := ok39
theorem oc40 : ∀ kp, okCode (S.tab pl40 pb40 [] kp) (bodyOf Tryz.f40) = true := fun kp => by kernel_rfl
theorem ok40 : FOk Tryz.prog 40 fb40 := fnB_ok sOk (tabOk pl40 pb40) Tryz.func40 rfl oc40
theorem og40 : FOk Tryz.prog 40 fc40 := ok40
theorem oc41 : ∀ kp, okCode (S.tab pl41 pb41 [] kp) (bodyOf Tryz.f41) = true := fun kp => by kernel_rfl
theorem ok41 : FOk Tryz.prog 41 fb41 := fnB_ok sOk (tabOk pl41 pb41) Tryz.func41 rfl oc41
theorem og41 : FOk Tryz.prog 41 fc41 := ok41
theorem oc42 : ∀ kp, okCode (S.tab pl42 pb42 [] kp) (bodyOf Tryz.f42) = true := fun kp => by kernel_rfl
theorem ok42 : FOk Tryz.prog 42 fb42 := fnB_ok sOk (tabOk pl42 pb42) Tryz.func42 rfl oc42
theorem og42 : FOk Tryz.prog 42 fc42 := ok42
theorem oc43 : ∀ kp, okCode (S.tab pl43 pb43 [] kp) (bodyOf Tryz.f43) = true := fun kp => by kernel_rfl
theorem ok43 : FOk Tryz.prog 43 fb43 := fnB_ok sOk (tabOk pl43 pb43) Tryz.func43 rfl oc43
theorem og43 : FOk Tryz.prog 43 fc43 := ok43
theorem oc44 : ∀ kp, okCode (S.tab pl44 pb44 [] kp) (bodyOf Tryz.f44) = true := fun kp => by kernel_rfl
theorem ok44 : FOk Tryz.prog 44 fb44 := fnB_ok sOk (tabOk pl44 pb44) Tryz.func44 rfl oc44
theorem og44 : FOk Tryz.prog 44 fc44 := ok44
theorem oc45 : ∀ kp, okCode (S.tab pl45 pb45 [] kp) (bodyOf Tryz.f45) = true := fun kp => by kernel_rfl
theorem ok45 : FOk Tryz.prog 45 fb45 := fnB_ok sOk (tabOk pl45 pb45) Tryz.func45 rfl oc45
theorem og45 : FOk Tryz.prog 45 fc45 := ok45
theorem oc47 : ∀ kp, okCode (S.tab pl47 pb47 [] kp) (bodyOf Tryz.f47) = true := fun kp => by kernel_rfl
theorem ok47 : FOk Tryz.prog 47 fb47 := fnBD_ok sOk (tabOk pl47 pb47) Tryz.func47 rfl oc47
theorem og47 : FOk Tryz.prog 47 fc47 := ok47
theorem oc50 : ∀ kp, okCode (S.tab pl50 pb50 [] kp) (bodyOf Tryz.f50) = true := fun kp => by kernel_rfl
theorem ok50 : FOk Tryz.prog 50 fb50 := fnB_ok sOk (tabOk pl50 pb50) Tryz.func50 rfl oc50
theorem og50 : FOk Tryz.prog 50 fc50 := ok50
theorem oc51 : ∀ kp, okCode (S.tab pl51 pb51 [] kp) (bodyOf Tryz.f51) = true := fun kp => by kernel_rfl
theorem ok51 : FOk Tryz.prog 51 fb51 := fnB_ok sOk (tabOk pl51 pb51) Tryz.func51 rfl oc51
theorem og51 : FOk Tryz.prog 51 fc51 := ok51
theorem oc52 : ∀ kp, okCode (S.tab pl52 pb52 [] kp) (bodyOf Tryz.f52) = true := fun kp => by kernel_rfl
theorem ok52 : FOk Tryz.prog 52 fb52 := fnB_ok sOk (tabOk pl52 pb52) Tryz.func52 rfl oc52
theorem og52 : FOk Tryz.prog 52 fc52 := ok52
theorem oc53 : ∀ kp, okCode (S.tab pl53 pb53 [] kp) (bodyOf Tryz.f53) = true := fun kp => by kernel_rfl
theorem ok53 : FOk Tryz.prog 53 fb53 := fnB_ok sOk (tabOk pl53 pb53) Tryz.func53 rfl oc53
theorem og53 : FOk Tryz.prog 53 fc53 := ok53
theorem oc54 : ∀ kp, okCode (S.tab pl54 pb54 [] kp) (bodyOf Tryz.f54) = true := fun kp => by kernel_rfl
theorem ok54 : FOk Tryz.prog 54 fb54 := fnB_ok sOk (tabOk pl54 pb54) Tryz.func54 rfl oc54
theorem og54 : FOk Tryz.prog 54 fc54 := ok54
theorem oc55 : ∀ kp, okCode (S.tab pl55 pb55 [] kp) (bodyOf Tryz.f55) = true := fun kp => by kernel_rfl
theorem ok55 : FOk Tryz.prog 55 fb55 := fnB_ok sOk (tabOk pl55 pb55) Tryz.func55 rfl oc55
theorem og55 : FOk Tryz.prog 55 fc55 := ok55
theorem oc56 : ∀ kp, okCode (S.tab pl56 pb56 [] kp) (bodyOf Tryz.f56) = true := fun kp => by kernel_rfl
theorem ok56 : FOk Tryz.prog 56 fb56 := fnB_ok sOk (tabOk pl56 pb56) Tryz.func56 rfl oc56
theorem og56 : FOk Tryz.prog 56 fc56 := ok56
theorem oc64 : ∀ kp, okCode (S.tab pl64 pb64 [] kp) (bodyOf Tryz.f64) = true := fun kp => by kernel_rfl
theorem ok64 : FOk Tryz.prog 64 fb64 := fnB_ok sOk (tabOk pl64 pb64) Tryz.func64 rfl oc64
theorem og64 : FOk Tryz.prog 64 fc64 := ok64
theorem oc65 : ∀ kp, okCode (S.tab pl65 pb65 [] kp) (bodyOf Tryz.f65) = true := fun kp => by kernel_rfl
theorem ok65 : FOk Tryz.prog 65 fb65 := fnBD_ok sOk (tabOk pl65 pb65) Tryz.func65 rfl oc65
theorem og65 : FOk Tryz.prog 65 fc65 := ok65
theorem oc66 : ∀ kp, okCode (S.tab pl66 pb66 [] kp) (bodyOf Tryz.f66) = true := fun kp => by kernel_rfl
theorem ok66 : FOk Tryz.prog 66 fb66 := fnB_ok sOk (tabOk pl66 pb66) Tryz.func66 rfl oc66
theorem og66 : FOk Tryz.prog 66 fc66 := ok66
theorem oc73 : ∀ kp, okCode (S.tab pl73 pb73 [] kp) (bodyOf Tryz.f73) = true := fun kp => by kernel_rfl
theorem ok73 : FOk Tryz.prog 73 fb73 := fnB_ok sOk (tabOk pl73 pb73) Tryz.func73 rfl oc73
theorem og73 : FOk Tryz.prog 73 fc73 := ok73
theorem oc75 : ∀ kp, okCode (S.tab pl75 pb75 [] kp) (bodyOf Tryz.f75) = true := fun kp => by kernel_rfl
theorem ok75 : FOk Tryz.prog 75 fb75 := fnB_ok sOk (tabOk pl75 pb75) Tryz.func75 rfl oc75
theorem og75 : FOk Tryz.prog 75 fc75 := ok75
theorem oc78 : ∀ kp, okCode (S.tab pl78 pb78 [] kp) (bodyOf Tryz.f78) = true := fun kp => by kernel_rfl
theorem ok78 : FOk Tryz.prog 78 fb78 := fnB_ok sOk (tabOk pl78 pb78) Tryz.func78 rfl oc78
theorem og78 : FOk Tryz.prog 78 fc78 := ok78
theorem oc79 : ∀ kp, okCode (S.tab pl79 pb79 [] kp) (bodyOf Tryz.f79) = true := fun kp => by kernel_rfl
theorem ok79 : FOk Tryz.prog 79 fb79 := fnB_ok sOk (tabOk pl79 pb79) Tryz.func79 rfl oc79
theorem og79 : FOk Tryz.prog 79 fc79 := ok79
theorem oc80 : ∀ kp, okCode (S.tab pl80 pb80 [] kp) (bodyOf Tryz.f80) = true := fun kp => by kernel_rfl
theorem ok80 : FOk Tryz.prog 80 fb80 := fnB_ok sOk (tabOk pl80 pb80) Tryz.func80 rfl oc80
theorem og80 : FOk Tryz.prog 80 fc80 := ok80
theorem oc81 : ∀ kp, okCode (S.tab pl81 pb81 [] kp) (bodyOf Tryz.f81) = true := fun kp => by kernel_rfl
theorem ok81 : FOk Tryz.prog 81 fb81 := fnB_ok sOk (tabOk pl81 pb81) Tryz.func81 rfl oc81
theorem og81 : FOk Tryz.prog 81 fc81 := ok81
theorem oc82 : ∀ kp, okCode (S.tab pl82 pb82 [] kp) (bodyOf Tryz.f82) = true := fun kp => by kernel_rfl
theorem ok82 : FOk Tryz.prog 82 fb82 := fnB_ok sOk (tabOk pl82 pb82) Tryz.func82 rfl oc82
theorem og82 : FOk Tryz.prog 82 fc82 := ok82
theorem oc83 : ∀ kp, okCode (S.tab pl83 pb83 [] kp) (bodyOf Tryz.f83) = true := fun kp => by kernel_rfl
theorem ok83 : FOk Tryz.prog 83 fb83 := fnB_ok sOk (tabOk pl83 pb83) Tryz.func83 rfl oc83
theorem og83 : FOk Tryz.prog 83 fc83 := ok83
theorem oc84 : ∀ kp, okCode (S.tab pl84 pb84 [] kp) (bodyOf Tryz.f84) = true := fun kp => by kernel_rfl
theorem ok84 : FOk Tryz.prog 84 fb84 := fnB_ok sOk (tabOk pl84 pb84) Tryz.func84 rfl oc84
theorem og84 : FOk Tryz.prog 84 fc84 := ok84
theorem oc85 : ∀ kp, okCode (S.tab pl85 pb85 [] kp) (bodyOf Tryz.f85) = true := fun kp => by kernel_rfl
theorem ok85 : FOk Tryz.prog 85 fb85 := fnB_ok sOk (tabOk pl85 pb85) Tryz.func85 rfl oc85
theorem og85 : FOk Tryz.prog 85 fc85 := ok85
theorem oc86 : ∀ kp, okCode (S.tab pl86 pb86 [] kp) (bodyOf Tryz.f86) = true := fun kp => by kernel_rfl
theorem ok86 : FOk Tryz.prog 86 fb86 := fnB_ok sOk (tabOk pl86 pb86) Tryz.func86 rfl oc86
theorem og86 : FOk Tryz.prog 86 fc86 := ok86
theorem oc87 : ∀ kp, okCode (S.tab pl87 pb87 [] kp) (bodyOf Tryz.f87) = true := fun kp => by kernel_rfl
theorem ok87 : FOk Tryz.prog 87 fb87 := fnB_ok sOk (tabOk pl87 pb87) Tryz.func87 rfl oc87
theorem og87 : FOk Tryz.prog 87 fc87 := ok87
theorem oc88 : ∀ kp, okCode (S.tab pl88 pb88 [] kp) (bodyOf Tryz.f88) = true := fun kp => by kernel_rfl
theorem ok88 : FOk Tryz.prog 88 fb88 := fnB_ok sOk (tabOk pl88 pb88) Tryz.func88 rfl oc88
theorem og88 : FOk Tryz.prog 88 fc88 := ok88
theorem oc89 : ∀ kp, okCode (S.tab pl89 pb89 [] kp) (bodyOf Tryz.f89) = true := fun kp => by kernel_rfl
theorem ok89 : FOk Tryz.prog 89 fb89 := fnB_ok sOk (tabOk pl89 pb89) Tryz.func89 rfl oc89
theorem og89 : FOk Tryz.prog 89 fc89 := ok89
theorem oc92 : ∀ kp, okCode (S.tab pl92 pb92 [] kp) (bodyOf Tryz.f92) = true := fun kp => by kernel_rfl
theorem ok92 : FOk Tryz.prog 92 fb92 := fnB_ok sOk (tabOk pl92 pb92) Tryz.func92 rfl oc92
theorem og92 : FOk Tryz.prog 92 fc92 := ok92
theorem oc93 : ∀ kp, okCode (S.tab pl93 pb93 [] kp) (bodyOf Tryz.f93) = true := fun kp => by kernel_rfl
theorem ok93 : FOk Tryz.prog 93 fb93 := fnB_ok sOk (tabOk pl93 pb93) Tryz.func93 rfl oc93
theorem og93 : FOk Tryz.prog 93 fc93 := ok93
theorem oc94 : ∀ kp, okCode (S.tab pl94 pb94 [] kp) (bodyOf Tryz.f94) = true := fun kp => by kernel_rfl
theorem ok94 : FOk Tryz.prog 94 fb94 := fnB_ok sOk (tabOk pl94 pb94) Tryz.func94 rfl oc94
theorem og94 : FOk Tryz.prog 94 fc94 := ok94
theorem oc95 : ∀ kp, okCode (S.tab pl95 pb95 [] kp) (bodyOf Tryz.f95) = true := fun kp => by kernel_rfl
theorem ok95 : FOk Tryz.prog 95 fb95 := fnB_ok sOk (tabOk pl95 pb95) Tryz.func95 rfl oc95
theorem og95 : FOk Tryz.prog 95 fc95 := ok95
theorem oc97 : ∀ kp, okCode (S.tab pl97 pb97 [] kp) (bodyOf Tryz.f97) = true := fun kp => by kernel_rfl
theorem ok97 : FOk Tryz.prog 97 fb97 := fnB_ok sOk (tabOk pl97 pb97) Tryz.func97 rfl oc97
theorem og97 : FOk Tryz.prog 97 fc97 := ok97
theorem oc98 : ∀ kp, okCode (S.tab pl98 pb98 [] kp) (bodyOf Tryz.f98) = true := fun kp => by kernel_rfl
theorem ok98 : FOk Tryz.prog 98 fb98 := fnB_ok sOk (tabOk pl98 pb98) Tryz.func98 rfl oc98
theorem og98 : FOk Tryz.prog 98 fc98 := ok98
theorem oc99 : ∀ kp, okCode (S.tab pl99 pb99 [] kp) (bodyOf Tryz.f99) = true := fun kp => by kernel_rfl
theorem ok99 : FOk Tryz.prog 99 fb99 := fnB_ok sOk (tabOk pl99 pb99) Tryz.func99 rfl oc99
theorem og99 : FOk Tryz.prog 99 fc99 := ok99
theorem oc100 : ∀ kp, okCode (S.tab pl100 pb100 [] kp) (bodyOf Tryz.f100) = true := fun kp => by kernel_rfl
theorem ok100 : FOk Tryz.prog 100 fb100 := fnB_ok sOk (tabOk pl100 pb100) Tryz.func100 rfl oc100
theorem og100 : FOk Tryz.prog 100 fc100 := ok100
theorem oc102 : ∀ kp, okCode (S.tab pl102 pb102 [] kp) (bodyOf Tryz.f102) = true := fun kp => by kernel_rfl
theorem ok102 : FOk Tryz.prog 102 fb102 := fnB_ok sOk (tabOk pl102 pb102) Tryz.func102 rfl oc102
theorem og102 : FOk Tryz.prog 102 fc102 := ok102
theorem oc104 : ∀ kp, okCode (S.tab pl104 pb104 [] kp) (bodyOf Tryz.f104) = true := fun kp => by kernel_rfl
theorem ok104 : FOk Tryz.prog 104 fb104 := fnB_ok sOk (tabOk pl104 pb104) Tryz.func104 rfl oc104
theorem og104 : FOk Tryz.prog 104 fc104 := ok104
theorem oc108 : ∀ kp, okCode (S.tab pl108 pb108 [] kp) (bodyOf Tryz.f108) = true := fun kp => by kernel_rfl
theorem ok108 : FOk Tryz.prog 108 fb108 := fnB_ok sOk (tabOk pl108 pb108) Tryz.func108 rfl oc108
theorem og108 : FOk Tryz.prog 108 fc108 := ok108
theorem od108 : FDOk Tryz.prog 108 fb108 := fnB_okD sOk (tabOk pl108 pb108) Tryz.func108 rfl oc108
theorem oc109 : ∀ kp, okCode (S.tab pl109 pb109 [] kp) (bodyOf Tryz.f109) = true := fun kp => by kernel_rfl
theorem ok109 : FOk Tryz.prog 109 fb109 := fnB_ok sOk (tabOk pl109 pb109) Tryz.func109 rfl oc109
theorem og109 : FOk Tryz.prog 109 fc109 := ok109
theorem oc110 : ∀ kp, okCode (S.tab pl110 pb110 [] kp) (bodyOf Tryz.f110) = true := fun kp => by kernel_rfl
theorem ok110 : FOk Tryz.prog 110 fb110 := fnB_ok sOk (tabOk pl110 pb110) Tryz.func110 rfl oc110
theorem og110 : FOk Tryz.prog 110 fc110 := ok110
theorem oc111 : ∀ kp, okCode (S.tab pl111 pb111 [] kp) (bodyOf Tryz.f111) = true := fun kp => by kernel_rfl
theorem ok111 : FOk Tryz.prog 111 fb111 := fnB_ok sOk (tabOk pl111 pb111) Tryz.func111 rfl oc111
theorem og111 : FOk Tryz.prog 111 fc111 := ok111
theorem oc112 : ∀ kp, okCode (S.tab pl112 pb112 [] kp) (bodyOf Tryz.f112) = true := fun kp => by kernel_rfl
theorem ok112 : FOk Tryz.prog 112 fb112 := fnB_ok sOk (tabOk pl112 pb112) Tryz.func112 rfl oc112
theorem og112 : FOk Tryz.prog 112 fc112 := ok112
theorem oc117 : ∀ kp, okCode (S.tab pl117 pb117 [] kp) (bodyOf Tryz.f117) = true := fun kp => by kernel_rfl
theorem ok117 : FOk Tryz.prog 117 fb117 := fnB_ok sOk (tabOk pl117 pb117) Tryz.func117 rfl oc117
theorem og117 : FOk Tryz.prog 117 fc117 := ok117
theorem oc118 : ∀ kp, okCode (S.tab pl118 pb118 [] kp) (bodyOf Tryz.f118) = true := fun kp => by kernel_rfl
theorem ok118 : FOk Tryz.prog 118 fb118 := fnB_ok sOk (tabOk pl118 pb118) Tryz.func118 rfl oc118
theorem og118 : FOk Tryz.prog 118 fc118 := ok118
theorem oc119 : ∀ kp, okCode (S.tab pl119 pb119 [] kp) (bodyOf Tryz.f119) = true := fun kp => by kernel_rfl
theorem ok119 : FOk Tryz.prog 119 fb119 := fnB_ok sOk (tabOk pl119 pb119) Tryz.func119 rfl oc119
theorem og119 : FOk Tryz.prog 119 fc119 := ok119
theorem oc120 : ∀ kp, okCode (S.tab pl120 pb120 [] kp) (bodyOf Tryz.f120) = true := fun kp => by kernel_rfl
theorem ok120 : FOk Tryz.prog 120 fb120 := fnB_ok sOk (tabOk pl120 pb120) Tryz.func120 rfl oc120
theorem og120 : FOk Tryz.prog 120 fc120 := ok120
theorem oc121 : ∀ kp, okCode (S.tab pl121 pb121 [] kp) (bodyOf Tryz.f121) = true := fun kp => by kernel_rfl
theorem ok121 : FOk Tryz.prog 121 fb121 := fnB_ok sOk (tabOk pl121 pb121) Tryz.func121 rfl oc121
theorem og121 : FOk Tryz.prog 121 fc121 := ok121
theorem oc122 : ∀ kp, okCode (S.tab pl122 pb122 [] kp) (bodyOf Tryz.f122) = true := fun kp => by kernel_rfl
theorem ok122 : FOk Tryz.prog 122 fb122 := fnB_ok sOk (tabOk pl122 pb122) Tryz.func122 rfl oc122
theorem og122 : FOk Tryz.prog 122 fc122 := ok122
theorem oc123 : ∀ kp, okCode (S.tab pl123 pb123 [] kp) (bodyOf Tryz.f123) = true := fun kp => by kernel_rfl
theorem ok123 : FOk Tryz.prog 123 fb123 := fnB_ok sOk (tabOk pl123 pb123) Tryz.func123 rfl oc123
theorem og123 : FOk Tryz.prog 123 fc123 := ok123
theorem oc124 : ∀ kp, okCode (S.tab pl124 pb124 [] kp) (bodyOf Tryz.f124) = true := fun kp => by kernel_rfl
theorem ok124 : FOk Tryz.prog 124 fb124 := fnB_ok sOk (tabOk pl124 pb124) Tryz.func124 rfl oc124
theorem og124 : FOk Tryz.prog 124 fc124 := ok124
theorem oc126 : ∀ kp, okCode (S.tab pl126 pb126 [] kp) (bodyOf Tryz.f126) = true := fun kp => by kernel_rfl
theorem ok126 : FOk Tryz.prog 126 fb126 := fnB_ok sOk (tabOk pl126 pb126) Tryz.func126 rfl oc126
theorem og126 : FOk Tryz.prog 126 fc126 := ok126
theorem oc127 : ∀ kp, okCode (S.tab pl127 pb127 [] kp) (bodyOf Tryz.f127) = true := fun kp => by kernel_rfl
theorem ok127 : FOk Tryz.prog 127 fb127 := fnB_ok sOk (tabOk pl127 pb127) Tryz.func127 rfl oc127
theorem og127 : FOk Tryz.prog 127 fc127 := ok127
theorem oc128 : ∀ kp, okCode (S.tab pl128 pb128 [] kp) (bodyOf Tryz.f128) = true := fun kp => by kernel_rfl
theorem ok128 : FOk Tryz.prog 128 fb128 := fnB_ok sOk (tabOk pl128 pb128) Tryz.func128 rfl oc128
theorem og128 : FOk Tryz.prog 128 fc128 := ok128
theorem oc133 : ∀ kp, okCode (S.tab pl133 pb133 [] kp) (bodyOf Tryz.f133) = true := fun kp => by kernel_rfl
theorem ok133 : FOk Tryz.prog 133 fb133 := fnB_ok sOk (tabOk pl133 pb133) Tryz.func133 rfl oc133
theorem og133 : FOk Tryz.prog 133 fc133 := ok133
theorem oc134 : ∀ kp, okCode (S.tab pl134 pb134 [] kp) (bodyOf Tryz.f134) = true := fun kp => by kernel_rfl
theorem ok134 : FOk Tryz.prog 134 fb134 := fnB_ok sOk (tabOk pl134 pb134) Tryz.func134 rfl oc134
theorem og134 : FOk Tryz.prog 134 fc134 := ok134
theorem od134 : FDOk Tryz.prog 134 fb134 := fnB_okD sOk (tabOk pl134 pb134) Tryz.func134 rfl oc134
theorem oc135 : ∀ kp, okCode (S.tab pl135 pb135 [] kp) (bodyOf Tryz.f135) = true := fun kp => by kernel_rfl
theorem ok135 : FOk Tryz.prog 135 fb135 := fnB_ok sOk (tabOk pl135 pb135) Tryz.func135 rfl oc135
theorem og135 : FOk Tryz.prog 135 fc135 := ok135
theorem od135 : FDOk Tryz.prog 135 fb135 := fnB_okD sOk (tabOk pl135 pb135) Tryz.func135 rfl oc135
theorem oc136 : ∀ kp, okCode (S.tab pl136 pb136 [] kp) (bodyOf Tryz.f136) = true := fun kp => by kernel_rfl
theorem ok136 : FOk Tryz.prog 136 fb136 := fnB_ok sOk (tabOk pl136 pb136) Tryz.func136 rfl oc136
theorem og136 : FOk Tryz.prog 136 fc136 := ok136
theorem oc137 : ∀ kp, okCode (S.tab pl137 pb137 [] kp) (bodyOf Tryz.f137) = true := fun kp => by kernel_rfl
theorem ok137 : FOk Tryz.prog 137 fb137 := fnB_ok sOk (tabOk pl137 pb137) Tryz.func137 rfl oc137
theorem og137 : FOk Tryz.prog 137 fc137 := ok137
theorem oc149 : ∀ kp, okCode (S.tab pl149 pb149 [] kp) (bodyOf Tryz.f149) = true := fun kp => by kernel_rfl
theorem ok149 : FOk Tryz.prog 149 fb149 := fnB_ok sOk (tabOk pl149 pb149) Tryz.func149 rfl oc149
theorem og149 : FOk Tryz.prog 149 fc149 := ok149
theorem oc154 : ∀ kp, okCode (S.tab pl154 pb154 [] kp) (bodyOf Tryz.f154) = true := fun kp => by kernel_rfl
theorem ok154 : FOk Tryz.prog 154 fb154 := fnB_ok sOk (tabOk pl154 pb154) Tryz.func154 rfl oc154
theorem og154 : FOk Tryz.prog 154 fc154 := ok154
theorem oc155 : ∀ kp, okCode (S.tab pl155 pb155 [] kp) (bodyOf Tryz.f155) = true := fun kp => by kernel_rfl
theorem ok155 : FOk Tryz.prog 155 fb155 := fnB_ok sOk (tabOk pl155 pb155) Tryz.func155 rfl oc155
theorem og155 : FOk Tryz.prog 155 fc155 := ok155
theorem oc156 : ∀ kp, okCode (S.tab pl156 pb156 [] kp) (bodyOf Tryz.f156) = true := fun kp => by kernel_rfl
theorem ok156 : FOk Tryz.prog 156 fb156 := fnB_ok sOk (tabOk pl156 pb156) Tryz.func156 rfl oc156
theorem og156 : FOk Tryz.prog 156 fc156 := ok156
theorem oc161 : ∀ kp, okCode (S.tab pl161 pb161 [] kp) (bodyOf Tryz.f161) = true := fun kp => by kernel_rfl
theorem ok161 : FOk Tryz.prog 161 fb161 := fnB_ok sOk (tabOk pl161 pb161) Tryz.func161 rfl oc161
theorem og161 : FOk Tryz.prog 161 fc161 := ok161
theorem oc172 : ∀ kp, okCode (S.tab pl172 pb172 [] kp) (bodyOf Tryz.f172) = true := fun kp => by kernel_rfl
theorem ok172 : FOk Tryz.prog 172 fb172 := fnB_ok sOk (tabOk pl172 pb172) Tryz.func172 rfl oc172
theorem og172 : FOk Tryz.prog 172 fc172 := ok172
theorem oc173 : ∀ kp, okCode (S.tab pl173 pb173 [] kp) (bodyOf Tryz.f173) = true := fun kp => by kernel_rfl
theorem ok173 : FOk Tryz.prog 173 fb173 := fnB_ok sOk (tabOk pl173 pb173) Tryz.func173 rfl oc173
theorem og173 : FOk Tryz.prog 173 fc173 := ok173
theorem oc174 : ∀ kp, okCode (S.tab pl174 pb174 [] kp) (bodyOf Tryz.f174) = true := fun kp => by kernel_rfl
theorem ok174 : FOk Tryz.prog 174 fb174 := fnB_ok sOk (tabOk pl174 pb174) Tryz.func174 rfl oc174
theorem og174 : FOk Tryz.prog 174 fc174 := ok174
theorem oc175 : ∀ kp, okCode (S.tab pl175 pb175 [] kp) (bodyOf Tryz.f175) = true := fun kp => by kernel_rfl
theorem ok175 : FOk Tryz.prog 175 fb175 := fnB_ok sOk (tabOk pl175 pb175) Tryz.func175 rfl oc175
theorem og175 : FOk Tryz.prog 175 fc175 := ok175
theorem oc176 : ∀ kp, okCode (S.tab pl176 pb176 [] kp) (bodyOf Tryz.f176) = true := fun kp => by kernel_rfl
theorem ok176 : FOk Tryz.prog 176 fb176 := fnB_ok sOk (tabOk pl176 pb176) Tryz.func176 rfl oc176
theorem og176 : FOk Tryz.prog 176 fc176 := ok176
theorem oc177 : ∀ kp, okCode (S.tab pl177 pb177 [] kp) (bodyOf Tryz.f177) = true := fun kp => by kernel_rfl
theorem ok177 : FOk Tryz.prog 177 fb177 := fnB_ok sOk (tabOk pl177 pb177) Tryz.func177 rfl oc177
theorem og177 : FOk Tryz.prog 177 fc177 := ok177
theorem oc178 : ∀ kp, okCode (S.tab pl178 pb178 [] kp) (bodyOf Tryz.f178) = true := fun kp => by kernel_rfl
theorem ok178 : FOk Tryz.prog 178 fb178 := fnB_ok sOk (tabOk pl178 pb178) Tryz.func178 rfl oc178
theorem og178 : FOk Tryz.prog 178 fc178 := ok178
theorem oc179 : ∀ kp, okCode (S.tab pl179 pb179 [] kp) (bodyOf Tryz.f179) = true := fun kp => by kernel_rfl
theorem ok179 : FOk Tryz.prog 179 fb179 := fnB_ok sOk (tabOk pl179 pb179) Tryz.func179 rfl oc179
theorem og179 : FOk Tryz.prog 179 fc179 := ok179
theorem oc180 : ∀ kp, okCode (S.tab pl180 pb180 [] kp) (bodyOf Tryz.f180) = true := fun kp => by kernel_rfl
theorem ok180 : FOk Tryz.prog 180 fb180 := fnB_ok sOk (tabOk pl180 pb180) Tryz.func180 rfl oc180
theorem og180 : FOk Tryz.prog 180 fc180 := ok180
theorem oc181 : ∀ kp, okCode (S.tab pl181 pb181 [] kp) (bodyOf Tryz.f181) = true := fun kp => by kernel_rfl
theorem ok181 : FOk Tryz.prog 181 fb181 := fnB_ok sOk (tabOk pl181 pb181) Tryz.func181 rfl oc181
theorem og181 : FOk Tryz.prog 181 fc181 := ok181
theorem oc182 : ∀ kp, okCode (S.tab pl182 pb182 [] kp) (bodyOf Tryz.f182) = true := fun kp => by kernel_rfl
theorem ok182 : FOk Tryz.prog 182 fb182 := fnB_ok sOk (tabOk pl182 pb182) Tryz.func182 rfl oc182
theorem og182 : FOk Tryz.prog 182 fc182 := ok182
theorem oc183 : ∀ kp, okCode (S.tab pl183 pb183 [] kp) (bodyOf Tryz.f183) = true := fun kp => by kernel_rfl
theorem ok183 : FOk Tryz.prog 183 fb183 := fnB_ok sOk (tabOk pl183 pb183) Tryz.func183 rfl oc183
theorem og183 : FOk Tryz.prog 183 fc183 := ok183
theorem oc185 : ∀ kp, okCode (S.tab pl185 pb185 [] kp) (bodyOf Tryz.f185) = true := fun kp => by kernel_rfl
theorem ok185 : FOk Tryz.prog 185 fb185 := fnB_ok sOk (tabOk pl185 pb185) Tryz.func185 rfl oc185
theorem og185 : FOk Tryz.prog 185 fc185 := ok185
theorem oc187 : ∀ kp, okCode (S.tab pl187 pb187 [] kp) (bodyOf Tryz.f187) = true := fun kp => by kernel_rfl
theorem ok187 : FOk Tryz.prog 187 fb187 := fnB_ok sOk (tabOk pl187 pb187) Tryz.func187 rfl oc187
theorem og187 : FOk Tryz.prog 187 fc187 := ok187
theorem oc189 : ∀ kp, okCode (S.tab pl189 pb189 [] kp) (bodyOf Tryz.f189) = true := fun kp => by kernel_rfl
theorem ok189 : FOk Tryz.prog 189 fb189 := fnB_ok sOk (tabOk pl189 pb189) Tryz.func189 rfl oc189
theorem og189 : FOk Tryz.prog 189 fc189 := ok189
theorem oc191 : ∀ kp, okCode (S.tab pl191 pb191 [] kp) (bodyOf Tryz.f191) = true := fun kp => by kernel_rfl
theorem ok191 : FOk Tryz.prog 191 fb191 := fnB_ok sOk (tabOk pl191 pb191) Tryz.func191 rfl oc191
theorem og191 : FOk Tryz.prog 191 fc191 := ok191
theorem oc192 : ∀ kp, okCode (S.tab pl192 pb192 [] kp) (bodyOf Tryz.f192) = true := fun kp => by kernel_rfl
theorem ok192 : FOk Tryz.prog 192 fb192 := fnB_ok sOk (tabOk pl192 pb192) Tryz.func192 rfl oc192
theorem og192 : FOk Tryz.prog 192 fc192 := ok192
theorem oc194 : ∀ kp, okCode (S.tab pl194 pb194 [] kp) (bodyOf Tryz.f194) = true := fun kp => by kernel_rfl
theorem ok194 : FOk Tryz.prog 194 fb194 := fnB_ok sOk (tabOk pl194 pb194) Tryz.func194 rfl oc194
theorem og194 : FOk Tryz.prog 194 fc194 := ok194
theorem oc195 : ∀ kp, okCode (S.tab pl195 pb195 [] kp) (bodyOf Tryz.f195) = true := fun kp => by kernel_rfl
theorem ok195 : FOk Tryz.prog 195 fb195 := fnB_ok sOk (tabOk pl195 pb195) Tryz.func195 rfl oc195
theorem og195 : FOk Tryz.prog 195 fc195 := ok195
theorem oc196 : ∀ kp, okCode (S.tab pl196 pb196 [] kp) (bodyOf Tryz.f196) = true := fun kp => by kernel_rfl
theorem ok196 : FOk Tryz.prog 196 fb196 := fnB_ok sOk (tabOk pl196 pb196) Tryz.func196 rfl oc196
theorem og196 : FOk Tryz.prog 196 fc196 := ok196
theorem oc199 : ∀ kp, okCode (S.tab pl199 pb199 [] kp) (bodyOf Tryz.f199) = true := fun kp => by kernel_rfl
theorem ok199 : FOk Tryz.prog 199 fb199 := fnB_ok sOk (tabOk pl199 pb199) Tryz.func199 rfl oc199
theorem og199 : FOk Tryz.prog 199 fc199 := ok199
theorem oc200 : ∀ kp, okCode (S.tab pl200 pb200 [] kp) (bodyOf Tryz.f200) = true := fun kp => by kernel_rfl
theorem ok200 : FOk Tryz.prog 200 fb200 := fnB_ok sOk (tabOk pl200 pb200) Tryz.func200 rfl oc200
theorem og200 : FOk Tryz.prog 200 fc200 := ok200
theorem oc201 : ∀ kp, okCode (S.tab pl201 pb201 [] kp) (bodyOf Tryz.f201) = true := fun kp => by kernel_rfl
theorem ok201 : FOk Tryz.prog 201 fb201 := fnB_ok sOk (tabOk pl201 pb201) Tryz.func201 rfl oc201
theorem og201 : FOk Tryz.prog 201 fc201 := ok201
theorem oc202 : ∀ kp, okCode (S.tab pl202 pb202 [] kp) (bodyOf Tryz.f202) = true := fun kp => by kernel_rfl
theorem ok202 : FOk Tryz.prog 202 fb202 := fnB_ok sOk (tabOk pl202 pb202) Tryz.func202 rfl oc202
theorem og202 : FOk Tryz.prog 202 fc202 := ok202
theorem oc203 : ∀ kp, okCode (S.tab pl203 pb203 [] kp) (bodyOf Tryz.f203) = true := fun kp => by kernel_rfl
theorem ok203 : FOk Tryz.prog 203 fb203 := fnB_ok sOk (tabOk pl203 pb203) Tryz.func203 rfl oc203
theorem og203 : FOk Tryz.prog 203 fc203 := ok203
theorem oc204 : ∀ kp, okCode (S.tab pl204 pb204 [] kp) (bodyOf Tryz.f204) = true := fun kp => by kernel_rfl
theorem ok204 : FOk Tryz.prog 204 fb204 := fnB_ok sOk (tabOk pl204 pb204) Tryz.func204 rfl oc204
theorem og204 : FOk Tryz.prog 204 fc204 := ok204
theorem oc205 : ∀ kp, okCode (S.tab pl205 pb205 [] kp) (bodyOf Tryz.f205) = true := fun kp => by kernel_rfl
theorem ok205 : FOk Tryz.prog 205 fb205 := fnB_ok sOk (tabOk pl205 pb205) Tryz.func205 rfl oc205
theorem og205 : FOk Tryz.prog 205 fc205 := ok205
theorem oc206 : ∀ kp, okCode (S.tab pl206 pb206 [] kp) (bodyOf Tryz.f206) = true := fun kp => by kernel_rfl
theorem ok206 : FOk Tryz.prog 206 fb206 := fnB_ok sOk (tabOk pl206 pb206) Tryz.func206 rfl oc206
theorem og206 : FOk Tryz.prog 206 fc206 := ok206
theorem oc208 : ∀ kp, okCode (S.tab pl208 pb208 [] kp) (bodyOf Tryz.f208) = true := fun kp => by kernel_rfl
theorem ok208 : FOk Tryz.prog 208 fb208 := fnB_ok sOk (tabOk pl208 pb208) Tryz.func208 rfl oc208
theorem og208 : FOk Tryz.prog 208 fc208 := ok208
theorem oc210 : ∀ kp, okCode (S.tab pl210 pb210 [] kp) (bodyOf Tryz.f210) = true := fun kp => by kernel_rfl
theorem ok210 : FOk Tryz.prog 210 fb210 := fnB_ok sOk (tabOk pl210 pb210) Tryz.func210 rfl oc210
theorem og210 : FOk Tryz.prog 210 fc210 := ok210
theorem oc211 : ∀ kp, okCode (S.tab pl211 pb211 [] kp) (bodyOf Tryz.f211) = true := fun kp => by kernel_rfl
theorem ok211 : FOk Tryz.prog 211 fb211 := fnB_ok sOk (tabOk pl211 pb211) Tryz.func211 rfl oc211
theorem og211 : FOk Tryz.prog 211 fc211 := ok211
theorem oc212 : ∀ kp, okCode (S.tab pl212 pb212 [] kp) (bodyOf Tryz.f212) = true := fun kp => by kernel_rfl
theorem ok212 : FOk Tryz.prog 212 fb212 := fnB_ok sOk (tabOk pl212 pb212) Tryz.func212 rfl oc212
theorem og212 : FOk Tryz.prog 212 fc212 := ok212
theorem oc214 : ∀ kp, okCode (S.tab pl214 pb214 [] kp) (bodyOf Tryz.f214) = true := fun kp => by kernel_rfl
theorem ok214 : FOk Tryz.prog 214 fb214 := fnB_ok sOk (tabOk pl214 pb214) Tryz.func214 rfl oc214
theorem og214 : FOk Tryz.prog 214 fc214 := ok214
theorem oc215 : ∀ kp, okCode (S.tab pl215 pb215 [] kp) (bodyOf Tryz.f215) = true := fun kp => by kernel_rfl
theorem ok215 : FOk Tryz.prog 215 fb215 := fnB_ok sOk (tabOk pl215 pb215) Tryz.func215 rfl oc215
theorem og215 : FOk Tryz.prog 215 fc215 := ok215
theorem oc217 : ∀ kp, okCode (S.tab pl217 pb217 [] kp) (bodyOf Tryz.f217) = true := fun kp => by kernel_rfl
theorem ok217 : FOk Tryz.prog 217 fb217 := fnB_ok sOk (tabOk pl217 pb217) Tryz.func217 rfl oc217
theorem og217 : FOk Tryz.prog 217 fc217 := ok217
theorem oc236 : ∀ kp, okCode (S.tab pl236 pb236 [] kp) (bodyOf Tryz.f236) = true := fun kp => by kernel_rfl
theorem ok236 : FOk Tryz.prog 236 fb236 := fnB_ok sOk (tabOk pl236 pb236) Tryz.func236 rfl oc236
theorem og236 : FOk Tryz.prog 236 fc236 := ok236
theorem oc237 : ∀ kp, okCode (S.tab pl237 pb237 [] kp) (bodyOf Tryz.f237) = true := fun kp => by kernel_rfl
theorem ok237 : FOk Tryz.prog 237 fb237 := fnB_ok sOk (tabOk pl237 pb237) Tryz.func237 rfl oc237
theorem og237 : FOk Tryz.prog 237 fc237 := ok237
theorem oc238 : ∀ kp, okCode (S.tab pl238 pb238 [] kp) (bodyOf Tryz.f238) = true := fun kp => by kernel_rfl
theorem ok238 : FOk Tryz.prog 238 fb238 := fnB_ok sOk (tabOk pl238 pb238) Tryz.func238 rfl oc238
theorem og238 : FOk Tryz.prog 238 fc238 := ok238
theorem oc250 : ∀ kp, okCode (S.tab pl250 pb250 [] kp) (bodyOf Tryz.f250) = true := fun kp => by kernel_rfl
theorem ok250 : FOk Tryz.prog 250 fb250 := fnB_ok sOk (tabOk pl250 pb250) Tryz.func250 rfl oc250
theorem og250 : FOk Tryz.prog 250 fc250 := ok250
theorem oc251 : ∀ kp, okCode (S.tab pl251 pb251 [] kp) (bodyOf Tryz.f251) = true := fun kp => by kernel_rfl
theorem ok251 : FOk Tryz.prog 251 fb251 := fnB_ok sOk (tabOk pl251 pb251) Tryz.func251 rfl oc251
theorem og251 : FOk Tryz.prog 251 fc251 := ok251
theorem oc252 : ∀ kp, okCode (S.tab pl252 pb252 [] kp) (bodyOf Tryz.f252) = true := fun kp => by kernel_rfl
theorem ok252 : FOk Tryz.prog 252 fb252 := fnB_ok sOk (tabOk pl252 pb252) Tryz.func252 rfl oc252
theorem og252 : FOk Tryz.prog 252 fc252 := ok252
theorem oc253 : ∀ kp, okCode (S.tab pl253 pb253 [] kp) (bodyOf Tryz.f253) = true := fun kp => by kernel_rfl
theorem ok253 : FOk Tryz.prog 253 fb253 := fnB_ok sOk (tabOk pl253 pb253) Tryz.func253 rfl oc253
theorem og253 : FOk Tryz.prog 253 fc253 := ok253
theorem oc254 : ∀ kp, okCode (S.tab pl254 pb254 [] kp) (bodyOf Tryz.f254) = true := fun kp => by kernel_rfl
theorem ok254 : FOk Tryz.prog 254 fb254 := fnB_ok sOk (tabOk pl254 pb254) Tryz.func254 rfl oc254
theorem og254 : FOk Tryz.prog 254 fc254 := ok254
theorem oc256 : ∀ kp, okCode (S.tab pl256 pb256 [] kp) (bodyOf Tryz.f256) = true := fun kp => by kernel_rfl
theorem ok256 : FOk Tryz.prog 256 fb256 := fnB_ok sOk (tabOk pl256 pb256) Tryz.func256 rfl oc256
theorem og256 : FOk Tryz.prog 256 fc256 := ok256
theorem oc257 : ∀ kp, okCode (S.tab pl257 pb257 [] kp) (bodyOf Tryz.f257) = true := fun kp => by kernel_rfl
theorem ok257 : FOk Tryz.prog 257 fb257 := fnB_ok sOk (tabOk pl257 pb257) Tryz.func257 rfl oc257
theorem og257 : FOk Tryz.prog 257 fc257 := ok257
theorem oc259 : ∀ kp, okCode (S.tab pl259 pb259 [] kp) (bodyOf Tryz.f259) = true := fun kp => by kernel_rfl
theorem ok259 : FOk Tryz.prog 259 fb259 := fnB_ok sOk (tabOk pl259 pb259) Tryz.func259 rfl oc259
theorem og259 : FOk Tryz.prog 259 fc259 := ok259
theorem oc260 : ∀ kp, okCode (S.tab pl260 pb260 [] kp) (bodyOf Tryz.f260) = true := fun kp => by kernel_rfl
theorem ok260 : FOk Tryz.prog 260 fb260 := fnB_ok sOk (tabOk pl260 pb260) Tryz.func260 rfl oc260
theorem og260 : FOk Tryz.prog 260 fc260 := ok260
theorem oc265 : ∀ kp, okCode (S.tab pl265 pb265 [] kp) (bodyOf Tryz.f265) = true := fun kp => by kernel_rfl
theorem ok265 : FOk Tryz.prog 265 fb265 := fnB_ok sOk (tabOk pl265 pb265) Tryz.func265 rfl oc265
theorem og265 : FOk Tryz.prog 265 fc265 := ok265
theorem oc266 : ∀ kp, okCode (S.tab pl266 pb266 [] kp) (bodyOf Tryz.f266) = true := fun kp => by kernel_rfl
theorem ok266 : FOk Tryz.prog 266 fb266 := fnB_ok sOk (tabOk pl266 pb266) Tryz.func266 rfl oc266
theorem og266 : FOk Tryz.prog 266 fc266 := ok266
theorem oc269 : ∀ kp, okCode (S.tab pl269 pb269 [] kp) (bodyOf Tryz.f269) = true := fun kp => by kernel_rfl
theorem ok269 : FOk Tryz.prog 269 fb269 := fnB_ok sOk (tabOk pl269 pb269) Tryz.func269 rfl oc269
theorem og269 : FOk Tryz.prog 269 fc269 := ok269
theorem oc270 : ∀ kp, okCode (S.tab pl270 pb270 [] kp) (bodyOf Tryz.f270) = true := fun kp => by kernel_rfl
theorem ok270 : FOk Tryz.prog 270 fb270 := fnB_ok sOk (tabOk pl270 pb270) Tryz.func270 rfl oc270
theorem og270 : FOk Tryz.prog 270 fc270 := ok270
theorem oc271 : ∀ kp, okCode (S.tab pl271 pb271 [] kp) (bodyOf Tryz.f271) = true := fun kp => by kernel_rfl
theorem ok271 : FOk Tryz.prog 271 fb271 := fnB_ok sOk (tabOk pl271 pb271) Tryz.func271 rfl oc271
theorem og271 : FOk Tryz.prog 271 fc271 := ok271
theorem oc302 : ∀ kp, okCode (S.tab pl302 pb302 [] kp) (bodyOf Tryz.f302) = true := fun kp => by kernel_rfl
theorem ok302 : FOk Tryz.prog 302 fb302 := fnB_ok sOk (tabOk pl302 pb302) Tryz.func302 rfl oc302
theorem og302 : FOk Tryz.prog 302 fc302 := ok302
theorem oc303 : ∀ kp, okCode (S.tab pl303 pb303 [] kp) (bodyOf Tryz.f303) = true := fun kp => by kernel_rfl
theorem ok303 : FOk Tryz.prog 303 fb303 := fnB_ok sOk (tabOk pl303 pb303) Tryz.func303 rfl oc303
theorem og303 : FOk Tryz.prog 303 fc303 := ok303
theorem oc305 : ∀ kp, okCode (S.tab pl305 pb305 [] kp) (bodyOf Tryz.f305) = true := fun kp => by kernel_rfl
theorem ok305 : FOk Tryz.prog 305 fb305 := fnB_ok sOk (tabOk pl305 pb305) Tryz.func305 rfl oc305
theorem og305 : FOk Tryz.prog 305 fc305 := ok305
theorem oc307 : ∀ kp, okCode (S.tab pl307 pb307 [] kp) (bodyOf Tryz.f307) = true := fun kp => by kernel_rfl
theorem ok307 : FOk Tryz.prog 307 fb307 := fnB_ok sOk (tabOk pl307 pb307) Tryz.func307 rfl oc307
theorem og307 : FOk Tryz.prog 307 fc307 := ok307
theorem lookOk (g : Nat) : FOk Tryz.prog g (look g) := by
  unfold look
  exact (nodeB ((nodeB ((nodeB ((nodeB ((nodeB ((nodeB ((nodeB ((leafB og3)) ((leafB og4)))) ((nodeB ((leafB og5)) ((leafB og6)))))) ((nodeB ((nodeB ((leafB og7)) ((leafB og8)))) ((nodeB ((leafB og9)) ((nodeB ((leafB og10)) ((leafB og11)))))))))) ((nodeB ((nodeB ((nodeB ((leafB og12)) ((leafB og13)))) ((nodeB ((leafB og14)) ((nodeB ((leafB og15)) ((leafB og16)))))))) ((nodeB ((nodeB ((leafB og17)) ((leafB og18)))) ((nodeB ((leafB og19)) ((nodeB ((leafB og21)) ((leafB og23)))))))))))) ((nodeB ((nodeB ((nodeB ((nodeB ((leafB og28)) ((leafB og29)))) ((nodeB ((leafB og30)) ((leafB og31)))))) ((nodeB ((nodeB ((leafB og32)) ((leafB og33)))) ((nodeB ((leafB og34)) ((nodeB ((leafB og35)) ((leafB og36)))))))))) ((nodeB ((nodeB ((nodeB ((leafB og37)) ((leafB og38)))) ((nodeB ((leafB og39)) ((nodeB ((leafB og40)) ((leafB og41)))))))) ((nodeB ((nodeB ((leafB og42)) ((leafB og43)))) ((nodeB ((leafB og44)) ((nodeB ((leafB og45)) ((leafB og47)))))))))))))) ((nodeB ((nodeB ((nodeB ((nodeB ((nodeB ((leafB og50)) ((leafB og51)))) ((nodeB ((leafB og52)) ((leafB og53)))))) ((nodeB ((nodeB ((leafB og54)) ((leafB og55)))) ((nodeB ((leafB og56)) ((nodeB ((leafB og64)) ((leafB og65)))))))))) ((nodeB ((nodeB ((nodeB ((leafB og66)) ((leafB og73)))) ((nodeB ((leafB og75)) ((nodeB ((leafB og78)) ((leafB og79)))))))) ((nodeB ((nodeB ((leafB og80)) ((leafB og81)))) ((nodeB ((leafB og82)) ((nodeB ((leafB og83)) ((leafB og84)))))))))))) ((nodeB ((nodeB ((nodeB ((nodeB ((leafB og85)) ((leafB og86)))) ((nodeB ((leafB og87)) ((nodeB ((leafB og88)) ((leafB og89)))))))) ((nodeB ((nodeB ((leafB og92)) ((leafB og93)))) ((nodeB ((leafB og94)) ((nodeB ((leafB og95)) ((leafB og97)))))))))) ((nodeB ((nodeB ((nodeB ((leafB og98)) ((leafB og99)))) ((nodeB ((leafB og100)) ((nodeB ((leafB og102)) ((leafB og104)))))))) ((nodeB ((nodeB ((leafB og108)) ((leafB og109)))) ((nodeB ((leafB og110)) ((nodeB ((leafB og111)) ((leafB og112)))))))))))))))) ((nodeB ((nodeB ((nodeB ((nodeB ((nodeB ((nodeB ((leafB og117)) ((leafB og118)))) ((nodeB ((leafB og119)) ((leafB og120)))))) ((nodeB ((nodeB ((leafB og121)) ((leafB og122)))) ((nodeB ((leafB og123)) ((nodeB ((leafB og124)) ((leafB og126)))))))))) ((nodeB ((nodeB ((nodeB ((leafB og127)) ((leafB og128)))) ((nodeB ((leafB og133)) ((nodeB ((leafB og134)) ((leafB og135)))))))) ((nodeB ((nodeB ((leafB og136)) ((leafB og137)))) ((nodeB ((leafB og149)) ((nodeB ((leafB og154)) ((leafB og155)))))))))))) ((nodeB ((nodeB ((nodeB ((nodeB ((leafB og156)) ((leafB og161)))) ((nodeB ((leafB og172)) ((leafB og173)))))) ((nodeB ((nodeB ((leafB og174)) ((leafB og175)))) ((nodeB ((leafB og176)) ((nodeB ((leafB og177)) ((leafB og178)))))))))) ((nodeB ((nodeB ((nodeB ((leafB og179)) ((leafB og180)))) ((nodeB ((leafB og181)) ((nodeB ((leafB og182)) ((leafB og183)))))))) ((nodeB ((nodeB ((leafB og185)) ((leafB og187)))) ((nodeB ((leafB og189)) ((nodeB ((leafB og191)) ((leafB og192)))))))))))))) ((nodeB ((nodeB ((nodeB ((nodeB ((nodeB ((leafB og194)) ((leafB og195)))) ((nodeB ((leafB og196)) ((leafB og199)))))) ((nodeB ((nodeB ((leafB og200)) ((leafB og201)))) ((nodeB ((leafB og202)) ((nodeB ((leafB og203)) ((leafB og204)))))))))) ((nodeB ((nodeB ((nodeB ((leafB og205)) ((leafB og206)))) ((nodeB ((leafB og208)) ((nodeB ((leafB og210)) ((leafB og211)))))))) ((nodeB ((nodeB ((leafB og212)) ((leafB og214)))) ((nodeB ((leafB og215)) ((nodeB ((leafB og217)) ((leafB og236)))))))))))) ((nodeB ((nodeB ((nodeB ((nodeB ((leafB og237)) ((leafB og238)))) ((nodeB ((leafB og250)) ((nodeB ((leafB og251)) ((leafB og252)))))))) ((nodeB ((nodeB ((leafB og253)) ((leafB og254)))) ((nodeB ((leafB og256)) ((nodeB ((leafB og257)) ((leafB og259)))))))))) ((nodeB ((nodeB ((nodeB ((leafB og260)) ((leafB og265)))) ((nodeB ((leafB og266)) ((nodeB ((leafB og269)) ((leafB og270)))))))) ((nodeB ((nodeB ((leafB og271)) ((leafB og302)))) ((nodeB ((leafB og303)) ((nodeB ((leafB og305)) ((leafB og307)))))))))))))))))
theorem lookDOk (g : Nat) : FDOk Tryz.prog g (lookD g) := by
  unfold lookD
  exact (nodeD ((leafD od108)) ((nodeD ((leafD od134)) ((leafD od135)))))
end Go.C
