import Derived.Test.YtkpikackiemhbaaGreatSB
import Derived.Test.YtkpikackiemhbaaGreatSC
set_option linter.all false
set_option maxRecDepth 1000000
set_option maxHeartbeats 8000000
namespace Go.Cx
open Go.Sx

/-! Values of the concrete evaluator. -/
inductive D8 where | d0 | d1 | d2 | d3 | d4 | d5 | d6 | d7
deriving DecidableEq
structure N8 (α : Type) where
  a0 : α
  a1 : α
  a2 : α
  a3 : α
  a4 : α
  a5 : α
  a6 : α
  a7 : α
/-- A block's number, as digits. -/
structure P5 where
  a : D8
  b : D8
  c : D8
  d : D8
  e : D8
deriving DecidableEq
inductive CV where
  | u
  | bool (b : Bool)
  | i64 (n : Int)
  | i32 (n : Int)
  | u8 (n : Nat)
  | u32 (n : Nat)
  | u64 (n : Nat)
  | str (n : Nat) (s : Nat)
  | nilp
  | ptr (b : P5) (off : Nat)
  | loc (s : Nat) (off : Nat)
  | nils
  | slc (b : P5) (off : Nat) (len : Nat) (cap : Nat)
  | slu (b : P5) (off : Nat) (len : Nat) (sz : Nat)
  | emp
  | nilm
  | map (b : P5)
  | fn (f : Nat) (first : List CV) (cap : List CV)
  | nilf
  | ifc (t : Nat) (x : CV)
  | nili
  | agg (l : List CV)
  | tup (l : List CV)
  | mod (m : Nat) (q : Nat)
deriving Inhabited

/-! Eliminators: they give false where a value is of another form. -/
noncomputable def as_bool (v : CV) (k : Bool → Bool) : Bool :=
  @CV.rec (fun _ => Bool) (fun _ => Bool) false (fun b => k b) (fun _ => false) (fun _ => false) (fun _ => false) (fun _ => false) (fun _ => false) (fun _ _ => false) false (fun _ _ => false) (fun _ _ => false) false (fun _ _ _ _ => false) (fun _ _ _ _ => false) false false (fun _ => false) (fun _ _ _ _ _ => false) false (fun _ _ _ => false) false (fun _ _ => false) (fun _ _ => false) (fun _ _ => false) false (fun _ _ _ _ => false) v
theorem as_bool_inv {v : CV} {k : Bool → Bool} (h : as_bool v k = true) : ∃ b, v = .bool b ∧ k b = true := by
  cases v with
  | bool b => exact ⟨b, rfl, h⟩
  | _ => exact (Bool.false_ne_true h).elim
noncomputable def as_i64 (v : CV) (k : Int → Bool) : Bool :=
  @CV.rec (fun _ => Bool) (fun _ => Bool) false (fun _ => false) (fun n => k n) (fun _ => false) (fun _ => false) (fun _ => false) (fun _ => false) (fun _ _ => false) false (fun _ _ => false) (fun _ _ => false) false (fun _ _ _ _ => false) (fun _ _ _ _ => false) false false (fun _ => false) (fun _ _ _ _ _ => false) false (fun _ _ _ => false) false (fun _ _ => false) (fun _ _ => false) (fun _ _ => false) false (fun _ _ _ _ => false) v
theorem as_i64_inv {v : CV} {k : Int → Bool} (h : as_i64 v k = true) : ∃ n, v = .i64 n ∧ k n = true := by
  cases v with
  | i64 n => exact ⟨n, rfl, h⟩
  | _ => exact (Bool.false_ne_true h).elim
noncomputable def as_i32 (v : CV) (k : Int → Bool) : Bool :=
  @CV.rec (fun _ => Bool) (fun _ => Bool) false (fun _ => false) (fun _ => false) (fun n => k n) (fun _ => false) (fun _ => false) (fun _ => false) (fun _ _ => false) false (fun _ _ => false) (fun _ _ => false) false (fun _ _ _ _ => false) (fun _ _ _ _ => false) false false (fun _ => false) (fun _ _ _ _ _ => false) false (fun _ _ _ => false) false (fun _ _ => false) (fun _ _ => false) (fun _ _ => false) false (fun _ _ _ _ => false) v
theorem as_i32_inv {v : CV} {k : Int → Bool} (h : as_i32 v k = true) : ∃ n, v = .i32 n ∧ k n = true := by
  cases v with
  | i32 n => exact ⟨n, rfl, h⟩
  | _ => exact (Bool.false_ne_true h).elim
noncomputable def as_u8 (v : CV) (k : Nat → Bool) : Bool :=
  @CV.rec (fun _ => Bool) (fun _ => Bool) false (fun _ => false) (fun _ => false) (fun _ => false) (fun n => k n) (fun _ => false) (fun _ => false) (fun _ _ => false) false (fun _ _ => false) (fun _ _ => false) false (fun _ _ _ _ => false) (fun _ _ _ _ => false) false false (fun _ => false) (fun _ _ _ _ _ => false) false (fun _ _ _ => false) false (fun _ _ => false) (fun _ _ => false) (fun _ _ => false) false (fun _ _ _ _ => false) v
theorem as_u8_inv {v : CV} {k : Nat → Bool} (h : as_u8 v k = true) : ∃ n, v = .u8 n ∧ k n = true := by
  cases v with
  | u8 n => exact ⟨n, rfl, h⟩
  | _ => exact (Bool.false_ne_true h).elim
noncomputable def as_u32 (v : CV) (k : Nat → Bool) : Bool :=
  @CV.rec (fun _ => Bool) (fun _ => Bool) false (fun _ => false) (fun _ => false) (fun _ => false) (fun _ => false) (fun n => k n) (fun _ => false) (fun _ _ => false) false (fun _ _ => false) (fun _ _ => false) false (fun _ _ _ _ => false) (fun _ _ _ _ => false) false false (fun _ => false) (fun _ _ _ _ _ => false) false (fun _ _ _ => false) false (fun _ _ => false) (fun _ _ => false) (fun _ _ => false) false (fun _ _ _ _ => false) v
theorem as_u32_inv {v : CV} {k : Nat → Bool} (h : as_u32 v k = true) : ∃ n, v = .u32 n ∧ k n = true := by
  cases v with
  | u32 n => exact ⟨n, rfl, h⟩
  | _ => exact (Bool.false_ne_true h).elim
noncomputable def as_u64 (v : CV) (k : Nat → Bool) : Bool :=
  @CV.rec (fun _ => Bool) (fun _ => Bool) false (fun _ => false) (fun _ => false) (fun _ => false) (fun _ => false) (fun _ => false) (fun n => k n) (fun _ _ => false) false (fun _ _ => false) (fun _ _ => false) false (fun _ _ _ _ => false) (fun _ _ _ _ => false) false false (fun _ => false) (fun _ _ _ _ _ => false) false (fun _ _ _ => false) false (fun _ _ => false) (fun _ _ => false) (fun _ _ => false) false (fun _ _ _ _ => false) v
theorem as_u64_inv {v : CV} {k : Nat → Bool} (h : as_u64 v k = true) : ∃ n, v = .u64 n ∧ k n = true := by
  cases v with
  | u64 n => exact ⟨n, rfl, h⟩
  | _ => exact (Bool.false_ne_true h).elim
noncomputable def as_str (v : CV) (k : Nat → Nat → Bool) : Bool :=
  @CV.rec (fun _ => Bool) (fun _ => Bool) false (fun _ => false) (fun _ => false) (fun _ => false) (fun _ => false) (fun _ => false) (fun _ => false) (fun n s => k n s) false (fun _ _ => false) (fun _ _ => false) false (fun _ _ _ _ => false) (fun _ _ _ _ => false) false false (fun _ => false) (fun _ _ _ _ _ => false) false (fun _ _ _ => false) false (fun _ _ => false) (fun _ _ => false) (fun _ _ => false) false (fun _ _ _ _ => false) v
theorem as_str_inv {v : CV} {k : Nat → Nat → Bool} (h : as_str v k = true) : ∃ n s, v = .str n s ∧ k n s = true := by
  cases v with
  | str n s => exact ⟨n, s, rfl, h⟩
  | _ => exact (Bool.false_ne_true h).elim
noncomputable def as_nilp (v : CV) (k : Bool) : Bool :=
  @CV.rec (fun _ => Bool) (fun _ => Bool) false (fun _ => false) (fun _ => false) (fun _ => false) (fun _ => false) (fun _ => false) (fun _ => false) (fun _ _ => false) (k) (fun _ _ => false) (fun _ _ => false) false (fun _ _ _ _ => false) (fun _ _ _ _ => false) false false (fun _ => false) (fun _ _ _ _ _ => false) false (fun _ _ _ => false) false (fun _ _ => false) (fun _ _ => false) (fun _ _ => false) false (fun _ _ _ _ => false) v
theorem as_nilp_inv {v : CV} {k : Bool} (h : as_nilp v k = true) : v = .nilp  ∧ k  = true := by
  cases v with
  | nilp  => exact ⟨rfl, h⟩
  | _ => exact (Bool.false_ne_true h).elim
noncomputable def as_ptr (v : CV) (k : P5 → Nat → Bool) : Bool :=
  @CV.rec (fun _ => Bool) (fun _ => Bool) false (fun _ => false) (fun _ => false) (fun _ => false) (fun _ => false) (fun _ => false) (fun _ => false) (fun _ _ => false) false (fun b off => k b off) (fun _ _ => false) false (fun _ _ _ _ => false) (fun _ _ _ _ => false) false false (fun _ => false) (fun _ _ _ _ _ => false) false (fun _ _ _ => false) false (fun _ _ => false) (fun _ _ => false) (fun _ _ => false) false (fun _ _ _ _ => false) v
theorem as_ptr_inv {v : CV} {k : P5 → Nat → Bool} (h : as_ptr v k = true) : ∃ b off, v = .ptr b off ∧ k b off = true := by
  cases v with
  | ptr b off => exact ⟨b, off, rfl, h⟩
  | _ => exact (Bool.false_ne_true h).elim
noncomputable def as_loc (v : CV) (k : Nat → Nat → Bool) : Bool :=
  @CV.rec (fun _ => Bool) (fun _ => Bool) false (fun _ => false) (fun _ => false) (fun _ => false) (fun _ => false) (fun _ => false) (fun _ => false) (fun _ _ => false) false (fun _ _ => false) (fun s off => k s off) false (fun _ _ _ _ => false) (fun _ _ _ _ => false) false false (fun _ => false) (fun _ _ _ _ _ => false) false (fun _ _ _ => false) false (fun _ _ => false) (fun _ _ => false) (fun _ _ => false) false (fun _ _ _ _ => false) v
theorem as_loc_inv {v : CV} {k : Nat → Nat → Bool} (h : as_loc v k = true) : ∃ s off, v = .loc s off ∧ k s off = true := by
  cases v with
  | loc s off => exact ⟨s, off, rfl, h⟩
  | _ => exact (Bool.false_ne_true h).elim
noncomputable def as_nils (v : CV) (k : Bool) : Bool :=
  @CV.rec (fun _ => Bool) (fun _ => Bool) false (fun _ => false) (fun _ => false) (fun _ => false) (fun _ => false) (fun _ => false) (fun _ => false) (fun _ _ => false) false (fun _ _ => false) (fun _ _ => false) (k) (fun _ _ _ _ => false) (fun _ _ _ _ => false) false false (fun _ => false) (fun _ _ _ _ _ => false) false (fun _ _ _ => false) false (fun _ _ => false) (fun _ _ => false) (fun _ _ => false) false (fun _ _ _ _ => false) v
theorem as_nils_inv {v : CV} {k : Bool} (h : as_nils v k = true) : v = .nils  ∧ k  = true := by
  cases v with
  | nils  => exact ⟨rfl, h⟩
  | _ => exact (Bool.false_ne_true h).elim
noncomputable def as_slc (v : CV) (k : P5 → Nat → Nat → Nat → Bool) : Bool :=
  @CV.rec (fun _ => Bool) (fun _ => Bool) false (fun _ => false) (fun _ => false) (fun _ => false) (fun _ => false) (fun _ => false) (fun _ => false) (fun _ _ => false) false (fun _ _ => false) (fun _ _ => false) false (fun b off len cap => k b off len cap) (fun _ _ _ _ => false) false false (fun _ => false) (fun _ _ _ _ _ => false) false (fun _ _ _ => false) false (fun _ _ => false) (fun _ _ => false) (fun _ _ => false) false (fun _ _ _ _ => false) v
theorem as_slc_inv {v : CV} {k : P5 → Nat → Nat → Nat → Bool} (h : as_slc v k = true) : ∃ b off len cap, v = .slc b off len cap ∧ k b off len cap = true := by
  cases v with
  | slc b off len cap => exact ⟨b, off, len, cap, rfl, h⟩
  | _ => exact (Bool.false_ne_true h).elim
noncomputable def as_slu (v : CV) (k : P5 → Nat → Nat → Nat → Bool) : Bool :=
  @CV.rec (fun _ => Bool) (fun _ => Bool) false (fun _ => false) (fun _ => false) (fun _ => false) (fun _ => false) (fun _ => false) (fun _ => false) (fun _ _ => false) false (fun _ _ => false) (fun _ _ => false) false (fun _ _ _ _ => false) (fun b off len sz => k b off len sz) false false (fun _ => false) (fun _ _ _ _ _ => false) false (fun _ _ _ => false) false (fun _ _ => false) (fun _ _ => false) (fun _ _ => false) false (fun _ _ _ _ => false) v
theorem as_slu_inv {v : CV} {k : P5 → Nat → Nat → Nat → Bool} (h : as_slu v k = true) : ∃ b off len sz, v = .slu b off len sz ∧ k b off len sz = true := by
  cases v with
  | slu b off len sz => exact ⟨b, off, len, sz, rfl, h⟩
  | _ => exact (Bool.false_ne_true h).elim
noncomputable def as_emp (v : CV) (k : Bool) : Bool :=
  @CV.rec (fun _ => Bool) (fun _ => Bool) false (fun _ => false) (fun _ => false) (fun _ => false) (fun _ => false) (fun _ => false) (fun _ => false) (fun _ _ => false) false (fun _ _ => false) (fun _ _ => false) false (fun _ _ _ _ => false) (fun _ _ _ _ => false) (k) false (fun _ => false) (fun _ _ _ _ _ => false) false (fun _ _ _ => false) false (fun _ _ => false) (fun _ _ => false) (fun _ _ => false) false (fun _ _ _ _ => false) v
theorem as_emp_inv {v : CV} {k : Bool} (h : as_emp v k = true) : v = .emp  ∧ k  = true := by
  cases v with
  | emp  => exact ⟨rfl, h⟩
  | _ => exact (Bool.false_ne_true h).elim
noncomputable def as_nilm (v : CV) (k : Bool) : Bool :=
  @CV.rec (fun _ => Bool) (fun _ => Bool) false (fun _ => false) (fun _ => false) (fun _ => false) (fun _ => false) (fun _ => false) (fun _ => false) (fun _ _ => false) false (fun _ _ => false) (fun _ _ => false) false (fun _ _ _ _ => false) (fun _ _ _ _ => false) false (k) (fun _ => false) (fun _ _ _ _ _ => false) false (fun _ _ _ => false) false (fun _ _ => false) (fun _ _ => false) (fun _ _ => false) false (fun _ _ _ _ => false) v
theorem as_nilm_inv {v : CV} {k : Bool} (h : as_nilm v k = true) : v = .nilm  ∧ k  = true := by
  cases v with
  | nilm  => exact ⟨rfl, h⟩
  | _ => exact (Bool.false_ne_true h).elim
noncomputable def as_map (v : CV) (k : P5 → Bool) : Bool :=
  @CV.rec (fun _ => Bool) (fun _ => Bool) false (fun _ => false) (fun _ => false) (fun _ => false) (fun _ => false) (fun _ => false) (fun _ => false) (fun _ _ => false) false (fun _ _ => false) (fun _ _ => false) false (fun _ _ _ _ => false) (fun _ _ _ _ => false) false false (fun b => k b) (fun _ _ _ _ _ => false) false (fun _ _ _ => false) false (fun _ _ => false) (fun _ _ => false) (fun _ _ => false) false (fun _ _ _ _ => false) v
theorem as_map_inv {v : CV} {k : P5 → Bool} (h : as_map v k = true) : ∃ b, v = .map b ∧ k b = true := by
  cases v with
  | map b => exact ⟨b, rfl, h⟩
  | _ => exact (Bool.false_ne_true h).elim
noncomputable def as_fn (v : CV) (k : Nat → List CV → List CV → Bool) : Bool :=
  @CV.rec (fun _ => Bool) (fun _ => Bool) false (fun _ => false) (fun _ => false) (fun _ => false) (fun _ => false) (fun _ => false) (fun _ => false) (fun _ _ => false) false (fun _ _ => false) (fun _ _ => false) false (fun _ _ _ _ => false) (fun _ _ _ _ => false) false false (fun _ => false) (fun f first cap _ _ => k f first cap) false (fun _ _ _ => false) false (fun _ _ => false) (fun _ _ => false) (fun _ _ => false) false (fun _ _ _ _ => false) v
theorem as_fn_inv {v : CV} {k : Nat → List CV → List CV → Bool} (h : as_fn v k = true) : ∃ f first cap, v = .fn f first cap ∧ k f first cap = true := by
  cases v with
  | fn f first cap => exact ⟨f, first, cap, rfl, h⟩
  | _ => exact (Bool.false_ne_true h).elim
noncomputable def as_nilf (v : CV) (k : Bool) : Bool :=
  @CV.rec (fun _ => Bool) (fun _ => Bool) false (fun _ => false) (fun _ => false) (fun _ => false) (fun _ => false) (fun _ => false) (fun _ => false) (fun _ _ => false) false (fun _ _ => false) (fun _ _ => false) false (fun _ _ _ _ => false) (fun _ _ _ _ => false) false false (fun _ => false) (fun _ _ _ _ _ => false) (k) (fun _ _ _ => false) false (fun _ _ => false) (fun _ _ => false) (fun _ _ => false) false (fun _ _ _ _ => false) v
theorem as_nilf_inv {v : CV} {k : Bool} (h : as_nilf v k = true) : v = .nilf  ∧ k  = true := by
  cases v with
  | nilf  => exact ⟨rfl, h⟩
  | _ => exact (Bool.false_ne_true h).elim
noncomputable def as_ifc (v : CV) (k : Nat → CV → Bool) : Bool :=
  @CV.rec (fun _ => Bool) (fun _ => Bool) false (fun _ => false) (fun _ => false) (fun _ => false) (fun _ => false) (fun _ => false) (fun _ => false) (fun _ _ => false) false (fun _ _ => false) (fun _ _ => false) false (fun _ _ _ _ => false) (fun _ _ _ _ => false) false false (fun _ => false) (fun _ _ _ _ _ => false) false (fun t x _ => k t x) false (fun _ _ => false) (fun _ _ => false) (fun _ _ => false) false (fun _ _ _ _ => false) v
theorem as_ifc_inv {v : CV} {k : Nat → CV → Bool} (h : as_ifc v k = true) : ∃ t x, v = .ifc t x ∧ k t x = true := by
  cases v with
  | ifc t x => exact ⟨t, x, rfl, h⟩
  | _ => exact (Bool.false_ne_true h).elim
noncomputable def as_nili (v : CV) (k : Bool) : Bool :=
  @CV.rec (fun _ => Bool) (fun _ => Bool) false (fun _ => false) (fun _ => false) (fun _ => false) (fun _ => false) (fun _ => false) (fun _ => false) (fun _ _ => false) false (fun _ _ => false) (fun _ _ => false) false (fun _ _ _ _ => false) (fun _ _ _ _ => false) false false (fun _ => false) (fun _ _ _ _ _ => false) false (fun _ _ _ => false) (k) (fun _ _ => false) (fun _ _ => false) (fun _ _ => false) false (fun _ _ _ _ => false) v
theorem as_nili_inv {v : CV} {k : Bool} (h : as_nili v k = true) : v = .nili  ∧ k  = true := by
  cases v with
  | nili  => exact ⟨rfl, h⟩
  | _ => exact (Bool.false_ne_true h).elim
noncomputable def as_agg (v : CV) (k : List CV → Bool) : Bool :=
  @CV.rec (fun _ => Bool) (fun _ => Bool) false (fun _ => false) (fun _ => false) (fun _ => false) (fun _ => false) (fun _ => false) (fun _ => false) (fun _ _ => false) false (fun _ _ => false) (fun _ _ => false) false (fun _ _ _ _ => false) (fun _ _ _ _ => false) false false (fun _ => false) (fun _ _ _ _ _ => false) false (fun _ _ _ => false) false (fun l _ => k l) (fun _ _ => false) (fun _ _ => false) false (fun _ _ _ _ => false) v
theorem as_agg_inv {v : CV} {k : List CV → Bool} (h : as_agg v k = true) : ∃ l, v = .agg l ∧ k l = true := by
  cases v with
  | agg l => exact ⟨l, rfl, h⟩
  | _ => exact (Bool.false_ne_true h).elim
noncomputable def as_tup (v : CV) (k : List CV → Bool) : Bool :=
  @CV.rec (fun _ => Bool) (fun _ => Bool) false (fun _ => false) (fun _ => false) (fun _ => false) (fun _ => false) (fun _ => false) (fun _ => false) (fun _ _ => false) false (fun _ _ => false) (fun _ _ => false) false (fun _ _ _ _ => false) (fun _ _ _ _ => false) false false (fun _ => false) (fun _ _ _ _ _ => false) false (fun _ _ _ => false) false (fun _ _ => false) (fun l _ => k l) (fun _ _ => false) false (fun _ _ _ _ => false) v
theorem as_tup_inv {v : CV} {k : List CV → Bool} (h : as_tup v k = true) : ∃ l, v = .tup l ∧ k l = true := by
  cases v with
  | tup l => exact ⟨l, rfl, h⟩
  | _ => exact (Bool.false_ne_true h).elim
noncomputable def as_mod (v : CV) (k : Nat → Nat → Bool) : Bool :=
  @CV.rec (fun _ => Bool) (fun _ => Bool) false (fun _ => false) (fun _ => false) (fun _ => false) (fun _ => false) (fun _ => false) (fun _ => false) (fun _ _ => false) false (fun _ _ => false) (fun _ _ => false) false (fun _ _ _ _ => false) (fun _ _ _ _ => false) false false (fun _ => false) (fun _ _ _ _ _ => false) false (fun _ _ _ => false) false (fun _ _ => false) (fun _ _ => false) (fun m q => k m q) false (fun _ _ _ _ => false) v
theorem as_mod_inv {v : CV} {k : Nat → Nat → Bool} (h : as_mod v k = true) : ∃ m q, v = .mod m q ∧ k m q = true := by
  cases v with
  | mod m q => exact ⟨m, q, rfl, h⟩
  | _ => exact (Bool.false_ne_true h).elim
/-- A value, forced to its head. -/
noncomputable def fV (v : CV) (k : CV → Bool) : Bool :=
  @CV.rec (fun _ => Bool) (fun _ => Bool) (k .u) (fun b => k (.bool b)) (fun n => k (.i64 n)) (fun n => k (.i32 n)) (fun n => k (.u8 n)) (fun n => k (.u32 n)) (fun n => k (.u64 n)) (fun n s => k (.str n s)) (k .nilp) (fun b off => k (.ptr b off)) (fun s off => k (.loc s off)) (k .nils) (fun b off len cap => k (.slc b off len cap)) (fun b off len sz => k (.slu b off len sz)) (k .emp) (k .nilm) (fun b => k (.map b)) (fun f first cap _ _ => k (.fn f first cap)) (k .nilf) (fun t x _ => k (.ifc t x)) (k .nili) (fun l _ => k (.agg l)) (fun l _ => k (.tup l)) (fun m q => k (.mod m q)) false (fun _ _ _ _ => false) v
theorem fV_eq (v : CV) (k : CV → Bool) : fV v k = k v := by cases v <;> rfl
noncomputable def asA (v : CV) (f : P5 → Nat → Bool) (g : Nat → Nat → Bool) : Bool :=
  @CV.rec (fun _ => Bool) (fun _ => Bool) false (fun _ => false) (fun _ => false) (fun _ => false) (fun _ => false) (fun _ => false) (fun _ => false) (fun _ _ => false) false (fun b off => f b off) (fun s off => g s off) false (fun _ _ _ _ => false) (fun _ _ _ _ => false) false false (fun _ => false) (fun _ _ _ _ _ => false) false (fun _ _ _ => false) false (fun _ _ => false) (fun _ _ => false) (fun _ _ => false) false (fun _ _ _ _ => false) v
theorem asA_inv {v : CV} {f : P5 → Nat → Bool} {g : Nat → Nat → Bool} (h : asA v f g = true) : (∃ b o, v = .ptr b o ∧ f b o = true) ∨ ∃ s o, v = .loc s o ∧ g s o = true := by
  cases v with
  | ptr b o => exact .inl ⟨b, o, rfl, h⟩
  | loc b o => exact .inr ⟨b, o, rfl, h⟩
  | _ => exact (Bool.false_ne_true h).elim
noncomputable def asS (v : CV) (k0 : Bool) (k1 : P5 → Nat → Nat → Nat → Bool) (k2 : P5 → Nat → Nat → Nat → Bool) (k3 : Bool) : Bool :=
  @CV.rec (fun _ => Bool) (fun _ => Bool) false (fun _ => false) (fun _ => false) (fun _ => false) (fun _ => false) (fun _ => false) (fun _ => false) (fun _ _ => false) false (fun _ _ => false) (fun _ _ => false) (k0) (fun b off len cap => k1 b off len cap) (fun b off len sz => k2 b off len sz) (k3) false (fun _ => false) (fun _ _ _ _ _ => false) false (fun _ _ _ => false) false (fun _ _ => false) (fun _ _ => false) (fun _ _ => false) false (fun _ _ _ _ => false) v
theorem asS_inv {v : CV} {k0 : Bool} {k1 : P5 → Nat → Nat → Nat → Bool} {k2 : P5 → Nat → Nat → Nat → Bool} {k3 : Bool} (h : asS v k0 k1 k2 k3 = true) : (v = .nils ∧ k0 = true) ∨ (∃ b o l c, v = .slc b o l c ∧ k1 b o l c = true) ∨ (∃ b o l z, v = .slu b o l z ∧ k2 b o l z = true) ∨ (v = .emp ∧ k3 = true) := by
  cases v with
  | nils => exact .inl ⟨rfl, h⟩
  | slc b o l c => exact .inr (.inl ⟨b, o, l, c, rfl, h⟩)
  | slu b o l z => exact .inr (.inr (.inl ⟨b, o, l, z, rfl, h⟩))
  | emp => exact .inr (.inr (.inr ⟨rfl, h⟩))
  | _ => exact (Bool.false_ne_true h).elim
/-- A value that is no place and known: handed on. -/
noncomputable def okV (v : CV) (k : CV → Bool) : Bool :=
  @CV.rec (fun _ => Bool) (fun _ => Bool) false (fun b => k (.bool b)) (fun n => k (.i64 n)) (fun n => k (.i32 n)) (fun n => k (.u8 n)) (fun n => k (.u32 n)) (fun n => k (.u64 n)) (fun n s => k (.str n s)) (k .nilp) (fun b off => k (.ptr b off)) (fun _ _ => false) (k .nils) (fun b off len cap => k (.slc b off len cap)) (fun b off len sz => k (.slu b off len sz)) (k .emp) (k .nilm) (fun b => k (.map b)) (fun f first cap _ _ => k (.fn f first cap)) (k .nilf) (fun t x _ => k (.ifc t x)) (k .nili) (fun l _ => k (.agg l)) (fun l _ => k (.tup l)) (fun m q => k (.mod m q)) false (fun _ _ _ _ => false) v
theorem okV_inv {v : CV} {k : CV → Bool} (h : okV v k = true) : v ≠ .u ∧ (∀ s o, v ≠ .loc s o) ∧ k v = true := by
  cases v with
  | u => exact (Bool.false_ne_true h).elim
  | loc s o => exact (Bool.false_ne_true h).elim
  | _ => exact ⟨by simp, by simp, h⟩

end Go.Cx
namespace Go.Cx
open Go.Sx

section trees
variable {α : Type}
noncomputable def N8.sel (d : D8) (n : N8 α) : α := @D8.rec (fun _ => α) n.a0 n.a1 n.a2 n.a3 n.a4 n.a5 n.a6 n.a7 d
def N8.set (d : D8) (n : N8 α) (y : α) : N8 α := match d, n with
  | .d0, ⟨x0, x1, x2, x3, x4, x5, x6, x7⟩ => ⟨y, x1, x2, x3, x4, x5, x6, x7⟩
  | .d1, ⟨x0, x1, x2, x3, x4, x5, x6, x7⟩ => ⟨x0, y, x2, x3, x4, x5, x6, x7⟩
  | .d2, ⟨x0, x1, x2, x3, x4, x5, x6, x7⟩ => ⟨x0, x1, y, x3, x4, x5, x6, x7⟩
  | .d3, ⟨x0, x1, x2, x3, x4, x5, x6, x7⟩ => ⟨x0, x1, x2, y, x4, x5, x6, x7⟩
  | .d4, ⟨x0, x1, x2, x3, x4, x5, x6, x7⟩ => ⟨x0, x1, x2, x3, y, x5, x6, x7⟩
  | .d5, ⟨x0, x1, x2, x3, x4, x5, x6, x7⟩ => ⟨x0, x1, x2, x3, x4, y, x6, x7⟩
  | .d6, ⟨x0, x1, x2, x3, x4, x5, x6, x7⟩ => ⟨x0, x1, x2, x3, x4, x5, y, x7⟩
  | .d7, ⟨x0, x1, x2, x3, x4, x5, x6, x7⟩ => ⟨x0, x1, x2, x3, x4, x5, x6, y⟩
noncomputable def upd0 (n : N8 α) (f : α → (α → Bool) → Bool) (k : N8 α → Bool) : Bool := @N8.rec α (fun _ => Bool) (fun x0 x1 x2 x3 x4 x5 x6 x7 => f x0 fun y => k ⟨y, x1, x2, x3, x4, x5, x6, x7⟩) n
noncomputable def upd1 (n : N8 α) (f : α → (α → Bool) → Bool) (k : N8 α → Bool) : Bool := @N8.rec α (fun _ => Bool) (fun x0 x1 x2 x3 x4 x5 x6 x7 => f x1 fun y => k ⟨x0, y, x2, x3, x4, x5, x6, x7⟩) n
noncomputable def upd2 (n : N8 α) (f : α → (α → Bool) → Bool) (k : N8 α → Bool) : Bool := @N8.rec α (fun _ => Bool) (fun x0 x1 x2 x3 x4 x5 x6 x7 => f x2 fun y => k ⟨x0, x1, y, x3, x4, x5, x6, x7⟩) n
noncomputable def upd3 (n : N8 α) (f : α → (α → Bool) → Bool) (k : N8 α → Bool) : Bool := @N8.rec α (fun _ => Bool) (fun x0 x1 x2 x3 x4 x5 x6 x7 => f x3 fun y => k ⟨x0, x1, x2, y, x4, x5, x6, x7⟩) n
noncomputable def upd4 (n : N8 α) (f : α → (α → Bool) → Bool) (k : N8 α → Bool) : Bool := @N8.rec α (fun _ => Bool) (fun x0 x1 x2 x3 x4 x5 x6 x7 => f x4 fun y => k ⟨x0, x1, x2, x3, y, x5, x6, x7⟩) n
noncomputable def upd5 (n : N8 α) (f : α → (α → Bool) → Bool) (k : N8 α → Bool) : Bool := @N8.rec α (fun _ => Bool) (fun x0 x1 x2 x3 x4 x5 x6 x7 => f x5 fun y => k ⟨x0, x1, x2, x3, x4, y, x6, x7⟩) n
noncomputable def upd6 (n : N8 α) (f : α → (α → Bool) → Bool) (k : N8 α → Bool) : Bool := @N8.rec α (fun _ => Bool) (fun x0 x1 x2 x3 x4 x5 x6 x7 => f x6 fun y => k ⟨x0, x1, x2, x3, x4, x5, y, x7⟩) n
noncomputable def upd7 (n : N8 α) (f : α → (α → Bool) → Bool) (k : N8 α → Bool) : Bool := @N8.rec α (fun _ => Bool) (fun x0 x1 x2 x3 x4 x5 x6 x7 => f x7 fun y => k ⟨x0, x1, x2, x3, x4, x5, x6, y⟩) n
noncomputable def upd (d : D8) (n : N8 α) (f : α → (α → Bool) → Bool) (k : N8 α → Bool) : Bool := @D8.rec (fun _ => Bool) (upd0 n f k) (upd1 n f k) (upd2 n f k) (upd3 n f k) (upd4 n f k) (upd5 n f k) (upd6 n f k) (upd7 n f k) d
theorem upd_eq (d : D8) (n : N8 α) (f : α → (α → Bool) → Bool) (k : N8 α → Bool) : upd d n f k = f (n.sel d) fun y => k (n.set d y) := by cases d <;> rfl
theorem sel_set (d d' : D8) (n : N8 α) (y : α) : (n.set d y).sel d' = if d = d' then y else n.sel d' := by cases d <;> cases d' <;> rfl
end trees

def dg (n : Nat) : D8 := match n with
  | 0 => .d0
  | 1 => .d1
  | 2 => .d2
  | 3 => .d3
  | 4 => .d4
  | 5 => .d5
  | 6 => .d6
  | _ => .d7

/-! The heap. -/
inductive CO where
  | none
  | dead
  | cells (l : List CV) (e : Nat)
  | ro (l : List CV) (e : Nat)
  | map (l : List (CV × CV))
  | sit (n : Nat) (s : Nat) (p : Nat)
noncomputable def asNone (o : CO) (k : Bool) : Bool := @CO.rec (fun _ => Bool) k false (fun _ _ => false) (fun _ _ => false) (fun _ => false) (fun _ _ _ => false) o
noncomputable def asCells (o : CO) (k : List CV → Nat → Bool) : Bool := @CO.rec (fun _ => Bool) false false (fun l e => k l e) (fun _ _ => false) (fun _ => false) (fun _ _ _ => false) o
/-- Cells that are only read. -/
noncomputable def asRead (o : CO) (k : List CV → Nat → Bool) : Bool := @CO.rec (fun _ => Bool) false false (fun l e => k l e) (fun l e => k l e) (fun _ => false) (fun _ _ _ => false) o
noncomputable def asMp (o : CO) (k : List (CV × CV) → Bool) : Bool := @CO.rec (fun _ => Bool) false false (fun _ _ => false) (fun _ _ => false) (fun l => k l) (fun _ _ _ => false) o
noncomputable def asSit (o : CO) (k : Nat → Nat → Nat → Bool) : Bool := @CO.rec (fun _ => Bool) false false (fun _ _ => false) (fun _ _ => false) (fun _ => false) (fun n s p => k n s p) o
theorem asSit_inv {o : CO} {k : Nat → Nat → Nat → Bool} (h : asSit o k = true) : ∃ n s p, o = .sit n s p ∧ k n s p = true := by
  cases o with
  | sit n s p => exact ⟨n, s, p, rfl, h⟩
  | _ => exact (Bool.false_ne_true h).elim
theorem asNone_inv {o : CO} {k : Bool} (h : asNone o k = true) : o = .none ∧ k = true := by
  cases o with
  | none => exact ⟨rfl, h⟩
  | _ => exact (Bool.false_ne_true h).elim
theorem asCells_inv {o : CO} {k : List CV → Nat → Bool} (h : asCells o k = true) : ∃ l e, o = .cells l e ∧ k l e = true := by
  cases o with
  | cells l e => exact ⟨l, e, rfl, h⟩
  | _ => exact (Bool.false_ne_true h).elim
theorem asRead_inv {o : CO} {k : List CV → Nat → Bool} (h : asRead o k = true) : ∃ l e, (o = .cells l e ∨ o = .ro l e) ∧ k l e = true := by
  cases o with
  | cells l e => exact ⟨l, e, .inl rfl, h⟩
  | ro l e => exact ⟨l, e, .inr rfl, h⟩
  | _ => exact (Bool.false_ne_true h).elim
theorem asMp_inv {o : CO} {k : List (CV × CV) → Bool} (h : asMp o k = true) : ∃ l, o = .map l ∧ k l = true := by
  cases o with
  | map l => exact ⟨l, rfl, h⟩
  | _ => exact (Bool.false_ne_true h).elim

abbrev HP := N8 (N8 (N8 (N8 (N8 CO))))
noncomputable def lkH (H : HP) (p : P5) : CO := ((((H.sel p.a).sel p.b).sel p.c).sel p.d).sel p.e
noncomputable def stH (H : HP) (p : P5) (o : CO) : HP := H.set p.a ((H.sel p.a).set p.b (((H.sel p.a).sel p.b).set p.c ((((H.sel p.a).sel p.b).sel p.c).set p.d (((((H.sel p.a).sel p.b).sel p.c).sel p.d).set p.e o))))
noncomputable def hget (H : HP) (p : P5) (k : CO → Bool) : Bool := @P5.rec (fun _ => Bool) (fun a b c d e => k (N8.sel e (N8.sel d (N8.sel c (N8.sel b (N8.sel a H)))))) p
noncomputable def hmod (H : HP) (p : P5) (f : CO → (CO → Bool) → Bool) (k : HP → Bool) : Bool := @P5.rec (fun _ => Bool) (fun a b c d e => upd a H (fun h1 => upd b h1 (fun h2 => upd c h2 (fun h3 => upd d h3 (fun h4 => upd e h4 f)))) k) p
theorem hget_eq (H : HP) (p : P5) (k : CO → Bool) : hget H p k = k (lkH H p) := rfl
theorem hmod_eq (H : HP) (p : P5) (f : CO → (CO → Bool) → Bool) (k : HP → Bool) : hmod H p f k = f (lkH H p) fun o => k (stH H p o) := by
  show upd _ _ _ _ = _
  simp only [upd_eq]
  rfl
noncomputable def hput (H : HP) (p : P5) (o : CO) (k : HP → Bool) : Bool := hmod H p (fun _ k => k o) k
theorem hput_eq (H : HP) (p : P5) (o : CO) (k : HP → Bool) : hput H p o k = k (stH H p o) := hmod_eq ..
/-- A new block's: there must be nothing yet. -/
noncomputable def hnew (H : HP) (p : P5) (o : CO) (k : HP → Bool) : Bool := hmod H p (fun was k => asNone was (k o)) k
theorem hnew_inv {H : HP} {p : P5} {o : CO} {k : HP → Bool} (h : hnew H p o k = true) : lkH H p = .none ∧ k (stH H p o) = true := by
  unfold hnew at h
  rw [hmod_eq] at h
  exact asNone_inv h
theorem lkH_stH (H : HP) (p q : P5) (o : CO) : lkH (stH H p o) q = if p = q then o else lkH H q := by
  obtain ⟨a, b, c, d, e⟩ := p
  obtain ⟨a', b', c', d', e'⟩ := q
  by_cases h1 : a = a'
  · subst h1
    by_cases h2 : b = b'
    · subst h2
      by_cases h3 : c = c'
      · subst h3
        by_cases h4 : d = d'
        · subst h4
          by_cases h5 : e = e'
          · subst h5; simp [lkH, stH, sel_set]
          · simp [lkH, stH, sel_set, h5]
        · simp [lkH, stH, sel_set, h4]
      · simp [lkH, stH, sel_set, h3]
    · simp [lkH, stH, sel_set, h2]
  · simp [lkH, stH, sel_set, h1]

noncomputable def incD (d : D8) (f : D8 → Bool) (over : Bool) : Bool := @D8.rec (fun _ => Bool) (f .d1) (f .d2) (f .d3) (f .d4) (f .d5) (f .d6) (f .d7) over d
/-- The next number. -/
noncomputable def nextP (p : P5) (k : P5 → Bool) : Bool := @P5.rec (fun _ => Bool) (fun a b c d e =>
  incD a (fun a => k ⟨a, b, c, d, e⟩) (incD b (fun b => k ⟨.d0, b, c, d, e⟩) (incD c (fun c => k ⟨.d0, .d0, c, d, e⟩) (incD d (fun d => k ⟨.d0, .d0, .d0, d, e⟩) (incD e (fun e => k ⟨.d0, .d0, .d0, .d0, e⟩) false))))) p
theorem incD_inv {d : D8} {f : D8 → Bool} {o : Bool} (h : incD d f o = true) : (∃ d', f d' = true) ∨ o = true := by
  cases d with
  | d7 => exact .inr h
  | _ => exact .inl ⟨_, h⟩
theorem nextP_inv {p : P5} {k : P5 → Bool} (h0 : nextP p k = true) : ∃ q, k q = true := by
  obtain ⟨a, b, c, d, e⟩ := p
  have h : incD a (fun a => k ⟨a, b, c, d, e⟩) (incD b (fun b => k ⟨.d0, b, c, d, e⟩) (incD c (fun c => k ⟨.d0, .d0, c, d, e⟩) (incD d (fun d => k ⟨.d0, .d0, .d0, d, e⟩) (incD e (fun e => k ⟨.d0, .d0, .d0, .d0, e⟩) false)))) = true := h0
  rcases incD_inv h with ⟨_, h⟩ | h
  · exact ⟨_, h⟩
  rcases incD_inv h with ⟨_, h⟩ | h
  · exact ⟨_, h⟩
  rcases incD_inv h with ⟨_, h⟩ | h
  · exact ⟨_, h⟩
  rcases incD_inv h with ⟨_, h⟩ | h
  · exact ⟨_, h⟩
  rcases incD_inv h with ⟨_, h⟩ | h
  · exact ⟨_, h⟩
  · exact (Bool.false_ne_true h).elim


/-! Nodes of sixteen, for the slots. -/
inductive D16 where | d0 | d1 | d2 | d3 | d4 | d5 | d6 | d7 | d8 | d9 | d10 | d11 | d12 | d13 | d14 | d15
deriving DecidableEq
structure N16 (α : Type) where
  a0 : α
  a1 : α
  a2 : α
  a3 : α
  a4 : α
  a5 : α
  a6 : α
  a7 : α
  a8 : α
  a9 : α
  a10 : α
  a11 : α
  a12 : α
  a13 : α
  a14 : α
  a15 : α
section trees16
variable {α : Type}
noncomputable def N16.sel (d : D16) (n : N16 α) : α := @D16.rec (fun _ => α) n.a0 n.a1 n.a2 n.a3 n.a4 n.a5 n.a6 n.a7 n.a8 n.a9 n.a10 n.a11 n.a12 n.a13 n.a14 n.a15 d
def N16.set (d : D16) (n : N16 α) (y : α) : N16 α := match d, n with
  | .d0, ⟨x0, x1, x2, x3, x4, x5, x6, x7, x8, x9, x10, x11, x12, x13, x14, x15⟩ => ⟨y, x1, x2, x3, x4, x5, x6, x7, x8, x9, x10, x11, x12, x13, x14, x15⟩
  | .d1, ⟨x0, x1, x2, x3, x4, x5, x6, x7, x8, x9, x10, x11, x12, x13, x14, x15⟩ => ⟨x0, y, x2, x3, x4, x5, x6, x7, x8, x9, x10, x11, x12, x13, x14, x15⟩
  | .d2, ⟨x0, x1, x2, x3, x4, x5, x6, x7, x8, x9, x10, x11, x12, x13, x14, x15⟩ => ⟨x0, x1, y, x3, x4, x5, x6, x7, x8, x9, x10, x11, x12, x13, x14, x15⟩
  | .d3, ⟨x0, x1, x2, x3, x4, x5, x6, x7, x8, x9, x10, x11, x12, x13, x14, x15⟩ => ⟨x0, x1, x2, y, x4, x5, x6, x7, x8, x9, x10, x11, x12, x13, x14, x15⟩
  | .d4, ⟨x0, x1, x2, x3, x4, x5, x6, x7, x8, x9, x10, x11, x12, x13, x14, x15⟩ => ⟨x0, x1, x2, x3, y, x5, x6, x7, x8, x9, x10, x11, x12, x13, x14, x15⟩
  | .d5, ⟨x0, x1, x2, x3, x4, x5, x6, x7, x8, x9, x10, x11, x12, x13, x14, x15⟩ => ⟨x0, x1, x2, x3, x4, y, x6, x7, x8, x9, x10, x11, x12, x13, x14, x15⟩
  | .d6, ⟨x0, x1, x2, x3, x4, x5, x6, x7, x8, x9, x10, x11, x12, x13, x14, x15⟩ => ⟨x0, x1, x2, x3, x4, x5, y, x7, x8, x9, x10, x11, x12, x13, x14, x15⟩
  | .d7, ⟨x0, x1, x2, x3, x4, x5, x6, x7, x8, x9, x10, x11, x12, x13, x14, x15⟩ => ⟨x0, x1, x2, x3, x4, x5, x6, y, x8, x9, x10, x11, x12, x13, x14, x15⟩
  | .d8, ⟨x0, x1, x2, x3, x4, x5, x6, x7, x8, x9, x10, x11, x12, x13, x14, x15⟩ => ⟨x0, x1, x2, x3, x4, x5, x6, x7, y, x9, x10, x11, x12, x13, x14, x15⟩
  | .d9, ⟨x0, x1, x2, x3, x4, x5, x6, x7, x8, x9, x10, x11, x12, x13, x14, x15⟩ => ⟨x0, x1, x2, x3, x4, x5, x6, x7, x8, y, x10, x11, x12, x13, x14, x15⟩
  | .d10, ⟨x0, x1, x2, x3, x4, x5, x6, x7, x8, x9, x10, x11, x12, x13, x14, x15⟩ => ⟨x0, x1, x2, x3, x4, x5, x6, x7, x8, x9, y, x11, x12, x13, x14, x15⟩
  | .d11, ⟨x0, x1, x2, x3, x4, x5, x6, x7, x8, x9, x10, x11, x12, x13, x14, x15⟩ => ⟨x0, x1, x2, x3, x4, x5, x6, x7, x8, x9, x10, y, x12, x13, x14, x15⟩
  | .d12, ⟨x0, x1, x2, x3, x4, x5, x6, x7, x8, x9, x10, x11, x12, x13, x14, x15⟩ => ⟨x0, x1, x2, x3, x4, x5, x6, x7, x8, x9, x10, x11, y, x13, x14, x15⟩
  | .d13, ⟨x0, x1, x2, x3, x4, x5, x6, x7, x8, x9, x10, x11, x12, x13, x14, x15⟩ => ⟨x0, x1, x2, x3, x4, x5, x6, x7, x8, x9, x10, x11, x12, y, x14, x15⟩
  | .d14, ⟨x0, x1, x2, x3, x4, x5, x6, x7, x8, x9, x10, x11, x12, x13, x14, x15⟩ => ⟨x0, x1, x2, x3, x4, x5, x6, x7, x8, x9, x10, x11, x12, x13, y, x15⟩
  | .d15, ⟨x0, x1, x2, x3, x4, x5, x6, x7, x8, x9, x10, x11, x12, x13, x14, x15⟩ => ⟨x0, x1, x2, x3, x4, x5, x6, x7, x8, x9, x10, x11, x12, x13, x14, y⟩
structure PrB (α : Type) where
  run : N16 α → α
def prB (d : D16) : PrB α := match d with
  | .d0 => ⟨fun n => n.a0⟩
  | .d1 => ⟨fun n => n.a1⟩
  | .d2 => ⟨fun n => n.a2⟩
  | .d3 => ⟨fun n => n.a3⟩
  | .d4 => ⟨fun n => n.a4⟩
  | .d5 => ⟨fun n => n.a5⟩
  | .d6 => ⟨fun n => n.a6⟩
  | .d7 => ⟨fun n => n.a7⟩
  | .d8 => ⟨fun n => n.a8⟩
  | .d9 => ⟨fun n => n.a9⟩
  | .d10 => ⟨fun n => n.a10⟩
  | .d11 => ⟨fun n => n.a11⟩
  | .d12 => ⟨fun n => n.a12⟩
  | .d13 => ⟨fun n => n.a13⟩
  | .d14 => ⟨fun n => n.a14⟩
  | .d15 => ⟨fun n => n.a15⟩
theorem prB_eq (d : D16) (n : N16 α) : (prB d).run n = n.sel d := by cases d <;> rfl
structure UpB (α : Type) where
  run : N16 α → (α → (α → Bool) → Bool) → (N16 α → Bool) → Bool
noncomputable def upB (d : D16) : UpB α := match d with
  | .d0 => ⟨fun n f k => @N16.rec α (fun _ => Bool) (fun x0 x1 x2 x3 x4 x5 x6 x7 x8 x9 x10 x11 x12 x13 x14 x15 => f x0 fun y => k ⟨y, x1, x2, x3, x4, x5, x6, x7, x8, x9, x10, x11, x12, x13, x14, x15⟩) n⟩
  | .d1 => ⟨fun n f k => @N16.rec α (fun _ => Bool) (fun x0 x1 x2 x3 x4 x5 x6 x7 x8 x9 x10 x11 x12 x13 x14 x15 => f x1 fun y => k ⟨x0, y, x2, x3, x4, x5, x6, x7, x8, x9, x10, x11, x12, x13, x14, x15⟩) n⟩
  | .d2 => ⟨fun n f k => @N16.rec α (fun _ => Bool) (fun x0 x1 x2 x3 x4 x5 x6 x7 x8 x9 x10 x11 x12 x13 x14 x15 => f x2 fun y => k ⟨x0, x1, y, x3, x4, x5, x6, x7, x8, x9, x10, x11, x12, x13, x14, x15⟩) n⟩
  | .d3 => ⟨fun n f k => @N16.rec α (fun _ => Bool) (fun x0 x1 x2 x3 x4 x5 x6 x7 x8 x9 x10 x11 x12 x13 x14 x15 => f x3 fun y => k ⟨x0, x1, x2, y, x4, x5, x6, x7, x8, x9, x10, x11, x12, x13, x14, x15⟩) n⟩
  | .d4 => ⟨fun n f k => @N16.rec α (fun _ => Bool) (fun x0 x1 x2 x3 x4 x5 x6 x7 x8 x9 x10 x11 x12 x13 x14 x15 => f x4 fun y => k ⟨x0, x1, x2, x3, y, x5, x6, x7, x8, x9, x10, x11, x12, x13, x14, x15⟩) n⟩
  | .d5 => ⟨fun n f k => @N16.rec α (fun _ => Bool) (fun x0 x1 x2 x3 x4 x5 x6 x7 x8 x9 x10 x11 x12 x13 x14 x15 => f x5 fun y => k ⟨x0, x1, x2, x3, x4, y, x6, x7, x8, x9, x10, x11, x12, x13, x14, x15⟩) n⟩
  | .d6 => ⟨fun n f k => @N16.rec α (fun _ => Bool) (fun x0 x1 x2 x3 x4 x5 x6 x7 x8 x9 x10 x11 x12 x13 x14 x15 => f x6 fun y => k ⟨x0, x1, x2, x3, x4, x5, y, x7, x8, x9, x10, x11, x12, x13, x14, x15⟩) n⟩
  | .d7 => ⟨fun n f k => @N16.rec α (fun _ => Bool) (fun x0 x1 x2 x3 x4 x5 x6 x7 x8 x9 x10 x11 x12 x13 x14 x15 => f x7 fun y => k ⟨x0, x1, x2, x3, x4, x5, x6, y, x8, x9, x10, x11, x12, x13, x14, x15⟩) n⟩
  | .d8 => ⟨fun n f k => @N16.rec α (fun _ => Bool) (fun x0 x1 x2 x3 x4 x5 x6 x7 x8 x9 x10 x11 x12 x13 x14 x15 => f x8 fun y => k ⟨x0, x1, x2, x3, x4, x5, x6, x7, y, x9, x10, x11, x12, x13, x14, x15⟩) n⟩
  | .d9 => ⟨fun n f k => @N16.rec α (fun _ => Bool) (fun x0 x1 x2 x3 x4 x5 x6 x7 x8 x9 x10 x11 x12 x13 x14 x15 => f x9 fun y => k ⟨x0, x1, x2, x3, x4, x5, x6, x7, x8, y, x10, x11, x12, x13, x14, x15⟩) n⟩
  | .d10 => ⟨fun n f k => @N16.rec α (fun _ => Bool) (fun x0 x1 x2 x3 x4 x5 x6 x7 x8 x9 x10 x11 x12 x13 x14 x15 => f x10 fun y => k ⟨x0, x1, x2, x3, x4, x5, x6, x7, x8, x9, y, x11, x12, x13, x14, x15⟩) n⟩
  | .d11 => ⟨fun n f k => @N16.rec α (fun _ => Bool) (fun x0 x1 x2 x3 x4 x5 x6 x7 x8 x9 x10 x11 x12 x13 x14 x15 => f x11 fun y => k ⟨x0, x1, x2, x3, x4, x5, x6, x7, x8, x9, x10, y, x12, x13, x14, x15⟩) n⟩
  | .d12 => ⟨fun n f k => @N16.rec α (fun _ => Bool) (fun x0 x1 x2 x3 x4 x5 x6 x7 x8 x9 x10 x11 x12 x13 x14 x15 => f x12 fun y => k ⟨x0, x1, x2, x3, x4, x5, x6, x7, x8, x9, x10, x11, y, x13, x14, x15⟩) n⟩
  | .d13 => ⟨fun n f k => @N16.rec α (fun _ => Bool) (fun x0 x1 x2 x3 x4 x5 x6 x7 x8 x9 x10 x11 x12 x13 x14 x15 => f x13 fun y => k ⟨x0, x1, x2, x3, x4, x5, x6, x7, x8, x9, x10, x11, x12, y, x14, x15⟩) n⟩
  | .d14 => ⟨fun n f k => @N16.rec α (fun _ => Bool) (fun x0 x1 x2 x3 x4 x5 x6 x7 x8 x9 x10 x11 x12 x13 x14 x15 => f x14 fun y => k ⟨x0, x1, x2, x3, x4, x5, x6, x7, x8, x9, x10, x11, x12, x13, y, x15⟩) n⟩
  | .d15 => ⟨fun n f k => @N16.rec α (fun _ => Bool) (fun x0 x1 x2 x3 x4 x5 x6 x7 x8 x9 x10 x11 x12 x13 x14 x15 => f x15 fun y => k ⟨x0, x1, x2, x3, x4, x5, x6, x7, x8, x9, x10, x11, x12, x13, x14, y⟩) n⟩
theorem upB_eq (d : D16) (n : N16 α) (f : α → (α → Bool) → Bool) (k : N16 α → Bool) : (upB d).run n f k = f (n.sel d) fun y => k (n.set d y) := by cases d <;> rfl
theorem sel_set16 (d d' : D16) (n : N16 α) (y : α) : (n.set d y).sel d' = if d = d' then y else n.sel d' := by
  cases d <;> cases d' <;> first | (rw [if_pos rfl]; rfl) | (rw [if_neg (fun h => by cases h)]; rfl)
end trees16
def dh (n : Nat) : D16 := match n with
  | 0 => .d0
  | 1 => .d1
  | 2 => .d2
  | 3 => .d3
  | 4 => .d4
  | 5 => .d5
  | 6 => .d6
  | 7 => .d7
  | 8 => .d8
  | 9 => .d9
  | 10 => .d10
  | 11 => .d11
  | 12 => .d12
  | 13 => .d13
  | 14 => .d14
  | _ => .d15

/-! The slots. -/
abbrev E := N16 (N16 CV)
noncomputable def getE (t : Nat) (e : E) : CV := N16.sel (dh (t % 16)) (N16.sel (dh (t / 16)) e)
noncomputable def setE (t : Nat) (e : E) (v : CV) : E := e.set (dh (t / 16)) ((e.sel (dh (t / 16))).set (dh (t % 16)) v)
noncomputable def putE (t : Nat) (e : E) (v : CV) (k : E → Bool) : Bool := (upB (dh (t / 16))).run e (fun e1 => (upB (dh (t % 16))).run e1 (fun _ k => k v)) k
theorem putE_eq (t : Nat) (e : E) (v : CV) (k : E → Bool) : putE t e v k = k (setE t e v) := by
  unfold putE
  simp only [upB_eq]
  rfl
theorem dh_inj {i j : Nat} (hi : i < 16) (hj : j < 16) (h : dh i = dh j) : i = j := by
  have ci : i = 0 ∨ i = 1 ∨ i = 2 ∨ i = 3 ∨ i = 4 ∨ i = 5 ∨ i = 6 ∨ i = 7 ∨ i = 8 ∨ i = 9 ∨ i = 10 ∨ i = 11 ∨ i = 12 ∨ i = 13 ∨ i = 14 ∨ i = 15 := by omega
  have cj : j = 0 ∨ j = 1 ∨ j = 2 ∨ j = 3 ∨ j = 4 ∨ j = 5 ∨ j = 6 ∨ j = 7 ∨ j = 8 ∨ j = 9 ∨ j = 10 ∨ j = 11 ∨ j = 12 ∨ j = 13 ∨ j = 14 ∨ j = 15 := by omega
  rcases ci with rfl | rfl | rfl | rfl | rfl | rfl | rfl | rfl | rfl | rfl | rfl | rfl | rfl | rfl | rfl | rfl <;> rcases cj with rfl | rfl | rfl | rfl | rfl | rfl | rfl | rfl | rfl | rfl | rfl | rfl | rfl | rfl | rfl | rfl <;> first | rfl | (cases h)
theorem getE_setE {t t' : Nat} (ht : t < 256) (ht' : t' < 256) (e : E) (v : CV) : getE t' (setE t e v) = if t = t' then v else getE t' e := by
  unfold getE setE
  by_cases h : t = t'
  · subst h
    rw [sel_set16, if_pos rfl, sel_set16, if_pos rfl, if_pos rfl]
  · rw [if_neg h, sel_set16]
    by_cases h1 : dh (t / 16) = dh (t' / 16)
    · rw [if_pos h1, sel_set16]
      have a1 := dh_inj (by omega) (by omega) h1
      by_cases h3 : dh (t % 16) = dh (t' % 16)
      · have a3 := dh_inj (by omega) (by omega) h3
        omega
      · rw [if_neg h3, h1]
    · rw [if_neg h1]
def e0 : E := ⟨Z, Z, Z, Z, Z, Z, Z, Z, Z, Z, Z, Z, Z, Z, Z, Z⟩
where Z : N16 CV := ⟨.u, .u, .u, .u, .u, .u, .u, .u, .u, .u, .u, .u, .u, .u, .u, .u⟩
theorem getE_e0 (t : Nat) : getE t e0 = .u := by
  unfold getE
  have h1 : ∀ d, N16.sel d e0 = e0.Z := fun d => by cases d <;> rfl
  have h2 : ∀ d, N16.sel d e0.Z = .u := fun d => by cases d <;> rfl
  rw [h1, h2]

structure GB where
  run : E → CV
noncomputable def gB (nt t : Nat) : GB := if t < nt then (match (prB (dh (t / 16)) : PrB (N16 CV)), (prB (dh (t % 16)) : PrB CV) with
  | ⟨f⟩, ⟨g⟩ => ⟨fun e => g (f e)⟩) else ⟨fun _ => .u⟩
theorem gB_eq {nt t : Nat} (h : t < nt) (e : E) : (gB nt t).run e = getE t e := by
  unfold gB getE
  rw [if_pos h, ← prB_eq, ← prB_eq]
structure PB where
  run : E → CV → (E → Bool) → Bool
noncomputable def pB (nt : Nat) (d : Option Nat) : PB := match d with
  | none => ⟨fun e _ k => k e⟩
  | some t => if t < nt then (match (upB (dh (t / 16)) : UpB (N16 CV)), (upB (dh (t % 16)) : UpB CV) with
    | ⟨f⟩, ⟨g⟩ => ⟨fun e v k => f e (fun n => g n (fun _ k => k v)) k⟩) else ⟨fun _ _ _ => false⟩
theorem pB_eq {nt t : Nat} (h : t < nt) (e : E) (v : CV) (k : E → Bool) : (pB nt (some t)).run e v k = putE t e v k := by
  unfold pB putE
  simp only [if_pos h]


/-! Forced numbers. -/
noncomputable def fN (n : Nat) (k : Nat → Bool) : Bool := @Nat.rec (fun _ => Bool) false (fun m _ => k m) (Nat.succ n)
theorem fN_eq (n : Nat) (k : Nat → Bool) : fN n k = k n := rfl
noncomputable def fI (n : Int) (k : Int → Bool) : Bool := @Int.rec (fun _ => Bool) (fun n => fN n fun n => k (.ofNat n)) (fun n => fN n fun n => k (.negSucc n)) n
theorem fI_eq (n : Int) (k : Int → Bool) : fI n k = k n := by cases n <;> rfl
noncomputable def fB (b : Bool) (k : Bool → Bool) : Bool := @Bool.rec (fun _ => Bool) (k false) (k true) b
theorem fB_eq (b : Bool) (k : Bool → Bool) : fB b k = k b := by cases b <;> rfl
/-- Only if. -/
noncomputable def chk (b : Bool) (k : Bool) : Bool := @Bool.rec (fun _ => Bool) false k b
theorem chk_inv {b k : Bool} (h : chk b k = true) : b = true ∧ k = true := by
  cases b with
  | true => exact ⟨rfl, h⟩
  | false => exact (Bool.false_ne_true h).elim
noncomputable def ite' (b : Bool) (x y : Bool) : Bool := @Bool.rec (fun _ => Bool) y x b
theorem ite'_inv {b x y : Bool} (h : ite' b x y = true) : (b = true ∧ x = true) ∨ (b = false ∧ y = true) := by
  cases b with
  | true => exact .inl ⟨rfl, h⟩
  | false => exact .inr ⟨rfl, h⟩
/-- A number that is not negative. -/
noncomputable def natI (n : Int) (k : Nat → Bool) : Bool := @Int.rec (fun _ => Bool) (fun n => k n) (fun _ => false) n
theorem natI_inv {n : Int} {k : Nat → Bool} (h : natI n k = true) : ∃ m : Nat, n = m ∧ k m = true := by
  cases n with
  | ofNat m => exact ⟨m, rfl, h⟩
  | negSucc m => exact (Bool.false_ne_true h).elim

/-! Lists. -/
section lists
variable {α : Type}
noncomputable def nthK (i : Nat) (l : List α) (k : α → Bool) : Bool := @Nat.rec (fun _ => List α → Bool) (fun l => @List.rec α (fun _ => Bool) false (fun x _ _ => k x) l) (fun _ ih l => @List.rec α (fun _ => Bool) false (fun _ r _ => ih r) l) i l
theorem nthK_inv {k : α → Bool} : ∀ {i : Nat} {l : List α}, nthK i l k = true → ∃ v, l[i]? = some v ∧ k v = true
  | 0, [], h => (Bool.false_ne_true h).elim
  | 0, x :: _, h => ⟨x, rfl, h⟩
  | i + 1, [], h => (Bool.false_ne_true h).elim
  | i + 1, _ :: r, h => by
    obtain ⟨v, h1, h2⟩ := nthK_inv (i := i) (l := r) h
    exact ⟨v, by simpa using h1, h2⟩
/-- Cut off the first i. -/
noncomputable def dropK (i : Nat) (l : List α) (k : List α → Bool) : Bool := @Nat.rec (fun _ => List α → Bool) (fun l => k l) (fun _ ih l => @List.rec α (fun _ => Bool) false (fun _ r _ => ih r) l) i l
theorem dropK_inv {k : List α → Bool} : ∀ {i : Nat} {l : List α}, dropK i l k = true → i ≤ l.length ∧ k (l.drop i) = true
  | 0, l, h => ⟨by omega, h⟩
  | i + 1, [], h => (Bool.false_ne_true h).elim
  | i + 1, _ :: r, h => by
    obtain ⟨h1, h2⟩ := dropK_inv (i := i) (l := r) h
    exact ⟨by simp; omega, by simpa using h2⟩
noncomputable def takeK (n : Nat) (l : List α) (k : List α → Bool) : Bool := @Nat.rec (fun _ => List α → (List α → Bool) → Bool) (fun _ k => k []) (fun _ ih l k => @List.rec α (fun _ => Bool) false (fun x r _ => ih r fun ys => k (x :: ys)) l) n l k
theorem takeK_inv : ∀ {n : Nat} {l : List α} {k : List α → Bool}, takeK n l k = true → n ≤ l.length ∧ k (l.take n) = true
  | 0, l, k, h => ⟨by omega, h⟩
  | i + 1, [], k, h => (Bool.false_ne_true h).elim
  | i + 1, x :: r, k, h => by
    obtain ⟨h1, h2⟩ := takeK_inv (n := i) (l := r) (k := fun ys => k (x :: ys)) h
    exact ⟨by simp; omega, by simpa using h2⟩
/-- n cells from an offset on. -/
noncomputable def cutK (off n : Nat) (l : List α) (k : List α → Bool) : Bool := dropK off l fun l => takeK n l k
theorem cutK_inv {off n : Nat} {l : List α} {k : List α → Bool} (h : cutK off n l k = true) : off + n ≤ l.length ∧ k ((l.drop off).take n) = true := by
  obtain ⟨h1, h2⟩ := dropK_inv h
  obtain ⟨h3, h4⟩ := takeK_inv h2
  simp at h3
  exact ⟨by omega, h4⟩
noncomputable def ovr (vs : List α) (l : List α) (k : List α → Bool) : Bool := @List.rec α (fun _ => List α → (List α → Bool) → Bool) (fun l k => k l) (fun v _ ih l k => @List.rec α (fun _ => Bool) false (fun _ r _ => ih r fun r => k (v :: r)) l) vs l k
noncomputable def ovK (off : Nat) (vs : List α) (l : List α) (k : List α → Bool) : Bool := @Nat.rec (fun _ => List α → (List α → Bool) → Bool) (fun l k => ovr vs l k) (fun _ ih l k => @List.rec α (fun _ => Bool) false (fun x r _ => ih r fun r => k (x :: r)) l) off l k
theorem ovr_inv : ∀ {vs l : List α} {k : List α → Bool}, ovr vs l k = true → vs.length ≤ l.length ∧ k (vs ++ l.drop vs.length) = true
  | [], l, k, h => ⟨by simp, by simpa [ovr] using h⟩
  | v :: vs, [], k, h => (Bool.false_ne_true h).elim
  | v :: vs, x :: r, k, h => by
    obtain ⟨h1, h2⟩ := ovr_inv (vs := vs) (l := r) (k := fun r => k (v :: r)) h
    exact ⟨by simp; omega, by simpa using h2⟩
/-- Cells laid over others. -/
def over (off : Nat) (vs l : List α) : List α := l.take off ++ vs ++ l.drop (off + vs.length)
theorem ovK_inv : ∀ {off : Nat} {vs l : List α} {k : List α → Bool}, ovK off vs l k = true → off + vs.length ≤ l.length ∧ k (over off vs l) = true
  | 0, vs, l, k, h => by
    obtain ⟨h1, h2⟩ := ovr_inv (vs := vs) (l := l) (k := k) h
    exact ⟨by omega, by simpa [over] using h2⟩
  | i + 1, vs, [], k, h => (Bool.false_ne_true h).elim
  | i + 1, vs, x :: r, k, h => by
    obtain ⟨h1, h2⟩ := ovK_inv (off := i) (vs := vs) (l := r) (k := fun r => k (x :: r)) h
    refine ⟨by simp; omega, ?_⟩
    have e : i + 1 + vs.length = (i + vs.length) + 1 := by omega
    simpa [over, e] using h2
theorem over_len {off : Nat} {vs l : List α} (h : off + vs.length ≤ l.length) : (over off vs l).length = l.length := by simp [over]; omega
theorem over_get {off : Nat} {vs l : List α} (h : off + vs.length ≤ l.length) (i : Nat) : (over off vs l)[i]? = if off ≤ i ∧ i < off + vs.length then vs[i - off]? else l[i]? := by
  have h1 : (l.take off).length = off := by simp; omega
  unfold over
  by_cases a : i < off
  · rw [if_neg (by omega), List.append_assoc, List.getElem?_append_left (by omega), List.getElem?_take, if_pos a]
  · by_cases b : i < off + vs.length
    · rw [if_pos (by omega), List.getElem?_append_left (by simp; omega), List.getElem?_append_right (by omega), h1]
    · rw [if_neg (by omega), List.getElem?_append_right (by simp; omega), List.getElem?_drop]
      congr 1
      simp; omega
/-- Two lists, one behind the other. -/
noncomputable def appK (a b : List α) (k : List α → Bool) : Bool := @List.rec α (fun _ => (List α → Bool) → Bool) (fun k => k b) (fun x _ ih k => ih fun r => k (x :: r)) a k
theorem appK_eq : ∀ (a b : List α) (k : List α → Bool), appK a b k = k (a ++ b)
  | [], _, _ => rfl
  | x :: a, b, k => appK_eq a b fun r => k (x :: r)
noncomputable def lenK (l : List α) (k : Nat → Bool) : Bool := @List.rec α (fun _ => Nat → Bool) (fun n => k n) (fun _ _ ih n => fN (n + 1) ih) l 0
theorem lenK_eq (l : List α) (k : Nat → Bool) : lenK l k = k l.length := by
  have : ∀ (l : List α) (n : Nat), @List.rec α (fun _ => Nat → Bool) (fun n => k n) (fun _ _ ih n => fN (n + 1) ih) l n = k (l.length + n) := by
    intro l
    induction l with
    | nil => intro n; simp
    | cons x r ih => intro n; show fN (n + 1) _ = _; rw [fN_eq, ih]; congr 1; simp; omega
  exact this l 0
/-- n times the same, over and over. -/
noncomputable def repK (n : Nat) (a : List α) (k : List α → Bool) : Bool := @Nat.rec (fun _ => List α → Bool) (fun r => k r) (fun _ ih r => appK a r ih) n []
theorem repK_eq (n : Nat) (a : List α) (k : List α → Bool) : repK n a k = k (List.replicate n a).flatten := by
  have : ∀ (n : Nat) (r : List α), @Nat.rec (fun _ => List α → Bool) (fun r => k r) (fun _ ih r => appK a r ih) n r = k ((List.replicate n a).flatten ++ r) := by
    intro n
    induction n with
    | zero => intro r; rfl
    | succ n ih =>
      intro r
      show appK a r _ = _
      rw [appK_eq, ih, ← List.append_assoc]
      congr 2
      rw [← List.flatten_concat (L := List.replicate n a), ← List.replicate_succ' (n := n)]
  have h := this n []
  rw [List.append_nil] at h
  exact h
end lists

end Go.Cx
namespace Go.Cx
open Go.Sx

/-! What the evaluator's values say of the model's. -/

/-- Bytes: a number's digits, the least first. -/
def digs : Nat → Nat → List UInt8
  | 0, _ => []
  | n + 1, s => UInt8.ofNat s :: digs n (s / 256)
def bytes (n s : Nat) : ByteArray := ⟨(digs n s).toArray⟩
theorem digs_len : ∀ (n s : Nat), (digs n s).length = n
  | 0, _ => rfl
  | n + 1, s => by simp [digs, digs_len n]
theorem bytes_size (n s : Nat) : (bytes n s).size = n := by simp [bytes, ByteArray.size, digs_len]

/-- A block's place in the model: its number, where it begins there, how many cells the model's has. -/
structure RB where
  blk : Nat
  bas : Nat
  tot : Nat
abbrev Rn := P5 → Option RB

mutual
def RV (ρ : Rn) : CV → Value → Prop
  | .u, _ => True
  | .bool b, x => x = .bool b
  | .i64 n, x => x = .int .i64 n
  | .i32 n, x => x = .int .i32 n
  | .u8 n, x => x = .int .u8 n
  | .u32 n, x => x = .int .u32 n
  | .u64 n, x => x = .int .u64 n
  | .str n s, x => x = .string (bytes n s)
  | .nilp, x => x = .pointer none
  | .ptr b o, x => ∃ r, ρ b = some r ∧ x = .pointer (some ⟨r.blk, r.bas + o, none⟩)
  | .loc _ _, _ => False
  | .nils, x => x = .slice none 0 0
  | .slc b o l c, x => ∃ r, ρ b = some r ∧ x = .slice (some ⟨r.blk, r.bas + o, none⟩) l c ∧ l ≤ c
  | .slu b o l z, x => ∃ r c, ρ b = some r ∧ x = .slice (some ⟨r.blk, r.bas + o, none⟩) l c ∧ l ≤ c ∧ r.bas + o + c * z = r.tot
  | .emp, x => ∃ a c, x = .slice (some a) 0 c
  | .nilm, x => x = .map none
  | .map b, x => ∃ r, ρ b = some r ∧ x = .map (some r.blk)
  | .fn f a c, x => ∃ xs ys, RL ρ a xs ∧ RL ρ c ys ∧ x = .func (.func f) xs.toArray ys.toArray
  | .nilf, x => x = .nilFunc
  | .ifc t v, x => ∃ y, RV ρ v y ∧ x = .iface t y
  | .nili, x => x = .nilIface
  | .agg l, x => ∃ xs, RL ρ l xs ∧ x = .agg xs.toArray
  | .tup l, x => ∃ xs, RL ρ l xs ∧ x = .tuple xs.toArray
  | .mod m q, x => ∃ n : Int, x = .int .i64 n ∧ n % (m : Int) = (q : Int)
def RL (ρ : Rn) : List CV → List Value → Prop
  | [], xs => xs = []
  | v :: l, xs => ∃ y ys, xs = y :: ys ∧ RV ρ v y ∧ RL ρ l ys
end

def Ext (ρ ρ' : Rn) : Prop := ∀ p r, ρ p = some r → ρ' p = some r
theorem Ext.refl (ρ : Rn) : Ext ρ ρ := fun _ _ h => h
theorem Ext.trans {a b c : Rn} (h : Ext a b) (g : Ext b c) : Ext a c := fun p r e => g p r (h p r e)

mutual
theorem RV.mono {ρ ρ' : Rn} (e : Ext ρ ρ') : ∀ {v : CV} {x : Value}, RV ρ v x → RV ρ' v x
  | .u, _, h => trivial
  | .bool b, x, h => h
  | .i64 n, x, h => h
  | .i32 n, x, h => h
  | .u8 n, x, h => h
  | .u32 n, x, h => h
  | .u64 n, x, h => h
  | .str n s, x, h => h
  | .nilp, x, h => h
  | .ptr b o, x, ⟨r, h1, h2⟩ => ⟨r, e _ _ h1, h2⟩
  | .loc _ _, _, h => h
  | .nils, x, h => h
  | .slc b o l c, x, ⟨r, h1, h2⟩ => ⟨r, e _ _ h1, h2⟩
  | .slu b o l z, x, ⟨r, c, h1, h2⟩ => ⟨r, c, e _ _ h1, h2⟩
  | .emp, x, h => h
  | .nilm, x, h => h
  | .map b, x, ⟨r, h1, h2⟩ => ⟨r, e _ _ h1, h2⟩
  | .fn f a c, x, ⟨xs, ys, h1, h2, h3⟩ => ⟨xs, ys, RL.mono e h1, RL.mono e h2, h3⟩
  | .nilf, x, h => h
  | .ifc t v, x, ⟨y, h1, h2⟩ => ⟨y, RV.mono e h1, h2⟩
  | .nili, x, h => h
  | .agg l, x, ⟨xs, h1, h2⟩ => ⟨xs, RL.mono e h1, h2⟩
  | .tup l, x, ⟨xs, h1, h2⟩ => ⟨xs, RL.mono e h1, h2⟩
  | .mod _ _, _, h => h
theorem RL.mono {ρ ρ' : Rn} (e : Ext ρ ρ') : ∀ {l : List CV} {xs : List Value}, RL ρ l xs → RL ρ' l xs
  | [], _, h => h
  | v :: l, xs, ⟨y, ys, h1, h2, h3⟩ => ⟨y, ys, h1, RV.mono e h2, RL.mono e h3⟩
end

theorem RL.nil (ρ : Rn) : RL ρ [] [] := rfl
theorem RL.cons {ρ : Rn} {v : CV} {x : Value} {l : List CV} {xs : List Value} (h : RV ρ v x) (g : RL ρ l xs) : RL ρ (v :: l) (x :: xs) := ⟨x, xs, rfl, h, g⟩
theorem RL.len {ρ : Rn} : ∀ {l : List CV} {xs : List Value}, RL ρ l xs → l.length = xs.length
  | [], _, h => by cases h; rfl
  | v :: l, xs, ⟨y, ys, h1, h2, h3⟩ => by subst h1; simp [RL.len h3]
theorem RL.app {ρ : Rn} : ∀ {l : List CV} {xs : List Value} {m : List CV} {ys : List Value}, RL ρ l xs → RL ρ m ys → RL ρ (l ++ m) (xs ++ ys)
  | [], _, m, ys, h, g => by cases h; exact g
  | v :: l, xs, m, zs, ⟨y, ys, h1, h2, h3⟩, g => by subst h1; exact .cons h2 (RL.app h3 g)
theorem RL.get {ρ : Rn} : ∀ {l : List CV} {xs : List Value}, RL ρ l xs → ∀ {i : Nat} {v : CV}, l[i]? = some v → ∃ x, xs[i]? = some x ∧ RV ρ v x
  | [], _, h, i, v, g => by simp at g
  | v :: l, xs, ⟨y, ys, h1, h2, h3⟩, i, w, g => by
    subst h1
    cases i with
    | zero => simp at g; subst g; exact ⟨y, rfl, h2⟩
    | succ i => simp at g; exact RL.get h3 g
theorem RL.of_get {ρ : Rn} : ∀ {l : List CV} {xs : List Value}, l.length = xs.length → (∀ (i : Nat) (v : CV) (x : Value), l[i]? = some v → xs[i]? = some x → RV ρ v x) → RL ρ l xs
  | [], [], _, _ => rfl
  | [], _ :: _, h, _ => by simp at h
  | _ :: _, [], h, _ => by simp at h
  | v :: l, x :: xs, h, g => .cons (g 0 v x rfl rfl) (RL.of_get (by simpa using h) fun i w y h1 h2 => g (i + 1) w y (by simpa using h1) (by simpa using h2))
theorem RL.drop {ρ : Rn} {l : List CV} {xs : List Value} (h : RL ρ l xs) (n : Nat) : RL ρ (l.drop n) (xs.drop n) := by
  refine .of_get (by simp [h.len]) fun i v x h1 h2 => ?_
  rw [List.getElem?_drop] at h1 h2
  obtain ⟨y, h3, h4⟩ := h.get h1
  rw [h3] at h2; cases h2; exact h4
theorem RL.take {ρ : Rn} {l : List CV} {xs : List Value} (h : RL ρ l xs) (n : Nat) : RL ρ (l.take n) (xs.take n) := by
  refine .of_get (by simp [h.len]) fun i v x h1 h2 => ?_
  rw [List.getElem?_take] at h1 h2
  split at h1
  · rename_i hi
    rw [if_pos hi] at h2
    obtain ⟨y, h3, h4⟩ := h.get h1
    rw [h3] at h2; cases h2; exact h4
  · cases h1
theorem RL.over {ρ : Rn} {l vs : List CV} {xs ys : List Value} (h : RL ρ l xs) (g : RL ρ vs ys) (off : Nat) : RL ρ (over off vs l) (xs.take off ++ ys ++ xs.drop (off + ys.length)) := by
  unfold Cx.over
  rw [g.len]
  exact ((h.take off).app g).app (h.drop _)
theorem RL.rep {ρ : Rn} {l : List CV} {xs : List Value} (h : RL ρ l xs) : ∀ n : Nat, RL ρ (List.replicate n l).flatten (List.replicate n xs).flatten
  | 0 => rfl
  | n + 1 => by simp only [List.replicate_succ, List.flatten_cons]; exact h.app (h.rep n)

/-- Cells of a block. -/
def RAt (ρ : Rn) (l : List CV) (c : Array Value) (b : Nat) : Prop := ∀ (i : Nat) (v : CV), l[i]? = some v → ∃ x : Value, c[b + i]? = some x ∧ RV ρ v x
theorem RAt.mono {ρ ρ' : Rn} (e : Ext ρ ρ') {l : List CV} {c : Array Value} {b : Nat} (h : RAt ρ l c b) : RAt ρ' l c b := fun i v g => by
  obtain ⟨x, h1, h2⟩ := h i v g
  exact ⟨x, h1, h2.mono e⟩
theorem RAt.cut {ρ : Rn} {l : List CV} {c : Array Value} {b : Nat} (h : RAt ρ l c b) {off n : Nat} (hn : off + n ≤ l.length) : ∃ cs, cs.length = n ∧ RL ρ ((l.drop off).take n) cs ∧ ∀ i, i < n → c[b + off + i]? = cs[i]? := by
  have hc : ∀ i, i < n → ∃ x, c[b + off + i]? = some x ∧ ∀ v, l[off + i]? = some v → RV ρ v x := fun i hi => by
    obtain ⟨x, h1, h2⟩ := h (off + i) (l[off + i]'(by omega)) (by simp)
    refine ⟨x, by rw [← h1]; congr 1; omega, fun v hv => ?_⟩
    rw [List.getElem?_eq_getElem (by omega)] at hv
    cases hv; exact h2
  refine ⟨(c.toList.drop (b + off)).take n, ?_, ?_, ?_⟩
  · cases n with
    | zero => simp
    | succ n =>
      obtain ⟨x, h1, -⟩ := hc n (by omega)
      have := (Array.getElem?_eq_some_iff.1 h1).1
      simp; omega
  · have hl : ((c.toList.drop (b + off)).take n).length = n := by
      cases n with
      | zero => simp
      | succ n =>
        obtain ⟨x, h1, -⟩ := hc n (by omega)
        have := (Array.getElem?_eq_some_iff.1 h1).1
        simp; omega
    refine .of_get (by rw [hl]; simp; omega) fun i v x h1 h2 => ?_
    rw [List.getElem?_take] at h1 h2
    split at h1
    · rename_i hi
      rw [if_pos hi] at h2
      rw [List.getElem?_drop] at h1 h2
      obtain ⟨y, h3, h4⟩ := hc i hi
      rw [Array.getElem?_toList, h3] at h2
      cases h2
      exact h4 v h1
    · cases h1
  · intro i hi
    rw [List.getElem?_take, if_pos hi, List.getElem?_drop, Array.getElem?_toList]

def live : CO → Bool
  | .none | .dead => false
  | _ => true

/-- The kind of a map's keys, told by one of them. -/
def kdesc : CV → Option TypeDesc
  | .str _ _ => some .string
  | .i64 _ => some (.int .i64)
  | .i32 _ => some (.int .i32)
  | .u8 _ => some (.int .u8)
  | .u32 _ => some (.int .u32)
  | .u64 _ => some (.int .u64)
  | _ => none
/-- A map's entries, in the order of their coming. -/
def RM (ρ : Rn) : List (CV × CV) → List (Value × Value) → Prop
  | [], xs => xs = []
  | (k, v) :: l, xs => ∃ y z ys, xs = (y, z) :: ys ∧ RV ρ k y ∧ RV ρ v z ∧ RM ρ l ys
theorem RM.mono {ρ ρ' : Rn} (e : Ext ρ ρ') : ∀ {l : List (CV × CV)} {xs : List (Value × Value)}, RM ρ l xs → RM ρ' l xs
  | [], _, h => h
  | (k, v) :: l, xs, ⟨y, z, ys, h1, h2, h3, h4⟩ => ⟨y, z, ys, h1, h2.mono e, h3.mono e, RM.mono e h4⟩
theorem Mp.heap {h h' : Heap} {m : Nat} {d : TypeDesc} {l : List (Value × Value)} (q : Mp h m d l) (e : h' m = h m) : Mp h' m d l := by
  obtain ⟨es, clock, g, h1⟩ := q.out
  exact ⟨es, clock, by rw [e]; exact g, h1⟩

def RO (ρ : Rn) (o : CO) (r? : Option RB) (h : Heap) : Prop := match o with
  | .cells l e => ∃ r c fr, r? = some r ∧ h r.blk = some (.cells c e fr) ∧ c.size = r.tot ∧ RAt ρ l c r.bas ∧ (∀ i, i < r.tot → ¬ (fr.1 ≤ i ∧ i < fr.2))
  | .ro l e => ∃ r c fr, r? = some r ∧ h r.blk = some (.cells c e fr) ∧ c.size = r.tot ∧ RAt ρ l c r.bas
  | .map l => ∃ r kc u q d lv, r? = some r ∧ l = (kc, u) :: q ∧ kdesc kc = some d ∧ Mp h r.blk d lv ∧ RM ρ q lv
  | .sit n s p => ∃ r, r? = some r ∧ h r.blk = some (.stringIter (bytes n s) p) ∧ r.bas = 0
  | .none => True
  | .dead => True

structure HRel (ρ : Rn) (H : HP) (h : Heap) : Prop where
  dom : ∀ p, lkH H p = .none → ρ p = none
  inj : ∀ p q r s, live (lkH H p) = true → live (lkH H q) = true → ρ p = some r → ρ q = some s → r.blk = s.blk → p = q
  blk : ∀ p, RO ρ (lkH H p) (ρ p) h
  box : ∀ p r l e, p.e ≠ .d7 → ρ p = some r → lkH H p = .cells l e → r.bas = 0 ∧ r.tot = l.length

theorem RO.mono {ρ ρ' : Rn} (e : Ext ρ ρ') {o : CO} {r? : Option RB} {h : Heap} (g : RO ρ o r? h) : RO ρ' o r? h := by
  cases o with
  | cells l t => obtain ⟨r, c, fr, h1, h2, h3, h4, h5⟩ := g; exact ⟨r, c, fr, h1, h2, h3, h4.mono e, h5⟩
  | ro l t => obtain ⟨r, c, fr, h1, h2, h3, h4⟩ := g; exact ⟨r, c, fr, h1, h2, h3, h4.mono e⟩
  | map l => obtain ⟨r, kc, u, q, d, lv, h1, h2, h3, h4, h5⟩ := g; exact ⟨r, kc, u, q, d, lv, h1, h2, h3, h4, h5.mono e⟩
  | sit n s p => exact g
  | none => trivial
  | dead => trivial
theorem RO.some {ρ : Rn} {o : CO} {r? : Option RB} {h : Heap} (g : RO ρ o r? h) (hl : live o = true) : ∃ r, r? = .some r ∧ h r.blk ≠ .none := by
  cases o with
  | cells l t => obtain ⟨r, c, fr, h1, h2, h3, h4, h5⟩ := g; exact ⟨r, h1, by rw [h2]; simp⟩
  | ro l t => obtain ⟨r, c, fr, h1, h2, h3, h4⟩ := g; exact ⟨r, h1, by rw [h2]; simp⟩
  | map l => obtain ⟨r, kc, u, q, d, lv, h1, h2, h3, h4, h5⟩ := g; obtain ⟨es, clock, h6, -⟩ := h4.out; exact ⟨r, h1, by rw [h6]; simp⟩
  | sit n s p => obtain ⟨r, h1, h2, -⟩ := g; exact ⟨r, h1, by rw [h2]; simp⟩
  | none => cases hl
  | dead => cases hl
/-- What a block says hangs on its own object alone. -/
theorem RO.heap {ρ : Rn} {o : CO} {r : RB} {h h' : Heap} (g : RO ρ o (.some r) h) (e : h' r.blk = h r.blk) : RO ρ o (.some r) h' := by
  cases o with
  | cells l t => obtain ⟨r, c, fr, h1, h2, h3, h4, h5⟩ := g; cases h1; exact ⟨_, c, fr, rfl, by rw [e]; exact h2, h3, h4, h5⟩
  | ro l t => obtain ⟨r, c, fr, h1, h2, h3, h4⟩ := g; cases h1; exact ⟨_, c, fr, rfl, by rw [e]; exact h2, h3, h4⟩
  | map l => obtain ⟨r, kc, u, q, d, lv, h1, h2, h3, h4, h5⟩ := g; cases h1; exact ⟨_, kc, u, q, d, lv, rfl, h2, h3, Mp.heap h4 e, h5⟩
  | sit n s p => obtain ⟨r, h1, h2, h3⟩ := g; cases h1; exact ⟨_, rfl, by rw [e]; exact h2, h3⟩
  | none => trivial
  | dead => trivial

/-- A block is written over. -/
theorem HRel.write {ρ : Rn} {H : HP} {h : Heap} (g : HRel ρ H h) {p : P5} {r : RB} (hp : ρ p = some r) (hl : live (lkH H p) = true) {o : CO} {ob : Obj} (hn : o ≠ .none)
    (ho : RO ρ o (some r) (hset h r.blk ob)) (hlen : ∀ l e, o = .cells l e → ∃ l', lkH H p = .cells l' e ∧ l.length = l'.length) : HRel ρ (stH H p o) (hset h r.blk ob) := by
  have key : ∀ q, live (lkH (stH H p o) q) = true → live (lkH H q) = true := fun q hq => by
    rw [lkH_stH] at hq
    split at hq
    · rename_i e; subst e; exact hl
    · exact hq
  refine ⟨fun q hq => ?_, fun a b s t ha hb h1 h2 h3 => g.inj a b s t (key a ha) (key b hb) h1 h2 h3, fun q => ?_, fun q s l e hq h1 h2 => ?_⟩
  rotate_right
  · rw [lkH_stH] at h2
    split at h2
    · rename_i e1; subst e1
      obtain ⟨l', h3, h4⟩ := hlen l e h2
      rw [h4]
      exact g.box _ _ _ _ hq h1 h3
    · exact g.box _ _ _ _ hq h1 h2
  · rw [lkH_stH] at hq
    split at hq
    · exact absurd hq hn
    · exact g.dom q hq
  · rw [lkH_stH]
    split
    · rename_i e; subst e; rw [hp]; exact ho
    · rename_i e
      by_cases hq : live (lkH H q) = true
      · obtain ⟨s, h1, -⟩ := (g.blk q).some hq
        rw [h1]
        refine (show RO ρ (lkH H q) (some s) h by rw [← h1]; exact g.blk q).heap ?_
        unfold Sx.hset
        rw [if_neg]
        intro h2
        exact e (g.inj _ _ _ _ hl hq hp h1 h2.symm)
      · cases hc : lkH H q with
        | none => trivial
        | dead => trivial
        | cells l e => rw [hc] at hq; exact absurd rfl hq
        | ro l e => rw [hc] at hq; exact absurd rfl hq
        | map l => rw [hc] at hq; exact absurd rfl hq
        | sit n s p => rw [hc] at hq; exact absurd rfl hq

def ins (ρ : Rn) (p : P5) (r : RB) : Rn := fun q => if p = q then some r else ρ q
theorem ins_ext {ρ : Rn} {p : P5} {r : RB} (h : ρ p = none) : Ext ρ (ins ρ p r) := fun q s e => by
  unfold ins
  rw [if_neg]; exact e
  intro h1; subst h1; rw [h] at e; cases e

/-- A block comes. -/
theorem HRel.fresh {ρ : Rn} {H : HP} {h : Heap} (g : HRel ρ H h) {p : P5} (hp : lkH H p = .none) {n : Nat} (hn : h n = none) {o : CO} {ob : Obj} {r : RB} (hr : r.blk = n) (ho : o ≠ .none)
    (hro : RO (ins ρ p r) o (some r) (hset h n ob)) (hbox : p.e = .d7 ∨ ∀ l e, o = .cells l e → r.bas = 0 ∧ r.tot = l.length) : HRel (ins ρ p r) (stH H p o) (hset h n ob) := by
  have hx : Ext ρ (ins ρ p r) := ins_ext (g.dom p hp)
  have other : ∀ q, p ≠ q → live (lkH H q) = true → ∀ s, ρ q = some s → s.blk ≠ n := fun q hq hl s hs he => by
    obtain ⟨s', h1, h2⟩ := (g.blk q).some hl
    rw [hs] at h1; cases h1
    rw [he] at h2; exact h2 hn
  refine ⟨fun q hq => ?_, fun a b s t ha hb h1 h2 h3 => ?_, fun q => ?_, fun q s l e hq h1 h2 => ?_⟩
  rotate_right
  · rw [lkH_stH] at h2
    unfold ins at h1
    by_cases e1 : p = q
    · subst e1
      rw [if_pos rfl] at h1 h2
      cases h1
      rcases hbox with hb | hb
      · exact absurd hb hq
      · exact hb l e h2
    · rw [if_neg e1] at h1 h2
      exact g.box _ _ _ _ hq h1 h2
  · rw [lkH_stH] at hq
    unfold ins
    split at hq
    · exact absurd hq ho
    · rename_i e; rw [if_neg e]; exact g.dom q hq
  · rw [lkH_stH] at ha hb
    unfold ins at h1 h2
    by_cases ea : p = a
    · by_cases eb : p = b
      · rw [← ea, ← eb]
      · rw [if_pos ea] at h1; rw [if_neg eb] at h2 hb
        cases h1
        exact absurd (h3.symm.trans hr) (other b eb hb _ h2)
    · by_cases eb : p = b
      · rw [if_neg ea] at h1 ha; rw [if_pos eb] at h2
        cases h2
        exact absurd (h3.trans hr) (other a ea ha _ h1)
      · rw [if_neg ea] at h1 ha; rw [if_neg eb] at h2 hb
        exact g.inj _ _ _ _ ha hb h1 h2 h3
  · rw [lkH_stH]
    by_cases e : p = q
    · rw [if_pos e]; subst e; simp only [ins, if_true]; exact hro
    · rw [if_neg e]
      have : ins ρ p r q = ρ q := by unfold ins; rw [if_neg e]
      rw [this]
      by_cases hq : live (lkH H q) = true
      · obtain ⟨s, h1, -⟩ := (g.blk q).some hq
        rw [h1]
        refine ((show RO ρ (lkH H q) (some s) h by rw [← h1]; exact g.blk q).heap ?_).mono hx
        unfold Sx.hset
        rw [if_neg (other q e hq s h1)]
      · cases hc : lkH H q with
        | none => trivial
        | dead => trivial
        | cells l e => rw [hc] at hq; exact absurd rfl hq
        | ro l e => rw [hc] at hq; exact absurd rfl hq
        | map l => rw [hc] at hq; exact absurd rfl hq
        | sit n s p => rw [hc] at hq; exact absurd rfl hq

/-- A block that nobody asks for any more. -/
theorem HRel.kill {ρ : Rn} {H : HP} {h : Heap} (g : HRel ρ H h) {p : P5} (hl : live (lkH H p) = true) : HRel ρ (stH H p .dead) h := by
  have key : ∀ q, live (lkH (stH H p .dead) q) = true → live (lkH H q) = true := fun q hq => by
    rw [lkH_stH] at hq
    split at hq
    · cases hq
    · exact hq
  refine ⟨fun q hq => ?_, fun a b s t ha hb h1 h2 h3 => g.inj a b s t (key a ha) (key b hb) h1 h2 h3, fun q => ?_, fun q s l e hq h1 h2 => ?_⟩
  rotate_right
  · rw [lkH_stH] at h2
    split at h2
    · cases h2
    · exact g.box _ _ _ _ hq h1 h2
  · rw [lkH_stH] at hq
    split at hq
    · cases hq
    · exact g.dom q hq
  · rw [lkH_stH]
    split
    · trivial
    · exact g.blk q

/-- A block goes on under another number: the old number is dead. -/
theorem HRel.move {ρ : Rn} {H : HP} {h : Heap} (g : HRel ρ H h) {p q : P5} (hl : live (lkH H p) = true) {r s : RB} (hp : ρ p = some r) (hs : s.blk = r.blk) (hq : lkH H q = .none) {o : CO} {ob : Obj} (ho : o ≠ .none)
    (hro : RO (ins ρ q s) o (some s) (hset h s.blk ob)) (hq7 : q.e = .d7) : HRel (ins ρ q s) (stH (stH H p .dead) q o) (hset h s.blk ob) := by
  have hx : Ext ρ (ins ρ q s) := ins_ext (g.dom q hq)
  have hpq : p ≠ q := fun e => by subst e; rw [hq] at hl; cases hl
  have other : ∀ a, q ≠ a → live (lkH (stH H p .dead) a) = true → p ≠ a ∧ live (lkH H a) = true ∧ ∀ t, ρ a = some t → t.blk ≠ s.blk := fun a ha hla => by
    rw [lkH_stH] at hla
    by_cases e : p = a
    · rw [if_pos e] at hla; cases hla
    · rw [if_neg e] at hla
      exact ⟨e, hla, fun t ht he => e (g.inj _ _ _ _ hl hla hp ht (hs ▸ he.symm))⟩
  refine ⟨fun a ha => ?_, fun a b x y ha hb h1 h2 h3 => ?_, fun a => ?_, fun a x l e ha h1 h2 => ?_⟩
  rotate_right
  · rw [lkH_stH] at h2
    unfold ins at h1
    by_cases e1 : q = a
    · subst e1; exact absurd hq7 ha
    · rw [if_neg e1] at h1 h2
      rw [lkH_stH] at h2
      split at h2
      · cases h2
      · exact g.box _ _ _ _ ha h1 h2
  · rw [lkH_stH] at ha
    unfold ins
    by_cases e : q = a
    · rw [if_pos e] at ha; exact absurd ha ho
    · rw [if_neg e] at ha ⊢
      rw [lkH_stH] at ha
      by_cases e2 : p = a
      · rw [if_pos e2] at ha; cases ha
      · rw [if_neg e2] at ha; exact g.dom a ha
  · rw [lkH_stH] at ha hb
    unfold ins at h1 h2
    by_cases ea : q = a
    · by_cases eb : q = b
      · rw [← ea, ← eb]
      · rw [if_pos ea] at h1; rw [if_neg eb] at h2 hb
        cases h1
        exact absurd h3.symm ((other b eb hb).2.2 _ h2)
    · by_cases eb : q = b
      · rw [if_neg ea] at h1 ha; rw [if_pos eb] at h2
        cases h2
        exact absurd h3 ((other a ea ha).2.2 _ h1)
      · rw [if_neg ea] at h1 ha; rw [if_neg eb] at h2 hb
        exact g.inj _ _ _ _ (other a ea ha).2.1 (other b eb hb).2.1 h1 h2 h3
  · rw [lkH_stH]
    by_cases e : q = a
    · rw [if_pos e]; subst e; simp only [ins, if_true]; exact hro
    · rw [if_neg e]
      have he : ins ρ q s a = ρ a := by unfold ins; rw [if_neg e]
      rw [he]
      by_cases hl2 : live (lkH (stH H p .dead) a) = true
      · obtain ⟨h1, h2, h3⟩ := other a e hl2
        rw [lkH_stH, if_neg h1]
        obtain ⟨t, h4, -⟩ := (g.blk a).some h2
        rw [h4]
        refine ((show RO ρ (lkH H a) (some t) h by rw [← h4]; exact g.blk a).heap ?_).mono hx
        unfold Sx.hset
        rw [if_neg (h3 t h4)]
      · cases hc : lkH (stH H p .dead) a with
        | none => trivial
        | dead => trivial
        | cells l e => rw [hc] at hl2; exact absurd rfl hl2
        | ro l e => rw [hc] at hl2; exact absurd rfl hl2
        | map l => rw [hc] at hl2; exact absurd rfl hl2
        | sit n s p => rw [hc] at hl2; exact absurd rfl hl2

/-! The local boxes and the slots. -/
abbrev LocE := List (Nat × List CV)
def lkE : LocE → Nat → Option (List CV)
  | [], _ => none
  | (s, c) :: r, t => if s = t then some c else lkE r t
def RLo (ρ : Rn) : LocE → Sx.Loc → Prop
  | [], L => L = []
  | (s, c) :: r, L => ∃ d R, L = (s, d) :: R ∧ RL ρ c d ∧ RLo ρ r R
theorem RLo.mono {ρ ρ' : Rn} (e : Ext ρ ρ') : ∀ {l : LocE} {L : Sx.Loc}, RLo ρ l L → RLo ρ' l L
  | [], _, h => h
  | (s, c) :: r, L, ⟨d, R, h1, h2, h3⟩ => ⟨d, R, h1, h2.mono e, RLo.mono e h3⟩
theorem RLo.lk {ρ : Rn} : ∀ {l : LocE} {L : Sx.Loc}, RLo ρ l L → ∀ {s : Nat}, match lkE l s with
    | some c => ∃ d, lkp L s = some d ∧ RL ρ c d
    | none => lkp L s = none
  | [], _, h, s => by cases h; rfl
  | (t, c) :: r, L, ⟨d, R, h1, h2, h3⟩, s => by
    subst h1
    unfold lkE lkp
    by_cases e : t = s
    · rw [if_pos e, if_pos e]; exact ⟨d, rfl, h2⟩
    · rw [if_neg e, if_neg e]; exact RLo.lk h3
def upE : LocE → Nat → List CV → LocE
  | [], _, _ => []
  | (s, c) :: r, t, d => if s = t then (s, d) :: r else (s, c) :: upE r t d
theorem RLo.up {ρ : Rn} : ∀ {l : LocE} {L : Sx.Loc}, RLo ρ l L → ∀ {s : Nat} {c : List CV} {d : List Value}, RL ρ c d → RLo ρ (upE l s c) (Sx.upd L s d)
  | [], _, h, s, c, d, g => by cases h; rfl
  | (t, c0) :: r, L, ⟨d0, R, h1, h2, h3⟩, s, c, d, g => by
    subst h1
    unfold upE Sx.upd
    by_cases e : t = s
    · rw [if_pos e, if_pos e]; exact ⟨d, R, rfl, g, h3⟩
    · rw [if_neg e, if_neg e]; exact ⟨d0, _, rfl, h2, RLo.up h3 g⟩
theorem lkE_up {l : LocE} {s t : Nat} {c : List CV} : (lkE (upE l s c) t).isSome = (lkE l t).isSome := by
  induction l with
  | nil => rfl
  | cons x r ih =>
    obtain ⟨a, b⟩ := x
    unfold upE
    by_cases e : a = s
    · rw [if_pos e]; unfold lkE; by_cases e2 : a = t
      · rw [if_pos e2, if_pos e2]; first | done | rfl
      · rw [if_neg e2, if_neg e2]
    · rw [if_neg e]; unfold lkE; by_cases e2 : a = t
      · rw [if_pos e2, if_pos e2]
      · rw [if_neg e2, if_neg e2]; exact ih

/-- A slot's. -/
def RS (ρ : Rn) (l : LocE) (v : CV) (s : SV) : Prop := match v with
  | .u => True
  | .loc t o => s = .loc t o ∧ (lkE l t).isSome = true
  | v => ∃ x, s = .v x ∧ RV ρ v x
theorem RS.of {ρ : Rn} {l : LocE} {v : CV} {x : Value} (h : RV ρ v x) : RS ρ l v (.v x) := by
  cases v with
  | u => trivial
  | loc t o => exact h.elim
  | _ => exact ⟨x, rfl, h⟩
theorem RS.val {ρ : Rn} {l : LocE} {v : CV} {s : SV} (h : RS ρ l v s) (h1 : v ≠ .u) (h2 : ∀ t o, v ≠ .loc t o) : ∃ x, s = .v x ∧ RV ρ v x := by
  cases v with
  | u => exact absurd rfl h1
  | loc t o => exact absurd rfl (h2 t o)
  | _ => exact h
theorem RS.mono {ρ ρ' : Rn} (e : Ext ρ ρ') {l : LocE} {v : CV} {s : SV} (h : RS ρ l v s) : RS ρ' l v s := by
  cases v with
  | u => trivial
  | loc t o => exact h
  | _ => obtain ⟨x, h1, h2⟩ := h; exact ⟨x, h1, h2.mono e⟩
theorem RS.up {ρ : Rn} {l : LocE} {v : CV} {s : SV} {t : Nat} {c : List CV} (h : RS ρ l v s) : RS ρ (upE l t c) v s := by
  cases v with
  | u => trivial
  | loc t o => exact ⟨h.1, by rw [lkE_up]; exact h.2⟩
  | _ => exact h

def REnv (ρ : Rn) (l : LocE) (e : E) (env : Sx.Env) : Prop := ∀ (t : Nat) (s : SV), t < 256 → env[t]? = some s → RS ρ l (getE t e) s

structure RSt (nt : Nat) (ρ : Rn) (e : E) (l : LocE) (H : HP) (env : Sx.Env) (L : Sx.Loc) (h : Heap) : Prop where
  lim : nt ≤ 256
  len : env.length = nt
  env : REnv ρ l e env
  loc : RLo ρ l L
  sub : (L.map (·.1)).Nodup
  heap : HRel ρ H h

end Go.Cx
namespace Go.Cx
open Go.Sx

/-! Operands. -/
def leN : List UInt8 → Nat
  | [] => 0
  | b :: r => b.toNat + 256 * leN r
theorem digs_step (b : UInt8) (m : Nat) (r : List UInt8) (h : digs r.length m = r) : digs (b :: r).length (b.toNat + 256 * m) = b :: r := by
  have hb : b.toNat < 256 := b.toNat_lt
  have h1 : (b.toNat + 256 * m) / 256 = m := by omega
  have h3 : (UInt8.ofNat (b.toNat + 256 * m)).toNat = (b.toNat + 256 * m) % 256 := UInt8.toNat_ofNat' ..
  have h2 : UInt8.ofNat (b.toNat + 256 * m) = b := UInt8.toNat_inj.1 (h3.trans (by omega))
  show UInt8.ofNat (b.toNat + 256 * m) :: digs r.length ((b.toNat + 256 * m) / 256) = b :: r
  rw [h1, h2, h]
theorem digs_leN : ∀ l : List UInt8, digs l.length (leN l) = l
  | [] => rfl
  | b :: r => by
    exact digs_step b (leN r) r (digs_leN r)
theorem bytes_leN (s : ByteArray) : bytes s.size (leN s.data.toList) = s := by
  obtain ⟨⟨d⟩⟩ := s
  show ByteArray.mk (digs d.length (leN d)).toArray = _
  rw [digs_leN]

def ofV1 : Value → CV
  | .bool b => .bool b
  | .int k n => match k with
    | .i64 => .i64 n
    | .i32 => .i32 n
    | .u8 => match n with
      | .ofNat m => .u8 m
      | _ => .u
    | .u32 => match n with
      | .ofNat m => .u32 m
      | _ => .u
    | .u64 => match n with
      | .ofNat m => .u64 m
      | _ => .u
    | _ => .u
  | .string s => .str s.size (leN s.data.toList)
  | .pointer none => .nilp
  | .slice none 0 0 => .nils
  | .map none => .nilm
  | .nilFunc => .nilf
  | .nilIface => .nili
  | _ => .u
theorem ofV1_ok (ρ : Rn) (x : Value) : RV ρ (ofV1 x) x := by
  unfold ofV1
  split
  · rfl
  · split
    · rfl
    · rfl
    · split
      · rfl
      · trivial
    · split
      · rfl
      · trivial
    · split
      · rfl
      · trivial
    · trivial
  · show _ = _
    rw [bytes_leN]
  · rfl
  · rfl
  · rfl
  · rfl
  · rfl
  · trivial
theorem ofV1s_ok (ρ : Rn) : ∀ l : List Value, RL ρ (l.map ofV1) l
  | [] => rfl
  | x :: r => .cons (ofV1_ok ρ x) (ofV1s_ok ρ r)
def ofV : Value → CV
  | .agg cs => .agg (cs.toList.map ofV1)
  | x => ofV1 x
theorem ofV_ok (ρ : Rn) (x : Value) : RV ρ (ofV x) x := by
  unfold ofV
  split
  · exact ⟨_, ofV1s_ok ρ _, by simp⟩
  · exact ofV1_ok ρ x

noncomputable def opG (nt : Nat) : Operand → GB
  | .tmp t => gB nt t
  | .const v => ⟨fun _ => ofV v⟩
  | .global _ => ⟨fun _ => .u⟩
  | .func f => ⟨fun _ => .fn f [] []⟩

section
variable {A : Ar} [ArOk A] {T : Tab} {p : Unit → Program} {nt : Nat} {ρ : Rn} {e : E} {l : LocE} {H : HP} {env : Sx.Env} {L : Sx.Loc} {h : Heap}

theorem RSt.tmp (s : RSt nt ρ e l H env L h) (t : Nat) : RS ρ l ((gB nt t).run e) (env.getD t .u) := by
  by_cases ht : t < nt
  · rw [gB_eq ht]
    have h1 := s.len
    have h2 := s.lim
    have h3 : env[t]? = some (env[t]'(by omega)) := by simp
    rw [List.getD_eq_getElem?_getD, h3]
    exact s.env t _ (by omega) h3
  · unfold gB; rw [if_neg ht]; trivial
theorem RSt.op (s : RSt nt ρ e l H env L h) (x : Operand) : RS ρ l ((opG nt x).run e) (sev env x) := by
  cases x with
  | tmp t => exact s.tmp t
  | const v => exact .of (ofV_ok ρ v)
  | global g => trivial
  | func f => exact .of ⟨[], [], rfl, rfl, rfl⟩

theorem RSt.ext {ρ' : Rn} (s : RSt nt ρ e l H env L h) {H' : HP} {h' : Heap} (hx : Ext ρ ρ') (hh : HRel ρ' H' h') : RSt nt ρ' e l H' env L h' :=
  ⟨s.lim, s.len, fun t v ht hv => (s.env t v ht hv).mono hx, s.loc.mono hx, s.sub, hh⟩

theorem RSt.putv (s : RSt nt ρ e l H env L h) {t : Nat} (ht : t < nt) {v : CV} {x : SV} (hv : RS ρ l v x) : RSt nt ρ (setE t e v) l H (env.set t x) L h := by
  refine ⟨s.lim, by simpa using s.len, fun u y hu hy => ?_, s.loc, s.sub, s.heap⟩
  have := s.lim
  rw [getE_setE (by omega) hu]
  rw [List.getElem?_set] at hy
  by_cases e : t = u
  · rw [if_pos e] at hy ⊢
    split at hy
    · cases hy; exact hv
    · cases hy
  · rw [if_neg e] at hy ⊢
    exact s.env u y hu hy

theorem put_sound (s : RSt nt ρ e l H env L h) {d : Option Nat} {v : CV} {x : SV} (hv : RS ρ l v x) {k : E → Bool} (hk : (pB nt d).run e v k = true) : ∃ e', k e' = true ∧ RSt nt ρ e' l H (put env d x) L h := by
  cases d with
  | none => exact ⟨e, hk, s⟩
  | some t =>
    by_cases ht : t < nt
    · rw [pB_eq ht, putE_eq] at hk
      exact ⟨_, hk, s.putv ht hv⟩
    · unfold pB at hk
      simp only [if_neg ht] at hk
      exact (Bool.false_ne_true hk).elim

/-! Light operations: their values. -/
structure LV where
  run : E → LocE → HP → (CV → Bool) → Bool
noncomputable def LV.fail : LV := ⟨fun _ _ _ _ => false⟩

/-- What is asked of a light operation's value. -/
def LvOk (A : Ar) (T : Tab) (p : Unit → Program) (nt : Nat) (o : Oper) (x : LV) : Prop :=
  ∀ {ρ : Rn} {e : E} {l : LocE} {H : HP} {env : Sx.Env} {L : Sx.Loc} {h : Heap} {k : CV → Bool} {K : SV → Option (List Value) → Prop}, RSt nt ρ e l H env L h → x.run e l H k = true →
    (∀ v y, RS ρ l v y → k v = true → K y none) → lightx A T p o (sev env) L h K

theorem LvOk.fail {o : Oper} : LvOk A T p nt o LV.fail := fun _ h _ => (Bool.false_ne_true h).elim

noncomputable def lvMove (x : GB) : LV := ⟨fun e _ _ k => fV (x.run e) k⟩
noncomputable def lvPick (c a b : GB) : LV := ⟨fun e _ _ k => as_bool (c.run e) fun t => ite' t (fV (a.run e) k) (fV (b.run e) k)⟩

theorem RS.bool {v : CV} {s : SV} (h : RS ρ l v s) {k : Bool → Bool} (hk : as_bool v k = true) : ∃ b, s = .v (.bool b) ∧ k b = true := by
  obtain ⟨b, rfl, h1⟩ := as_bool_inv hk
  obtain ⟨x, rfl, h2⟩ := h
  cases h2
  exact ⟨b, rfl, h1⟩

/-- Cells of a local box. -/
noncomputable def lkK (l : LocE) (s : Nat) (k : List CV → Bool) : Bool := @List.rec (Nat × List CV) (fun _ => Bool) false (fun x _ ih => @Prod.rec Nat (List CV) (fun _ => Bool) (fun t c => ite' (Nat.beq t s) (k c) ih) x) l
theorem lkK_inv {k : List CV → Bool} : ∀ {l : LocE} {s : Nat}, lkK l s k = true → ∃ c, lkE l s = some c ∧ k c = true
  | [], s, h => (Bool.false_ne_true h).elim
  | (t, c) :: r, s, h => by
    rcases ite'_inv (show ite' (Nat.beq t s) (k c) (lkK r s k) = true from h) with ⟨h1, h2⟩ | ⟨h1, h2⟩
    · have e : t = s := by simpa using h1
      exact ⟨c, by unfold lkE; rw [if_pos e], h2⟩
    · have e : t ≠ s := fun e => by subst e; rw [Nat.beq_refl] at h1; cases h1
      unfold lkE; rw [if_neg e]
      exact lkK_inv h2

/-- Where does a value point to? -/
theorem RS.place {v : CV} {s : SV} (h : RS ρ l v s) {f : P5 → Nat → Bool} {g : Nat → Nat → Bool} (hk : asA v f g = true) :
    (∃ b o r, ρ b = some r ∧ s = .v (.pointer (some ⟨r.blk, r.bas + o, none⟩)) ∧ f b o = true) ∨ ∃ t o, (s = .loc t o ∧ (lkE l t).isSome = true) ∧ g t o = true := by
  rcases asA_inv hk with ⟨b, o, rfl, h1⟩ | ⟨t, o, rfl, h1⟩
  · obtain ⟨x, rfl, r, h2, rfl⟩ := h
    exact .inl ⟨b, o, r, h2, rfl, h1⟩
  · exact .inr ⟨t, o, h, h1⟩

/-- A value of cells. -/
noncomputable def rdK (agg : Bool) (n off : Nat) (c : List CV) (k : CV → Bool) : Bool := match agg with
  | true => cutK off n c fun cs => k (.agg cs)
  | false => match n with
    | 1 => nthK off c fun v => fV v k
    | _ => false
theorem rdK_sound {agg : Bool} {n off : Nat} {c : List CV} {k : CV → Bool} (hk : rdK agg n off c k = true) : off + n ≤ c.length ∧ ∃ v, k v = true ∧ ∀ {cs : List Value}, RL ρ ((c.drop off).take n) cs → ∀ {K : Value → Prop}, (∀ x, RV ρ v x → K x) → rdvk agg cs K := by
  unfold rdK at hk
  split at hk
  · obtain ⟨h1, h2⟩ := cutK_inv hk
    exact ⟨h1, _, h2, fun hcs K hK => hK _ ⟨_, hcs, rfl⟩⟩
  · split at hk
    · obtain ⟨v, h1, h2⟩ := nthK_inv hk
      rw [fV_eq] at h2
      have h3 : off < c.length := by
        rcases Nat.lt_or_ge off c.length with h | h
        · exact h
        · rw [List.getElem?_eq_none h] at h1; cases h1
      refine ⟨by omega, v, h2, fun {cs} hcs K hK => ?_⟩
      have h4 : (c.drop off).take 1 = [v] := by
        rw [List.getElem?_eq_getElem h3] at h1
        cases h1
        rw [List.drop_eq_getElem_cons h3]; rfl
      rw [h4] at hcs
      obtain ⟨y, ys, rfl, h5, h6⟩ := hcs
      cases h6
      exact hK _ h5
    · exact (Bool.false_ne_true hk).elim

/-- A read of a block gives the model's cells. -/
theorem HRel.read (g : HRel ρ H h) {b : P5} {r : RB} (hb : ρ b = some r) {k : CO → Bool} {c : List CV} {t : Nat} (hc : lkH H b = .cells c t ∨ lkH H b = .ro c t) {off n : Nat} (hn : off + n ≤ c.length) :
    ∃ cs, RL ρ ((c.drop off).take n) cs ∧ rdc h ⟨r.blk, r.bas + off, none⟩ n cs := by
  have : ∃ c' fr, h r.blk = some (.cells c' t fr) ∧ RAt ρ c c' r.bas := by
    have := g.blk b
    rcases hc with hc | hc <;> rw [hc, hb] at this
    · obtain ⟨r', c', fr, h1, h2, h3, h4, h5⟩ := this; cases h1; exact ⟨c', fr, h2, h4⟩
    · obtain ⟨r', c', fr, h1, h2, h3, h4⟩ := this; cases h1; exact ⟨c', fr, h2, h4⟩
  obtain ⟨c', fr, h1, h2⟩ := this
  obtain ⟨cs, h3, h4, h5⟩ := h2.cut hn
  exact ⟨cs, h4, rfl, h3, c', t, fr, h1, h5⟩

noncomputable def lvLoad (i : Ti) (a : GB) : LV := ⟨fun e l H k => asA (a.run e) (fun b off => hget H b fun o => asRead o fun c _ => rdK i.agg i.size off c k) (fun s off => lkK l s fun c => rdK i.agg i.size off c k)⟩
theorem load_sound {o : Oper} {t : Nat} {a : Operand} (ho : o.op = .load t a) (ht : (T.ty t).kd.isNone = false) : LvOk A T p nt o (lvLoad (T.ty t) (opG nt a)) := by
  intro ρ e l H env L h k K s hk hK
  unfold lightx
  rw [ho]
  simp only [ht]
  rcases (s.op a).place hk with ⟨b, off, r, h1, h2, h3⟩ | ⟨u, off, h2, h3⟩
  · rw [h2]
    rw [hget_eq] at h3
    obtain ⟨c, t', h4, h5⟩ := asRead_inv h3
    obtain ⟨h6, v, h7, h8⟩ := rdK_sound (ρ := ρ) h5
    obtain ⟨cs, h9, h10⟩ := s.heap.read h1 (k := fun _ => true) h4 h6
    exact ⟨cs, h10, h8 h9 fun x hx => hK v _ (.of hx) h7⟩
  · obtain ⟨c, h4, h5⟩ := lkK_inv h3
    rw [h2.1]
    obtain ⟨h6, v, h7, h8⟩ := rdK_sound (ρ := ρ) h5
    have h9 := s.loc.lk (s := u)
    rw [h4] at h9
    obtain ⟨d, h10, h11⟩ := h9
    simp only [h10]
    have h12 := h11.len
    unfold takeN
    rw [if_pos (by omega)]
    exact h8 ((h11.drop off).take _) fun x hx => hK v _ (.of hx) h7

theorem move_sound {o : Oper} {x : Operand} (ho : o.op = .move x) : LvOk A T p nt o (lvMove (opG nt x)) := by
  intro ρ e l H env L h k K s hk hK
  unfold lightx
  rw [ho]
  exact hK _ _ (s.op x) ((fV_eq _ _).symm.trans hk)
theorem pick_sound {o : Oper} {c a b : Operand} (ho : o.op = .pick c a b) : LvOk A T p nt o (lvPick (opG nt c) (opG nt a) (opG nt b)) := by
  intro ρ e l H env L h k K s hk hK
  unfold lightx
  rw [ho]
  obtain ⟨t, h1, h2⟩ := (s.op c).bool hk
  simp only [h1]
  rcases ite'_inv h2 with ⟨rfl, h3⟩ | ⟨rfl, h3⟩
  · exact hK _ _ (s.op a) ((fV_eq _ _).symm.trans h3)
  · exact hK _ _ (s.op b) ((fV_eq _ _).symm.trans h3)

noncomputable def lvNilCheck (x : GB) : LV := ⟨fun e l _ k => asA (x.run e) (fun b off => k (.ptr b off)) (fun s off => k (.loc s off))⟩
theorem nilCheck_sound {o : Oper} {x : Operand} (ho : o.op = .nilCheck x) : LvOk A T p nt o (lvNilCheck (opG nt x)) := by
  intro ρ e l H env L h k K s hk hK
  unfold lightx
  rw [ho]
  rcases (s.op x).place hk with ⟨b, off, r, h1, h2, h3⟩ | ⟨u, off, h2, h3⟩
  · simp only [h2]
    exact hK (.ptr b off) _ (.of ⟨r, h1, rfl⟩) h3
  · simp only [h2.1]
    exact hK (.loc u off) _ ⟨rfl, h2.2⟩ h3

theorem addr_add (b o n : Nat) : (⟨b, o, none⟩ : Addr).add n = ⟨b, o + n, none⟩ := by
  unfold Addr.add
  by_cases e : n = 0
  · subst e; simp
  · rw [if_neg e]

noncomputable def lvFieldAddr (off : Nat) (x : GB) : LV := ⟨fun e l _ k => asA (x.run e) (fun b o => fN (o + off) fun o => k (.ptr b o)) (fun s o => fN (o + off) fun o => k (.loc s o))⟩
noncomputable def lvFieldAddrB (ty : Nat → Ti) (t f : Nat) (x : GB) : LV := match (ty t).kd with
  | .strct fs => match fs[f]? with
    | some (ft, off) => match (ty ft).kd.isNone with
      | true => .fail
      | false => match (ty ft).size with
        | 0 => .fail
        | _ + 1 => lvFieldAddr off x
    | none => .fail
  | _ => .fail
theorem fieldAddr_sound {o : Oper} {t f : Nat} {x : Operand} (ho : o.op = .fieldAddr t x f) : LvOk A T p nt o (lvFieldAddrB T.ty t f (opG nt x)) := by
  intro ρ e l H env L h k K s hk hK
  unfold lightx
  rw [ho]
  unfold lvFieldAddrB at hk
  simp only
  split at hk
  · rename_i fs hkd
    simp only [hkd]
    split at hk
    · rename_i ft off hf
      simp only [hf]
      split at hk
      · exact (Bool.false_ne_true hk).elim
      · rename_i hn
        simp only [hn]
        split at hk
        · exact (Bool.false_ne_true hk).elim
        · rename_i m hm
          simp only [hm]
          rcases (s.op x).place hk with ⟨b, q, r, h1, h2, h3⟩ | ⟨u, q, h2, h3⟩
          · simp only [h2]
            rw [fN_eq] at h3
            refine hK (.ptr b (q + off)) _ (.of ⟨r, h1, ?_⟩) h3
            rw [Ar.off_eq]; simp only [addr_add, Nat.add_assoc]
          · simp only [h2.1]
            rw [fN_eq] at h3
            exact hK (.loc u (q + off)) _ ⟨rfl, h2.2⟩ h3
    · exact (Bool.false_ne_true hk).elim
  · exact (Bool.false_ne_true hk).elim

noncomputable def lvField (ty : Nat → Ti) (t f : Nat) (x : GB) : LV := match (ty t).kd with
  | .strct fs => match fs[f]? with
    | some (ft, off) => match (ty ft).kd.isNone with
      | true => .fail
      | false => ⟨fun e _ _ k => as_agg (x.run e) fun c => rdK (ty ft).agg (ty ft).size off c k⟩
    | none => .fail
  | _ => .fail
theorem RS.agg {v : CV} {s : SV} (h : RS ρ l v s) {k : List CV → Bool} (hk : as_agg v k = true) : ∃ c xs, s = .v (.agg xs.toArray) ∧ RL ρ c xs ∧ k c = true := by
  obtain ⟨b, rfl, h1⟩ := as_agg_inv hk
  obtain ⟨x, rfl, xs, h2, rfl⟩ := h
  exact ⟨b, xs, rfl, h2, h1⟩
theorem field_sound {o : Oper} {t f : Nat} {x : Operand} (ho : o.op = .field t x f) : LvOk A T p nt o (lvField T.ty t f (opG nt x)) := by
  intro ρ e l H env L h k K s hk hK
  unfold lightx
  rw [ho]
  unfold lvField at hk
  simp only
  split at hk
  · rename_i fs hkd
    simp only [hkd]
    split at hk
    · rename_i ft off hf
      simp only [hf]
      split at hk
      · exact (Bool.false_ne_true hk).elim
      · rename_i hn
        simp only [hn]
        obtain ⟨c, xs, h1, h2, h3⟩ := (s.op x).agg hk
        simp only [h1]
        obtain ⟨h6, v, h7, h8⟩ := rdK_sound (ρ := ρ) h3
        have := h2.len
        unfold takeN
        rw [if_pos (by simpa using (by omega : off + (T.ty ft).size ≤ xs.length))]
        exact h8 (by simpa using (h2.drop off).take _) fun x hx => hK v _ (.of hx) h7
    · exact (Bool.false_ne_true hk).elim
  · exact (Bool.false_ne_true hk).elim

/-- An index. -/
noncomputable def asIx (v : CV) (k : Nat → Bool) : Bool :=
  @CV.rec (fun _ => Bool) (fun _ => Bool) false (fun _ => false) (fun n => natI n k) (fun n => natI n k) (fun n => k n) (fun n => k n) (fun n => k n) (fun _ _ => false) false (fun _ _ => false) (fun _ _ => false) false (fun _ _ _ _ => false) (fun _ _ _ _ => false) false false (fun _ => false) (fun _ _ _ _ _ => false) false (fun _ _ _ => false) false (fun _ _ => false) (fun _ _ => false) (fun _ _ => false) false (fun _ _ _ _ => false) v
theorem RS.ix {v : CV} {s : SV} (h : RS ρ l v s) {k : Nat → Bool} (hk : asIx v k = true) : ∃ kd, ∃ n : Nat, s = .v (.int kd n) ∧ k n = true := by
  cases v with
  | i64 n => obtain ⟨m, rfl, h1⟩ := natI_inv hk; obtain ⟨x, rfl, rfl⟩ := h; exact ⟨_, m, rfl, h1⟩
  | i32 n => obtain ⟨m, rfl, h1⟩ := natI_inv hk; obtain ⟨x, rfl, rfl⟩ := h; exact ⟨_, m, rfl, h1⟩
  | u8 n => obtain ⟨x, rfl, rfl⟩ := h; exact ⟨_, n, rfl, hk⟩
  | u32 n => obtain ⟨x, rfl, rfl⟩ := h; exact ⟨_, n, rfl, hk⟩
  | u64 n => obtain ⟨x, rfl, rfl⟩ := h; exact ⟨_, n, rfl, hk⟩
  | _ => exact (Bool.false_ne_true hk).elim

noncomputable def blt (a b : Nat) : Bool := Nat.ble (Nat.succ a) b
theorem blt_iff {a b : Nat} : blt a b = true ↔ a < b := by unfold blt; simp; omega

noncomputable def lvIxSlc (size : Nat) (x i : GB) : LV := ⟨fun e _ _ k => asIx (i.run e) fun n => asS (x.run e) false
  (fun b off len _ => chk (blt n len) (fN (off + n * size) fun o => k (.ptr b o)))
  (fun b off len _ => chk (blt n len) (fN (off + n * size) fun o => k (.ptr b o))) false⟩
noncomputable def lvIxArr (m size : Nat) (x i : GB) : LV := ⟨fun e l _ k => asIx (i.run e) fun n => chk (blt n m) (asA (x.run e) (fun b off => fN (off + n * size) fun o => k (.ptr b o)) (fun s off => fN (off + n * size) fun o => k (.loc s o)))⟩
noncomputable def lvIndexAddr (ty : Nat → Ti) (t : Nat) (x i : GB) : LV := match (ty t).kd with
  | .slc e => match (ty e).kd.isNone with
    | true => .fail
    | false => lvIxSlc (ty e).size x i
  | .arr m e => match (ty e).kd.isNone with
    | true => .fail
    | false => lvIxArr m (ty e).size x i
  | _ => .fail

theorem elt_at (b o n z : Nat) : Sx.elt (some ⟨b, o, none⟩) (n : Int) z = ⟨b, o + n * z, none⟩ := by
  show Addr.add _ _ = _
  simp only [Option.getD_some, Int.toNat_natCast]
  exact addr_add ..

theorem indexAddr_sound {o : Oper} {t : Nat} {x i : Operand} (ho : o.op = .indexAddr t x i) : LvOk A T p nt o (lvIndexAddr T.ty t (opG nt x) (opG nt i)) := by
  intro ρ e l H env L h k K s hk hK
  unfold lightx
  rw [ho]
  unfold lvIndexAddr at hk
  simp only
  split at hk
  · rename_i el hkd
    split at hk
    · exact (Bool.false_ne_true hk).elim
    · rename_i hn
      obtain ⟨kd, n, h1, h2⟩ := (s.op i).ix hk
      simp only [h1, hkd, hn]
      have hv := s.op x
      rcases asS_inv h2 with ⟨-, h3⟩ | ⟨b, q, len, c, h3, h4⟩ | ⟨b, q, len, z, h3, h4⟩ | ⟨-, h3⟩
      · exact (Bool.false_ne_true h3).elim
      · rw [h3] at hv
        obtain ⟨y, h5, r, h6, rfl, h7⟩ := hv
        simp only [h5]
        obtain ⟨h8, h9⟩ := chk_inv h4
        rw [blt_iff] at h8
        refine ⟨⟨rfl, by omega, by omega⟩, ?_⟩
        rw [fN_eq] at h9
        refine hK (.ptr b (q + n * (T.ty el).size)) _ (.of ⟨r, h6, ?_⟩) h9
        rw [Ar.elt_eq, elt_at, Nat.add_assoc]
      · rw [h3] at hv
        obtain ⟨y, h5, r, c, h6, rfl, h7, -⟩ := hv
        simp only [h5]
        obtain ⟨h8, h9⟩ := chk_inv h4
        rw [blt_iff] at h8
        refine ⟨⟨rfl, by omega, by omega⟩, ?_⟩
        rw [fN_eq] at h9
        refine hK (.ptr b (q + n * (T.ty el).size)) _ (.of ⟨r, h6, ?_⟩) h9
        rw [Ar.elt_eq, elt_at, Nat.add_assoc]
      · exact (Bool.false_ne_true h3).elim
  · rename_i m el hkd
    split at hk
    · exact (Bool.false_ne_true hk).elim
    · rename_i hn
      obtain ⟨kd, n, h1, h2⟩ := (s.op i).ix hk
      simp only [h1, hkd, hn]
      obtain ⟨h8, h9⟩ := chk_inv h2
      rw [blt_iff] at h8
      rcases (s.op x).place h9 with ⟨b, q, r, h1, h2, h3⟩ | ⟨u, q, h2, h3⟩
      · simp only [h2]
        refine ⟨⟨by omega, by omega⟩, ?_⟩
        rw [fN_eq] at h3
        refine hK (.ptr b (q + n * (T.ty el).size)) _ (.of ⟨r, h1, ?_⟩) h3
        rw [Ar.elt_eq, elt_at, Nat.add_assoc]
      · simp only [h2.1]
        refine ⟨⟨by omega, by omega⟩, ?_⟩
        rw [fN_eq] at h3
        refine hK (.loc u (q + n * (T.ty el).size)) _ ⟨?_, h2.2⟩ h3
        rw [Ar.ix_eq]; simp
  · exact (Bool.false_ne_true hk).elim

theorem digs_get : ∀ {n s i : Nat}, i < n → (digs n s)[i]? = some (UInt8.ofNat (s / 256 ^ i))
  | 0, _, _, h => by omega
  | n + 1, s, 0, _ => by simp [digs]
  | n + 1, s, i + 1, h => by
    simp only [digs, List.getElem?_cons_succ]
    rw [digs_get (by omega), Nat.div_div_eq_div_mul, Nat.pow_succ, Nat.mul_comm 256]

theorem RS.str {v : CV} {s : SV} (h : RS ρ l v s) {k : Nat → Nat → Bool} (hk : as_str v k = true) : ∃ n m, s = .v (.string (bytes n m)) ∧ k n m = true := by
  obtain ⟨n, m, rfl, h1⟩ := as_str_inv hk
  obtain ⟨x, rfl, rfl⟩ := h
  exact ⟨n, m, rfl, h1⟩

noncomputable def lvIndex (ty : Nat → Ti) (t : Nat) (x i : GB) : LV := match (ty t).kd with
  | .str => ⟨fun e _ _ k => asIx (i.run e) fun i => as_str (x.run e) fun n s => chk (blt i n) (fN (Nat.mod (Nat.div s (Nat.pow 256 i)) 256) fun b => k (.u8 b))⟩
  | _ => .fail
theorem index_sound {o : Oper} {t : Nat} {x i : Operand} (ho : o.op = .index t x i) : LvOk A T p nt o (lvIndex T.ty t (opG nt x) (opG nt i)) := by
  intro ρ e l H env L h k K s hk hK
  unfold lightx
  rw [ho]
  unfold lvIndex at hk
  simp only
  split at hk
  · rename_i hkd
    obtain ⟨kd, n, h1, h2⟩ := (s.op i).ix hk
    obtain ⟨m, q, h3, h4⟩ := (s.op x).str h2
    simp only [h1, hkd, h3]
    obtain ⟨h5, h6⟩ := chk_inv h4
    rw [blt_iff] at h5
    rw [fN_eq] at h6
    refine ⟨⟨by omega, by rw [bytes_size]; omega⟩, hK (.u8 (q / 256 ^ n % 256)) _ (.of ?_) h6⟩
    show _ = _
    rw [Ar.byte_eq]
    have h7 : (bytes m q).data.getD n 0 = UInt8.ofNat (q / 256 ^ n) := by
      have := digs_get (s := q) h5
      show (digs m q).toArray.getD n 0 = _
      rw [Array.getD_eq_getD_getElem?]
      simp [this]
    simp only [Int.toNat_natCast, h7]
    congr 1
  · exact (Bool.false_ne_true hk).elim

theorem RS.tup {v : CV} {s : SV} (h : RS ρ l v s) {k : List CV → Bool} (hk : as_tup v k = true) : ∃ c xs, s = .v (.tuple xs.toArray) ∧ RL ρ c xs ∧ k c = true := by
  obtain ⟨b, rfl, h1⟩ := as_tup_inv hk
  obtain ⟨x, rfl, xs, h2, rfl⟩ := h
  exact ⟨b, xs, rfl, h2, h1⟩
noncomputable def lvExtract (i : Nat) (x : GB) : LV := ⟨fun e _ _ k => as_tup (x.run e) fun c => nthK i c fun v => fV v k⟩
theorem extract_sound {o : Oper} {x : Operand} {i : Nat} (ho : o.op = .extract x i) : LvOk A T p nt o (lvExtract i (opG nt x)) := by
  intro ρ e l H env L h k K s hk hK
  unfold lightx
  rw [ho]
  obtain ⟨c, xs, h1, h2, h3⟩ := (s.op x).tup hk
  obtain ⟨v, h4, h5⟩ := nthK_inv h3
  obtain ⟨y, h6, h7⟩ := h2.get h4
  simp only [h1]
  simp only [h6]
  rw [fV_eq] at h5
  exact hK _ _ (.of h7) h5

end
end Go.Cx
