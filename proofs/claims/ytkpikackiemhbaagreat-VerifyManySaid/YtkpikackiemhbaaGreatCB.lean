import Derived.Test.YtkpikackiemhbaaGreatCA
set_option linter.all false
set_option maxRecDepth 1000000
set_option maxHeartbeats 8000000
namespace Go.Cx
open Go.Sx

section
variable {A : Ar} [hA : ArOk A] {T : Tab} {p : Unit → Program} {nt : Nat} {ρ : Rn} {e : E} {l : LocE} {H : HP} {env : Sx.Env} {L : Sx.Loc} {h : Heap}

/-! build -/
theorem setN_eq : ∀ (vs c : List Value) (off : Nat), off + vs.length ≤ c.length → setN c off vs = c.take off ++ vs ++ c.drop (off + vs.length)
  | [], c, off, _ => by simp [setN]
  | x :: r, c, off, hl => by
    simp only [List.length_cons] at hl
    unfold setN
    have h0 : off + 1 + r.length ≤ (c.set off x).length := by rw [List.length_set]; omega
    rw [setN_eq r _ _ h0]
    have h1 : off < c.length := by omega
    have h2 : (c.set off x).take (off + 1) = c.take off ++ [x] := by
      rw [List.take_add_one, List.getElem?_set_self h1]
      simp [List.take_set_of_le]
    have h3 : (c.set off x).drop (off + 1 + r.length) = c.drop (off + 1 + r.length) := by
      rw [List.drop_set_of_lt (by omega)]
    have h4 : off + (x :: r).length = off + 1 + r.length := by simp; omega
    rw [h2, h3, h4]
    simp only [List.append_assoc, List.cons_append, List.nil_append]

/-- A value's cells. -/
noncomputable def cellsK (v : CV) (k : List CV → Bool) : Bool :=
  @CV.rec (fun _ => Bool) (fun _ => Bool) false (fun b => k [.bool b]) (fun n => k [.i64 n]) (fun n => k [.i32 n]) (fun n => k [.u8 n]) (fun n => k [.u32 n]) (fun n => k [.u64 n]) (fun n s => k [.str n s]) (k [.nilp]) (fun b o => k [.ptr b o]) (fun _ _ => false) (k [.nils]) (fun b o l c => k [.slc b o l c]) (fun b o l z => k [.slu b o l z]) (k [.emp]) (k [.nilm]) (fun b => k [.map b]) (fun f a c _ _ => k [.fn f a c]) (k [.nilf]) (fun t x _ => k [.ifc t x]) (k [.nili]) (fun l _ => k l) (fun _ _ => false) (fun _ _ => false) false (fun _ _ _ _ => false) v
theorem cells_one {x : Value} (h : ∀ c, x ≠ .agg c) : x.cells.toList = [x] := by
  cases x <;> first | rfl | exact absurd rfl (h _)
theorem RS.cells {v : CV} {s : SV} (h : RS ρ l v s) {k : List CV → Bool} (hk : cellsK v k = true) : ∃ c x, s = .v x ∧ RL ρ c x.cells.toList ∧ k c = true := by
  cases v with
  | u => exact (Bool.false_ne_true hk).elim
  | loc a b => exact (Bool.false_ne_true hk).elim
  | tup a => exact (Bool.false_ne_true hk).elim
  | mod a b => exact (Bool.false_ne_true hk).elim
  | agg c => obtain ⟨x, rfl, xs, h1, rfl⟩ := h; exact ⟨c, _, rfl, by simpa [Value.cells] using h1, hk⟩
  | bool b => obtain ⟨x, rfl, h1⟩ := h; exact ⟨_, x, rfl, by rw [cells_one (by intro c e; rw [e] at h1; cases h1)]; exact .cons h1 rfl, hk⟩
  | i64 n => obtain ⟨x, rfl, h1⟩ := h; exact ⟨_, x, rfl, by rw [cells_one (by intro c e; rw [e] at h1; cases h1)]; exact .cons h1 rfl, hk⟩
  | i32 n => obtain ⟨x, rfl, h1⟩ := h; exact ⟨_, x, rfl, by rw [cells_one (by intro c e; rw [e] at h1; cases h1)]; exact .cons h1 rfl, hk⟩
  | u8 n => obtain ⟨x, rfl, h1⟩ := h; exact ⟨_, x, rfl, by rw [cells_one (by intro c e; rw [e] at h1; cases h1)]; exact .cons h1 rfl, hk⟩
  | u32 n => obtain ⟨x, rfl, h1⟩ := h; exact ⟨_, x, rfl, by rw [cells_one (by intro c e; rw [e] at h1; cases h1)]; exact .cons h1 rfl, hk⟩
  | u64 n => obtain ⟨x, rfl, h1⟩ := h; exact ⟨_, x, rfl, by rw [cells_one (by intro c e; rw [e] at h1; cases h1)]; exact .cons h1 rfl, hk⟩
  | str n m => obtain ⟨x, rfl, h1⟩ := h; exact ⟨_, x, rfl, by rw [cells_one (by intro c e; rw [e] at h1; cases h1)]; exact .cons h1 rfl, hk⟩
  | nilp => obtain ⟨x, rfl, h1⟩ := h; exact ⟨_, x, rfl, by rw [cells_one (by intro c e; rw [e] at h1; cases h1)]; exact .cons h1 rfl, hk⟩
  | ptr b o => obtain ⟨x, rfl, h1⟩ := h; exact ⟨_, x, rfl, by rw [cells_one (by intro c e; rw [e] at h1; obtain ⟨r, h2, h3⟩ := h1; cases h3)]; exact .cons h1 rfl, hk⟩
  | nils => obtain ⟨x, rfl, h1⟩ := h; exact ⟨_, x, rfl, by rw [cells_one (by intro c e; rw [e] at h1; cases h1)]; exact .cons h1 rfl, hk⟩
  | slc b o q c => obtain ⟨x, rfl, h1⟩ := h; exact ⟨_, x, rfl, by rw [cells_one (by intro c e; rw [e] at h1; obtain ⟨r, h2, h3, h4⟩ := h1; cases h3)]; exact .cons h1 rfl, hk⟩
  | slu b o q z => obtain ⟨x, rfl, h1⟩ := h; exact ⟨_, x, rfl, by rw [cells_one (by intro c e; rw [e] at h1; obtain ⟨r, c, h2, h3, h4⟩ := h1; cases h3)]; exact .cons h1 rfl, hk⟩
  | emp => obtain ⟨x, rfl, h1⟩ := h; exact ⟨_, x, rfl, by rw [cells_one (by intro c e; rw [e] at h1; obtain ⟨r, c, h3⟩ := h1; cases h3)]; exact .cons h1 rfl, hk⟩
  | nilm => obtain ⟨x, rfl, h1⟩ := h; exact ⟨_, x, rfl, by rw [cells_one (by intro c e; rw [e] at h1; cases h1)]; exact .cons h1 rfl, hk⟩
  | map b => obtain ⟨x, rfl, h1⟩ := h; exact ⟨_, x, rfl, by rw [cells_one (by intro c e; rw [e] at h1; obtain ⟨r, h2, h3⟩ := h1; cases h3)]; exact .cons h1 rfl, hk⟩
  | fn f a c => obtain ⟨x, rfl, h1⟩ := h; exact ⟨_, x, rfl, by rw [cells_one (by intro c e; rw [e] at h1; obtain ⟨r, c, h2, h3, h4⟩ := h1; cases h4)]; exact .cons h1 rfl, hk⟩
  | nilf => obtain ⟨x, rfl, h1⟩ := h; exact ⟨_, x, rfl, by rw [cells_one (by intro c e; rw [e] at h1; cases h1)]; exact .cons h1 rfl, hk⟩
  | ifc t y => obtain ⟨x, rfl, h1⟩ := h; exact ⟨_, x, rfl, by rw [cells_one (by intro c e; rw [e] at h1; obtain ⟨r, h2, h3⟩ := h1; cases h3)]; exact .cons h1 rfl, hk⟩
  | nili => obtain ⟨x, rfl, h1⟩ := h; exact ⟨_, x, rfl, by rw [cells_one (by intro c e; rw [e] at h1; cases h1)]; exact .cons h1 rfl, hk⟩

structure Pt where
  off : Nat
  size : Nat
  g : GB
/-- The parts, each at its place. -/
noncomputable def ptsOf (nt : Nat) (place : Nat → Option (Nat × Nat)) : List (Nat × Operand) → Option (List Pt)
  | [] => some []
  | (i, x) :: r => match place i with
    | none => none
    | some (off, size) => match ptsOf nt place r with
      | none => none
      | some l => some (⟨off, size, opG nt x⟩ :: l)
noncomputable def fillE (ps : List Pt) (e : E) (c : List CV) (k : List CV → Bool) : Bool := @List.rec Pt (fun _ => List CV → Bool) (fun c => k c) (fun q _ ih c => cellsK (q.g.run e) fun vs => lenK vs fun n => chk (Nat.beq n q.size) (ovK q.off vs c ih)) ps c
theorem fill_sound (s : RSt nt ρ e l H env L h) {place : Nat → Option (Nat × Nat)} : ∀ {ps : List (Nat × Operand)} {pts : List Pt} {c : List CV} {xs : List Value} {k : List CV → Bool}, ptsOf nt place ps = some pts → RL ρ c xs → fillE pts e c k = true →
    ∃ ys cs zs, partsV (sev env) ps = some ys ∧ fillL place xs ys = some zs ∧ RL ρ cs zs ∧ k cs = true
  | [], pts, c, xs, k, h1, h2, h3 => by cases h1; exact ⟨[], c, xs, rfl, rfl, h2, h3⟩
  | (i, x) :: r, pts, c, xs, k, h1, h2, h3 => by
    unfold ptsOf at h1
    split at h1
    · cases h1
    · rename_i off size hp
      split at h1
      · cases h1
      · rename_i q hq
        cases h1
        have h3' : cellsK ((opG nt x).run e) (fun vs => lenK vs fun n => chk (Nat.beq n size) (ovK off vs c fun c => fillE q e c k)) = true := h3
        obtain ⟨vs, y, h4, h5, h6⟩ := (s.op x).cells h3'
        rw [lenK_eq] at h6
        obtain ⟨h7, h8⟩ := chk_inv h6
        have h7 : vs.length = size := Nat.eq_of_beq_eq_true h7
        obtain ⟨h9, h10⟩ := ovK_inv h8
        have h11 := h5.len
        have h12 := h2.len
        obtain ⟨ys, cs, zs, a1, a2, a3, a4⟩ := fill_sound s hq (h2.over h5 off) h10
        refine ⟨(i, y) :: ys, cs, zs, ?_, ?_, a3, a4⟩
        · unfold partsV; rw [h4, a1]
        · unfold fillL
          simp only [hp]
          rw [if_neg (by simp only [Bool.or_eq_true, decide_eq_true_eq, not_or]; omega), setN_eq _ _ _ (by omega)]
          exact a2

noncomputable def placesE (ty : Nat → Ti) : List (Nat × Nat) → Option (List (Nat × Nat))
  | [] => some []
  | (t, off) :: r => match (ty t).kd.isNone, placesE ty r with
    | false, some l => some ((off, (ty t).size) :: l)
    | _, _ => none
theorem placesE_eq (T : Tab) : ∀ l, placesE T.ty l = placesOf T l
  | [] => rfl
  | (t, off) :: r => by unfold placesE placesOf; rw [placesE_eq T r]; rfl
noncomputable def lvBuild (nt : Nat) (ty : Nat → Ti) (t : Nat) (ps : List (Nat × Operand)) : LV := match (ty t).kd with
  | .strct fs => match placesE ty fs with
    | some l => match ptsOf nt (fun i => l[i]?) ps with
      | some q => ⟨fun e _ _ k => fillE q e ((ty t).zero.map ofV1) fun c => k (.agg c)⟩
      | none => .fail
    | none => .fail
  | .arr _ el => match (ty el).kd.isNone with
    | false => match ptsOf nt (fun i => some (i * (ty el).size, (ty el).size)) ps with
      | some q => ⟨fun e _ _ k => fillE q e ((ty t).zero.map ofV1) fun c => k (.agg c)⟩
      | none => .fail
    | true => .fail
  | _ => .fail
theorem build_sound {o : Oper} {t : Nat} {ps : Array (Nat × Operand)} (ho : o.op = .build t ps) : LvOk A T p nt o (lvBuild nt T.ty t ps.toList) := by
  intro ρ e l H env L h k K s hk hK
  unfold lightx
  rw [ho]
  unfold lvBuild at hk
  simp only
  split at hk
  · rename_i fs hkd
    simp only [hkd, Kd.isNone]
    split at hk
    · rename_i q hq
      rw [placesE_eq] at hq
      split at hk
      · rename_i pts hp
        obtain ⟨ys, cs, zs, a1, a2, a3, a4⟩ := fill_sound s hp (ofV1s_ok ρ (T.ty t).zero) hk
        simp only [a1, buildL, hq, a2]
        exact hK (.agg cs) _ (.of ⟨zs, a3, rfl⟩) a4
      · exact (Bool.false_ne_true hk).elim
    · exact (Bool.false_ne_true hk).elim
  · rename_i m el hkd
    simp only [hkd, Kd.isNone]
    split at hk
    · rename_i hn
      split at hk
      · rename_i pts hp
        obtain ⟨ys, cs, zs, a1, a2, a3, a4⟩ := fill_sound s hp (ofV1s_ok ρ (T.ty t).zero) hk
        simp only [a1, buildL, hn, a2]
        exact hK (.agg cs) _ (.of ⟨zs, a3, rfl⟩) a4
      · exact (Bool.false_ne_true hk).elim
    · exact (Bool.false_ne_true hk).elim
  · exact (Bool.false_ne_true hk).elim

/-! Numbers. -/
theorem wrap64 {z : Int} (h1 : -9223372036854775808 ≤ z) (h2 : z ≤ 9223372036854775807) : IntKind.i64.wrap z = z := by
  unfold IntKind.wrap
  simp [IntKind.bits, IntKind.signed]
  omega
/-- A number made an int. -/
noncomputable def w64 (z : Int) (k : Int → Bool) : Bool := @Int.rec (fun _ => Bool) (fun n => ite' (Nat.ble n 9223372036854775807) (fN n fun n => k (.ofNat n)) (fI (IntKind.i64.wrap (.ofNat n)) k)) (fun n => ite' (Nat.ble n 9223372036854775807) (fN n fun n => k (.negSucc n)) (fI (IntKind.i64.wrap (.negSucc n)) k)) z
theorem w64_eq {z : Int} {k : Int → Bool} (h : w64 z k = true) : k (IntKind.i64.wrap z) = true := by
  cases z with
  | ofNat n =>
    rcases ite'_inv (show ite' _ _ _ = true from h) with ⟨h1, h2⟩ | ⟨h1, h2⟩
    · have h1 : n ≤ 9223372036854775807 := by simpa using h1
      rw [fN_eq] at h2
      rw [wrap64 (by show (-9223372036854775808 : Int) ≤ (n : Int); omega) (by show (n : Int) ≤ _; omega)]
      exact h2
    · rwa [fI_eq] at h2
  | negSucc n =>
    rcases ite'_inv (show ite' _ _ _ = true from h) with ⟨h1, h2⟩ | ⟨h1, h2⟩
    · have h1 : n ≤ 9223372036854775807 := by simpa using h1
      rw [fN_eq] at h2
      rw [wrap64 (by omega) (by omega)]
      exact h2
    · rwa [fI_eq] at h2
noncomputable def add64 (a b : Int) (k : Int → Bool) : Bool := @Int.rec (fun _ => Bool) (fun a => @Int.rec (fun _ => Bool) (fun b => w64 (.ofNat (Nat.add a b)) k) (fun _ => w64 (Int.add (.ofNat a) b) k) b) (fun _ => w64 (Int.add a b) k) a
theorem add64_eq {a b : Int} {k : Int → Bool} (h : add64 a b k = true) : k (IntKind.i64.wrap (a + b)) = true := by
  cases a <;> cases b <;> exact w64_eq h
noncomputable def sub64 (a b : Int) (k : Int → Bool) : Bool := @Int.rec (fun _ => Bool) (fun a => @Int.rec (fun _ => Bool) (fun b => ite' (Nat.ble b a) (w64 (.ofNat (Nat.sub a b)) k) (w64 (Int.sub (.ofNat a) (.ofNat b)) k)) (fun _ => w64 (Int.sub (.ofNat a) b) k) b) (fun _ => w64 (Int.sub a b) k) a
theorem sub64_eq {a b : Int} {k : Int → Bool} (h : sub64 a b k = true) : k (IntKind.i64.wrap (a - b)) = true := by
  cases a with
  | ofNat a => cases b with
    | ofNat b =>
      rcases ite'_inv (show ite' _ _ _ = true from h) with ⟨h1, h2⟩ | ⟨h1, h2⟩
      · have h1 : b ≤ a := by simpa using h1
        have := w64_eq h2
        have e : Int.ofNat (Nat.sub a b) = Int.ofNat a - Int.ofNat b := by
          show ((a - b : Nat) : Int) = (a : Int) - (b : Int)
          omega
        rwa [e] at this
      · exact w64_eq h2
    | negSucc b => exact w64_eq h
  | negSucc a => exact w64_eq h
noncomputable def mul64 (a b : Int) (k : Int → Bool) : Bool := @Int.rec (fun _ => Bool) (fun a => @Int.rec (fun _ => Bool) (fun b => w64 (.ofNat (Nat.mul a b)) k) (fun _ => w64 (Int.mul (.ofNat a) b) k) b) (fun _ => w64 (Int.mul a b) k) a
theorem mul64_eq {a b : Int} {k : Int → Bool} (h : mul64 a b k = true) : k (IntKind.i64.wrap (a * b)) = true := by
  cases a <;> cases b <;> exact w64_eq h
noncomputable def iLt (a b : Int) : Bool := @Int.rec (fun _ => Bool) (fun a => @Int.rec (fun _ => Bool) (fun b => blt a b) (fun _ => false) b) (fun a => @Int.rec (fun _ => Bool) (fun _ => true) (fun b => blt b a) b) a
theorem iLt_iff {a b : Int} : iLt a b = decide (a < b) := by
  rw [Bool.eq_iff_iff, decide_eq_true_eq]
  cases a with
  | ofNat a => cases b with
    | ofNat b => exact blt_iff.trans (by simp)
    | negSucc b => exact ⟨fun h => (Bool.false_ne_true h).elim, fun h => by have : (Int.ofNat a) ≥ 0 := Int.natCast_nonneg a; omega⟩
  | negSucc a => cases b with
    | ofNat b => exact ⟨fun _ => by have : (Int.ofNat b) ≥ 0 := Int.natCast_nonneg b; omega, fun _ => rfl⟩
    | negSucc b => exact blt_iff.trans (by omega)
noncomputable def iEq (a b : Int) : Bool := @Int.rec (fun _ => Bool) (fun a => @Int.rec (fun _ => Bool) (fun b => Nat.beq a b) (fun _ => false) b) (fun a => @Int.rec (fun _ => Bool) (fun _ => false) (fun b => Nat.beq a b) b) a
theorem iEq_iff {a b : Int} : iEq a b = decide (a = b) := by
  rw [Bool.eq_iff_iff, decide_eq_true_eq]
  cases a with
  | ofNat a => cases b with
    | ofNat b => show Nat.beq a b = true ↔ (a : Int) = (b : Int); rw [Nat.beq_eq]; omega
    | negSucc b => exact ⟨fun h => (Bool.false_ne_true h).elim, fun h => by cases h⟩
  | negSucc a => cases b with
    | ofNat b => exact ⟨fun h => (Bool.false_ne_true h).elim, fun h => by cases h⟩
    | negSucc b => show Nat.beq a b = true ↔ _; rw [Nat.beq_eq]; simp
/-- A comparison of numbers. -/
noncomputable def cmpI (op : BinOp) : Option (Int → Int → Bool) := match op with
  | .eql => some fun a b => iEq a b
  | .neq => some fun a b => !(iEq a b)
  | .lss => some fun a b => iLt a b
  | .leq => some fun a b => !(iLt b a)
  | .gtr => some fun a b => iLt b a
  | .geq => some fun a b => !(iLt a b)
  | _ => none
theorem cmpI_eq {op : BinOp} {f : Int → Int → Bool} (h : cmpI op = some f) (a b : Int) : f a b = Sx.icm op a b := by
  cases op <;> first | (cases h; done) | skip
  all_goals cases h
  all_goals simp only [iEq_iff, iLt_iff, Sx.icm]
  · rfl
  · rfl
  · by_cases h : b < a <;> simp [h] <;> omega
  · by_cases h : a < b <;> simp [h] <;> omega

/-- An arithmetic operation on two ints. -/
noncomputable def ar64 (op : BinOp) : Int → Int → (Int → Bool) → Bool := match op with
  | .add => add64
  | .sub => sub64
  | .mul => mul64
  | _ => fun a b k => fI (Sx.ari op .i64 a b) k
theorem ar64_eq {op : BinOp} {a b : Int} {k : Int → Bool} (h : ar64 op a b k = true) : k (Sx.ari op .i64 a b) = true := by
  unfold ar64 at h
  split at h
  · exact add64_eq h
  · exact sub64_eq h
  · exact mul64_eq h
  · exact (fI_eq _ _).symm.trans h
/-- On two numbers without sign. -/
noncomputable def arU (op : BinOp) (kd : IntKind) (a b : Nat) (k : Nat → Bool) : Bool := natI (Sx.ari op kd a b) fun n => fN n k
theorem arU_eq {op : BinOp} {kd : IntKind} {a b : Nat} {k : Nat → Bool} (h : arU op kd a b k = true) : ∃ n : Nat, Sx.ari op kd a b = n ∧ k n = true := by
  obtain ⟨m, h1, h2⟩ := natI_inv h
  exact ⟨m, h1, by rwa [fN_eq] at h2⟩

/-- Two numbers of one kind. -/
noncomputable def as2 (x y : CV) (f : Int → Int → Bool) (f32 : Int → Int → Bool) (g8 g32 g64 : Nat → Nat → Bool) : Bool :=
  @CV.rec (fun _ => Bool) (fun _ => Bool) false (fun _ => false) (fun a => as_i64 y fun b => f a b) (fun a => as_i32 y fun b => f32 a b) (fun a => as_u8 y fun b => g8 a b) (fun a => as_u32 y fun b => g32 a b) (fun a => as_u64 y fun b => g64 a b) (fun _ _ => false) false (fun _ _ => false) (fun _ _ => false) false (fun _ _ _ _ => false) (fun _ _ _ _ => false) false false (fun _ => false) (fun _ _ _ _ _ => false) false (fun _ _ _ => false) false (fun _ _ => false) (fun _ _ => false) (fun _ _ => false) false (fun _ _ _ _ => false) x
theorem as2_inv {x y : CV} {s q : SV} (hx : RS ρ l x s) (hy : RS ρ l y q) {f f32 : Int → Int → Bool} {g8 g32 g64 : Nat → Nat → Bool} (hk : as2 x y f f32 g8 g32 g64 = true) :
    (∃ a b, s = .v (.int .i64 a) ∧ q = .v (.int .i64 b) ∧ f a b = true) ∨ (∃ a b, s = .v (.int .i32 a) ∧ q = .v (.int .i32 b) ∧ f32 a b = true) ∨
    (∃ a b : Nat, s = .v (.int .u8 a) ∧ q = .v (.int .u8 b) ∧ g8 a b = true) ∨ (∃ a b : Nat, s = .v (.int .u32 a) ∧ q = .v (.int .u32 b) ∧ g32 a b = true) ∨ (∃ a b : Nat, s = .v (.int .u64 a) ∧ q = .v (.int .u64 b) ∧ g64 a b = true) := by
  cases x with
  | i64 a => obtain ⟨b, rfl, h1⟩ := as_i64_inv (show as_i64 y _ = true from hk); obtain ⟨_, rfl, rfl⟩ := hx; obtain ⟨_, rfl, rfl⟩ := hy; exact .inl ⟨a, b, rfl, rfl, h1⟩
  | i32 a => obtain ⟨b, rfl, h1⟩ := as_i32_inv (show as_i32 y _ = true from hk); obtain ⟨_, rfl, rfl⟩ := hx; obtain ⟨_, rfl, rfl⟩ := hy; exact .inr (.inl ⟨a, b, rfl, rfl, h1⟩)
  | u8 a => obtain ⟨b, rfl, h1⟩ := as_u8_inv (show as_u8 y _ = true from hk); obtain ⟨_, rfl, rfl⟩ := hx; obtain ⟨_, rfl, rfl⟩ := hy; exact .inr (.inr (.inl ⟨a, b, rfl, rfl, h1⟩))
  | u32 a => obtain ⟨b, rfl, h1⟩ := as_u32_inv (show as_u32 y _ = true from hk); obtain ⟨_, rfl, rfl⟩ := hx; obtain ⟨_, rfl, rfl⟩ := hy; exact .inr (.inr (.inr (.inl ⟨a, b, rfl, rfl, h1⟩)))
  | u64 a => obtain ⟨b, rfl, h1⟩ := as_u64_inv (show as_u64 y _ = true from hk); obtain ⟨_, rfl, rfl⟩ := hx; obtain ⟨_, rfl, rfl⟩ := hy; exact .inr (.inr (.inr (.inr ⟨a, b, rfl, rfl, h1⟩)))
  | _ => exact (Bool.false_ne_true hk).elim

noncomputable def lvAri (op : BinOp) (x y : GB) : LV := ⟨fun e _ _ k => as2 (x.run e) (y.run e) (fun a b => ar64 op a b fun n => k (.i64 n)) (fun a b => fI (Sx.ari op .i32 a b) fun n => k (.i32 n)) (fun a b => arU op .u8 a b fun n => k (.u8 n)) (fun a b => arU op .u32 a b fun n => k (.u32 n)) (fun a b => arU op .u64 a b fun n => k (.u64 n))⟩
noncomputable def lvCmp (f : Int → Int → Bool) (x y : GB) : LV := ⟨fun e _ _ k => as2 (x.run e) (y.run e) (fun a b => fB (f a b) fun t => k (.bool t)) (fun a b => fB (f a b) fun t => k (.bool t)) (fun a b => fB (f (.ofNat a) (.ofNat b)) fun t => k (.bool t)) (fun a b => fB (f (.ofNat a) (.ofNat b)) fun t => k (.bool t)) (fun a b => fB (f (.ofNat a) (.ofNat b)) fun t => k (.bool t))⟩

/-- A shift's second number. -/
noncomputable def shf (op : BinOp) (x y : CV) (k : CV → Bool) : Bool := asIx y fun b => 
  @CV.rec (fun _ => Bool) (fun _ => Bool) false (fun _ => false) (fun a => fI (Sx.ari op .i64 a b) fun n => k (.i64 n)) (fun a => fI (Sx.ari op .i32 a b) fun n => k (.i32 n)) (fun a => arU op .u8 a b fun n => k (.u8 n)) (fun a => arU op .u32 a b fun n => k (.u32 n)) (fun a => arU op .u64 a b fun n => k (.u64 n)) (fun _ _ => false) false (fun _ _ => false) (fun _ _ => false) false (fun _ _ _ _ => false) (fun _ _ _ _ => false) false false (fun _ => false) (fun _ _ _ _ _ => false) false (fun _ _ _ => false) false (fun _ _ => false) (fun _ _ => false) (fun _ _ => false) false (fun _ _ _ _ => false) x
theorem shf_inv {op : BinOp} {x y : CV} {s q : SV} (hx : RS ρ l x s) (hy : RS ρ l y q) {k : CV → Bool} (hk : shf op x y k = true) : ∃ ka kb a, ∃ b : Nat, ∃ v, s = .v (.int ka a) ∧ q = .v (.int kb b) ∧ RV ρ v (.int ka (Sx.ari op ka a b)) ∧ k v = true := by
  obtain ⟨kb, b, h1, h2⟩ := hy.ix hk
  cases x with
  | i64 a => replace h2 := (fI_eq _ _).symm.trans (show fI _ _ = true from h2); obtain ⟨_, rfl, rfl⟩ := hx; exact ⟨_, kb, a, b, .i64 _, rfl, h1, rfl, h2⟩
  | i32 a => replace h2 := (fI_eq _ _).symm.trans (show fI _ _ = true from h2); obtain ⟨_, rfl, rfl⟩ := hx; exact ⟨_, kb, a, b, .i32 _, rfl, h1, rfl, h2⟩
  | u8 a => obtain ⟨n, h3, h4⟩ := arU_eq (show arU _ _ _ _ _ = true from h2); obtain ⟨_, rfl, rfl⟩ := hx; exact ⟨_, kb, a, b, .u8 n, rfl, h1, by rw [h3]; rfl, h4⟩
  | u32 a => obtain ⟨n, h3, h4⟩ := arU_eq (show arU _ _ _ _ _ = true from h2); obtain ⟨_, rfl, rfl⟩ := hx; exact ⟨_, kb, a, b, .u32 n, rfl, h1, by rw [h3]; rfl, h4⟩
  | u64 a => obtain ⟨n, h3, h4⟩ := arU_eq (show arU _ _ _ _ _ = true from h2); obtain ⟨_, rfl, rfl⟩ := hx; exact ⟨_, kb, a, b, .u64 n, rfl, h1, by rw [h3]; rfl, h4⟩
  | _ => exact (Bool.false_ne_true h2).elim

/-! Strings. -/
theorem digs_mod : ∀ (n s : Nat), digs n (s % 256 ^ n) = digs n s
  | 0, _ => rfl
  | n + 1, s => by
    have h1 : UInt8.ofNat (s % 256 ^ (n + 1)) = UInt8.ofNat s := by
      apply UInt8.toNat_inj.1
      have h2 : (UInt8.ofNat (s % 256 ^ (n + 1))).toNat = (s % 256 ^ (n + 1)) % 256 := UInt8.toNat_ofNat' ..
      have h3 : (UInt8.ofNat s).toNat = s % 256 := UInt8.toNat_ofNat' ..
      rw [h2, h3]
      exact Nat.mod_mod_of_dvd _ ⟨256 ^ n, by rw [Nat.pow_succ, Nat.mul_comm]⟩
    have h2 : s % 256 ^ (n + 1) / 256 = s / 256 % 256 ^ n := by
      rw [Nat.pow_succ, Nat.mul_comm, Nat.mod_mul_right_div_self]
    show UInt8.ofNat _ :: digs n _ = UInt8.ofNat s :: digs n (s / 256)
    rw [h1, h2, digs_mod]
theorem digs_inj : ∀ {n a b : Nat}, digs n a = digs n b → a % 256 ^ n = b % 256 ^ n
  | 0, _, _, _ => by simp [Nat.mod_one]
  | n + 1, a, b, h => by
    simp only [digs, List.cons.injEq] at h
    have h1 := digs_inj h.2
    have h2 : a % 256 = b % 256 := by
      have := congrArg UInt8.toNat h.1
      have h3 : (UInt8.ofNat a).toNat = a % 256 := UInt8.toNat_ofNat' ..
      have h4 : (UInt8.ofNat b).toNat = b % 256 := UInt8.toNat_ofNat' ..
      omega
    rw [Nat.pow_succ, Nat.mul_comm, Nat.mod_mul, Nat.mod_mul, h1, h2]
theorem digs_app : ∀ (n a m b : Nat), digs (n + m) (a % 256 ^ n + b * 256 ^ n) = digs n a ++ digs m b
  | 0, a, m, b => by simp [digs, Nat.mod_one]
  | n + 1, a, m, b => by
    have h0 : n + 1 + m = (n + m) + 1 := by omega
    rw [h0]
    show UInt8.ofNat _ :: digs (n + m) _ = UInt8.ofNat a :: (digs n (a / 256) ++ digs m b)
    have e : 256 ^ (n + 1) = 256 * 256 ^ n := by rw [Nat.pow_succ, Nat.mul_comm]
    have h1 : (a % 256 ^ (n + 1) + b * 256 ^ (n + 1)) / 256 = a / 256 % 256 ^ n + b * 256 ^ n := by
      rw [e, Nat.mod_mul]
      have : a % 256 + 256 * (a / 256 % 256 ^ n) + b * (256 * 256 ^ n) = a % 256 + 256 * (a / 256 % 256 ^ n + b * 256 ^ n) := by
        rw [Nat.mul_add, Nat.mul_left_comm b, Nat.add_assoc]
      rw [this]
      omega
    have h2 : UInt8.ofNat (a % 256 ^ (n + 1) + b * 256 ^ (n + 1)) = UInt8.ofNat a := by
      apply UInt8.toNat_inj.1
      have h3 : (UInt8.ofNat (a % 256 ^ (n + 1) + b * 256 ^ (n + 1))).toNat = (a % 256 ^ (n + 1) + b * 256 ^ (n + 1)) % 256 := UInt8.toNat_ofNat' ..
      have h4 : (UInt8.ofNat a).toNat = a % 256 := UInt8.toNat_ofNat' ..
      rw [h3, h4, e, Nat.mod_mul]
      have : a % 256 + 256 * (a / 256 % 256 ^ n) + b * (256 * 256 ^ n) = a % 256 + 256 * (a / 256 % 256 ^ n + b * 256 ^ n) := by
        rw [Nat.mul_add, Nat.mul_left_comm b, Nat.add_assoc]
      rw [this]
      omega
    rw [h1, h2, digs_app n (a / 256) m b]
theorem digs_drop : ∀ (i n s : Nat), i ≤ n → (digs n s).drop i = digs (n - i) (s / 256 ^ i)
  | 0, n, s, _ => by simp
  | i + 1, 0, s, h => by omega
  | i + 1, n + 1, s, h => by
    simp only [digs, List.drop_succ_cons]
    rw [digs_drop i n _ (by omega), Nat.div_div_eq_div_mul, Nat.pow_succ, Nat.mul_comm 256]
    congr 1
    omega
theorem digs_take : ∀ (i n s : Nat), i ≤ n → (digs n s).take i = digs i s
  | 0, n, s, _ => by simp [digs]
  | i + 1, 0, s, h => by omega
  | i + 1, n + 1, s, h => by
    simp only [digs, List.take_succ_cons]
    rw [digs_take i n _ (by omega)]
theorem bytes_app (n a m b : Nat) : bytes n a ++ bytes m b = bytes (n + m) (a % 256 ^ n + b * 256 ^ n) := by
  unfold bytes
  rw [digs_app]
  ext1
  simp [ByteArray.data_append]
theorem bytes_toList (n s : Nat) : (bytes n s).toList = digs n s := by
  rw [Go.ByteArray.toList_eq]; rfl
theorem bytes_cut (n s i j : Nat) (hj : j ≤ n) (hi : i ≤ j) : (bytes n s).extract i j = bytes (j - i) (s / 256 ^ i % 256 ^ (j - i)) := by
  ext1
  rw [ByteArray.data_extract]
  apply Array.toList_inj.1
  show _ = digs _ _
  rw [digs_mod, Array.toList_extract]
  show ((digs n s).drop i).take (j - i) = _
  rw [digs_drop i n s (by omega), digs_take _ _ _ (by omega)]

end
end Go.Cx
namespace Go.Cx
open Go.Sx

section
variable {A : Ar} [hA : ArOk A] {T : Tab} {p : Unit → Program} {nt : Nat} {ρ : Rn} {e : E} {l : LocE} {H : HP} {env : Sx.Env} {L : Sx.Loc} {h : Heap}

/-! Strings compared. -/
noncomputable def sEq (n a m b : Nat) : Bool := ite' (Nat.beq n m) (Nat.beq (Nat.mod a (Nat.pow 256 n)) (Nat.mod b (Nat.pow 256 n))) false
theorem sEq_eq (n a m b : Nat) : sEq n a m b = ((bytes n a).toList == (bytes m b).toList) := by
  rw [bytes_toList, bytes_toList, Bool.eq_iff_iff, beq_iff_eq]
  constructor
  · intro h
    rcases ite'_inv (show ite' _ _ _ = true from h) with ⟨h1, h2⟩ | ⟨h1, h2⟩
    · have h1 : n = m := Nat.eq_of_beq_eq_true h1
      have h2 : a % 256 ^ n = b % 256 ^ n := Nat.eq_of_beq_eq_true h2
      subst h1
      rw [← digs_mod n a, ← digs_mod n b, h2]
    · cases h2
  · intro h
    have h1 : n = m := by rw [← digs_len n a, ← digs_len m b, h]
    subst h1
    have h2 := digs_inj h
    unfold sEq
    rw [Nat.beq_refl]
    show Nat.beq (a % 256 ^ n) (b % 256 ^ n) = true
    rw [h2]
    exact Nat.beq_refl _
noncomputable def sLs (n a m b : Nat) : Bool := @Nat.rec (fun _ => Nat → Nat → Nat → Bool) (fun _ m _ => @Nat.rec (fun _ => Bool) false (fun _ _ => true) m)
  (fun _ ih a m b => @Nat.rec (fun _ => Bool) false (fun m _ => ite' (blt (Nat.mod a 256) (Nat.mod b 256)) true (ite' (Nat.beq (Nat.mod a 256) (Nat.mod b 256)) (ih (Nat.div a 256) m (Nat.div b 256)) false)) m) n a m b
theorem ofNat_lt (a b : Nat) : decide (UInt8.ofNat a < UInt8.ofNat b) = blt (a % 256) (b % 256) := by
  rw [Bool.eq_iff_iff, decide_eq_true_eq, blt_iff, UInt8.lt_iff_toNat_lt]
  have h3 : (UInt8.ofNat a).toNat = a % 256 := UInt8.toNat_ofNat' ..
  have h4 : (UInt8.ofNat b).toNat = b % 256 := UInt8.toNat_ofNat' ..
  rw [h3, h4]
theorem ofNat_beq (a b : Nat) : (UInt8.ofNat a == UInt8.ofNat b) = Nat.beq (a % 256) (b % 256) := by
  rw [Bool.eq_iff_iff, beq_iff_eq, Nat.beq_eq, ← UInt8.toNat_inj]
  have h3 : (UInt8.ofNat a).toNat = a % 256 := UInt8.toNat_ofNat' ..
  have h4 : (UInt8.ofNat b).toNat = b % 256 := UInt8.toNat_ofNat' ..
  rw [h3, h4]
theorem sLs_eq : ∀ (n a m b : Nat), sLs n a m b = Op.bytesLess (digs n a) (digs m b)
  | 0, a, 0, b => rfl
  | 0, a, m + 1, b => rfl
  | n + 1, a, 0, b => by cases h : digs (n + 1) a <;> rfl
  | n + 1, a, m + 1, b => by
    show ite' (blt (a % 256) (b % 256)) true (ite' (Nat.beq (a % 256) (b % 256)) (sLs n (a / 256) m (b / 256)) false) = (decide (UInt8.ofNat a < UInt8.ofNat b) || (UInt8.ofNat a == UInt8.ofNat b && Op.bytesLess (digs n (a / 256)) (digs m (b / 256))))
    rw [ofNat_lt, ofNat_beq, sLs_eq n]
    cases blt (a % 256) (b % 256) <;> cases Nat.beq (a % 256) (b % 256) <;> rfl
noncomputable def cmpS (op : BinOp) : Option (Nat → Nat → Nat → Nat → Bool) := match op with
  | .eql => some fun n a m b => sEq n a m b
  | .neq => some fun n a m b => !(sEq n a m b)
  | .lss => some fun n a m b => sLs n a m b
  | .leq => some fun n a m b => sLs n a m b || sEq n a m b
  | .gtr => some fun n a m b => !(sLs n a m b || sEq n a m b)
  | .geq => some fun n a m b => !(sLs n a m b)
  | _ => none
theorem cmpS_eq {op : BinOp} {f : Nat → Nat → Nat → Nat → Bool} (h : cmpS op = some f) (n a m b : Nat) : f n a m b = Sx.scm op (bytes n a) (bytes m b) := by
  cases op <;> first | (cases h; done) | skip
  all_goals cases h
  all_goals simp only [Sx.scm, sEq_eq, sLs_eq, bytes_toList]
noncomputable def lvCmpS (f : Nat → Nat → Nat → Nat → Bool) (x y : GB) : LV := ⟨fun e _ _ k => as_str (x.run e) fun n a => as_str (y.run e) fun m b => fB (f n a m b) fun t => k (.bool t)⟩
/-- One string behind another. -/
noncomputable def catN (n a b : Nat) : Nat := Nat.add (Nat.mod a (Nat.pow 256 n)) (Nat.mul b (Nat.pow 256 n))
noncomputable def lvCat (x y : GB) : LV := ⟨fun e _ _ k => as_str (x.run e) fun n a => as_str (y.run e) fun m b => fN (Nat.add n m) fun q => chk (Nat.ble q 4611686018427387904) (fN (catN n a b) fun s => k (.str q s))⟩

/-! Comparisons with nil, of bools, of flat structs. -/
noncomputable def notB (neg t : Bool) : Bool := match neg with
  | true => !t
  | false => t
noncomputable def negOp (op : BinOp) : Option Bool := match op with
  | .eql => some false
  | .neq => some true
  | _ => none
theorem neg_eq {op : BinOp} {ng : Bool} (h : negOp op = some ng) (t : Bool) : neg A op t = some (.bool (notB ng t)) := by
  cases op <;> first | (cases h; done) | skip
  all_goals cases h
  · rfl
  · show some _ = some _
    rw [Ar.not_eq]
    rfl
noncomputable def lvNilS (ng : Bool) (x y : GB) : LV := ⟨fun e _ _ k => as_nils (y.run e) (asS (x.run e) (k (.bool (notB ng true))) (fun _ _ _ _ => k (.bool (notB ng false))) (fun _ _ _ _ => k (.bool (notB ng false))) (k (.bool (notB ng false))))⟩
noncomputable def bEq (a b : Bool) : Bool := @Bool.rec (fun _ => Bool) (@Bool.rec (fun _ => Bool) true false b) (@Bool.rec (fun _ => Bool) false true b) a
theorem bEq_eq (a b : Bool) : bEq a b = (a == b) := by cases a <;> cases b <;> rfl
noncomputable def lvBoolEq (ng : Bool) (x y : GB) : LV := ⟨fun e _ _ k => as_bool (x.run e) fun a => as_bool (y.run e) fun b => fB (notB ng (bEq a b)) fun t => k (.bool t)⟩

noncomputable def eq1 (kd : Kd) : CV → CV → (Bool → Bool) → Bool := match kd with
  | .int _ => fun x y k => as2 x y (fun a b => k (iEq a b)) (fun a b => k (iEq a b)) (fun a b => k (Nat.beq a b)) (fun a b => k (Nat.beq a b)) (fun a b => k (Nat.beq a b))
  | .str => fun x y k => as_str x fun n a => as_str y fun m b => k (sEq n a m b)
  | .bool => fun x y k => as_bool x fun a => as_bool y fun b => k (bEq a b)
  | _ => fun _ _ _ => false
noncomputable def eqLK (ty : Nat → Ti) (fs : List (Nat × Nat)) (xs ys : List CV) (k : Bool → Bool) : Bool :=
  @List.rec (Nat × Nat) (fun _ => List CV → List CV → Bool → Bool) (fun xs ys t => @List.rec CV (fun _ => Bool) (@List.rec CV (fun _ => Bool) (k t) (fun _ _ _ => false) ys) (fun _ _ _ => false) xs)
    (fun f _ ih xs ys t => @List.rec CV (fun _ => Bool) false (fun x xs _ => @List.rec CV (fun _ => Bool) false (fun y ys _ => eq1 (ty f.1).kd x y fun b => fB (t && b) fun t => ih xs ys t) ys) xs) fs xs ys true
theorem eq1_sound {kd : Kd} {x y : CV} {u v : Value} (hx : RV ρ x u) (hy : RV ρ y v) {k : Bool → Bool} (hk : eq1 kd x y k = true) : ∃ t, k t = true ∧ ∀ (ty : Nat → Ti) (f : Nat × Nat) (fs : List (Nat × Nat)) (r q : List Value) (s : Bool), (ty f.1).kd = kd → eqCells A ty fs r q = some s → eqCells A ty (f :: fs) (u :: r) (v :: q) = some (t && s) := by
  unfold eq1 at hk
  split at hk
  · rcases as2_inv (RS.of (l := []) hx) (RS.of (l := []) hy) hk with ⟨a, b, h1, h2, h3⟩ | ⟨a, b, h1, h2, h3⟩ | ⟨a, b, h1, h2, h3⟩ | ⟨a, b, h1, h2, h3⟩ | ⟨a, b, h1, h2, h3⟩ <;> cases h1 <;> cases h2 <;> refine ⟨_, h3, fun ty f fs r q s hf hs => ?_⟩ <;> simp only [eqCells, hf, hs, decide_true, Ar.and_eq, Ar.icm_eq, Sx.icm] <;> congr 2
    · rw [iEq_iff]; rfl
    · rw [iEq_iff]; rfl
    all_goals (rw [Bool.eq_iff_iff, beq_iff_eq, Nat.beq_eq]; omega)
  · obtain ⟨n, a, rfl, h1⟩ := as_str_inv hk
    obtain ⟨m, b, rfl, h2⟩ := as_str_inv h1
    cases hx; cases hy
    refine ⟨_, h2, fun ty f fs r q s hf hs => ?_⟩
    simp only [eqCells, hf, hs, Ar.and_eq, Ar.scm_eq, Sx.scm, sEq_eq]
  · obtain ⟨a, rfl, h1⟩ := as_bool_inv hk
    obtain ⟨b, rfl, h2⟩ := as_bool_inv h1
    cases hx; cases hy
    refine ⟨_, h2, fun ty f fs r q s hf hs => ?_⟩
    simp only [eqCells, hf, hs, Ar.and_eq, Ar.bcm_eq, Sx.bcm, bEq_eq]
  · exact (Bool.false_ne_true hk).elim
theorem eqLK_sound {ty : Nat → Ti} {k : Bool → Bool} : ∀ {fs : List (Nat × Nat)} {xs ys : List CV} {us vs : List Value} {t : Bool}, RL ρ xs us → RL ρ ys vs →
    @List.rec (Nat × Nat) (fun _ => List CV → List CV → Bool → Bool) (fun xs ys t => @List.rec CV (fun _ => Bool) (@List.rec CV (fun _ => Bool) (k t) (fun _ _ _ => false) ys) (fun _ _ _ => false) xs)
    (fun f _ ih xs ys t => @List.rec CV (fun _ => Bool) false (fun x xs _ => @List.rec CV (fun _ => Bool) false (fun y ys _ => eq1 (ty f.1).kd x y fun b => fB (t && b) fun t => ih xs ys t) ys) xs) fs xs ys t = true → ∃ s, eqCells A ty fs us vs = some s ∧ k (t && s) = true
  | [], [], [], us, vs, t, h1, h2, h3 => by cases h1; cases h2; exact ⟨true, rfl, by simpa using h3⟩
  | [], [], _ :: _, us, vs, t, h1, h2, h3 => (Bool.false_ne_true h3).elim
  | [], _ :: _, _, us, vs, t, h1, h2, h3 => (Bool.false_ne_true h3).elim
  | f :: fs, [], _, us, vs, t, h1, h2, h3 => (Bool.false_ne_true h3).elim
  | f :: fs, _ :: _, [], us, vs, t, h1, h2, h3 => (Bool.false_ne_true h3).elim
  | f :: fs, x :: xs, y :: ys, us, vs, t, ⟨u, us', e1, hx, h1⟩, ⟨v, vs', e2, hy, h2⟩, h3 => by
    subst e1; subst e2
    obtain ⟨b, h4, h5⟩ := eq1_sound (A := A) hx hy (show eq1 (ty f.1).kd x y _ = true from h3)
    rw [fB_eq] at h4
    obtain ⟨s, h6, h7⟩ := eqLK_sound (t := t && b) h1 h2 h4
    exact ⟨b && s, h5 ty f fs us' vs' s rfl h6, by rwa [Bool.and_assoc] at h7⟩
noncomputable def lvFlat (ty : Nat → Ti) (fs : List (Nat × Nat)) (ng : Bool) (x y : GB) : LV := ⟨fun e _ _ k => as_agg (x.run e) fun a => as_agg (y.run e) fun b => eqLK ty fs a b fun t => fB (notB ng t) fun t => k (.bool t)⟩

noncomputable def lvDiv (op : BinOp) (x y : GB) : LV := ⟨fun e _ _ k => as2 (x.run e) (y.run e) (fun a b => chk (!(iEq b 0)) (fI (Sx.ari op .i64 a b) fun n => k (.i64 n))) (fun a b => chk (!(iEq b 0)) (fI (Sx.ari op .i32 a b) fun n => k (.i32 n)))
  (fun a b => chk (!(Nat.beq b 0)) (arU op .u8 a b fun n => k (.u8 n))) (fun a b => chk (!(Nat.beq b 0)) (arU op .u32 a b fun n => k (.u32 n))) (fun a b => chk (!(Nat.beq b 0)) (arU op .u64 a b fun n => k (.u64 n)))⟩
noncomputable def lvShf (op : BinOp) (x y : GB) : LV := ⟨fun e _ _ k => shf op (x.run e) (y.run e) k⟩

noncomputable def isAri (op : BinOp) : Bool := match op with
  | .add | .sub | .mul | .and | .or | .xor | .andNot => true
  | _ => false
noncomputable def isDiv (op : BinOp) : Bool := match op with
  | .quo | .rem => true
  | _ => false
noncomputable def isShf (op : BinOp) : Bool := match op with
  | .shl | .shr => true
  | _ => false
noncomputable def isAdd (op : BinOp) : Bool := match op with
  | .add => true
  | _ => false
/-- Comparisons that are left to the seat: of pointers, interfaces, maps, functions, arrays. -/
abbrev Oth := Nat → Op → LV
noncomputable def lvBin (q : LV) (ty : Nat → Ti) (op : BinOp) (t : Nat) (x y : GB) : LV := match (ty t).kd with
  | .int _ => match isAri op with
    | true => lvAri op x y
    | false => match isDiv op with
      | true => lvDiv op x y
      | false => match isShf op with
        | true => lvShf op x y
        | false => match cmpI op with
          | some f => lvCmp f x y
          | none => .fail
  | .str => match isAdd op with
    | true => lvCat x y
    | false => match cmpS op with
      | some f => lvCmpS f x y
      | none => .fail
  | .slc _ => match negOp op with
    | some ng => lvNilS ng x y
    | none => .fail
  | .bool => match negOp op with
    | some ng => lvBoolEq ng x y
    | none => .fail
  | .strct fs => match (ty t).flat with
    | true => match negOp op with
      | some ng => lvFlat ty fs ng x y
      | none => .fail
    | false => q
  | _ => q
def OthOk (A : Ar) (T : Tab) (p : Unit → Program) (nt : Nat) (oth : Oth) : Prop := ∀ o : Oper, LvOk A T p nt o (oth nt o.op)
theorem binOp_sound {oth : Oth} (hoth : OthOk A T p nt oth) {o : Oper} {op : BinOp} {t tt : Nat} {x y : Operand} (ho : o.op = .binOp op t x y tt) : LvOk A T p nt o (lvBin (oth nt o.op) T.ty op t (opG nt x) (opG nt y)) := by
  intro ρ e l H env L h k K s hk hK
  have hx := s.op x
  have hy := s.op y
  unfold lvBin at hk
  split at hk
  · rename_i kd hkd
    unfold lightx
    rw [ho]
    split at hk
    · rename_i hop
      have key : ∀ (kd : IntKind) (a b : Int), binV A op (.int kd a) (.int kd b) = some (.int kd (Sx.ari op kd a b)) := fun kd a b => by
        rw [← Ar.ari_eq (A := A)]; cases op <;> first | (cases hop; done) | simp [binV]
      rcases as2_inv hx hy hk with ⟨a, b, h1, h2, h3⟩ | ⟨a, b, h1, h2, h3⟩ | ⟨a, b, h1, h2, h3⟩ | ⟨a, b, h1, h2, h3⟩ | ⟨a, b, h1, h2, h3⟩ <;> simp only [h1, h2, key]
      · exact hK (.i64 _) _ (.of rfl) (ar64_eq h3)
      · rw [fI_eq] at h3; exact hK (.i32 _) _ (.of rfl) h3
      · obtain ⟨n, h4, h5⟩ := arU_eq h3; rw [h4]; exact hK (.u8 _) _ (.of rfl) h5
      · obtain ⟨n, h4, h5⟩ := arU_eq h3; rw [h4]; exact hK (.u32 _) _ (.of rfl) h5
      · obtain ⟨n, h4, h5⟩ := arU_eq h3; rw [h4]; exact hK (.u64 _) _ (.of rfl) h5
    · split at hk
      · rename_i hop
        have key : ∀ (kd : IntKind) (a b : Int) (f : Value → Prop) (g : Unit → Prop), b ≠ 0 → f (.int kd (Sx.ari op kd a b)) → (match binV A op (.int kd a) (.int kd b) with
            | some r => f r
            | none => match cmpV A T.ty (T.ty t) op (.int kd a) (.int kd b) with
              | some r => f r
              | none => binC A op (.int kd a) (.int kd b) f g) := fun kd a b f g hb hf => by
          rw [← Ar.ari_eq (A := A)] at hf
          cases op <;> first | (cases hop; done) | (simp only [binV, cmpV, hkd, binC, decide_true]; exact ⟨hb, hf⟩)
        rcases as2_inv hx hy hk with ⟨a, b, h1, h2, h3⟩ | ⟨a, b, h1, h2, h3⟩ | ⟨a, b, h1, h2, h3⟩ | ⟨a, b, h1, h2, h3⟩ | ⟨a, b, h1, h2, h3⟩ <;> simp only [h1, h2] <;> obtain ⟨h4, h5⟩ := chk_inv h3
        · rw [iEq_iff] at h4; rw [fI_eq] at h5
          exact key _ _ _ _ _ (by simpa using h4) (hK (.i64 _) _ (.of rfl) h5)
        · rw [iEq_iff] at h4; rw [fI_eq] at h5
          exact key _ _ _ _ _ (by simpa using h4) (hK (.i32 _) _ (.of rfl) h5)
        · obtain ⟨n, h6, h7⟩ := arU_eq h5
          refine key _ _ _ _ _ (fun h => ?_) (by rw [h6]; exact hK (.u8 _) _ (.of rfl) h7)
          have : b = 0 := by omega
          subst this; cases h4
        · obtain ⟨n, h6, h7⟩ := arU_eq h5
          refine key _ _ _ _ _ (fun h => ?_) (by rw [h6]; exact hK (.u32 _) _ (.of rfl) h7)
          have : b = 0 := by omega
          subst this; cases h4
        · obtain ⟨n, h6, h7⟩ := arU_eq h5
          refine key _ _ _ _ _ (fun h => ?_) (by rw [h6]; exact hK (.u64 _) _ (.of rfl) h7)
          have : b = 0 := by omega
          subst this; cases h4
      · split at hk
        · rename_i hop
          obtain ⟨ka, kb, a, b, v, h1, h2, h3, h4⟩ := shf_inv hx hy hk
          simp only [h1, h2]
          have hf := hK v _ (.of h3) h4
          rw [← Ar.ari_eq (A := A)] at hf
          cases op <;> first | (cases hop; done) | (simp only [binV, cmpV, hkd, binC]; exact ⟨by omega, hf⟩)
        · split at hk
          · rename_i f hf
            have key : ∀ (kd : IntKind) (a b : Int), binV A op (.int kd a) (.int kd b) = some (.bool (f a b)) := fun kd a b => by
              rw [cmpI_eq hf, ← Ar.icm_eq (A := A)]; cases op <;> first | (cases hf; done) | simp [binV]
            rcases as2_inv hx hy hk with ⟨a, b, h1, h2, h3⟩ | ⟨a, b, h1, h2, h3⟩ | ⟨a, b, h1, h2, h3⟩ | ⟨a, b, h1, h2, h3⟩ | ⟨a, b, h1, h2, h3⟩ <;> simp only [h1, h2, key] <;> rw [fB_eq] at h3 <;> exact hK (.bool _) _ (.of rfl) h3
          · exact (Bool.false_ne_true hk).elim
  · rename_i hkd
    unfold lightx
    rw [ho]
    split at hk
    · rename_i hop
      obtain ⟨n, a, h1, h2⟩ := hx.str hk
      obtain ⟨m, b, h3, h4⟩ := hy.str h2
      rw [fN_eq] at h4
      obtain ⟨h5, h6⟩ := chk_inv h4
      rw [fN_eq] at h6
      simp only [h1, h3]
      cases op <;> first | (cases hop; done) | skip
      simp only [binV, cmpV, hkd, binC]
      refine ⟨?_, ?_⟩
      · rw [bytes_size, bytes_size]
        have : n + m ≤ 4611686018427387904 := by simpa using h5
        omega
      · rw [Ar.cat_eq]; simp only [bytes_app]
        exact hK (.str _ _) _ (.of rfl) h6
    · split at hk
      · rename_i f hf
        obtain ⟨n, a, h1, h2⟩ := hx.str hk
        obtain ⟨m, b, h3, h4⟩ := hy.str h2
        rw [fB_eq] at h4
        simp only [h1, h3]
        have key : binV A op (.string (bytes n a)) (.string (bytes m b)) = some (.bool (f n a m b)) := by
          rw [cmpS_eq hf, ← Ar.scm_eq (A := A)]; cases op <;> first | (cases hf; done) | simp [binV]
        simp only [key]
        exact hK (.bool _) _ (.of rfl) h4
      · exact (Bool.false_ne_true hk).elim
  · rename_i el hkd
    unfold lightx
    rw [ho]
    split at hk
    · rename_i ng hng
      obtain ⟨h1, h2⟩ := as_nils_inv hk
      rw [h1] at hy
      obtain ⟨v, h3, rfl⟩ := hy
      have key : ∀ (b : Option Addr) (n c : Nat), binV A op (.slice b n c) (.slice none 0 0) = none := fun b n c => by cases op <;> rfl
      have key2 : ∀ (b : Option Addr) (n c : Nat), cmpV A T.ty (T.ty t) op (.slice b n c) (.slice none 0 0) = some (.bool (notB ng b.isNone)) := fun b n c => by
        unfold cmpV; simp only [hkd]; rw [neg_eq hng, Ar.isn_eq]
      simp only [h3]
      rcases asS_inv h2 with ⟨h4, h5⟩ | ⟨b, q, n, c, h4, h5⟩ | ⟨b, q, n, z, h4, h5⟩ | ⟨h4, h5⟩ <;> rw [h4] at hx
      · obtain ⟨v, h6, rfl⟩ := hx
        simp only [h6, key, key2]
        exact hK (.bool _) _ (.of rfl) h5
      · obtain ⟨v, h6, r, h7, rfl, -⟩ := hx
        simp only [h6, key, key2]
        exact hK (.bool _) _ (.of rfl) h5
      · obtain ⟨v, h6, r, c, h7, rfl, -⟩ := hx
        simp only [h6, key, key2]
        exact hK (.bool _) _ (.of rfl) h5
      · obtain ⟨v, h6, r, c, rfl⟩ := hx
        simp only [h6, key, key2]
        exact hK (.bool _) _ (.of rfl) h5
    · exact (Bool.false_ne_true hk).elim
  · rename_i hkd
    unfold lightx
    rw [ho]
    split at hk
    · rename_i ng hng
      obtain ⟨a, h1, h2⟩ := hx.bool hk
      obtain ⟨b, h3, h4⟩ := hy.bool h2
      simp only [h1, h3]
      have key : binV A op (.bool a) (.bool b) = none := by cases op <;> rfl
      have key2 : cmpV A T.ty (T.ty t) op (.bool a) (.bool b) = some (.bool (notB ng (bEq a b))) := by
        unfold cmpV; simp only [hkd]; rw [neg_eq hng, Ar.bcm_eq, bEq_eq]; rfl
      simp only [key, key2]
      rw [fB_eq] at h4
      exact hK (.bool _) _ (.of rfl) h4
    · exact (Bool.false_ne_true hk).elim
  · rename_i fs hkd
    split at hk
    · rename_i hfl
      unfold lightx
      rw [ho]
      split at hk
      · rename_i ng hng
        obtain ⟨a, xs, h1, h2, h3⟩ := hx.agg hk
        obtain ⟨b, ys, h4, h5, h6⟩ := hy.agg h3
        simp only [h1, h4]
        obtain ⟨q, h7, h8⟩ := eqLK_sound (A := A) (t := true) h2 h5 h6
        have key : binV A op (.agg xs.toArray) (.agg ys.toArray) = none := by cases op <;> rfl
        have key2 : cmpV A T.ty (T.ty t) op (.agg xs.toArray) (.agg ys.toArray) = some (.bool (notB ng q)) := by
          unfold cmpV; simp only [hkd, hfl, h7]; rw [neg_eq hng]
        simp only [key, key2]
        rw [fB_eq] at h8
        exact hK (.bool _) _ (.of rfl) h8
      · exact (Bool.false_ne_true hk).elim
    · exact hoth o s hk hK
  · exact hoth o s hk hK

end
end Go.Cx
namespace Go.Cx
open Go.Sx

section
variable {A : Ar} [hA : ArOk A] {T : Tab} {p : Unit → Program} {nt : Nat} {ρ : Rn} {e : E} {l : LocE} {H : HP} {env : Sx.Env} {L : Sx.Loc} {h : Heap}

/-! One operand's operations. -/
noncomputable def toI (v : CV) (k : Int → Bool) : Bool :=
  @CV.rec (fun _ => Bool) (fun _ => Bool) false (fun _ => false) (fun n => k n) (fun n => k n) (fun n => k (.ofNat n)) (fun n => k (.ofNat n)) (fun n => k (.ofNat n)) (fun _ _ => false) false (fun _ _ => false) (fun _ _ => false) false (fun _ _ _ _ => false) (fun _ _ _ _ => false) false false (fun _ => false) (fun _ _ _ _ _ => false) false (fun _ _ _ => false) false (fun _ _ => false) (fun _ _ => false) (fun _ _ => false) false (fun _ _ _ _ => false) v
theorem RS.toI {v : CV} {s : SV} (h : RS ρ l v s) {k : Int → Bool} (hk : toI v k = true) : ∃ kd n, s = .v (.int kd n) ∧ k n = true := by
  cases v with
  | i64 n => obtain ⟨x, rfl, rfl⟩ := h; exact ⟨_, _, rfl, hk⟩
  | i32 n => obtain ⟨x, rfl, rfl⟩ := h; exact ⟨_, _, rfl, hk⟩
  | u8 n => obtain ⟨x, rfl, rfl⟩ := h; exact ⟨_, _, rfl, hk⟩
  | u32 n => obtain ⟨x, rfl, rfl⟩ := h; exact ⟨_, _, rfl, hk⟩
  | u64 n => obtain ⟨x, rfl, rfl⟩ := h; exact ⟨_, _, rfl, hk⟩
  | _ => exact (Bool.false_ne_true hk).elim
/-- A number without sign of so many values. -/
noncomputable def wU (kd : IntKind) (m : Nat) (z : Int) (k : Nat → Bool) : Bool := @Int.rec (fun _ => Bool) (fun n => fN (Nat.mod n m) k) (fun n => natI (kd.wrap (.negSucc n)) fun n => fN n k) z
theorem wU_sound {kd : IntKind} {m : Nat} (hm : ∀ n : Nat, kd.wrap (n : Int) = ((n % m : Nat) : Int)) {z : Int} {k : Nat → Bool} (hk : wU kd m z k = true) : ∃ n : Nat, kd.wrap z = n ∧ k n = true := by
  cases z with
  | ofNat n => exact ⟨_, hm n, by rw [← fN_eq (n % m) k]; exact hk⟩
  | negSucc n => obtain ⟨q, h1, h2⟩ := natI_inv (show natI _ _ = true from hk); exact ⟨q, h1, by rwa [fN_eq] at h2⟩
theorem wrapU8 (n : Nat) : IntKind.u8.wrap (n : Int) = ((n % 256 : Nat) : Int) := by unfold IntKind.wrap; simp [IntKind.bits, IntKind.signed]
theorem wrapU32 (n : Nat) : IntKind.u32.wrap (n : Int) = ((n % 4294967296 : Nat) : Int) := by unfold IntKind.wrap; simp [IntKind.bits, IntKind.signed]
theorem wrapU64 (n : Nat) : IntKind.u64.wrap (n : Int) = ((n % 18446744073709551616 : Nat) : Int) := by unfold IntKind.wrap; simp [IntKind.bits, IntKind.signed]
noncomputable def cvt (kd : IntKind) : Option (Int → (CV → Bool) → Bool) := match kd with
  | .i64 => some fun z k => w64 z fun n => k (.i64 n)
  | .i32 => some fun z k => fI (IntKind.i32.wrap z) fun n => k (.i32 n)
  | .u8 => some fun z k => wU .u8 256 z fun n => k (.u8 n)
  | .u32 => some fun z k => wU .u32 4294967296 z fun n => k (.u32 n)
  | .u64 => some fun z k => wU .u64 18446744073709551616 z fun n => k (.u64 n)
  | _ => none
theorem cvt_sound {kd : IntKind} {f : Int → (CV → Bool) → Bool} (hf : cvt kd = some f) {z : Int} {k : CV → Bool} (hk : f z k = true) : ∃ v, RV ρ v (.int kd (kd.wrap z)) ∧ k v = true := by
  cases kd <;> first | (cases hf; done) | skip
  all_goals cases hf
  · exact ⟨.i32 _, rfl, by rw [← fI_eq (IntKind.i32.wrap z) fun n => k (.i32 n)]; exact hk⟩
  · exact ⟨.i64 _, rfl, w64_eq (k := fun n => k (.i64 n)) hk⟩
  · obtain ⟨n, h1, h2⟩ := wU_sound wrapU8 (show wU _ _ _ _ = true from hk); exact ⟨.u8 n, by rw [h1]; rfl, h2⟩
  · obtain ⟨n, h1, h2⟩ := wU_sound wrapU32 (show wU _ _ _ _ = true from hk); exact ⟨.u32 n, by rw [h1]; rfl, h2⟩
  · obtain ⟨n, h1, h2⟩ := wU_sound wrapU64 (show wU _ _ _ _ = true from hk); exact ⟨.u64 n, by rw [h1]; rfl, h2⟩

noncomputable def lvUn (op : UnOp) (x : GB) : LV := match op with
  | .not => ⟨fun e _ _ k => as_bool (x.run e) fun b => fB (!b) fun b => k (.bool b)⟩
  | .neg => ⟨fun e _ _ k => as_i64 (x.run e) fun n => sub64 0 n fun n => k (.i64 n)⟩
  | .xor => ⟨fun e _ _ k => @CV.rec (fun _ => Bool) (fun _ => Bool) false (fun _ => false) (fun n => fI (Sx.ari .xor .i64 (maskI .i64) n) fun n => k (.i64 n)) (fun _ => false) (fun n => natI (Sx.ari .xor .u8 (maskI .u8) n) fun n => fN n fun n => k (.u8 n)) (fun n => natI (Sx.ari .xor .u32 (maskI .u32) n) fun n => fN n fun n => k (.u32 n)) (fun n => natI (Sx.ari .xor .u64 (maskI .u64) n) fun n => fN n fun n => k (.u64 n)) (fun _ _ => false) false (fun _ _ => false) (fun _ _ => false) false (fun _ _ _ _ => false) (fun _ _ _ _ => false) false false (fun _ => false) (fun _ _ _ _ _ => false) false (fun _ _ _ => false) false (fun _ _ => false) (fun _ _ => false) (fun _ _ => false) false (fun _ _ _ _ => false) (x.run e)⟩
  | _ => .fail
theorem unOp_sound {o : Oper} {op : UnOp} {t : Nat} {x : Operand} (ho : o.op = .unOp op t x) : LvOk A T p nt o (lvUn op (opG nt x)) := by
  intro ρ e l H env L h k K s hk hK
  have hx := s.op x
  unfold lightx
  rw [ho]
  unfold lvUn at hk
  split at hk
  · obtain ⟨b, h1, h2⟩ := hx.bool hk
    rw [fB_eq] at h2
    simp only [h1]
    exact hK (.bool _) _ (.of (by rw [Ar.not_eq]; rfl)) h2
  · obtain ⟨n, h1, h2⟩ := as_i64_inv hk
    rw [h1] at hx
    obtain ⟨v, h3, rfl⟩ := hx
    simp only [h3]
    refine hK (.i64 _) _ (.of ?_) (sub64_eq h2)
    show _ = _
    rw [Ar.ari_eq]
    rfl
  · replace hk : CV.rec (motive_1 := fun _ => Bool) (motive_2 := fun _ => Bool) _ _ _ _ _ _ _ _ _ _ _ _ _ _ _ _ _ _ _ _ _ _ _ _ _ _ ((opG nt x).run e) = true := hk
    cases hv : (opG nt x).run e <;> rw [hv] at hx hk <;> first
      | exact (Bool.false_ne_true hk).elim
      | (obtain ⟨v, h3, rfl⟩ := hx
         obtain ⟨m, h4, h5⟩ := natI_inv (show natI _ _ = true from hk)
         rw [fN_eq] at h5
         simp only [h3]
         refine hK _ _ (.of ?_) h5
         show _ = _
         rw [Ar.ari_eq, h4])
      | (obtain ⟨v, h3, rfl⟩ := hx
         replace hk := (fI_eq _ _).symm.trans (show fI _ _ = true from hk)
         simp only [h3]
         refine hK _ _ (.of ?_) hk
         show _ = _
         rw [Ar.ari_eq])
  · exact (Bool.false_ne_true hk).elim

noncomputable def lvConv (ty : Nat → Ti) (src dst : Nat) (x : GB) : LV := match (ty dst).kd, (ty src).kd with
  | .int kd, .int _ => match cvt kd with
    | some f => ⟨fun e _ _ k => toI (x.run e) fun z => f z k⟩
    | none => .fail
  | _, _ => .fail
theorem convert_sound {o : Oper} {src dst : Nat} {x : Operand} (ho : o.op = .convert src dst x) : LvOk A T p nt o (lvConv T.ty src dst (opG nt x)) := by
  intro ρ e l H env L h k K s hk hK
  unfold lightx
  rw [ho]
  unfold lvConv at hk
  split at hk
  · rename_i kd ks hkd hks
    split at hk
    · rename_i f hf
      obtain ⟨j, n, h1, h2⟩ := (s.op x).toI hk
      obtain ⟨v, h3, h4⟩ := cvt_sound (ρ := ρ) hf h2
      simp only [h1, hkd, hks]
      refine hK v _ (.of ?_) h4
      rw [Ar.conv_eq]
      exact h3
    · exact (Bool.false_ne_true hk).elim
  · exact (Bool.false_ne_true hk).elim

theorem RS.ok {v : CV} {s : SV} (h : RS ρ l v s) {k : CV → Bool} (hk : okV v k = true) : ∃ x, s = .v x ∧ RV ρ v x ∧ k v = true := by
  obtain ⟨h1, h2, h3⟩ := okV_inv hk
  obtain ⟨x, h4, h5⟩ := h.val h1 h2
  exact ⟨x, h4, h5, h3⟩
noncomputable def lvIfc (ty : Nat → Ti) (t : Nat) (x : GB) : LV := match (ty t).kd with
  | .ifc => .fail
  | .none => .fail
  | _ => ⟨fun e _ _ k => okV (x.run e) fun v => k (.ifc t v)⟩
theorem ifc_sound {o : Oper} {t : Nat} {x : Operand} (ho : o.op = .makeInterface t x) : LvOk A T p nt o (lvIfc T.ty t (opG nt x)) := by
  intro ρ e l H env L h k K s hk hK
  unfold lightx
  rw [ho]
  unfold lvIfc at hk
  split at hk
  · exact (Bool.false_ne_true hk).elim
  · exact (Bool.false_ne_true hk).elim
  · rename_i h1 h2
    obtain ⟨y, h3, h4, h5⟩ := (s.op x).ok (k := fun v => k (.ifc t v)) hk
    simp only [h3]
    exact hK (.ifc t _) _ (.of ⟨y, h4, rfl⟩) h5

/-- Operands' values. -/
noncomputable def visK (gs : List GB) (e : E) (k : List CV → Bool) : Bool := @List.rec GB (fun _ => (List CV → Bool) → Bool) (fun k => k []) (fun g _ ih k => okV (g.run e) fun v => ih fun r => k (v :: r)) gs k
theorem vis_sound (s : RSt nt ρ e l H env L h) : ∀ {xs : List Operand} {k : List CV → Bool}, visK (xs.map (opG nt)) e k = true → ∃ vs ys, vals (xs.map (sev env)) = some ys ∧ RL ρ vs ys ∧ k vs = true
  | [], k, hk => ⟨[], [], rfl, rfl, hk⟩
  | x :: r, k, hk => by
    obtain ⟨y, h1, h2, h3⟩ := (s.op x).ok (show okV ((opG nt x).run e) (fun v => visK (r.map (opG nt)) e fun q => k (v :: q)) = true from hk)
    obtain ⟨vs, ys, h4, h5, h6⟩ := vis_sound s h3
    refine ⟨_ :: vs, y :: ys, ?_, .cons h2 h5, h6⟩
    simp only [List.map_cons, h1, vals, h4]
noncomputable def lvFunc (nt : Nat) (fn : Fn) (f c : List Operand) : LV := match fn with
  | .func g => ⟨fun e _ _ k => visK (f.map (opG nt)) e fun a => visK (c.map (opG nt)) e fun b => k (.fn g a b)⟩
  | _ => .fail
theorem func_sound {o : Oper} {fn : Fn} {f c : Array Operand} (ho : o.op = .makeFunc fn f c) : LvOk A T p nt o (lvFunc nt fn f.toList c.toList) := by
  intro ρ e l H env L h k K s hk hK
  unfold lightx
  rw [ho]
  unfold lvFunc at hk
  split at hk
  · obtain ⟨a, xs, h1, h2, h3⟩ := vis_sound s hk
    obtain ⟨b, ys, h4, h5, h6⟩ := vis_sound s h3
    simp only [h1, h4]
    exact hK (.fn _ a b) _ (.of ⟨xs, ys, h2, h5, rfl⟩) h6
  · exact (Bool.false_ne_true hk).elim

/-! Slices of slices, of arrays, of strings. -/
structure OG where
  run : E → (Option Nat → Bool) → Bool
noncomputable def bndG (nt : Nat) (x : Option Operand) : OG := match x with
  | none => ⟨fun _ k => k none⟩
  | some x => match opG nt x with
    | g => ⟨fun e k => asIx (g.run e) fun n => k (some n)⟩
theorem bnd_sound (s : RSt nt ρ e l H env L h) {x : Option Operand} {k : Option Nat → Bool} (hk : (bndG nt x).run e k = true) : ∃ n, slx (sev env) x = some (n.map fun (m : Nat) => (m : Int)) ∧ k n = true := by
  cases x with
  | none => exact ⟨none, rfl, hk⟩
  | some x =>
    obtain ⟨kd, n, h1, h2⟩ := (s.op x).ix hk
    exact ⟨some n, by unfold slx; simp only [h1]; rfl, h2⟩
noncomputable def orN (x : Option Nat) (d : Nat) : Nat := @Option.rec Nat (fun _ => Nat) d (fun n => n) x
/-- A slice whose capacity is known. -/
noncomputable def cutS (b : P5) (off len cap size : Nat) (lo hi m : Option Nat) (k : CV → Bool) : Bool :=
  fN (orN lo 0) fun lo => fN (orN hi len) fun hi => fN (orN m cap) fun m => chk (Nat.ble lo hi) (chk (Nat.ble hi m) (chk (Nat.ble m cap) (fN (ite'' (Nat.beq m lo) off (Nat.add off (Nat.mul lo size))) fun off => fN (Nat.sub hi lo) fun n => fN (Nat.sub m lo) fun c => k (.slc b off n c))))
where ite'' (b : Bool) (x y : Nat) : Nat := @Bool.rec (fun _ => Nat) y x b
theorem cut_addr (b off : Nat) (lo m size : Nat) : A.cut (some ⟨b, off, none⟩) lo m size = some ⟨b, if m = lo then off else off + lo * size, none⟩ := by
  rw [Ar.cut_eq]
  simp only
  by_cases e : m = lo
  · subst e; simp
  · rw [if_neg (by omega), if_neg e]
    simp only [Option.map_some, Int.toNat_natCast, addr_add]
theorem ite''_eq (m lo x y : Nat) : cutS.ite'' (Nat.beq m lo) x y = if m = lo then x else y := by
  by_cases e : m = lo
  · subst e; rw [Nat.beq_refl, if_pos rfl]; rfl
  · rw [if_neg e]
    cases h : Nat.beq m lo with
    | true => exact absurd (Nat.eq_of_beq_eq_true h) e
    | false => rfl
theorem dif_nat (a b : Nat) : A.dif (a : Int) (b : Int) = a - b := by rw [Ar.dif_eq]; simp only; omega
theorem cutS_sound {b : P5} {off len cap size : Nat} {lo hi m : Option Nat} {k : CV → Bool} (hlen : len ≤ cap) (hmh : m.isSome = true → hi.isSome = true) (hk : cutS b off len cap size lo hi m k = true) {r : RB} (hr : ρ b = some r) {K : Value → Prop} (hK : ∀ v x, RV ρ v x → k v = true → K x) :
    sliceX A (some ⟨r.blk, r.bas + off, none⟩) len cap size (lo.map fun (m : Nat) => (m : Int)) (hi.map fun (m : Nat) => (m : Int)) (m.map fun (m : Nat) => (m : Int)) K := by
  unfold cutS at hk
  simp only [fN_eq, ite''_eq] at hk
  obtain ⟨h1, hk⟩ := chk_inv hk
  obtain ⟨h2, hk⟩ := chk_inv hk
  obtain ⟨h3, hk⟩ := chk_inv hk
  have h1 : orN lo 0 ≤ orN hi len := by simpa using h1
  have h2 : orN hi len ≤ orN m cap := by simpa using h2
  have h3 : orN m cap ≤ cap := by simpa using h3
  have key : ∀ (lo hi m : Nat) (h1 : lo ≤ hi) (h2 : hi ≤ m), k (.slc b (if m = lo then off else off.add (lo.mul size)) (hi.sub lo) (m.sub lo)) = true → K (.slice (A.cut (some ⟨r.blk, r.bas + off, none⟩) lo m size) (hi - lo) (m - lo)) := fun lo hi m g1 g2 hk => by
    refine hK (.slc b (if m = lo then off else off.add (lo.mul size)) (hi.sub lo) (m.sub lo)) _ ⟨r, hr, ?_, ?_⟩ hk
    · rw [cut_addr]
      have : r.bas + (if m = lo then off else off.add (lo.mul size)) = if m = lo then r.bas + off else r.bas + off + lo * size := by
        split
        · rfl
        · show r.bas + (off + lo * size) = _
          omega
      rw [this]
      rfl
    · show hi - lo ≤ m - lo
      omega
  cases m with
  | none => cases hi with
    | none => cases lo with
      | none =>
        refine hK (.slc b off len cap) _ ⟨r, hr, rfl, hlen⟩ ?_
        have e : (if cap = 0 then off else off.add (Nat.mul 0 size)) = off := by
          split
          · rfl
          · show off + 0 * size = off
            omega
        have hk' : k (.slc b (if cap = 0 then off else off.add (Nat.mul 0 size)) len cap) = true := hk
        rwa [e] at hk'
      | some lo =>
        simp only [Option.map_none, Option.map_some, sliceX]
        simp only [orN] at h1 h2
        refine ⟨⟨by omega, by omega⟩, ?_⟩
        have := key lo len cap h1 h2 hk
        rw [Ar.nat_eq]
        simp only [Int.ofNat_eq_natCast, dif_nat]
        exact this
    | some hi => cases lo with
      | none =>
        simp only [Option.map_none, Option.map_some, sliceX]
        simp only [orN] at h1 h2 h3
        refine ⟨⟨by omega, by omega⟩, ?_⟩
        have := key 0 hi cap h1 h2 hk
        rw [Ar.nat_eq]
        have e : A.dif (hi : Int) 0 = hi - 0 := dif_nat hi 0
        simp only [Int.ofNat_eq_natCast, e]
        exact this
      | some lo =>
        simp only [Option.map_none, Option.map_some, sliceX]
        simp only [orN] at h1 h2 h3
        refine ⟨⟨by omega, by omega, by omega, by omega⟩, ?_⟩
        have := key lo hi cap h1 h2 hk
        rw [Ar.nat_eq]
        simp only [Int.ofNat_eq_natCast, dif_nat]
        exact this
  | some m => cases hi with
    | none => exact absurd (hmh rfl) (by simp)
    | some hi => cases lo with
      | none =>
        simp only [Option.map_none, Option.map_some, sliceX]
        simp only [orN] at h1 h2 h3
        refine ⟨⟨by omega, by omega, by omega, by omega⟩, ?_⟩
        have := key 0 hi m h1 h2 hk
        have e : A.dif (hi : Int) 0 = hi - 0 := dif_nat hi 0
        have e2 : A.dif (m : Int) 0 = m - 0 := dif_nat m 0
        simp only [e, e2]
        exact this
      | some lo =>
        simp only [Option.map_none, Option.map_some, sliceX]
        simp only [orN] at h1 h2 h3
        refine ⟨⟨by omega, by omega, by omega, by omega, by omega, by omega⟩, ?_⟩
        have := key lo hi m h1 h2 hk
        simp only [dif_nat]
        exact this

/-- A slice whose capacity is not known: at least its length. -/
noncomputable def cutU (b : P5) (off len z size : Nat) (lo hi m : Option Nat) (k : CV → Bool) : Bool :=
  @Option.rec Nat (fun _ => Bool)
    (fN (orN lo 0) fun lo => fN (orN hi len) fun hi => chk (Nat.ble lo hi) (chk (Nat.ble hi len) (chk (Nat.beq z size) (ite' (Nat.beq lo 0) (k (.slu b off hi z)) (ite' (Nat.beq lo len) (k .emp) (fN (Nat.add off (Nat.mul lo size)) fun off => fN (Nat.sub hi lo) fun n => k (.slu b off n z)))))))
    (fun m => chk (Nat.ble m len) (cutS b off len len size lo hi (some m) k)) m
theorem cutU_sound {b : P5} {off len z size c : Nat} {lo hi m : Option Nat} {k : CV → Bool} (hlen : len ≤ c) (hmh : m.isSome = true → hi.isSome = true) (hk : cutU b off len z size lo hi m k = true) {r : RB} (hr : ρ b = some r) (ht : r.bas + off + c * z = r.tot) {K : Value → Prop} (hK : ∀ v x, RV ρ v x → k v = true → K x) :
    sliceX A (some ⟨r.blk, r.bas + off, none⟩) len c size (lo.map fun (m : Nat) => (m : Int)) (hi.map fun (m : Nat) => (m : Int)) (m.map fun (m : Nat) => (m : Int)) K := by
  cases m with
  | some m =>
    obtain ⟨h1, h2⟩ := chk_inv (show chk _ _ = true from hk)
    have h1 : m ≤ len := by simpa using h1
    have h3 := cutS_sound (A := A) (Nat.le_refl len) hmh h2 hr hK
    cases hi with
    | none => exact absurd (hmh rfl) (by simp)
    | some hi => cases lo with
      | none =>
        simp only [Option.map_none, Option.map_some, sliceX] at h3 ⊢
        obtain ⟨⟨a1, a2, a3, a4⟩, h5⟩ := h3
        exact ⟨⟨a1, by omega, a3, a4⟩, h5⟩
      | some lo =>
        simp only [Option.map_none, Option.map_some, sliceX] at h3 ⊢
        obtain ⟨⟨a1, a2, a3, a4, a5, a6⟩, h5⟩ := h3
        exact ⟨⟨a1, by omega, a3, a4, a5, a6⟩, h5⟩
  | none =>
    unfold cutU at hk
    simp only [fN_eq] at hk
    obtain ⟨h1, hk⟩ := chk_inv hk
    obtain ⟨h2, hk⟩ := chk_inv hk
    obtain ⟨h3, hk⟩ := chk_inv hk
    have h1 : orN lo 0 ≤ orN hi len := by simpa using h1
    have h2 : orN hi len ≤ len := by simpa using h2
    have h3 : z = size := Nat.eq_of_beq_eq_true h3
    subst h3
    have key : ∀ (lo hi : Nat) (h1 : lo ≤ hi) (h2 : hi ≤ len), ite' (Nat.beq lo 0) (k (.slu b off hi z)) (ite' (Nat.beq lo len) (k .emp) (k (.slu b (Nat.add off (Nat.mul lo z)) (Nat.sub hi lo) z))) = true →
        K (.slice (A.cut (some ⟨r.blk, r.bas + off, none⟩) lo c z) (hi - lo) (c - lo)) := fun lo hi g1 g2 hk => by
      rw [cut_addr]
      rcases ite'_inv hk with ⟨a1, a2⟩ | ⟨a1, a2⟩
      · have a1 : lo = 0 := Nat.eq_of_beq_eq_true a1
        subst a1
        refine hK (.slu b off hi z) _ ⟨r, c, hr, ?_, by omega, ht⟩ a2
        have : (if c = 0 then r.bas + off else r.bas + off + 0 * z) = r.bas + off := by
          split
          · rfl
          · omega
        rw [this]
        rfl
      · rcases ite'_inv a2 with ⟨b1, b2⟩ | ⟨b1, b2⟩
        · have b1 : lo = len := Nat.eq_of_beq_eq_true b1
          subst b1
          have : hi - lo = 0 := by omega
          rw [this]
          exact hK .emp _ ⟨_, _, rfl⟩ b2
        · have b1 : lo ≠ len := fun e => by subst e; rw [Nat.beq_refl] at b1; cases b1
          rw [if_neg (by omega)]
          refine hK (.slu b (Nat.add off (Nat.mul lo z)) (Nat.sub hi lo) z) _ ⟨r, c - lo, hr, ?_, by show hi - lo ≤ c - lo; omega, ?_⟩ b2
          · show Value.slice _ _ _ = Value.slice (some ⟨r.blk, r.bas + (off + lo * z), none⟩) (hi - lo) (c - lo)
            rw [Nat.add_assoc]
          · show r.bas + (off + lo * z) + (c - lo) * z = r.tot
            have : (c - lo) * z + lo * z = c * z := by rw [← Nat.add_mul]; congr 1; omega
            omega
    cases hi with
    | none => cases lo with
      | none =>
        refine hK (.slu b off len z) _ ⟨r, c, hr, rfl, hlen, ht⟩ ?_
        rcases ite'_inv hk with ⟨a1, a2⟩ | ⟨a1, a2⟩
        · exact a2
        · cases a1
      | some lo =>
        simp only [Option.map_none, Option.map_some, sliceX]
        simp only [orN] at h1 h2
        refine ⟨⟨by omega, by omega⟩, ?_⟩
        have := key lo len h1 h2 hk
        rw [Ar.nat_eq]
        simp only [Int.ofNat_eq_natCast, dif_nat]
        exact this
    | some hi => cases lo with
      | none =>
        simp only [Option.map_none, Option.map_some, sliceX]
        simp only [orN] at h1 h2
        refine ⟨⟨by omega, by omega⟩, ?_⟩
        have := key 0 hi h1 h2 hk
        rw [Ar.nat_eq]
        have e : A.dif (hi : Int) 0 = hi - 0 := dif_nat hi 0
        simp only [Int.ofNat_eq_natCast, e]
        exact this
      | some lo =>
        simp only [Option.map_none, Option.map_some, sliceX]
        simp only [orN] at h1 h2
        refine ⟨⟨by omega, by omega, by omega, by omega⟩, ?_⟩
        have := key lo hi h1 h2 hk
        rw [Ar.nat_eq]
        simp only [Int.ofNat_eq_natCast, dif_nat]
        exact this

noncomputable def isZ (x : Option Nat) : Bool := @Option.rec Nat (fun _ => Bool) true (fun n => Nat.beq n 0) x
theorem isZ_inv {x : Option Nat} (h : isZ x = true) : x = none ∨ x = some 0 := by
  cases x with
  | none => exact .inl rfl
  | some n => exact .inr (by rw [Nat.eq_of_beq_eq_true (show Nat.beq n 0 = true from h)])
/-- Nothing's slice is nothing. -/
noncomputable def cutZ (lo hi m : Option Nat) (r : Bool) : Bool := chk (isZ lo) (chk (isZ hi) (@Option.rec Nat (fun _ => Bool) r (fun _ => false) m))
theorem cutZ_inv {lo hi m : Option Nat} {r : Bool} (h : cutZ lo hi m r = true) : (lo = none ∨ lo = some 0) ∧ (hi = none ∨ hi = some 0) ∧ m = none ∧ r = true := by
  obtain ⟨h1, h⟩ := chk_inv h
  obtain ⟨h2, h⟩ := chk_inv h
  cases m with
  | none => exact ⟨isZ_inv h1, isZ_inv h2, rfl, h⟩
  | some m => exact (Bool.false_ne_true h).elim

noncomputable def cutStr (n s : Nat) (lo hi : Option Nat) (k : CV → Bool) : Bool := fN (orN lo 0) fun lo => fN (orN hi n) fun hi => chk (Nat.ble lo hi) (chk (Nat.ble hi n) (fN (Nat.sub hi lo) fun n => fN (Nat.mod (Nat.div s (Nat.pow 256 lo)) (Nat.pow 256 n)) fun s => k (.str n s)))
noncomputable def lvSlice (nt : Nat) (ty : Nat → Ti) (t : Nat) (x : GB) (lo hi m : Option Operand) : LV := match m.isSome && !hi.isSome with
  | true => .fail
  | false => match bndG nt lo, bndG nt hi, bndG nt m with
    | lo, hi, m => match (ty t).kd with
      | .slc el => match (ty el).kd.isNone with
        | true => .fail
        | false => ⟨fun e _ _ k => lo.run e fun lo => hi.run e fun hi => m.run e fun m => asS (x.run e) (cutZ lo hi m (k .nils)) (fun b off len cap => cutS b off len cap (ty el).size lo hi m k) (fun b off len z => cutU b off len z (ty el).size lo hi m k) (cutZ lo hi m (k .emp))⟩
      | .arr q el => match (ty el).kd.isNone with
        | true => .fail
        | false => ⟨fun e _ _ k => lo.run e fun lo => hi.run e fun hi => m.run e fun m => as_ptr (x.run e) fun b off => cutS b off q q (ty el).size lo hi m k⟩
      | .str => ⟨fun e _ _ k => lo.run e fun lo => hi.run e fun hi => m.run e fun m => @Option.rec Nat (fun _ => Bool) (as_str (x.run e) fun n s => cutStr n s lo hi k) (fun _ => false) m⟩
      | _ => .fail
theorem cutStr_sound {n s : Nat} {lo hi : Option Nat} {k : CV → Bool} (hk : cutStr n s lo hi k = true) {K : Value → Prop} (hK : ∀ v x, RV ρ v x → k v = true → K x) :
    sliceS A (bytes n s) (lo.map fun (m : Nat) => (m : Int)) (hi.map fun (m : Nat) => (m : Int)) K := by
  unfold cutStr at hk
  simp only [fN_eq] at hk
  obtain ⟨h1, hk⟩ := chk_inv hk
  obtain ⟨h2, hk⟩ := chk_inv hk
  have h1 : orN lo 0 ≤ orN hi n := by simpa using h1
  have h2 : orN hi n ≤ n := by simpa using h2
  have key : ∀ (lo hi : Nat), lo ≤ hi → hi ≤ n → k (.str (hi.sub lo) (Nat.mod (s.div (Nat.pow 256 lo)) (Nat.pow 256 (hi.sub lo)))) = true → K (.string (A.sub (bytes n s) lo hi)) := fun lo hi g1 g2 hk => by
    refine hK (.str _ _) _ ?_ hk
    show _ = Value.string _
    rw [Ar.sub_eq]
    simp only [Int.toNat_natCast]
    rw [bytes_cut n s lo hi g2 g1]
    rfl
  have hsz : A.sln (bytes n s) = (n : Int) := by rw [Ar.sln_eq]; simp only [bytes_size]
  cases hi with
  | none => cases lo with
    | none =>
      refine hK _ _ ?_ hk
      have e1 : (orN none n).sub (orN none 0) = n := Nat.sub_zero n
      have e2 : Nat.mod (s.div (Nat.pow 256 (orN none 0))) (Nat.pow 256 n) = s % 256 ^ n := by
        show s / 1 % 256 ^ n = _
        rw [Nat.div_one]
      rw [e1, e2]
      show Value.string _ = Value.string _
      unfold bytes
      rw [digs_mod]
    | some lo =>
      simp only [Option.map_none, Option.map_some, sliceS]
      simp only [orN] at h1 h2
      refine ⟨⟨by omega, by rw [bytes_size]; omega⟩, ?_⟩
      rw [hsz]
      exact key lo n h1 h2 hk
  | some hi => cases lo with
    | none =>
      simp only [Option.map_none, Option.map_some, sliceS]
      simp only [orN] at h1 h2
      refine ⟨⟨by omega, by rw [bytes_size]; omega⟩, ?_⟩
      exact key 0 hi h1 h2 hk
    | some lo =>
      simp only [Option.map_none, Option.map_some, sliceS]
      simp only [orN] at h1 h2
      refine ⟨⟨by omega, by rw [bytes_size]; omega, by omega, by omega⟩, ?_⟩
      exact key lo hi h1 h2 hk
theorem bnd_some (s : RSt nt ρ e l H env L h) {x : Option Operand} {n : Option Nat} (h : slx (sev env) x = some (n.map fun (m : Nat) => (m : Int))) : n.isSome = x.isSome := by
  cases x with
  | none => cases n with
    | none => rfl
    | some n => cases h
  | some x => cases n with
    | none =>
      unfold slx at h
      simp only at h
      split at h <;> cases h
    | some n => rfl
theorem slice_sound {o : Oper} {t : Nat} {x : Operand} {lo hi m : Option Operand} (ho : o.op = .slice t x lo hi m) : LvOk A T p nt o (lvSlice nt T.ty t (opG nt x) lo hi m) := by
  intro ρ e l H env L h k K s hk hK
  have hx := s.op x
  unfold lvSlice at hk
  split at hk
  · exact (Bool.false_ne_true hk).elim
  rename_i hmh0
  simp only at hk
  have hmh : ∀ {n q : Option Nat}, slx (sev env) m = some (n.map fun (m : Nat) => (m : Int)) → slx (sev env) hi = some (q.map fun (m : Nat) => (m : Int)) → n.isSome = true → q.isSome = true := fun a b c => by
    rw [bnd_some s a] at c; rw [bnd_some s b]
    rw [c] at hmh0
    simpa using hmh0
  have hKv : ∀ v x, RV ρ v x → k v = true → K (.v x) none := fun v x hv hq => hK v _ (.of hv) hq
  unfold lightx
  rw [ho]
  split at hk
  · rename_i el hkd
    split at hk
    · exact (Bool.false_ne_true hk).elim
    · rename_i hn
      obtain ⟨nl, b1, hk⟩ := bnd_sound s hk
      obtain ⟨nh, b2, hk⟩ := bnd_sound s hk
      obtain ⟨nm, b3, hk⟩ := bnd_sound s hk
      have hmm := hmh b3 b2
      simp only [b1, b2, b3, hkd, hn]
      rcases asS_inv hk with ⟨h4, h5⟩ | ⟨b, q, n, c, h4, h5⟩ | ⟨b, q, n, z, h4, h5⟩ | ⟨h4, h5⟩ <;> rw [h4] at hx
      · obtain ⟨v, h6, rfl⟩ := hx
        simp only [h6]
        obtain ⟨c1, c2, rfl, c3⟩ := cutZ_inv h5
        have hf := hKv .nils _ rfl c3
        have d0 : A.dif 0 0 = 0 := dif_nat 0 0
        have d1 : A.dif (A.nat 0) 0 = 0 := by rw [Ar.nat_eq]; exact dif_nat 0 0
        have d2 : ∀ x : Int, A.cut none 0 x (T.ty el).size = none := fun x => by rw [Ar.cut_eq]; simp only; split <;> rfl
        rcases c1 with rfl | rfl <;> rcases c2 with rfl | rfl <;> simp only [Option.map_none, Option.map_some, sliceX]
        · exact hf
        · exact ⟨⟨by omega, by omega⟩, by rw [d2]; simp only [Int.natCast_zero] at *; rw [d0]; exact hf⟩
        · exact ⟨⟨by omega, by omega⟩, by simp only [Int.natCast_zero] at *; rw [d2, d1]; exact hf⟩
        · exact ⟨⟨by omega, by omega, by omega, by omega⟩, by simp only [Int.natCast_zero] at *; rw [d2, d1, d0]; exact hf⟩
      · obtain ⟨v, h6, r, h7, rfl, h8⟩ := hx
        simp only [h6]
        exact cutS_sound (A := A) h8 hmm h5 h7 hKv
      · obtain ⟨v, h6, r, c, h7, rfl, h8, h9⟩ := hx
        simp only [h6]
        exact cutU_sound (A := A) h8 hmm h5 h7 h9 hKv
      · obtain ⟨v, h6, a, c, rfl⟩ := hx
        simp only [h6]
        obtain ⟨c1, c2, rfl, c3⟩ := cutZ_inv h5
        have d0 : A.dif 0 0 = 0 := dif_nat 0 0
        have d1 : A.dif (A.nat 0) 0 = 0 := by rw [Ar.nat_eq]; exact dif_nat 0 0
        have d2 : ∀ x : Int, ∃ a', A.cut (some a) 0 x (T.ty el).size = some a' := fun x => by
          rw [Ar.cut_eq]; simp only; split
          · exact ⟨_, rfl⟩
          · exact ⟨_, rfl⟩
        have hf : ∀ a c, K (.v (.slice (some a) 0 c)) none := fun a c => hKv .emp _ ⟨_, _, rfl⟩ c3
        obtain ⟨a', ha'⟩ := d2 (A.nat c)
        rcases c1 with rfl | rfl <;> rcases c2 with rfl | rfl <;> simp only [Option.map_none, Option.map_some, sliceX]
        · exact hf _ _
        · exact ⟨⟨by omega, by omega⟩, by simp only [Int.natCast_zero] at *; rw [ha', d0]; exact hf _ _⟩
        · exact ⟨⟨by omega, by omega⟩, by simp only [Int.natCast_zero] at *; rw [ha', d1]; exact hf _ _⟩
        · exact ⟨⟨by omega, by omega, by omega, by omega⟩, by simp only [Int.natCast_zero] at *; rw [ha', d0]; exact hf _ _⟩
  · rename_i q el hkd
    split at hk
    · exact (Bool.false_ne_true hk).elim
    · rename_i hn
      obtain ⟨nl, b1, hk⟩ := bnd_sound s hk
      obtain ⟨nh, b2, hk⟩ := bnd_sound s hk
      obtain ⟨nm, b3, hk⟩ := bnd_sound s hk
      have hmm := hmh b3 b2
      simp only [b1, b2, b3, hkd, hn]
      obtain ⟨b, off, h4, h5⟩ := as_ptr_inv hk
      rw [h4] at hx
      obtain ⟨v, h6, r, h7, rfl⟩ := hx
      simp only [h6]
      exact cutS_sound (A := A) (Nat.le_refl q) hmm h5 h7 hKv
  · rename_i hkd
    obtain ⟨nl, b1, hk⟩ := bnd_sound s hk
    obtain ⟨nh, b2, hk⟩ := bnd_sound s hk
    obtain ⟨nm, b3, hk⟩ := bnd_sound s hk
    cases nm with
    | some m => exact (Bool.false_ne_true hk).elim
    | none =>
      obtain ⟨n, a, h4, h5⟩ := hx.str (show as_str _ _ = true from hk)
      simp only [b1, b2, b3, hkd, h4]
      exact cutStr_sound (A := A) h5 hKv
  · exact (Bool.false_ne_true hk).elim

/-! Lengths. -/
noncomputable def lvLen (ty : Nat → Ti) (t : Nat) (x : GB) : LV := match (ty t).kd with
  | .slc _ => ⟨fun e _ _ k => asS (x.run e) (k (.i64 (.ofNat 0))) (fun _ _ n _ => k (.i64 (.ofNat n))) (fun _ _ n _ => k (.i64 (.ofNat n))) (k (.i64 (.ofNat 0)))⟩
  | .str => ⟨fun e _ _ k => as_str (x.run e) fun n _ => k (.i64 (.ofNat n))⟩
  | _ => .fail
noncomputable def lvCap (ty : Nat → Ti) (t : Nat) (x : GB) : LV := match (ty t).kd with
  | .slc _ => ⟨fun e _ _ k => asS (x.run e) (k (.i64 (.ofNat 0))) (fun _ _ _ c => k (.i64 (.ofNat c))) (fun _ _ _ _ => false) false⟩
  | _ => .fail
noncomputable def lvMin (x y : GB) : LV := ⟨fun e _ _ k => as_i64 (x.run e) fun a => as_i64 (y.run e) fun b => ite' (iLt b a) (k (.i64 b)) (k (.i64 a))⟩
noncomputable def lvMax (x y : GB) : LV := ⟨fun e _ _ k => as_i64 (x.run e) fun a => as_i64 (y.run e) fun b => ite' (iLt a b) (k (.i64 b)) (k (.i64 a))⟩
noncomputable def lvBI (nt : Nat) (ty : Nat → Ti) (b : Builtin) (args : List Operand) (ts : Option Nat) : LV := match b, args, ts with
  | .len, [x], some t => lvLen ty t (opG nt x)
  | .cap, [x], some t => lvCap ty t (opG nt x)
  | .min, [x, y], _ => lvMin (opG nt x) (opG nt y)
  | .max, [x, y], _ => lvMax (opG nt x) (opG nt y)
  | _, _, _ => .fail
theorem vals1 {x : Operand} {y : Value} (h : sev env x = .v y) : vals ([x].map (sev env)) = some [y] := by simp [vals, h]
theorem vals2 {x y : Operand} {u v : Value} (h : sev env x = .v u) (g : sev env y = .v v) : vals ([x, y].map (sev env)) = some [u, v] := by simp [vals, h, g]
theorem builtin_sound {o : Oper} {b : Builtin} {args : Array Operand} {ts : Array Nat} (ho : o.op = .call ⟨.builtin b, args, ts⟩) : LvOk A T p nt o (lvBI nt T.ty b args.toList ts[0]?) := by
  intro ρ e l H env L h k K s hk hK
  unfold lvBI at hk
  unfold lightx
  rw [ho]
  split at hk
  · rename_i x t hargs hts
    have hx := s.op x
    unfold lvLen at hk
    simp only [hts, hargs]
    split at hk
    · rename_i el hkd
      rcases asS_inv hk with ⟨h4, h5⟩ | ⟨b, q, n, c, h4, h5⟩ | ⟨b, q, n, z, h4, h5⟩ | ⟨h4, h5⟩ <;> rw [h4] at hx
      · obtain ⟨v, h6, rfl⟩ := hx
        simp only [vals1 h6, hkd]
        exact hK (.i64 _) _ (.of (by rw [Ar.nat_eq]; rfl)) h5
      · obtain ⟨v, h6, r, h7, rfl, h8⟩ := hx
        simp only [vals1 h6, hkd]
        exact hK (.i64 _) _ (.of (by rw [Ar.nat_eq]; rfl)) h5
      · obtain ⟨v, h6, r, c, h7, rfl, h8, h9⟩ := hx
        simp only [vals1 h6, hkd]
        exact hK (.i64 _) _ (.of (by rw [Ar.nat_eq]; rfl)) h5
      · obtain ⟨v, h6, a, c, rfl⟩ := hx
        simp only [vals1 h6, hkd]
        exact hK (.i64 _) _ (.of (by rw [Ar.nat_eq]; rfl)) h5
    · rename_i hkd
      obtain ⟨n, a, h4, h5⟩ := hx.str hk
      simp only [vals1 h4, hkd]
      exact hK (.i64 _) _ (.of (by rw [Ar.sln_eq]; simp only [bytes_size]; rfl)) h5
    · exact (Bool.false_ne_true hk).elim
  · rename_i x t hargs hts
    have hx := s.op x
    unfold lvCap at hk
    simp only [hts, hargs]
    split at hk
    · rename_i el hkd
      rcases asS_inv hk with ⟨h4, h5⟩ | ⟨b, q, n, c, h4, h5⟩ | ⟨b, q, n, z, h4, h5⟩ | ⟨h4, h5⟩
      · rw [h4] at hx
        obtain ⟨v, h6, rfl⟩ := hx
        simp only [vals1 h6, hkd]
        exact hK (.i64 _) _ (.of (by rw [Ar.nat_eq]; rfl)) h5
      · rw [h4] at hx
        obtain ⟨v, h6, r, h7, rfl, h8⟩ := hx
        simp only [vals1 h6, hkd]
        exact hK (.i64 _) _ (.of (by rw [Ar.nat_eq]; rfl)) h5
      · exact (Bool.false_ne_true h5).elim
      · exact (Bool.false_ne_true h5).elim
    · exact (Bool.false_ne_true hk).elim
  · rename_i q x y hargs
    have hx := s.op x
    have hy := s.op y
    simp only [hargs]
    obtain ⟨a, h1, h2⟩ := as_i64_inv hk
    obtain ⟨b, h3, h4⟩ := as_i64_inv h2
    rw [h1] at hx; rw [h3] at hy
    obtain ⟨v, h6, rfl⟩ := hx
    obtain ⟨u, h7, rfl⟩ := hy
    simp only [vals2 h6 h7]
    rw [iLt_iff] at h4
    refine hK (.i64 (min a b)) _ (.of (by rw [Ar.imin_eq]; rfl)) ?_
    rcases ite'_inv h4 with ⟨c1, c2⟩ | ⟨c1, c2⟩
    · have : b < a := by simpa using c1
      rw [show min a b = b by omega]; exact c2
    · have : ¬ b < a := by simpa using c1
      rw [show min a b = a by omega]; exact c2
  · rename_i q x y hargs
    have hx := s.op x
    have hy := s.op y
    simp only [hargs]
    obtain ⟨a, h1, h2⟩ := as_i64_inv hk
    obtain ⟨b, h3, h4⟩ := as_i64_inv h2
    rw [h1] at hx; rw [h3] at hy
    obtain ⟨v, h6, rfl⟩ := hx
    obtain ⟨u, h7, rfl⟩ := hy
    simp only [vals2 h6 h7]
    rw [iLt_iff] at h4
    refine hK (.i64 (max a b)) _ (.of (by rw [Ar.imax_eq]; rfl)) ?_
    rcases ite'_inv h4 with ⟨c1, c2⟩ | ⟨c1, c2⟩
    · have : a < b := by simpa using c1
      rw [show max a b = b by omega]; exact c2
    · have : ¬ a < b := by simpa using c1
      rw [show max a b = a by omega]; exact c2
  · exact (Bool.false_ne_true hk).elim

end
end Go.Cx
