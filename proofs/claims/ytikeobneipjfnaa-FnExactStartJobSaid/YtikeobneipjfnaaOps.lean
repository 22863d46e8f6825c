/-
  The operations' laws of this claim's logic: what each operation yields, in terms of slots and parts of the heap.
  Conditions: none; every theorem here speaks of any program.
-/
import Derived.Test.YtikeobneipjfnaaEng
namespace Go.Proofs.Ytikeobneipjfnaa
open Go.RowKit

/-! ### what the program's tables say of a type -/
def aggB (P : Program) (t : TypeId) : Option Bool := (P.underlying t).map fun | .struct _ => true | .array _ _ => true | _ => false
structure TyF (P : Program) (t : TypeId) (z : Value) (sz bytes : Nat) (agg : Bool) : Prop where
  info : (P.info? t).map (fun i => (i.zero, i.size, i.bytes)) = some (some z, sz, bytes)
  isAgg : aggB P t = some agg
theorem TyF.get {P : Program} {t : TypeId} {z : Value} {sz bytes : Nat} {agg : Bool} (h : TyF P t z sz bytes agg) : ∃ i, P.info? t = some i ∧ i.zero = some z ∧ i.size = sz ∧ i.bytes = bytes := by
  have := h.info
  simp only [Option.map_eq_some_iff, Prod.mk.injEq] at this
  obtain ⟨i, h1, h2, h3, h4⟩ := this
  exact ⟨i, h1, h2, h3, h4⟩
theorem TyF.und {P : Program} {t : TypeId} {z : Value} {sz bytes : Nat} (h : TyF P t z sz bytes false) : ∃ d, P.underlying t = some d ∧ (∀ f, d ≠ .struct f) ∧ (∀ k e, d ≠ .array k e) := by
  have := h.isAgg
  unfold aggB at this
  simp only [Option.map_eq_some_iff] at this
  obtain ⟨d, h1, h2⟩ := this
  refine ⟨d, h1, ?_, ?_⟩
  · rintro f rfl; simp at h2
  · rintro k e rfl; simp at h2
theorem TyF.undA {P : Program} {t : TypeId} {z : Value} {sz bytes : Nat} (h : TyF P t z sz bytes true) : ∃ d, P.underlying t = some d ∧ ((∃ f, d = .struct f) ∨ (∃ k e, d = .array k e)) := by
  have := h.isAgg
  unfold aggB at this
  simp only [Option.map_eq_some_iff] at this
  obtain ⟨d, h1, h2⟩ := this
  refine ⟨d, h1, ?_⟩
  cases d <;> simp at h2
  · exact .inr ⟨_, _, rfl⟩
  · exact .inl ⟨_, rfl⟩
theorem run_isAgg {P : Program} {t : TypeId} {z : Value} {sz bytes : Nat} {agg : Bool} (h : TyF P t z sz bytes agg) (w : World) : (isAgg t).run P w = .ok agg w := by
  cases agg
  · obtain ⟨d, h1, h2, h3⟩ := h.und
    unfold isAgg
    simp only [Sem.run_bind, run_underlying h1, Result.andThen_ok]
    cases d <;> first | rfl | exact absurd rfl (h2 _) | exact absurd rfl (h3 _ _)
  · obtain ⟨d, h1, h2⟩ := h.undA
    unfold isAgg
    simp only [Sem.run_bind, run_underlying h1, Result.andThen_ok]
    rcases h2 with ⟨f, rfl⟩ | ⟨k, e, rfl⟩ <;> rfl
theorem run_sizeOf {P : Program} {t : TypeId} {z : Value} {sz bytes : Nat} {agg : Bool} (h : TyF P t z sz bytes agg) (w : World) : (sizeOf t).run P w = .ok sz w := by
  obtain ⟨i, h1, _, h3, _⟩ := h.get
  simp [sizeOf, typeInfo, h1, h3]
theorem run_zero {P : Program} {t : TypeId} {z : Value} {sz bytes : Nat} {agg : Bool} (h : TyF P t z sz bytes agg) (w : World) : (zeroValue t).run P w = .ok z w := by
  obtain ⟨i, h1, h2, _, _⟩ := h.get
  simp [zeroValue, typeInfo, h1, h2]

/-! ### cells -/
def cellP (h : PH) (b o : Nat) : Option Value := match h b with
  | some (.cells c _ _) => c[o]?
  | _ => none
theorem cellP.mono {h h' : PH} (l : PLe h h') {b o : Nat} {v : Value} (e : cellP h b o = some v) : cellP h' b o = some v := by
  unfold cellP at *
  cases hb : h b with
  | none => rw [hb] at e; cases e
  | some x => rw [l b x hb]; rw [hb] at e; exact e
theorem cellP_hp (w : World) (b o : Nat) : cellP (hp w) b o = w.cell? ⟨b, o, none⟩ := by
  unfold cellP hp World.cell?
  cases h : w.heap[b]? with
  | none => simp
  | some x => cases x <;> simp
theorem cellP_box (b : Nat) (cs : List Value) (t : TypeId) (o : Nat) : cellP (box b cs t) b o = cs[o]? := by simp [cellP, box]
theorem cell_of {w : World} {h : PH} (l : PLe h (hp w)) {b o : Nat} {v : Value} (e : cellP h b o = some v) : w.cell? ⟨b, o, none⟩ = some v := by
  rw [← cellP_hp]; exact cellP.mono l e

/-- 'v' is a slice of 'n' elements of 'sz' cells each, whose cells in 'h' are 'cs'. -/
def RowR (cs : List Value) (n sz : Nat) (v : Value) (h : PH) : Prop :=
  cs.length = n * sz ∧ ∃ a c, v = .slice a n c ∧ (n ≤ maxLen ∧ n ≤ c) ∧ (0 < n * sz → ∃ b o, a = some ⟨b, o, none⟩ ∧ ∀ j u, cs[j]? = some u → cellP h b (o + j) = some u)
theorem RowR.mono {cs : List Value} {n sz : Nat} {v : Value} {h h' : PH} (r : RowR cs n sz v h) (l : PLe h h') : RowR cs n sz v h' := by
  obtain ⟨h1, a, c, h2, h3, h4⟩ := r
  exact ⟨h1, a, c, h2, h3, fun hp => let ⟨b, o, e, f⟩ := h4 hp; ⟨b, o, e, fun j u hu => cellP.mono l (f j u hu)⟩⟩
/-- The address of a slice's cell number k. -/
def eltP (v : Value) (k : Nat) : Value := match v with
  | .slice (some a) _ _ => .pointer (some ⟨a.block, a.off + k, none⟩)
  | _ => .pointer none
/-- 'v' is a slice of length n. -/
def SlL (v : Value) (n : Nat) : Prop := ∃ a c, v = .slice a n c
theorem RowR.sl {cs : List Value} {n sz : Nat} {v : Value} {h : PH} (r : RowR cs n sz v h) : SlL v n := let ⟨_, a, c, e, _⟩ := r; ⟨a, c, e⟩

/-- 'v' is a slice that alone has its array, which is 'h': its cells are 'cs'. -/
def RowO (e : TypeId) (cs : List Value) (n sz : Nat) (v : Value) (h : PH) : Prop :=
  cs.length = n * sz ∧ ((v = .slice none 0 0 ∧ n = 0 ∧ h = emp) ∨
    ∃ g cap cur, v = .slice (some ⟨g, 0, none⟩) n cap ∧ h = box g cur e ∧ n ≤ cap ∧ cap ≤ maxLen ∧ cur.length = cap * sz ∧ cur.take (n * sz) = cs)
theorem RowO.toR {e : TypeId} {cs : List Value} {n sz : Nat} {v : Value} {h : PH} (r : RowO e cs n sz v h) : RowR cs n sz v h := by
  obtain ⟨h1, h2⟩ := r
  refine ⟨h1, ?_⟩
  rcases h2 with ⟨rfl, rfl, rfl⟩ | ⟨g, cap, cur, rfl, rfl, h3, h4, h5, h6⟩
  · exact ⟨none, 0, rfl, ⟨by unfold maxLen; omega, Nat.le_refl _⟩, fun h => by omega⟩
  · refine ⟨_, _, rfl, ⟨Nat.le_trans h3 h4, h3⟩, fun _ => ⟨g, 0, rfl, fun j u hu => ?_⟩⟩
    rw [cellP_box, Nat.zero_add]
    rw [← h6, List.getElem?_take] at hu
    split at hu
    · exact hu
    · cases hu

def I64 (x : Int) : Prop := -9223372036854775808 ≤ x ∧ x ≤ 9223372036854775807
theorem I64.wrap {x : Int} (h : I64 x) : IntKind.i64.wrap x = x := IntWalk.i64_in x h

section
variable {P : Program} {n : Nat} {w0 : World} {K : Env} {HS : List PH} {d : Option Tmp} {ty : TypeId} {ps : String} {af : Array Edge} {g : Option (Nat × Bool)}

theorem v_move {x : Operand} {v : Value} (hx : ev K x = some v) : StepV P n w0 K HS ⟨d, .move x, ty, ps, af, g⟩ v := fun a w e _ => by simp [execOp, e.ev hx]
theorem v_assign {x : Operand} {v : Value} (hx : ev K x = some v) : StepV P n w0 K HS ⟨d, .assign x, ty, ps, af, g⟩ v := fun a w e _ => by simp [execOp, e.ev hx]
theorem v_pickt {c x y : Operand} {v : Value} (hc : ev K c = some (.bool true)) (hx : ev K x = some v) : StepV P n w0 K HS ⟨d, .pick c x y, ty, ps, af, g⟩ v := fun a w e _ => by simp [execOp, e.ev hx, e.ev hc, asBool]
theorem v_pickf {c x y : Operand} {v : Value} (hc : ev K c = some (.bool false)) (hx : ev K y = some v) : StepV P n w0 K HS ⟨d, .pick c x y, ty, ps, af, g⟩ v := fun a w e _ => by simp [execOp, e.ev hx, e.ev hc, asBool]

theorem v_add {t t' : TypeId} {x y : Operand} {a b : Int} (hx : ev K x = some (.int .i64 a)) (hy : ev K y = some (.int .i64 b)) (h : I64 (a + b)) : StepV P n w0 K HS ⟨d, .binOp .add t x y t', ty, ps, af, g⟩ (.int .i64 (a + b)) :=
  fun ac w e _ => by simp [execOp, e.ev hx, e.ev hy, eqGuard, binOp, Op.intArith, h.wrap]
theorem v_sub {t t' : TypeId} {x y : Operand} {a b : Int} (hx : ev K x = some (.int .i64 a)) (hy : ev K y = some (.int .i64 b)) (h : I64 (a - b)) : StepV P n w0 K HS ⟨d, .binOp .sub t x y t', ty, ps, af, g⟩ (.int .i64 (a - b)) :=
  fun ac w e _ => by simp [execOp, e.ev hx, e.ev hy, eqGuard, binOp, Op.intArith, h.wrap]
theorem v_mul {t t' : TypeId} {x y : Operand} {a b : Int} (hx : ev K x = some (.int .i64 a)) (hy : ev K y = some (.int .i64 b)) (h : I64 (a * b)) : StepV P n w0 K HS ⟨d, .binOp .mul t x y t', ty, ps, af, g⟩ (.int .i64 (a * b)) :=
  fun ac w e _ => by simp [execOp, e.ev hx, e.ev hy, eqGuard, binOp, Op.intArith, h.wrap]
/-- Whatever the size: the sum, wrapped. -/
theorem v_addw {t t' : TypeId} {x y : Operand} {k : IntKind} {a b : Int} (hx : ev K x = some (.int k a)) (hy : ev K y = some (.int k b)) : StepV P n w0 K HS ⟨d, .binOp .add t x y t', ty, ps, af, g⟩ (.int k (k.wrap (a + b))) :=
  fun ac w e _ => by simp [execOp, e.ev hx, e.ev hy, eqGuard, binOp, Op.intArith]
theorem v_subw {t t' : TypeId} {x y : Operand} {k : IntKind} {a b : Int} (hx : ev K x = some (.int k a)) (hy : ev K y = some (.int k b)) : StepV P n w0 K HS ⟨d, .binOp .sub t x y t', ty, ps, af, g⟩ (.int k (k.wrap (a - b))) :=
  fun ac w e _ => by simp [execOp, e.ev hx, e.ev hy, eqGuard, binOp, Op.intArith]
theorem v_mulw {t t' : TypeId} {x y : Operand} {k : IntKind} {a b : Int} (hx : ev K x = some (.int k a)) (hy : ev K y = some (.int k b)) : StepV P n w0 K HS ⟨d, .binOp .mul t x y t', ty, ps, af, g⟩ (.int k (k.wrap (a * b))) :=
  fun ac w e _ => by simp [execOp, e.ev hx, e.ev hy, eqGuard, binOp, Op.intArith]
theorem v_quo {t t' : TypeId} {x y : Operand} {a b : Int} (hx : ev K x = some (.int .i64 a)) (hy : ev K y = some (.int .i64 b)) (h0 : b ≠ 0) (h : I64 (a.tdiv b)) : StepV P n w0 K HS ⟨d, .binOp .quo t x y t', ty, ps, af, g⟩ (.int .i64 (a.tdiv b)) :=
  fun ac w e _ => by simp [execOp, e.ev hx, e.ev hy, eqGuard, binOp, Op.intDiv, h0, h.wrap]
theorem v_rem {t t' : TypeId} {x y : Operand} {k : IntKind} {a b : Int} (hx : ev K x = some (.int k a)) (hy : ev K y = some (.int k b)) (h0 : b ≠ 0) : StepV P n w0 K HS ⟨d, .binOp .rem t x y t', ty, ps, af, g⟩ (.int k (a.tmod b)) :=
  fun ac w e _ => by simp [execOp, e.ev hx, e.ev hy, eqGuard, binOp, Op.intDiv, h0]
theorem v_lss {t t' : TypeId} {x y : Operand} {k : IntKind} {a b : Int} (hx : ev K x = some (.int k a)) (hy : ev K y = some (.int k b)) : StepV P n w0 K HS ⟨d, .binOp .lss t x y t', ty, ps, af, g⟩ (.bool (decide (a < b))) :=
  fun ac w e _ => by simp [execOp, e.ev hx, e.ev hy, eqGuard, binOp, Op.intCmp]
theorem v_leq {t t' : TypeId} {x y : Operand} {k : IntKind} {a b : Int} (hx : ev K x = some (.int k a)) (hy : ev K y = some (.int k b)) : StepV P n w0 K HS ⟨d, .binOp .leq t x y t', ty, ps, af, g⟩ (.bool (decide (a ≤ b))) :=
  fun ac w e _ => by simp [execOp, e.ev hx, e.ev hy, eqGuard, binOp, Op.intCmp]
theorem v_gtr {t t' : TypeId} {x y : Operand} {k : IntKind} {a b : Int} (hx : ev K x = some (.int k a)) (hy : ev K y = some (.int k b)) : StepV P n w0 K HS ⟨d, .binOp .gtr t x y t', ty, ps, af, g⟩ (.bool (decide (b < a))) :=
  fun ac w e _ => by simp [execOp, e.ev hx, e.ev hy, eqGuard, binOp, Op.intCmp]
theorem v_geq {t t' : TypeId} {x y : Operand} {k : IntKind} {a b : Int} (hx : ev K x = some (.int k a)) (hy : ev K y = some (.int k b)) : StepV P n w0 K HS ⟨d, .binOp .geq t x y t', ty, ps, af, g⟩ (.bool (decide (b ≤ a))) :=
  fun ac w e _ => by simp [execOp, e.ev hx, e.ev hy, eqGuard, binOp, Op.intCmp]
theorem v_eql {t t' : TypeId} {x y : Operand} {k : IntKind} {a b : Int} (hx : ev K x = some (.int k a)) (hy : ev K y = some (.int k b)) : StepV P n w0 K HS ⟨d, .binOp .eql t x y t', ty, ps, af, g⟩ (.bool (decide (a = b))) :=
  fun ac w e _ => by
    have : (a == b) = decide (a = b) := by by_cases h : a = b <;> simp [h]
    simp [execOp, e.ev hx, e.ev hy, eqGuard, binOp, Op.intCmp, this]
theorem v_neq {t t' : TypeId} {x y : Operand} {k : IntKind} {a b : Int} (hx : ev K x = some (.int k a)) (hy : ev K y = some (.int k b)) : StepV P n w0 K HS ⟨d, .binOp .neq t x y t', ty, ps, af, g⟩ (.bool (decide (a ≠ b))) :=
  fun ac w e _ => by
    have : (a != b) = decide (a ≠ b) := by by_cases h : a = b <;> simp [h]
    simp [execOp, e.ev hx, e.ev hy, eqGuard, binOp, Op.intCmp, this]
theorem v_not {t : TypeId} {x : Operand} {b : Bool} (hx : ev K x = some (.bool b)) : StepV P n w0 K HS ⟨d, .unOp .not t x, ty, ps, af, g⟩ (.bool (!b)) := fun a w e _ => by simp [execOp, e.ev hx, Op.unary]
theorem v_neg {t : TypeId} {x : Operand} {a : Int} (hx : ev K x = some (.int .i64 a)) (h : I64 (0 - a)) : StepV P n w0 K HS ⟨d, .unOp .neg t x, ty, ps, af, g⟩ (.int .i64 (0 - a)) := fun ac w e _ => by
  have hw := h.wrap
  rw [Int.zero_sub] at hw
  simp [execOp, e.ev hx, Op.unary, Op.intArith, hw]
theorem v_shr {t t' : TypeId} {x y : Operand} {yk : IntKind} {a b : Int} (hx : ev K x = some (.int .i64 a)) (hy : ev K y = some (.int yk b)) (h0 : 0 ≤ b) (h1 : b ≤ 64) : StepV P n w0 K HS ⟨d, .binOp .shr t x y t', ty, ps, af, g⟩ (.int .i64 (a / 2 ^ b.toNat)) :=
  fun ac w e _ => by
    have h2 : ¬ b < 0 := by omega
    have h3 : min b.toNat IntKind.i64.bits = b.toNat := by have : IntKind.i64.bits = 64 := rfl; omega
    have h4 : a.fdiv (2 ^ b.toNat) = a / 2 ^ b.toNat := Int.fdiv_eq_ediv_of_nonneg _ (Int.pow_nonneg (by omega))
    have h5 : (Op.shift .shr .i64 a yk b).run P w = .ok (.int .i64 (a / 2 ^ b.toNat)) w := by
      unfold Op.shift
      rw [if_neg h2]
      simp only [h3, h4]
      rfl
    simp only [execOp, e.ev hx, e.ev hy, eqGuard, binOp, Sem.run_bind]
    rw [show (if (!(match BinOp.shr with | .eql => true | .neq => true | _ => false)) = true then (pure () : Sem Unit) else pure ()) = pure () by rfl]
    rw [Sem.run_pure, Result.andThen_ok, h5, Result.andThen_ok]
    rfl
theorem ofInt_nat {a : Int} (h : 0 ≤ a) : BitVec.ofInt 64 a = BitVec.ofNat 64 a.toNat := by
  obtain ⟨m, rfl⟩ := Int.eq_ofNat_of_zero_le h
  simp
theorem toNat_ofInt {a : Int} (h : 0 ≤ a) (h1 : a ≤ 9223372036854775807) : (BitVec.ofInt 64 a).toNat = a.toNat := by
  rw [ofInt_nat h, BitVec.toNat_ofNat, Nat.mod_eq_of_lt]
  omega
theorem v_and {t t' : TypeId} {x y : Operand} {a b : Int} (hx : ev K x = some (.int .i64 a)) (hy : ev K y = some (.int .i64 b)) (h0 : 0 ≤ a ∧ a ≤ 9223372036854775807) (h1 : 0 ≤ b ∧ b ≤ 9223372036854775807) : StepV P n w0 K HS ⟨d, .binOp .and t x y t', ty, ps, af, g⟩ (.int .i64 ((a.toNat &&& b.toNat : Nat) : Int)) :=
  fun ac w e _ => by
    have hl : a.toNat &&& b.toNat ≤ a.toNat := Nat.and_le_left
    have hw : IntKind.i64.wrap ((a.toNat &&& b.toNat : Nat) : Int) = ((a.toNat &&& b.toNat : Nat) : Int) := IntWalk.i64_in _ (by omega)
    have h5 : (Op.intBits .and .i64 a b).run P w = .ok (.int .i64 ((a.toNat &&& b.toNat : Nat) : Int)) w := by
      show Result.ok (Value.int .i64 (IntKind.i64.wrap ((BitVec.ofInt 64 a &&& BitVec.ofInt 64 b).toNat : Nat))) w = _
      rw [BitVec.toNat_and, toNat_ofInt h0.1 h0.2, toNat_ofInt h1.1 h1.2, hw]
    simp only [execOp, e.ev hx, e.ev hy, eqGuard, binOp, Sem.run_bind]
    rw [show (if (!(match BinOp.and with | .eql => true | .neq => true | _ => false)) = true then (pure () : Sem Unit) else pure ()) = pure () by rfl]
    rw [Sem.run_pure, Result.andThen_ok, if_neg (by simp), h5, Result.andThen_ok]
    rfl
theorem v_or {t t' : TypeId} {x y : Operand} {a b : Int} (hx : ev K x = some (.int .i64 a)) (hy : ev K y = some (.int .i64 b)) (h0 : 0 ≤ a ∧ a ≤ 9223372036854775807) (h1 : 0 ≤ b ∧ b ≤ 9223372036854775807) : StepV P n w0 K HS ⟨d, .binOp .or t x y t', ty, ps, af, g⟩ (.int .i64 ((a.toNat ||| b.toNat : Nat) : Int)) :=
  fun ac w e _ => by
    have hl : a.toNat ||| b.toNat < 2 ^ 63 := Nat.or_lt_two_pow (by omega) (by omega)
    have hw : IntKind.i64.wrap ((a.toNat ||| b.toNat : Nat) : Int) = ((a.toNat ||| b.toNat : Nat) : Int) := IntWalk.i64_in _ (by omega)
    have h5 : (Op.intBits .or .i64 a b).run P w = .ok (.int .i64 ((a.toNat ||| b.toNat : Nat) : Int)) w := by
      show Result.ok (Value.int .i64 (IntKind.i64.wrap ((BitVec.ofInt 64 a ||| BitVec.ofInt 64 b).toNat : Nat))) w = _
      rw [BitVec.toNat_or, toNat_ofInt h0.1 h0.2, toNat_ofInt h1.1 h1.2, hw]
    simp only [execOp, e.ev hx, e.ev hy, eqGuard, binOp, Sem.run_bind]
    rw [show (if (!(match BinOp.or with | .eql => true | .neq => true | _ => false)) = true then (pure () : Sem Unit) else pure ()) = pure () by rfl]
    rw [Sem.run_pure, Result.andThen_ok, if_neg (by simp), h5, Result.andThen_ok]
    rfl
theorem v_min {tys : Array TypeId} {x y : Operand} {a b : Int} (hx : ev K x = some (.int .i64 a)) (hy : ev K y = some (.int .i64 b)) : StepV P n w0 K HS ⟨d, .call ⟨.builtin .min, #[x, y], tys⟩, ty, ps, af, g⟩ (.int .i64 (min a b)) :=
  fun ac w e _ => by
    have : (if b < a then b else a) = min a b := by omega
    simp [execOp, resolve, invoke, builtin, Builtin.min_, e.ev hx, e.ev hy, Builtin.min2, this]
theorem v_max {tys : Array TypeId} {x y : Operand} {a b : Int} (hx : ev K x = some (.int .i64 a)) (hy : ev K y = some (.int .i64 b)) : StepV P n w0 K HS ⟨d, .call ⟨.builtin .max, #[x, y], tys⟩, ty, ps, af, g⟩ (.int .i64 (max a b)) :=
  fun ac w e _ => by
    have : (if a < b then b else a) = max a b := by omega
    simp [execOp, resolve, invoke, builtin, Builtin.max_, e.ev hx, e.ev hy, Builtin.max2, this]
theorem v_len {t ty' : TypeId} {x : Operand} {e' : TypeId} {v : Value} {m : Nat} (ht : P.underlying t = some (.slice e')) (hx : ev K x = some v) (hl : SlL v m) : StepV P n w0 K HS ⟨d, .call ⟨.builtin .len, #[x], #[t]⟩, ty', ps, af, g⟩ (.int .i64 m) :=
  fun a w e _ => by
    obtain ⟨ad, c, rfl⟩ := hl
    simp [execOp, resolve, invoke, builtin, Builtin.len_, e.ev hx, run_underlying ht, goInt]
end

section
variable {P : Program} {n : Nat} {w0 : World} {K : Env} {HS : List PH} {d : Option Tmp} {ty : TypeId} {ps : String} {af : Array Edge} {g : Option (Nat × Bool)}
/-! ### memory -/
theorem add_at (b o k : Nat) : (⟨b, o, none⟩ : Addr).add k = ⟨b, o + k, none⟩ := by unfold Addr.add; split <;> simp_all
/-- A field's place: its first cell and its type. -/
def fieldF (P : Program) (t : TypeId) (i : Nat) : Option (Nat × TypeId) := match P.underlying t with
  | some (.struct fs) => (fs[i]?).map fun f => (f.offset, f.type)
  | _ => none
theorem fieldF_get {t : TypeId} {i off : Nat} {sub : TypeId} (h : fieldF P t i = some (off, sub)) : ∃ fs f, P.underlying t = some (.struct fs) ∧ fs[i]? = some f ∧ f.offset = off ∧ f.type = sub := by
  unfold fieldF at h
  split at h
  · rename_i fs hu
    simp only [Option.map_eq_some_iff, Prod.mk.injEq] at h
    obtain ⟨f, h1, h2, h3⟩ := h
    exact ⟨fs, f, hu, h1, h2, h3⟩
  · cases h
theorem run_fieldAt {t : TypeId} {i off : Nat} {sub : TypeId} (h : fieldF P t i = some (off, sub)) {z : Value} {sz bytes : Nat} {agg : Bool} (hs : TyF P sub z sz bytes agg) (h0 : sz ≠ 0) (b o : Nat) (w : World) :
    (Instr.fieldAt t (.pointer (some ⟨b, o, none⟩)) i).run P w = .ok (.pointer (some ⟨b, o + off, none⟩)) w := by
  obtain ⟨fs, f, h1, h2, h3, h4⟩ := fieldF_get h
  subst h3
  subst h4
  simp [Instr.fieldAt, run_underlying h1, h2, Instr.sureAddr, fieldPlace, run_sizeOf hs, h0, add_at]
theorem v_fieldAddr {t : TypeId} {x : Operand} {i b o off : Nat} {sub : TypeId} {z : Value} {sz bytes : Nat} {agg : Bool} (h : fieldF P t i = some (off, sub)) (hs : TyF P sub z sz bytes agg) (h0 : sz ≠ 0)
    (hx : ev K x = some (.pointer (some ⟨b, o, none⟩))) : StepV P n w0 K HS ⟨d, .fieldAddr t x i, ty, ps, af, g⟩ (.pointer (some ⟨b, o + off, none⟩)) :=
  fun a w e _ => by simp [execOp, e.ev hx, run_fieldAt h hs h0]
/-- The address of a slice's cell is one, and of no array of length 0. -/
theorem eltP_ptr {cs : List Value} {m sz : Nat} {v : Value} {h : PH} (r : RowR cs m sz v h) {k : Nat} (hk : k < cs.length) : ∃ b o, eltP v k = .pointer (some ⟨b, o + k, none⟩) ∧ ∀ j u, cs[j]? = some u → cellP h b (o + j) = some u := by
  obtain ⟨h1, a, c, rfl, _, h4⟩ := r
  obtain ⟨b, o, rfl, h5⟩ := h4 (by omega)
  exact ⟨b, o, rfl, h5⟩
theorem eltP_add {cs : List Value} {m sz : Nat} {v : Value} {h : PH} (r : RowR cs m sz v h) {k : Nat} (hk : k < cs.length) (j b o : Nat) (he : eltP v k = .pointer (some ⟨b, o, none⟩)) : eltP v (k + j) = .pointer (some ⟨b, o + j, none⟩) := by
  obtain ⟨h1, a, c, rfl, _, h4⟩ := r
  obtain ⟨b', o', rfl, h5⟩ := h4 (by omega)
  simp only [eltP, Value.pointer.injEq, Option.some.injEq, Addr.mk.injEq, and_true] at he ⊢
  exact ⟨he.1, by omega⟩
theorem v_fieldAddrE {t : TypeId} {x : Operand} {i k off : Nat} {sub : TypeId} {z : Value} {sz bytes : Nat} {agg : Bool} {v : Value} {cs : List Value} {m q : Nat} {hh : PH} (h : fieldF P t i = some (off, sub)) (hs : TyF P sub z sz bytes agg) (h0 : sz ≠ 0)
    (hx : ev K x = some (eltP v k)) (r : RowR cs m q v hh) (hk : k < cs.length) : StepV P n w0 K HS ⟨d, .fieldAddr t x i, ty, ps, af, g⟩ (eltP v (k + off)) :=
  fun a w e _ => by
    obtain ⟨b, o, he, _⟩ := eltP_ptr r hk
    rw [eltP_add r hk off b _ he]
    have hx' := e.ev hx
    rw [he] at hx'
    simp [execOp, hx', run_fieldAt h hs h0]

theorem run_loadCellsFrom (a : Addr) (P : Program) (w : World) : ∀ (cs : List Value) (i : Nat) (acc : Array Value), (∀ j v, cs[j]? = some v → w.cell? (a.add (i + j)) = some v) →
    (loadCellsFrom a i cs.length acc).run P w = .ok (acc ++ cs.toArray) w
  | [], i, acc, _ => by simp [loadCellsFrom]
  | c :: cs, i, acc, h => by
    have h0 : w.cell? (a.add i) = some c := by simpa using h 0 c rfl
    have ih := run_loadCellsFrom a P w cs (i + 1) (acc.push c) (fun j v hv => by have := h (j + 1) v (by simpa using hv); rwa [show i + (j + 1) = i + 1 + j by omega] at this)
    simp only [List.length_cons, loadCellsFrom, Sem.run_bind, load, Sem.run, h0, Result.andThen_ok, ih]
    simp
theorem run_load1 {t : TypeId} {z : Value} {bytes : Nat} (ht : TyF P t z 1 bytes false) {b o : Nat} {v : Value} {w : World} (hc : w.cell? ⟨b, o, none⟩ = some v) : (Instr.loadAt t (.pointer (some ⟨b, o, none⟩))).run P w = .ok v w := by
  simp [Instr.loadAt, Instr.sureAddr, loadVar, run_isAgg ht, load, Sem.run, hc]
theorem run_loadN {t : TypeId} {z : Value} {sz bytes : Nat} (ht : TyF P t z sz bytes true) {b o : Nat} {cs : List Value} {w : World} (hl : cs.length = sz) (hc : ∀ j v, cs[j]? = some v → w.cell? ⟨b, o + j, none⟩ = some v) : (Instr.loadAt t (.pointer (some ⟨b, o, none⟩))).run P w = .ok (.agg cs.toArray) w := by
  have h := run_loadCellsFrom ⟨b, o, none⟩ P w cs 0 #[] (fun j v hv => by rw [add_at]; simpa using hc j v hv)
  rw [hl] at h
  simp [Instr.loadAt, Instr.sureAddr, loadVar, run_isAgg ht, run_sizeOf ht, loadCells, h]
/-- A load of one cell, out of the part number p. -/
theorem v_load {t : TypeId} {x : Operand} {z : Value} {bytes b o : Nat} {v : Value} {h : PH} (p : Nat) (ht : TyF P t z 1 bytes false) (hx : ev K x = some (.pointer (some ⟨b, o, none⟩))) (hp : HS[p]? = some h) (hc : cellP h b o = some v) :
    StepV P n w0 K HS ⟨d, .load t x, ty, ps, af, g⟩ v := fun a w e s => by
  simp [execOp, e.ev hx, run_load1 ht (cell_of (s.get p hp) hc)]
theorem v_loadB {t : TypeId} {x : Operand} {z : Value} {bytes b o : Nat} {v : Value} {cs : List Value} {bt : TypeId} (p : Nat) (ht : TyF P t z 1 bytes false) (hx : ev K x = some (.pointer (some ⟨b, o, none⟩))) (hp : HS[p]? = some (box b cs bt)) (hc : cs[o]? = some v) :
    StepV P n w0 K HS ⟨d, .load t x, ty, ps, af, g⟩ v := v_load p ht hx hp (by rw [cellP_box]; exact hc)
/-- A struct or an array as a whole. -/
theorem v_loadNB {t : TypeId} {x : Operand} {z : Value} {sz bytes b o : Nat} {us cs : List Value} {bt : TypeId} (p : Nat) (ht : TyF P t z sz bytes true) (hx : ev K x = some (.pointer (some ⟨b, o, none⟩))) (hp : HS[p]? = some (box b cs bt)) (hl : us.length = sz) (hc : (cs.drop o).take sz = us) :
    StepV P n w0 K HS ⟨d, .load t x, ty, ps, af, g⟩ (.agg us.toArray) := fun a w e s => by
  have : ∀ (j : Nat) (v : Value), us[j]? = some v → w.cell? ⟨b, o + j, none⟩ = some v := fun j v hv => by
    refine cell_of (s.get p hp) ?_
    rw [cellP_box]
    rw [← hc, List.getElem?_take] at hv
    split at hv
    · rwa [List.getElem?_drop] at hv
    · cases hv
  simp [execOp, e.ev hx, run_loadN ht hl this]
theorem v_loadE {t : TypeId} {x : Operand} {z : Value} {bytes k : Nat} {v u : Value} {cs : List Value} {m q : Nat} {h : PH} (p : Nat) (ht : TyF P t z 1 bytes false) (hx : ev K x = some (eltP v k)) (hp : HS[p]? = some h) (r : RowR cs m q v h) (hc : cs[k]? = some u) :
    StepV P n w0 K HS ⟨d, .load t x, ty, ps, af, g⟩ u := fun a w e s => by
  have hk : k < cs.length := (List.getElem?_eq_some_iff.1 hc).1
  obtain ⟨b, o, he, h2⟩ := eltP_ptr r hk
  have hx' := e.ev hx
  rw [he] at hx'
  simp [execOp, hx', run_load1 ht (cell_of (s.get p hp) (h2 k u hc))]
theorem v_loadNE {t : TypeId} {x : Operand} {z : Value} {sz bytes k : Nat} {v : Value} {us cs : List Value} {m q : Nat} {h : PH} (p : Nat) (ht : TyF P t z sz bytes true) (hx : ev K x = some (eltP v k)) (hp : HS[p]? = some h) (r : RowR cs m q v h) (hk : k < cs.length) (hl : us.length = sz) (hc : (cs.drop k).take sz = us) :
    StepV P n w0 K HS ⟨d, .load t x, ty, ps, af, g⟩ (.agg us.toArray) := fun a w e s => by
  obtain ⟨b, o, he, h2⟩ := eltP_ptr r hk
  have : ∀ (j : Nat) (v : Value), us[j]? = some v → w.cell? ⟨b, o + k + j, none⟩ = some v := fun j v hv => by
    refine cell_of (s.get p hp) ?_
    rw [← hc, List.getElem?_take] at hv
    split at hv
    · rw [List.getElem?_drop] at hv
      rw [Nat.add_assoc]
      exact h2 _ _ hv
    · cases hv
  have hx' := e.ev hx
  rw [he] at hx'
  simp [execOp, hx', run_loadN ht hl this]
/-- An element's address. -/
theorem v_indexAddr {t e' : TypeId} {x ix : Operand} {z : Value} {sz bytes : Nat} {agg : Bool} {v : Value} {k : IntKind} {i : Int} {cs : List Value} {m : Nat} {h : PH} (ht : P.underlying t = some (.slice e')) (he : TyF P e' z sz bytes agg)
    (hx : ev K x = some v) (hi : ev K ix = some (.int k i)) (r : RowR cs m sz v h) (hsz : sz ≠ 0) (h0 : 0 ≤ i) (h1 : i < m) : StepV P n w0 K HS ⟨d, .indexAddr t x ix, ty, ps, af, g⟩ (eltP v (i.toNat * sz)) := fun a w e _ => by
  obtain ⟨h2, ad, c, rfl, _, h4⟩ := r
  have hm : 0 < m * sz := Nat.mul_pos (by omega) (by omega)
  obtain ⟨b, o, rfl, _⟩ := h4 hm
  simp [execOp, e.ev hx, e.ev hi, Instr.indexAt, asIntOf, run_underlying ht, h0, h1, run_sizeOf he, eltP, add_at]
/-- An array variable's element's address. -/
theorem v_indexAddrA {t e' : TypeId} {x ix : Operand} {z : Value} {sz bytes len b o : Nat} {agg : Bool} {k : IntKind} {i : Int} (ht : P.underlying t = some (.array len e')) (he : TyF P e' z sz bytes agg)
    (hx : ev K x = some (.pointer (some ⟨b, o, none⟩))) (hi : ev K ix = some (.int k i)) (h0 : 0 ≤ i) (h1 : i < len) : StepV P n w0 K HS ⟨d, .indexAddr t x ix, ty, ps, af, g⟩ (.pointer (some ⟨b, o + i.toNat * sz, none⟩)) := fun a w e _ => by
  simp [execOp, e.ev hx, e.ev hi, Instr.indexAt, asIntOf, run_underlying ht, h0, h1, run_sizeOf he, Instr.sureAddr, add_at]
/-- A field of a struct that is a value. -/
theorem v_field1 {t : TypeId} {x : Operand} {i off : Nat} {sub : TypeId} {z u : Value} {bytes : Nat} {cs : List Value} (h : fieldF P t i = some (off, sub)) (hs : TyF P sub z 1 bytes false)
    (hx : ev K x = some (.agg cs.toArray)) (hc : cs[off]? = some u) : StepV P n w0 K HS ⟨d, .field t x i, ty, ps, af, g⟩ u := fun a w e _ => by
  obtain ⟨fs, f, h1, h2, h3, h4⟩ := fieldF_get h
  subst h3
  subst h4
  simp [execOp, e.ev hx, Instr.field, run_underlying h1, h2, asAgg, part, run_isAgg hs, hc]
theorem v_fieldN {t : TypeId} {x : Operand} {i off : Nat} {sub : TypeId} {z : Value} {sz bytes : Nat} {cs us : List Value} (h : fieldF P t i = some (off, sub)) (hs : TyF P sub z sz bytes true)
    (hx : ev K x = some (.agg cs.toArray)) (hc : (cs.drop off).take sz = us) : StepV P n w0 K HS ⟨d, .field t x i, ty, ps, af, g⟩ (.agg us.toArray) := fun a w e _ => by
  obtain ⟨fs, f, h1, h2, h3, h4⟩ := fieldF_get h
  subst h3
  subst h4
  subst hc
  simp [execOp, e.ev hx, Instr.field, run_underlying h1, h2, asAgg, part, run_isAgg hs, run_sizeOf hs]
theorem v_extract {x : Operand} {i : Nat} {vs : List Value} {u : Value} (hx : ev K x = some (.tuple vs.toArray)) (hc : vs[i]? = some u) : StepV P n w0 K HS ⟨d, .extract x i, ty, ps, af, g⟩ u := fun a w e _ => by
  simp [execOp, e.ev hx, Instr.extract, hc]
end
end Go.Proofs.Ytikeobneipjfnaa
