/-
  More operations' laws: comparisons of bools, composite literals, slice expressions.
  Conditions: none; every theorem here speaks of any program.
-/
import Derived.Test.YthfohlhdefoopaaMem
namespace Go.Proofs.Ythfohlhdefoopaa
open Go.RowKit
section
variable {P : Program} {n : Nat} {w0 : World} {K : Env} {HS : List PH} {d : Option Tmp} {ty : TypeId} {ps : String} {af : Array Edge} {g : Option (Nat × Bool)}
theorem maxDepth_succ : ∃ d, Op.maxDepth = d + 1 := ⟨9999, rfl⟩
theorem run_equalb {t : TypeId} {a b : Bool} {w : World} (ht : P.underlying t = some .bool) : (Op.equal t (.bool a) (.bool b)).run P w = .ok (a == b) w := by
  obtain ⟨d, hd⟩ := maxDepth_succ
  rw [Op.equal, hd]
  simp [Op.equalIn, run_underlying ht]
theorem v_eqlb {t t' : TypeId} {x y : Operand} {a b : Bool} (ht : P.underlying t = some .bool) (hx : ev K x = some (.bool a)) (hy : ev K y = some (.bool b)) : StepV P n w0 K HS ⟨d, .binOp .eql t x y t', ty, ps, af, g⟩ (.bool (decide (a = b))) :=
  fun ac w e _ => by
    have : (a == b) = decide (a = b) := by by_cases h : a = b <;> simp [h]
    simp only [execOp, e.ev hx, e.ev hy, eqGuard, binOp, Sem.run_bind, run_equalb ht, this, Sem.run_pure, Result.andThen_ok, Bool.not_true, Bool.false_eq_true, if_false]
theorem v_neqb {t t' : TypeId} {x y : Operand} {a b : Bool} (ht : P.underlying t = some .bool) (hx : ev K x = some (.bool a)) (hy : ev K y = some (.bool b)) : StepV P n w0 K HS ⟨d, .binOp .neq t x y t', ty, ps, af, g⟩ (.bool (decide (a ≠ b))) :=
  fun ac w e _ => by
    have : (!(a == b)) = decide (a ≠ b) := by cases a <;> cases b <;> rfl
    simp only [execOp, e.ev hx, e.ev hy, eqGuard, binOp, Sem.run_bind, run_equalb ht, this, Sem.run_pure, Result.andThen_ok, Bool.not_true, Bool.false_eq_true, if_false]
theorem SlL.one {v : Value} {m : Nat} (h : SlL v m) : v.oneCell' = true := by obtain ⟨_, _, rfl⟩ := h; rfl
theorem one_int (k : IntKind) (x : Int) : (Value.int k x).oneCell' = true := rfl
/-! ### parting on a bool that is a negation -/
variable {Q : Exit → Act → World → Prop}
theorem sq_bn {ops : Array Oper} {rest : List Oper} {b : Bool} (t : Tmp) (hk : K.lookup t = some (.bool (!b))) (h1 : b = false → SQ P n w0 ops rest Q ((t, .bool true) :: K) HS) (h2 : b = true → SQ P n w0 ops rest Q ((t, .bool false) :: K) HS) : SQ P n w0 ops rest Q K HS :=
  sq_bb t hk (fun h => h1 (by simpa using h)) (fun h => h2 (by simpa using h))
theorem sq_bnd {ops : Array Oper} {rest : List Oper} {p : Prop} [Decidable p] (t : Tmp) (hk : K.lookup t = some (.bool (!decide p))) (h1 : ¬ p → SQ P n w0 ops rest Q ((t, .bool true) :: K) HS) (h2 : p → SQ P n w0 ops rest Q ((t, .bool false) :: K) HS) : SQ P n w0 ops rest Q K HS :=
  sq_bb t hk (fun h => h1 (by simpa using h)) (fun h => h2 (by simpa using h))
theorem rj_bn {ops : Array Oper} {m : Nat} {r : List (Nat × Bool)} {listed : Array Bool} {b : Bool} (t : Tmp) (hk : K.lookup t = some (.bool (!b))) (h1 : b = false → RJ P n w0 ops m Q r listed ((t, .bool true) :: K) HS) (h2 : b = true → RJ P n w0 ops m Q r listed ((t, .bool false) :: K) HS) : RJ P n w0 ops m Q r listed K HS :=
  rj_bb t hk (fun h => h1 (by simpa using h)) (fun h => h2 (by simpa using h))
theorem rj_bnd {ops : Array Oper} {m : Nat} {r : List (Nat × Bool)} {listed : Array Bool} {p : Prop} [Decidable p] (t : Tmp) (hk : K.lookup t = some (.bool (!decide p))) (h1 : ¬ p → RJ P n w0 ops m Q r listed ((t, .bool true) :: K) HS) (h2 : p → RJ P n w0 ops m Q r listed ((t, .bool false) :: K) HS) : RJ P n w0 ops m Q r listed K HS :=
  rj_bb t hk (fun h => h1 (by simpa using h)) (fun h => h2 (by simpa using h))
end
end Go.Proofs.Ythfohlhdefoopaa
