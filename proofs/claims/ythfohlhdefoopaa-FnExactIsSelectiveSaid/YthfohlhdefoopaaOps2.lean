/-
  More operations' laws: comparisons of bools, composite literals, slice expressions.
  Conditions: none; every theorem here speaks of any program.
-/
import Derived.Test.YthfohlhdefoopaaMem
namespace Go.Proofs.Ythfohlhdefoopaa
open Go.RowKit
section
variable {P : Program} {n : Nat} {w0 : World} {K : Env} {HS : List PH} {d : Option Tmp} {ty : TypeId} {ps : String} {af : Array Edge} {g : Option (Nat × Bool)}
theorem maxDepth_succ : ∃ d, Op.maxDepth = d + 1 := ⟨9999, rfl⟩
theorem run_equalb {t : TypeId} {a b : Bool} {w : World} (ht : P.underlying t = some .bool) : (Op.equal t (.bool a) (.bool b)).run P w = .ok (a == b) w := by
  obtain ⟨d, hd⟩ := maxDepth_succ
  rw [Op.equal, hd]
  simp [Op.equalIn, run_underlying ht]
theorem v_eqlb {t t' : TypeId} {x y : Operand} {a b : Bool} (ht : P.underlying t = some .bool) (hx : ev K x = some (.bool a)) (hy : ev K y = some (.bool b)) : StepV P n w0 K HS ⟨d, .binOp .eql t x y t', ty, ps, af, g⟩ (.bool (decide (a = b))) :=
  fun ac w e _ => by
    have : (a == b) = decide (a = b) := by by_cases h : a = b <;> simp [h]
    simp only [execOp, e.ev hx, e.ev hy, eqGuard, binOp, Sem.run_bind, run_equalb ht, this, Sem.run_pure, Result.andThen_ok, Bool.not_true, Bool.false_eq_true, if_false]
theorem v_neqb {t t' : TypeId} {x y : Operand} {a b : Bool} (ht : P.underlying t = some .bool) (hx : ev K x = some (.bool a)) (hy : ev K y = some (.bool b)) : StepV P n w0 K HS ⟨d, .binOp .neq t x y t', ty, ps, af, g⟩ (.bool (decide (a ≠ b))) :=
  fun ac w e _ => by
    have : (!(a == b)) = decide (a ≠ b) := by cases a <;> cases b <;> rfl
    simp only [execOp, e.ev hx, e.ev hy, eqGuard, binOp, Sem.run_bind, run_equalb ht, this, Sem.run_pure, Result.andThen_ok, Bool.not_true, Bool.false_eq_true, if_false]
end
end Go.Proofs.Ythfohlhdefoopaa
