/-
  Whether a tensor fits in another's place, and the tensor turned into that place's order.
  Conditions: none.
-/
import Derived.Test.YtikeobneipjfnaaCopy
namespace Go.Proofs.Ytikeobneipjfnaa
set_option maxRecDepth 100000
open Go.RowKit
theorem TriO.none : TriO ⟨[], [], []⟩ (.slice none 0 0) (.slice none 0 0) (.slice none 0 0) emp :=
  ⟨emp, emp, emp, IntsO.nil, IntsO.nil, IntsO.nil, ⟨by simp [sepL, PDj.emp], fun x hx => by simp at hx; subst hx; exact PLe.emp _, fun k o e => by cases e⟩⟩
def fitP (k p n : Int) (t u : Ten) : Prop := tensorL k p n t.l t.d t.x ∧ tensorL k p n u.l u.d u.x ∧ setL t.l u.l ∧ permD u t.l = t.d
theorem fit_perm {k p n : Int} {t u : Ten} (h1 : tensorL k p n u.l u.d u.x) (h2 : setL t.l u.l) : PermOK k p n u t.l := ⟨h1.1, h1, (setL_perm h2).symm⟩
def FitR (k p n : Int) (t u : Ten) (x : Value) (h : PH) : Prop := ∃ T a b c bb, x = .tuple [tenV a b c, .bool bb].toArray ∧ TriO T a b c h ∧ (bb = true ↔ fitP k p n t u) ∧ (bb = true → T = permT k n u t.l)
theorem FitR.no {k p n : Int} {t u : Ten} (h : ¬ fitP k p n t u) : FitR k p n t u (.tuple [tenV (.slice none 0 0) (.slice none 0 0) (.slice none 0 0), .bool false].toArray) emp :=
  ⟨⟨[], [], []⟩, _, _, _, false, rfl, TriO.none, ⟨fun e => (by cases e), fun e => absurd e h⟩, fun e => (by cases e)⟩
end Go.Proofs.Ytikeobneipjfnaa
