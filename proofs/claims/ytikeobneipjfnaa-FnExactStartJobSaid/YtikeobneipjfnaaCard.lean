/-
  Three closed facts of the whole program that every law's row asks; each is a declaration of its own, since together they outgrow the kernel's memory.
  Conditions: none.
-/
import Derived.Test.YtikeobneipjfnaaLift
import Derived.Test.YtikeobneipjfnaaChecked
import Derived.Test.YtikeobneipjfnaaRows
import Derived.JoinedOf
namespace Go.Proofs.Ytikeobneipjfnaa
open Go.RowKit
theorem cd_enter : Go.Program.mayEnter Try.pinned.checked.prog = true := by kernel_rfl
theorem cd_lifts : (false == Go.Program.liftsFinal Try.pinned.checked.prog) = true := by kernel_rfl
theorem cd_make : (Go.Program.make Try.pinned.checked.prog == some (({ program := "", sum := "", func := "", spec := "" } : OpenClaim).make)) = true := by kernel_rfl
theorem cd_and {a b : Bool} (h : a = true) (k : b = true) : (a && b) = true := by rw [h, k]; rfl
theorem cd_lifts' {x : Bool} (h : x = false) : (x == Go.Program.liftsFinal Try.pinned.checked.prog) = true := by subst h; exact cd_lifts
theorem cd_make' {x : Make} (h : x = ({ program := "", sum := "", func := "", spec := "" } : OpenClaim).make) : (Go.Program.make Try.pinned.checked.prog == some x) = true := by subst h; exact cd_make
end Go.Proofs.Ytikeobneipjfnaa
