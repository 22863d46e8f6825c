/-
  A tensor with its labels in another order, in the program and in the reference.
  Conditions: none.
-/
import Derived.Test.YtikeobneipjfnaaIndex
import Derived.Test.YtikeobneipjfnaaLaw4
namespace Go.Proofs.Ytikeobneipjfnaa
set_option maxRecDepth 100000
open Go.RowKit
/-! ### the same labels -/
def setP (xs ys : List Int) (j : Nat) : Prop := ys.getD j 0 ∈ xs ∧ ys.getD j 0 ∉ ys.take j
def setL (xs ys : List Int) : Prop := xs.length = ys.length ∧ ∀ j, j < ys.length → setP xs ys j
open Classical in
noncomputable def setB (xs ys : List Int) : Bool := decide (setL xs ys)
theorem setB_no {xs ys : List Int} (h : ¬ setL xs ys) : Value.bool false = .bool (setB xs ys) := by simp [setB, h]
theorem setB_yes {xs ys : List Int} (h : setL xs ys) : Value.bool true = .bool (setB xs ys) := by simp [setB, h]
theorem setB_dec {xs ys : List Int} {q : Prop} [Decidable q] (h : q ↔ setL xs ys) : Value.bool (decide q) = .bool (setB xs ys) := by
  unfold setB
  congr 1
  rw [Bool.eq_iff_iff]
  simp [h]
theorem setB_true {xs ys : List Int} : setB xs ys = true ↔ setL xs ys := by simp [setB]
theorem setB_false {xs ys : List Int} : setB xs ys = false ↔ ¬ setL xs ys := by simp [setB]
theorem nodup_of {ys : List Int} (h : ∀ j, j < ys.length → ys.getD j 0 ∉ ys.take j) : ys.Nodup := by
  rw [List.Nodup, List.pairwise_iff_getElem]
  intro i j hi hj hij e
  refine h j hj ?_
  simp only [List.getD, List.getElem?_eq_getElem hj, Option.getD_some]
  rw [← e]
  exact List.mem_iff_getElem.2 ⟨i, by simp; omega, by simp⟩
theorem perm_of : ∀ {xs ys : List Int}, xs.Nodup → (∀ x ∈ xs, x ∈ ys) → ys.length ≤ xs.length → xs.Perm ys
  | [], ys, _, _, hl => by
    have : ys = [] := List.eq_nil_of_length_eq_zero (by simpa using hl)
    rw [this]
  | x :: xs, ys, hn, hs, hl => by
    have hx := hs x (by simp)
    have hp := List.perm_cons_erase hx
    have hnx := List.nodup_cons.1 hn
    refine (List.Perm.cons x (perm_of hnx.2 (fun y hy => ?_) ?_)).trans hp.symm
    · exact (List.mem_erase_of_ne (fun e => hnx.1 (by rw [← e]; exact hy))).2 (hs y (by simp [hy]))
    · have := List.length_erase_of_mem hx
      simp only [List.length_cons] at hl
      omega
theorem setL_perm {xs ys : List Int} (h : setL xs ys) : ys.Perm xs :=
  perm_of (nodup_of fun j hj => (h.2 j hj).2) (fun y hy => by
    obtain ⟨j, hj, e⟩ := getD_of_mem hy
    exact e ▸ (h.2 j hj).1) (by have := h.1; omega)
theorem prodI_perm {a b : List Int} (h : a.Perm b) : prodI a = prodI b := by
  induction h with
  | nil => rfl
  | cons x _ ih => rw [prodI_cons, prodI_cons, ih]
  | swap x y l => rw [prodI_cons, prodI_cons, prodI_cons, prodI_cons, Int.mul_left_comm]
  | trans _ _ h1 h2 => exact h1.trans h2
/-! ### the tensor in another order -/
def permD (t : Ten) (ls : List Int) : List Int := idxAt t.l t.d ls
def permX (wd : Int) (t : Ten) (ls ds : List Int) (m : Nat) : List Int := (List.range m).flatMap fun (i : Nat) => elt t.x wd (offL t.d (idxAt ls (idxL ds i) t.l))
noncomputable def permT (k n : Int) (t : Ten) (ls : List Int) : Ten := ⟨ls, permD t ls, permX (widthI k n) t ls (permD t ls) (prodI (permD t ls)).toNat⟩
theorem permX_step (wd : Int) (t : Ten) (ls ds : List Int) (m : Nat) : permX wd t ls ds (m + 1) = permX wd t ls ds m ++ elt t.x wd (offL t.d (idxAt ls (idxL ds m) t.l)) := by
  simp [permX, List.range_succ]
theorem permD_len (t : Ten) (ls : List Int) : (permD t ls).length = ls.length := List.length_map _
structure PermOK (k p n : Int) (t : Ten) (ls : List Int) : Prop where
  ring : ringL k p n
  ten : tensorL k p n t.l t.d t.x
  perm : ls.Perm t.l
section
variable {k p n : Int} {t : Ten} {ls : List Int}
theorem PermOK.axes (h : PermOK k p n t ls) : axesL t.l t.d := tensor_axes h.ten
theorem PermOK.nodup (h : PermOK k p n t ls) : ls.Nodup := (List.Perm.nodup_iff h.perm).2 (axes_nodup h.axes)
theorem PermOK.len (h : PermOK k p n t ls) : ls.length = t.l.length ∧ t.l.length = t.d.length ∧ ls.length ≤ 12 := by
  have := h.perm.length_eq
  have := h.axes
  exact ⟨by omega, this.2.1, by have := this.1; omega⟩
theorem PermOK.find (h : PermOK k p n t ls) {j : Nat} (hj : j < ls.length) : 0 ≤ findI t.l (ls.getD j 0) ∧ findI t.l (ls.getD j 0) < t.d.length ∧ t.l.getD (findI t.l (ls.getD j 0)).toNat 0 = ls.getD j 0 := by
  have hm : ls.getD j 0 ∈ t.l := h.perm.mem_iff.1 (mem_getD hj)
  have h1 := findI_ge.2 hm
  have h2 := findI_get hm
  have := h.len
  exact ⟨h1, by omega, h2.2⟩
theorem PermOK.dims (h : PermOK k p n t ls) : dimsIn (permD t ls) := fun j hj => by
  rw [permD_len] at hj
  have hf := h.find hj
  rw [permD, idxAt, map_getD hj]
  exact axes_dims h.axes _ (by omega)
theorem PermOK.prod (h : PermOK k p n t ls) : prodI (permD t ls) = prodI t.d := by
  have e : t.d = idxAt t.l t.d t.l := by
    apply ext_getD (by simp [idxAt, h.axes.2.1])
    intro j hj
    have hj' : j < t.l.length := by rw [h.axes.2.1]; exact hj
    rw [idxAt, map_getD hj', find_at h.axes hj', Int.toNat_natCast]
  conv => rhs; rw [e]
  exact prodI_perm (h.perm.map _)
theorem PermOK.small (h : PermOK k p n t ls) : 1 ≤ prodI (permD t ls) ∧ prodI (permD t ls) ≤ 4096 := by
  refine ⟨prodI_one fun d hd => (dims_mem h.dims d hd).1, ?_⟩
  rw [h.prod]
  exact (sizeI_ge.1 h.ten.2.1).2
theorem PermOK.back (h : PermOK k p n t ls) {j : Nat} (hj : j < t.l.length) : (findI ls (t.l.getD j 0)).toNat < ls.length ∧ ls.getD (findI ls (t.l.getD j 0)).toNat 0 = t.l.getD j 0 :=
  findI_get (h.perm.mem_iff.2 (mem_getD hj))
theorem PermOK.idx (h : PermOK k p n t ls) (i : Int) : idxIn t.d (idxAt ls (idxL (permD t ls) i) t.l) := by
  have hd : ∀ d ∈ permD t ls, 1 ≤ d := fun d hd => (dims_mem h.dims d hd).1
  refine ⟨by simp [idxAt, h.axes.2.1], fun j hj => ?_⟩
  have hj' : j < t.l.length := by rw [h.axes.2.1]; exact hj
  have hb := h.back hj'
  have hv := (idxL_in hd i).2 (findI ls (t.l.getD j 0)).toNat (by rw [permD_len]; exact hb.1)
  rw [idxAt, map_getD hj']
  rw [show (permD t ls).getD (findI ls (t.l.getD j 0)).toNat 0 = t.d.getD j 0 by
    rw [permD, idxAt, map_getD hb.1, hb.2, find_at h.axes hj', Int.toNat_natCast]] at hv
  exact hv
theorem PermOK.off (h : PermOK k p n t ls) (i : Int) : 0 ≤ offL t.d (idxAt ls (idxL (permD t ls) i) t.l) ∧ offL t.d (idxAt ls (idxL (permD t ls) i) t.l) < prodI t.d := by
  have := offL_in (fun d hd => (dims_mem (axes_dims h.axes) d hd).1) (h.idx i)
  omega
theorem PermOK.dot (h : PermOK k p n t ls) (i : Int) : dotL (stepsL ls t.l t.d) (idxL (permD t ls) i) = offL t.d (idxAt ls (idxL (permD t ls) i) t.l) := by
  rw [dotL, stepsL_len, dot_off h.nodup h.axes.2.1 (axes_nodup h.axes) (fun x hx => h.perm.mem_iff.2 hx)]
theorem PermOK.at_end (h : PermOK k p n t ls) {A idx : List Int} (hA : A.length = ls.length) (hq : ∀ q, q < ls.length → A.getD (findI t.l (ls.getD q 0)).toNat 0 = idx.getD q 0) : A = idxAt ls idx t.l := by
  have hl := h.len
  apply ext_getD (by simp [idxAt]; omega)
  intro j hj
  have hj' : j < t.l.length := by omega
  have hb := h.back hj'
  have := hq _ hb.1
  rw [hb.2, find_at h.axes hj', Int.toNat_natCast] at this
  rw [this, idxAt, map_getD hj']
theorem PermOK.at_step (h : PermOK k p n t ls) {A idx : List Int} {j : Nat} (hA : A.length = ls.length) (hj : j < ls.length) (hq : ∀ q, q < j → A.getD (findI t.l (ls.getD q 0)).toNat 0 = idx.getD q 0) (q : Nat) (hq2 : q < j + 1) :
    (A.set (findI t.l (ls.getD j 0)).toNat (idx.getD j 0)).getD (findI t.l (ls.getD q 0)).toNat 0 = idx.getD q 0 := by
  have hf := h.find hj
  have hl := h.len
  by_cases e : q = j
  · subst e
    simp only [List.getD]; rw [List.getElem?_set_self (by simp only [List.getD] at hf; omega)]; rfl
  · have hf2 := h.find (j := q) (by omega)
    have hne : (findI t.l (ls.getD j 0)).toNat ≠ (findI t.l (ls.getD q 0)).toNat := fun e2 => by
      have e3 : ls.getD j 0 = ls.getD q 0 := by rw [← hf.2.2, ← hf2.2.2, e2]
      have h1 := find_at' h.nodup hj
      have h2 := find_at' h.nodup (show q < ls.length by omega)
      rw [e3, h2] at h1
      omega
    have : (A.set (findI t.l (ls.getD j 0)).toNat (idx.getD j 0)).getD (findI t.l (ls.getD q 0)).toNat 0 = A.getD (findI t.l (ls.getD q 0)).toNat 0 := by
      simp only [List.getD]; rw [List.getElem?_set_ne (by simpa only [List.getD] using hne)]
    rw [this]
    exact hq q (by omega)
end
theorem permX_len {k p n : Int} {t : Ten} {ls : List Int} (h : PermOK k p n t ls) : ∀ m, (permX (widthI k n) t ls (permD t ls) m).length ≤ m * 6
  | 0 => by simp [permX]
  | m + 1 => by
    have := permX_len h m
    have hw := width_range h.ring
    rw [permX_step, List.length_append]
    have : (elt t.x (widthI k n) (offL t.d (idxAt ls (idxL (permD t ls) m) t.l))).length ≤ 6 := by
      unfold elt
      rw [List.length_take]
      omega
    omega
end Go.Proofs.Ytikeobneipjfnaa
