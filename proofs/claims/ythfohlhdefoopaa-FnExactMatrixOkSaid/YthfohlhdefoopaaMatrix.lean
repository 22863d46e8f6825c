/-
  MatrixOk, in the program and in the reference, answers the same; a matrix as the law hands it over.
  Conditions: none.
-/
import Derived.Test.YthfohlhdefoopaaPrime
import Derived.Test.YthfohlhdefoopaaLists
namespace Go.Proofs.Ythfohlhdefoopaa
open Go.RowKit

abbrev matV (r c : Int) (v : Value) : Value := .agg [num r, num c, v].toArray
def matL (p r c : Int) (xs : List Int) : Prop := primeB p = true ∧ (0 ≤ r ∧ r ≤ 64) ∧ (0 ≤ c ∧ c ≤ 64) ∧ (xs.length : Int) = r * c ∧ ∀ a ∈ xs, 0 ≤ a ∧ a < p
open Classical in
noncomputable def matB (p r c : Int) (xs : List Int) : Bool := decide (matL p r c xs)
theorem matB_no {p r c : Int} {xs : List Int} (h : ¬ matL p r c xs) : Value.bool false = .bool (matB p r c xs) := by simp [matB, h]
theorem matB_yes {p r c : Int} {xs : List Int} (h : matL p r c xs) : Value.bool true = .bool (matB p r c xs) := by simp [matB, h]
theorem mul64 {r c : Int} (hr : 0 ≤ r ∧ r ≤ 64) (hc : 0 ≤ c ∧ c ≤ 64) : I64 (r * c) := by
  have h1 : r * c ≤ 64 * 64 := Int.mul_le_mul hr.2 hc.2 hc.1 (by omega)
  have h2 : 0 ≤ r * c := Int.mul_nonneg hr.1 hc.1
  unfold I64; omega
theorem all_step {p : Int} {xs : List Int} {k : Nat} (h : ∀ j, j < k → 0 ≤ xs.getD j 0 ∧ xs.getD j 0 < p) (h1 : 0 ≤ xs.getD k 0 ∧ xs.getD k 0 < p) : ∀ j, j < k + 1 → 0 ≤ xs.getD j 0 ∧ xs.getD j 0 < p := fun j hj => by
  by_cases e : j = k
  · subst e; exact h1
  · exact h j (by omega)
theorem all_of {p : Int} {xs : List Int} (h : ∀ j, j < xs.length → 0 ≤ xs.getD j 0 ∧ xs.getD j 0 < p) : ∀ a ∈ xs, 0 ≤ a ∧ a < p := fun a ha => by
  obtain ⟨i, hi⟩ := List.getElem?_of_mem ha
  have hlt := (List.getElem?_eq_some_iff.1 hi).1
  have := h i hlt
  simpa [List.getD, hi] using this
theorem mem_getD {xs : List Int} {k : Nat} (h : k < xs.length) : xs.getD k 0 ∈ xs := by simp [List.getD, h]

theorem ct_s_MatrixOk (p r c : Int) (xs : List Int) (v : Value) (w : World) (rx : IntsR xs v (hp w)) : Calls Try.prog 12 [num p, matV r c v].toArray w (RetV w (.bool (matB p r c xs))) := by
  have hxl := rx.le
  refine calls_in Try.func12 rfl Try.ntmps12 rfl (Sat.start w) ?_
  refine wp_sc ?_
  refine wp_sq ?_
  refine sq_x rfl (x_box rfl rfl) rfl ?_; rintro _ _ ⟨b3, rfl, rfl⟩
  refine sq_v rfl (v_assign rfl) rfl ?_
  refine sq_end ?_
  refine qs_n ?_
  refine wp_sc ?_
  refine wp_sc ?_
  refine wp_sq ?_
  refine sq_v rfl (v_move rfl) rfl ?_
  refine sq_u rfl (x_callv rfl en_16 (fun w s => ct_s_IsPrime _ w)) rfl ?_
  refine sq_bb 8 rfl (fun c8 => ?_) (fun c8 => ?_)
  · refine sq_v rfl (v_not rfl) rfl ?_
    refine sq_v rfl (v_move rfl) rfl ?_
    refine sq_v rfl (v_fieldAddr fd_35_0 ty_3 (by decide) rfl) rfl ?_
    refine sq_v rfl (v_loadB 0 ty_3 rfl rfl rfl) rfl ?_
    refine sq_u rfl (x_callv rfl en_17 (fun w s => ct_s_l01In _ _ _ w)) rfl ?_
    refine sq_v rfl (v_not rfl) rfl ?_
    refine sq_v rfl (v_pickf rfl rfl) rfl ?_
    refine sq_bnd 15 rfl (fun c15 => ?_) (fun c15 => ?_)
    · refine sq_v rfl (v_move rfl) rfl ?_
      refine sq_s rfl rfl ?_
      refine sq_s rfl rfl ?_
      refine sq_s rfl rfl ?_
      refine sq_s rfl rfl ?_
      refine sq_v rfl (v_pickt rfl rfl) rfl ?_
      refine sq_v rfl (v_move rfl) rfl ?_
      refine sq_s rfl rfl ?_
      refine sq_s rfl rfl ?_
      refine sq_s rfl rfl ?_
      refine sq_s rfl rfl ?_
      refine sq_s rfl rfl ?_
      refine sq_s rfl rfl ?_
      refine sq_s rfl rfl ?_
      refine sq_s rfl rfl ?_
      refine sq_s rfl rfl ?_
      refine sq_v rfl (v_pickt rfl rfl) rfl ?_
      refine sq_end ?_
      refine qs_n ?_
      refine wp_ct rfl ?_
      refine wp_sc ?_
      refine wp_sq ?_
      refine sq_v rfl (v_assign rfl) rfl ?_
      refine sq_end ?_
      refine qs_n ?_
      refine wp_rt ?_
      refine qs_r ?_
      exact qs_ret1 rfl rfl (fin_q (i := 1) rfl (matB_no (by unfold matL; simp [*] <;> omega)))
    · refine sq_v rfl (v_move rfl) rfl ?_
      refine sq_v rfl (v_fieldAddr fd_35_1 ty_3 (by decide) rfl) rfl ?_
      refine sq_v rfl (v_loadB 0 ty_3 rfl rfl rfl) rfl ?_
      refine sq_u rfl (x_callv rfl en_17 (fun w s => ct_s_l01In _ _ _ w)) rfl ?_
      refine sq_v rfl (v_not rfl) rfl ?_
      refine sq_v rfl (v_pickf rfl rfl) rfl ?_
      refine sq_bnd 21 rfl (fun c21 => ?_) (fun c21 => ?_)
      · refine sq_v rfl (v_move rfl) rfl ?_
        refine sq_s rfl rfl ?_
        refine sq_s rfl rfl ?_
        refine sq_s rfl rfl ?_
        refine sq_s rfl rfl ?_
        refine sq_s rfl rfl ?_
        refine sq_s rfl rfl ?_
        refine sq_s rfl rfl ?_
        refine sq_s rfl rfl ?_
        refine sq_s rfl rfl ?_
        refine sq_v rfl (v_pickt rfl rfl) rfl ?_
        refine sq_end ?_
        refine qs_n ?_
        refine wp_ct rfl ?_
        refine wp_sc ?_
        refine wp_sq ?_
        refine sq_v rfl (v_assign rfl) rfl ?_
        refine sq_end ?_
        refine qs_n ?_
        refine wp_rt ?_
        refine qs_r ?_
        exact qs_ret1 rfl rfl (fin_q (i := 1) rfl (matB_no (by unfold matL; simp [*] <;> omega)))
      · refine sq_v rfl (v_move rfl) rfl ?_
        refine sq_v rfl (v_fieldAddr fd_35_2 ty_30 (by decide) rfl) rfl ?_
        refine sq_v rfl (v_loadB 0 ty_30 rfl rfl rfl) rfl ?_
        refine sq_v rfl (v_len Try.underlying30 rfl rx.sl) rfl ?_
        refine sq_v rfl (v_fieldAddr fd_35_0 ty_3 (by decide) rfl) rfl ?_
        refine sq_v rfl (v_loadB 0 ty_3 rfl rfl rfl) rfl ?_
        refine sq_v rfl (v_fieldAddr fd_35_1 ty_3 (by decide) rfl) rfl ?_
        refine sq_v rfl (v_loadB 0 ty_3 rfl rfl rfl) rfl ?_
        refine sq_v rfl (v_mul rfl rfl (mul64 (by omega) (by omega))) rfl ?_
        refine sq_v rfl (v_neq rfl rfl) rfl ?_
        refine sq_v rfl (v_pickf rfl rfl) rfl ?_
        refine sq_end ?_
        refine qs_n ?_
        refine wp_cd rfl (fun c32 => ?_) (fun c32 => ?_)
        · refine wp_sc ?_
          refine wp_sq ?_
          refine sq_v rfl (v_assign rfl) rfl ?_
          refine sq_end ?_
          refine qs_n ?_
          refine wp_rt ?_
          refine qs_r ?_
          exact qs_ret1 rfl rfl (fin_q (i := 1) rfl (matB_no (by unfold matL; simp [*] <;> omega)))
        · refine wp_sk ?_
          refine qs_n ?_
          refine wp_sc ?_
          refine wp_sc ?_
          refine wp_sq ?_
          refine sq_v rfl (v_fieldAddr fd_35_2 ty_30 (by decide) rfl) rfl ?_
          refine sq_v rfl (v_loadB 0 ty_30 rfl rfl rfl) rfl ?_
          refine sq_v rfl (v_len Try.underlying30 rfl rx.sl) rfl ?_
          refine sq_v rfl (v_move rfl) rfl ?_
          refine sq_end ?_
          refine qs_n ?_
          refine wp_bl ?_
          refine wp_lp (fun i : Nat => [(0, num p), (34, v), (35, num xs.length), (36, num i)]) (fun _ => [hp w]) (fun i => i ≤ xs.length ∧ ∀ j, j < i → 0 ≤ xs.getD j 0 ∧ xs.getD j 0 < p) (fun i => xs.length - i) 0 ⟨by omega, fun j hj => by omega⟩ ⟨rfl, rfl, rfl, rfl, trivial⟩ (fun _ s => s.pick [1] (by decide) rfl) ?_
          rintro i ⟨hi, hall⟩
          refine wp_sc ?_
          refine wp_sq ?_
          refine sq_v rfl (v_lss rfl rfl) rfl ?_
          refine sq_end ?_
          refine qs_n ?_
          refine wp_sc ?_
          refine wp_cd rfl (fun c37 => ?_) (fun c37 => ?_)
          · refine wp_sk ?_
            refine qs_n ?_
            refine wp_sc ?_
            refine wp_bl ?_
            refine wp_sc ?_
            refine wp_sq ?_
            refine sq_v rfl (v_idxI Try.underlying30 ty_3 rfl rfl rx (by omega) (by omega)) rfl ?_
            refine sq_v rfl (v_loadI 0 ty_3 rfl rfl rx (by omega)) rfl ?_
            refine sq_v rfl (v_assign rfl) rfl ?_
            refine sq_end ?_
            refine qs_n ?_
            refine wp_sc ?_
            refine wp_sq ?_
            refine sq_v rfl (v_move rfl) rfl ?_
            refine sq_v rfl (v_move rfl) rfl ?_
            refine sq_v rfl (v_sub rfl rfl ((by have := prime2 c8; have := (primeB_iff.1 c8).2.1; unfold I64; omega))) rfl ?_
            refine sq_u rfl (x_callv rfl en_17 (fun w s => ct_s_l01In _ _ _ w)) rfl ?_
            refine sq_v rfl (v_not rfl) rfl ?_
            refine sq_end ?_
            refine qs_n ?_
            refine wp_cnd rfl (fun c44 => ?_) (fun c44 => ?_)
            · refine wp_sc ?_
              refine wp_sq ?_
              refine sq_v rfl (v_assign rfl) rfl ?_
              refine sq_end ?_
              refine qs_n ?_
              refine wp_rt ?_
              refine qs_br ?_
              refine qs_r ?_
              refine qs_r ?_
              refine qs_br ?_
              refine qs_r ?_
              exact qs_ret1 rfl rfl (fin_q (i := 0) rfl (matB_no (fun h => c44 (by have := h.2.2.2.2 _ (mem_getD (by omega : ((i : Int).toNat) < xs.length)); omega))))
            · refine wp_sk ?_
              refine qs_bn ?_
              refine qs_n ?_
              refine wp_sq ?_
              refine sq_v rfl (v_add rfl rfl ((by unfold I64; omega))) rfl ?_
              refine sq_v rfl (v_move rfl) rfl ?_
              refine sq_end ?_
              exact qs_bk (i + 1) ⟨by omega, all_step hall (by simp only [Int.toNat_natCast] at c44; omega)⟩ (by omega) ⟨rfl, rfl, rfl, rfl, trivial⟩ (fun _ s => s)
          · refine wp_ex ?_
            refine qs_x ?_
            refine qs_x ?_
            refine qs_bx ?_
            refine qs_n ?_
            refine wp_sc ?_
            refine wp_sq ?_
            refine sq_v rfl (v_assign rfl) rfl ?_
            refine sq_end ?_
            refine qs_n ?_
            refine wp_rt ?_
            exact qs_ret1 rfl rfl (fin_q (i := 0) rfl (matB_yes ⟨c8, by omega, by omega, by omega, all_of (fun j hj => hall j (by omega))⟩))
  · refine sq_v rfl (v_not rfl) rfl ?_
    refine sq_v rfl (v_move rfl) rfl ?_
    refine sq_s rfl rfl ?_
    refine sq_s rfl rfl ?_
    refine sq_s rfl rfl ?_
    refine sq_s rfl rfl ?_
    refine sq_v rfl (v_pickt rfl rfl) rfl ?_
    refine sq_v rfl (v_move rfl) rfl ?_
    refine sq_s rfl rfl ?_
    refine sq_s rfl rfl ?_
    refine sq_s rfl rfl ?_
    refine sq_s rfl rfl ?_
    refine sq_v rfl (v_pickt rfl rfl) rfl ?_
    refine sq_v rfl (v_move rfl) rfl ?_
    refine sq_s rfl rfl ?_
    refine sq_s rfl rfl ?_
    refine sq_s rfl rfl ?_
    refine sq_s rfl rfl ?_
    refine sq_s rfl rfl ?_
    refine sq_s rfl rfl ?_
    refine sq_s rfl rfl ?_
    refine sq_s rfl rfl ?_
    refine sq_s rfl rfl ?_
    refine sq_v rfl (v_pickt rfl rfl) rfl ?_
    refine sq_end ?_
    refine qs_n ?_
    refine wp_ct rfl ?_
    refine wp_sc ?_
    refine wp_sq ?_
    refine sq_v rfl (v_assign rfl) rfl ?_
    refine sq_end ?_
    refine qs_n ?_
    refine wp_rt ?_
    refine qs_r ?_
    exact qs_ret1 rfl rfl (fin_q (i := 1) rfl (matB_no (by unfold matL; simp [*] <;> omega)))
theorem ct_i_inMod (p : Int) (xs : List Int) (v : Value) (w : World) (rx : IntsR xs v (hp w)) : Calls Try.prog 25 [num p, v].toArray w (RetV w (.bool (decide (∀ a ∈ xs, 0 ≤ a ∧ a < p)))) := by
  have hxl := rx.le
  refine calls_in Try.func25 rfl Try.ntmps25 rfl (Sat.start w) ?_
  refine wp_sc ?_
  refine wp_sq ?_
  refine sq_v rfl (v_assign rfl) rfl ?_
  refine sq_end ?_
  refine qs_n ?_
  refine wp_sc ?_
  refine wp_sc ?_
  refine wp_sq ?_
  refine sq_v rfl (v_move rfl) rfl ?_
  refine sq_v rfl (v_len Try.underlying30 rfl rx.sl) rfl ?_
  refine sq_v rfl (v_move rfl) rfl ?_
  refine sq_end ?_
  refine qs_n ?_
  refine wp_bl ?_
  refine wp_lp (fun i : Nat => [(0, num p), (7, v), (8, num xs.length), (9, num i)]) (fun _ => [hp w]) (fun i => i ≤ xs.length ∧ ∀ j, j < i → 0 ≤ xs.getD j 0 ∧ xs.getD j 0 < p) (fun i => xs.length - i) 0 ⟨by omega, fun j hj => by omega⟩ ⟨rfl, rfl, rfl, rfl, trivial⟩ (fun _ s => s) ?_
  rintro i ⟨hi, hall⟩
  refine wp_sc ?_
  refine wp_sq ?_
  refine sq_v rfl (v_lss rfl rfl) rfl ?_
  refine sq_end ?_
  refine qs_n ?_
  refine wp_sc ?_
  refine wp_cd rfl (fun c10 => ?_) (fun c10 => ?_)
  · refine wp_sk ?_
    refine qs_n ?_
    refine wp_sc ?_
    refine wp_bl ?_
    refine wp_sc ?_
    refine wp_sq ?_
    refine sq_v rfl (v_idxI Try.underlying30 ty_3 rfl rfl rx (by omega) (by omega)) rfl ?_
    refine sq_v rfl (v_loadI 0 ty_3 rfl rfl rx (by omega)) rfl ?_
    refine sq_v rfl (v_assign rfl) rfl ?_
    refine sq_end ?_
    refine qs_n ?_
    refine wp_sc ?_
    refine wp_sq ?_
    refine sq_v rfl (v_move rfl) rfl ?_
    refine sq_v rfl (v_lss rfl rfl) rfl ?_
    refine sq_bd 14 rfl (fun c14 => ?_) (fun c14 => ?_)
    · refine sq_v rfl (v_move rfl) rfl ?_
      refine sq_s rfl rfl ?_
      refine sq_s rfl rfl ?_
      refine sq_s rfl rfl ?_
      refine sq_v rfl (v_pickt rfl rfl) rfl ?_
      refine sq_end ?_
      refine qs_n ?_
      refine wp_ct rfl ?_
      refine wp_sc ?_
      refine wp_sq ?_
      refine sq_v rfl (v_assign rfl) rfl ?_
      refine sq_end ?_
      refine qs_n ?_
      refine wp_rt ?_
      refine qs_br ?_
      refine qs_r ?_
      refine qs_r ?_
      refine qs_br ?_
      refine qs_r ?_
      exact qs_ret1 rfl rfl (fin_q (i := 0) rfl (by congr 1; symm; rw [decide_eq_false_iff_not]; intro h; have := h _ (mem_getD (by omega : ((i : Int).toNat) < xs.length)); omega))
    · refine sq_v rfl (v_move rfl) rfl ?_
      refine sq_v rfl (v_move rfl) rfl ?_
      refine sq_v rfl (v_move rfl) rfl ?_
      refine sq_v rfl (v_geq rfl rfl) rfl ?_
      refine sq_v rfl (v_pickf rfl rfl) rfl ?_
      refine sq_end ?_
      refine qs_n ?_
      refine wp_cd rfl (fun c19 => ?_) (fun c19 => ?_)
      · refine wp_sc ?_
        refine wp_sq ?_
        refine sq_v rfl (v_assign rfl) rfl ?_
        refine sq_end ?_
        refine qs_n ?_
        refine wp_rt ?_
        refine qs_br ?_
        refine qs_r ?_
        refine qs_r ?_
        refine qs_br ?_
        refine qs_r ?_
        exact qs_ret1 rfl rfl (fin_q (i := 0) rfl (by congr 1; symm; rw [decide_eq_false_iff_not]; intro h; have := h _ (mem_getD (by omega : ((i : Int).toNat) < xs.length)); omega))
      · refine wp_sk ?_
        refine qs_bn ?_
        refine qs_n ?_
        refine wp_sq ?_
        refine sq_v rfl (v_add rfl rfl ((by unfold I64; omega))) rfl ?_
        refine sq_v rfl (v_move rfl) rfl ?_
        refine sq_end ?_
        exact qs_bk (i + 1) ⟨by omega, all_step hall (by simp only [Int.toNat_natCast] at *; omega)⟩ (by omega) ⟨rfl, rfl, rfl, rfl, trivial⟩ (fun _ s => s)
  · refine wp_ex ?_
    refine qs_x ?_
    refine qs_x ?_
    refine qs_bx ?_
    refine qs_n ?_
    refine wp_sc ?_
    refine wp_sq ?_
    refine sq_v rfl (v_assign rfl) rfl ?_
    refine sq_end ?_
    refine qs_n ?_
    refine wp_rt ?_
    exact qs_ret1 rfl rfl (fin_q (i := 0) rfl (by congr 1; symm; rw [decide_eq_true_eq]; exact all_of (fun j hj => hall j (by omega))))
theorem ct_i_MatrixOk (p r c : Int) (xs : List Int) (v : Value) (w : World) (rx : IntsR xs v (hp w)) : Calls Try.prog 14 [num p, matV r c v].toArray w (RetV w (.bool (matB p r c xs))) := by
  have hxl := rx.le
  refine calls_in Try.func14 rfl Try.ntmps14 rfl (Sat.start w) ?_
  refine wp_sc ?_
  refine wp_sq ?_
  refine sq_x rfl (x_box rfl rfl) rfl ?_; rintro _ _ ⟨b3, rfl, rfl⟩
  refine sq_v rfl (v_assign rfl) rfl ?_
  refine sq_end ?_
  refine qs_n ?_
  refine wp_sc ?_
  refine wp_sc ?_
  refine wp_sq ?_
  refine sq_v rfl (v_move rfl) rfl ?_
  refine sq_u rfl (x_callv rfl en_19 (fun w s => ct_i_IsPrime _ w)) rfl ?_
  refine sq_bb 6 rfl (fun c6 => ?_) (fun c6 => ?_)
  · refine sq_v rfl (v_not rfl) rfl ?_
    refine sq_v rfl (v_move rfl) rfl ?_
    refine sq_v rfl (v_fieldAddr fd_35_0 ty_3 (by decide) rfl) rfl ?_
    refine sq_v rfl (v_loadB 0 ty_3 rfl rfl rfl) rfl ?_
    refine sq_v rfl (v_lss rfl rfl) rfl ?_
    refine sq_v rfl (v_pickf rfl rfl) rfl ?_
    refine sq_bd 12 rfl (fun c12 => ?_) (fun c12 => ?_)
    · refine sq_v rfl (v_move rfl) rfl ?_
      refine sq_s rfl rfl ?_
      refine sq_s rfl rfl ?_
      refine sq_s rfl rfl ?_
      refine sq_v rfl (v_pickt rfl rfl) rfl ?_
      refine sq_v rfl (v_move rfl) rfl ?_
      refine sq_s rfl rfl ?_
      refine sq_s rfl rfl ?_
      refine sq_s rfl rfl ?_
      refine sq_v rfl (v_pickt rfl rfl) rfl ?_
      refine sq_v rfl (v_move rfl) rfl ?_
      refine sq_s rfl rfl ?_
      refine sq_s rfl rfl ?_
      refine sq_s rfl rfl ?_
      refine sq_v rfl (v_pickt rfl rfl) rfl ?_
      refine sq_end ?_
      refine qs_n ?_
      refine wp_ct rfl ?_
      refine wp_sc ?_
      refine wp_sq ?_
      refine sq_v rfl (v_assign rfl) rfl ?_
      refine sq_end ?_
      refine qs_n ?_
      refine wp_rt ?_
      refine qs_r ?_
      exact qs_ret1 rfl rfl (fin_q (i := 1) rfl (matB_no (by unfold matL; simp [*] <;> omega)))
    · refine sq_v rfl (v_move rfl) rfl ?_
      refine sq_v rfl (v_fieldAddr fd_35_1 ty_3 (by decide) rfl) rfl ?_
      refine sq_v rfl (v_loadB 0 ty_3 rfl rfl rfl) rfl ?_
      refine sq_v rfl (v_lss rfl rfl) rfl ?_
      refine sq_v rfl (v_pickf rfl rfl) rfl ?_
      refine sq_bd 17 rfl (fun c17 => ?_) (fun c17 => ?_)
      · refine sq_v rfl (v_move rfl) rfl ?_
        refine sq_s rfl rfl ?_
        refine sq_s rfl rfl ?_
        refine sq_s rfl rfl ?_
        refine sq_v rfl (v_pickt rfl rfl) rfl ?_
        refine sq_v rfl (v_move rfl) rfl ?_
        refine sq_s rfl rfl ?_
        refine sq_s rfl rfl ?_
        refine sq_s rfl rfl ?_
        refine sq_v rfl (v_pickt rfl rfl) rfl ?_
        refine sq_end ?_
        refine qs_n ?_
        refine wp_ct rfl ?_
        refine wp_sc ?_
        refine wp_sq ?_
        refine sq_v rfl (v_assign rfl) rfl ?_
        refine sq_end ?_
        refine qs_n ?_
        refine wp_rt ?_
        refine qs_r ?_
        exact qs_ret1 rfl rfl (fin_q (i := 1) rfl (matB_no (by unfold matL; simp [*] <;> omega)))
      · refine sq_v rfl (v_move rfl) rfl ?_
        refine sq_v rfl (v_fieldAddr fd_35_0 ty_3 (by decide) rfl) rfl ?_
        refine sq_v rfl (v_loadB 0 ty_3 rfl rfl rfl) rfl ?_
        refine sq_v rfl (v_gtr rfl rfl) rfl ?_
        refine sq_v rfl (v_pickf rfl rfl) rfl ?_
        refine sq_bd 22 rfl (fun c22 => ?_) (fun c22 => ?_)
        · refine sq_v rfl (v_move rfl) rfl ?_
          refine sq_s rfl rfl ?_
          refine sq_s rfl rfl ?_
          refine sq_s rfl rfl ?_
          refine sq_v rfl (v_pickt rfl rfl) rfl ?_
          refine sq_end ?_
          refine qs_n ?_
          refine wp_ct rfl ?_
          refine wp_sc ?_
          refine wp_sq ?_
          refine sq_v rfl (v_assign rfl) rfl ?_
          refine sq_end ?_
          refine qs_n ?_
          refine wp_rt ?_
          refine qs_r ?_
          exact qs_ret1 rfl rfl (fin_q (i := 1) rfl (matB_no (by unfold matL; simp [*] <;> omega)))
        · refine sq_v rfl (v_move rfl) rfl ?_
          refine sq_v rfl (v_fieldAddr fd_35_1 ty_3 (by decide) rfl) rfl ?_
          refine sq_v rfl (v_loadB 0 ty_3 rfl rfl rfl) rfl ?_
          refine sq_v rfl (v_gtr rfl rfl) rfl ?_
          refine sq_v rfl (v_pickf rfl rfl) rfl ?_
          refine sq_end ?_
          refine qs_n ?_
          refine wp_cd rfl (fun c27 => ?_) (fun c27 => ?_)
          · refine wp_sc ?_
            refine wp_sq ?_
            refine sq_v rfl (v_assign rfl) rfl ?_
            refine sq_end ?_
            refine qs_n ?_
            refine wp_rt ?_
            refine qs_r ?_
            exact qs_ret1 rfl rfl (fin_q (i := 1) rfl (matB_no (by unfold matL; simp [*] <;> omega)))
          · refine wp_sk ?_
            refine qs_n ?_
            refine wp_sc ?_
            refine wp_sq ?_
            refine sq_v rfl (v_fieldAddr fd_35_2 ty_30 (by decide) rfl) rfl ?_
            refine sq_v rfl (v_loadB 0 ty_30 rfl rfl rfl) rfl ?_
            refine sq_v rfl (v_len Try.underlying30 rfl rx.sl) rfl ?_
            refine sq_v rfl (v_fieldAddr fd_35_0 ty_3 (by decide) rfl) rfl ?_
            refine sq_v rfl (v_loadB 0 ty_3 rfl rfl rfl) rfl ?_
            refine sq_v rfl (v_fieldAddr fd_35_1 ty_3 (by decide) rfl) rfl ?_
            refine sq_v rfl (v_loadB 0 ty_3 rfl rfl rfl) rfl ?_
            refine sq_v rfl (v_mul rfl rfl (mul64 (by omega) (by omega))) rfl ?_
            refine sq_v rfl (v_eql rfl rfl) rfl ?_
            refine sq_bd 36 rfl (fun c36 => ?_) (fun c36 => ?_)
            · refine sq_v rfl (v_move rfl) rfl ?_
              refine sq_v rfl (v_move rfl) rfl ?_
              refine sq_v rfl (v_fieldAddr fd_35_2 ty_30 (by decide) rfl) rfl ?_
              refine sq_v rfl (v_loadB 0 ty_30 rfl rfl rfl) rfl ?_
              refine sq_u rfl (x_callv rfl en_25 (fun w s => ct_i_inMod _ _ _ w (rx.mono (s.get 1 rfl)))) rfl ?_
              refine sq_v rfl (v_pickt rfl rfl) rfl ?_
              refine sq_v rfl (v_assign rfl) rfl ?_
              refine sq_end ?_
              refine qs_n ?_
              refine wp_rt ?_
              exact qs_ret1 rfl rfl (fin_q (i := 1) rfl (by congr 1; unfold matB; congr 1; simp only [matL, eq_iff_iff]; exact ⟨fun h => ⟨c6, by omega, by omega, c36, h⟩, fun h => h.2.2.2.2⟩))
            · refine sq_v rfl (v_move rfl) rfl ?_
              refine sq_s rfl rfl ?_
              refine sq_s rfl rfl ?_
              refine sq_s rfl rfl ?_
              refine sq_s rfl rfl ?_
              refine sq_v rfl (v_pickf rfl rfl) rfl ?_
              refine sq_v rfl (v_assign rfl) rfl ?_
              refine sq_end ?_
              refine qs_n ?_
              refine wp_rt ?_
              exact qs_ret1 rfl rfl (fin_q (i := 1) rfl (matB_no (fun h => c36 h.2.2.2.1)))
  · refine sq_v rfl (v_not rfl) rfl ?_
    refine sq_v rfl (v_move rfl) rfl ?_
    refine sq_s rfl rfl ?_
    refine sq_s rfl rfl ?_
    refine sq_s rfl rfl ?_
    refine sq_v rfl (v_pickt rfl rfl) rfl ?_
    refine sq_v rfl (v_move rfl) rfl ?_
    refine sq_s rfl rfl ?_
    refine sq_s rfl rfl ?_
    refine sq_s rfl rfl ?_
    refine sq_v rfl (v_pickt rfl rfl) rfl ?_
    refine sq_v rfl (v_move rfl) rfl ?_
    refine sq_s rfl rfl ?_
    refine sq_s rfl rfl ?_
    refine sq_s rfl rfl ?_
    refine sq_v rfl (v_pickt rfl rfl) rfl ?_
    refine sq_v rfl (v_move rfl) rfl ?_
    refine sq_s rfl rfl ?_
    refine sq_s rfl rfl ?_
    refine sq_s rfl rfl ?_
    refine sq_v rfl (v_pickt rfl rfl) rfl ?_
    refine sq_end ?_
    refine qs_n ?_
    refine wp_ct rfl ?_
    refine wp_sc ?_
    refine wp_sq ?_
    refine sq_v rfl (v_assign rfl) rfl ?_
    refine sq_end ?_
    refine qs_n ?_
    refine wp_rt ?_
    refine qs_r ?_
    exact qs_ret1 rfl rfl (fin_q (i := 1) rfl (matB_no (by unfold matL; simp [*] <;> omega)))
def matSz (xs : List Int) : Int := xs.length
theorem ct_l_szMatrix (r c left : Int) (xs : List Int) (v : Value) (w : World) (rx : IntsR xs v (hp w)) (hl : 0 ≤ left ∧ left ≤ 1048576) :
    Calls Try.prog 11 [matV r c v, num left].toArray w (RetV w (num (szV left xs.length))) := by
  refine calls_in Try.func11 rfl Try.ntmps11 rfl (Sat.start w) ?_
  refine wp_sc ?_
  refine wp_sq ?_
  refine sq_x rfl (x_box rfl rfl) rfl ?_; rintro _ _ ⟨b2, rfl, rfl⟩
  refine sq_v rfl (v_assign rfl) rfl ?_
  refine sq_end ?_
  refine qs_n ?_
  refine wp_sc ?_
  refine wp_sq ?_
  refine sq_v rfl (v_fieldAddr fd_32_2 ty_30 (by decide) rfl) rfl ?_
  refine sq_v rfl (v_loadB 0 ty_30 rfl rfl rfl) rfl ?_
  refine sq_v rfl (v_move rfl) rfl ?_
  refine sq_u rfl (x_callv rfl en_23 (fun w s => ct_l_szIntS _ _ _ w (rx.mono (s.get 1 rfl)) hl)) rfl ?_
  refine sq_v rfl (v_assign rfl) rfl ?_
  refine sq_end ?_
  refine qs_n ?_
  refine wp_sc ?_
  refine wp_sc ?_
  refine wp_sq ?_
  refine sq_v rfl (v_move rfl) rfl ?_
  refine sq_v rfl (v_lss rfl rfl) rfl ?_
  refine sq_end ?_
  refine qs_n ?_
  refine wp_cd rfl (fun c10 => ?_) (fun c10 => ?_)
  · refine wp_sc ?_
    refine wp_sq ?_
    refine sq_v rfl (v_assign rfl) rfl ?_
    refine sq_end ?_
    refine qs_n ?_
    refine wp_rt ?_
    refine qs_r ?_
    exact qs_ret1 rfl rfl (fin_q (i := 1) rfl (by rw [szV, if_pos (szV_lt c10)]))
  · refine wp_sk ?_
    refine qs_n ?_
    refine wp_sc ?_
    refine wp_sq ?_
    refine sq_v rfl (v_move rfl) rfl ?_
    refine sq_v rfl (v_assign rfl) rfl ?_
    refine sq_end ?_
    refine qs_n ?_
    refine wp_rt ?_
    exact qs_ret1 rfl rfl (fin_q (i := 1) rfl rfl)
theorem ct_l_toMatrix (r c : Int) (xs : List Int) (v : Value) (w : World) (rx : IntsR xs v (hp w)) (hs : xs.length ≤ 1048576) :
    Calls Try.prog 13 [matV r c v].toArray w (Ret w emp (fun u h => ∃ v', u = matV r c v' ∧ IntsO xs v' h)) := by
  refine calls_in Try.func13 rfl Try.ntmps13 rfl (Sat.start w) ?_
  refine wp_sc ?_
  refine wp_sq ?_
  refine sq_x rfl (x_box rfl rfl) rfl ?_; rintro _ _ ⟨b1, rfl, rfl⟩
  refine sq_x rfl (x_alloc ty_35 rfl) rfl ?_; rintro _ _ ⟨b2, rfl, rfl⟩
  refine sq_end ?_
  refine qs_n ?_
  refine wp_sc ?_
  refine wp_sq ?_
  refine sq_x rfl (x_alloc ty_35 rfl) rfl ?_; rintro _ _ ⟨b3, rfl, rfl⟩
  refine sq_end ?_
  refine qs_n ?_
  refine wp_sc ?_
  refine wp_sq ?_
  refine sq_v rfl (v_fieldAddr fd_32_0 ty_3 (by decide) rfl) rfl ?_
  refine sq_v rfl (v_loadB 2 ty_3 rfl rfl rfl) rfl ?_
  refine sq_v rfl (v_fieldAddr fd_35_0 ty_3 (by decide) rfl) rfl ?_
  refine sq_m 0 rfl rfl (m_store1 0 ty_3 rfl rfl rfl rfl (Nat.le_of_ble_eq_true rfl)) rfl ?_; rintro _ _ ⟨rfl, rfl⟩
  refine sq_end ?_
  refine qs_n ?_
  refine wp_sc ?_
  refine wp_sq ?_
  refine sq_v rfl (v_fieldAddr fd_32_1 ty_3 (by decide) rfl) rfl ?_
  refine sq_v rfl (v_loadB 2 ty_3 rfl rfl rfl) rfl ?_
  refine sq_v rfl (v_fieldAddr fd_35_1 ty_3 (by decide) rfl) rfl ?_
  refine sq_m 0 rfl rfl (m_store1 0 ty_3 rfl rfl rfl rfl (Nat.le_of_ble_eq_true rfl)) rfl ?_; rintro _ _ ⟨rfl, rfl⟩
  refine sq_end ?_
  refine qs_n ?_
  refine wp_sc ?_
  refine wp_sq ?_
  refine sq_v rfl (v_fieldAddr fd_32_2 ty_30 (by decide) rfl) rfl ?_
  refine sq_v rfl (v_loadB 2 ty_30 rfl rfl rfl) rfl ?_
  refine sq_x rfl (x_call rfl en_24 (fun w s => ct_l_toIntS _ _ w (rx.mono (s.get 3 rfl)) hs)) rfl ?_; rintro v12 h12 r12
  refine sq_v rfl (v_fieldAddr fd_35_2 ty_30 (by decide) rfl) rfl ?_
  refine sq_m 1 rfl rfl (m_store1 1 ty_30 rfl rfl r12.toR.sl.one rfl (Nat.le_of_ble_eq_true rfl)) rfl ?_; rintro _ _ ⟨rfl, rfl⟩
  refine sq_end ?_
  refine qs_n ?_
  refine wp_sc ?_
  refine wp_sq ?_
  refine sq_v rfl (v_loadNB 1 ty_35 rfl rfl rfl rfl) rfl ?_
  refine sq_m 2 rfl rfl (m_store 2 ty_35 rfl rfl rfl rfl (by simp [one_int, r12.toR.sl.one]) rfl (Nat.le_of_ble_eq_true rfl)) rfl ?_; rintro _ _ ⟨rfl, rfl⟩
  refine sq_end ?_
  refine qs_n ?_
  refine wp_rt ?_
  exact qs_retc 2 rfl ty_35 rfl rfl rfl (fin_t 0 (i := 4) rfl rfl rfl ⟨_, rfl, r12⟩)
theorem ct_l_eqMatrix (r c : Int) (xs : List Int) (v u : Value) (w : World) (rx : IntsR xs v (hp w)) (rx' : IntsR xs u (hp w)) :
    Calls Try.prog 15 [matV r c v, matV r c u].toArray w (RetV w (.bool true)) := by
  refine calls_in Try.func15 rfl Try.ntmps15 rfl (Sat.start w) ?_
  refine wp_sc ?_
  refine wp_sq ?_
  refine sq_x rfl (x_box rfl rfl) rfl ?_; rintro _ _ ⟨b2, rfl, rfl⟩
  refine sq_x rfl (x_box rfl rfl) rfl ?_; rintro _ _ ⟨b3, rfl, rfl⟩
  refine sq_v rfl (v_assign rfl) rfl ?_
  refine sq_end ?_
  refine qs_n ?_
  refine wp_sc ?_
  refine wp_sc ?_
  refine wp_sq ?_
  refine sq_v rfl (v_fieldAddr fd_35_0 ty_3 (by decide) rfl) rfl ?_
  refine sq_v rfl (v_loadB 1 ty_3 rfl rfl rfl) rfl ?_
  refine sq_v rfl (v_fieldAddr fd_35_0 ty_3 (by decide) rfl) rfl ?_
  refine sq_v rfl (v_loadB 0 ty_3 rfl rfl rfl) rfl ?_
  refine sq_v rfl (v_neq rfl rfl) rfl ?_
  refine sq_end ?_
  refine qs_n ?_
  refine wp_cd rfl (fun c9 => ?_) (fun c9 => ?_)
  · refine wp_sc ?_
    refine wp_sq ?_
    refine sq_v rfl (v_assign rfl) rfl ?_
    refine sq_end ?_
    refine qs_n ?_
    refine wp_rt ?_
    refine qs_r ?_
    exact absurd rfl c9
  · refine wp_sk ?_
    refine qs_n ?_
    refine wp_sc ?_
    refine wp_sc ?_
    refine wp_sq ?_
    refine sq_v rfl (v_fieldAddr fd_35_1 ty_3 (by decide) rfl) rfl ?_
    refine sq_v rfl (v_loadB 1 ty_3 rfl rfl rfl) rfl ?_
    refine sq_v rfl (v_fieldAddr fd_35_1 ty_3 (by decide) rfl) rfl ?_
    refine sq_v rfl (v_loadB 0 ty_3 rfl rfl rfl) rfl ?_
    refine sq_v rfl (v_neq rfl rfl) rfl ?_
    refine sq_end ?_
    refine qs_n ?_
    refine wp_cd rfl (fun c14 => ?_) (fun c14 => ?_)
    · refine wp_sc ?_
      refine wp_sq ?_
      refine sq_v rfl (v_assign rfl) rfl ?_
      refine sq_end ?_
      refine qs_n ?_
      refine wp_rt ?_
      refine qs_r ?_
      exact absurd rfl c14
    · refine wp_sk ?_
      refine qs_n ?_
      refine wp_sc ?_
      refine wp_sc ?_
      refine wp_sq ?_
      refine sq_v rfl (v_fieldAddr fd_35_2 ty_30 (by decide) rfl) rfl ?_
      refine sq_v rfl (v_loadB 1 ty_30 rfl rfl rfl) rfl ?_
      refine sq_v rfl (v_fieldAddr fd_35_2 ty_30 (by decide) rfl) rfl ?_
      refine sq_v rfl (v_loadB 0 ty_30 rfl rfl rfl) rfl ?_
      refine sq_u rfl (x_callv rfl en_26 (fun w s => ct_l_eqIntS _ _ _ _ w (rx.mono (s.get 2 rfl)) (rx'.mono (s.get 2 rfl)) rfl)) rfl ?_
      refine sq_v rfl (v_not rfl) rfl ?_
      refine sq_end ?_
      refine qs_n ?_
      refine wp_cn _ rfl (fun c20 => ?_) (fun c20 => ?_)
      · refine wp_sc ?_
        refine wp_sq ?_
        refine sq_v rfl (v_assign rfl) rfl ?_
        refine sq_end ?_
        refine qs_n ?_
        refine wp_rt ?_
        refine qs_r ?_
        cases c20
      · refine wp_sk ?_
        refine qs_n ?_
        refine wp_sc ?_
        refine wp_sq ?_
        refine sq_v rfl (v_assign rfl) rfl ?_
        refine sq_end ?_
        refine qs_n ?_
        refine wp_rt ?_
        exact qs_ret1 rfl rfl (fin_q (i := 2) rfl rfl)
theorem ct_l_FnExactMatrixOk (p r c : Int) (xs : List Int) (v : Value) (w : World) (rx : IntsR xs v (hp w)) : Calls Try.prog 5 [num p, matV r c v].toArray w (RetV w (.bool true)) := by
  refine calls_in Try.func5 rfl Try.ntmps5 rfl (Sat.start w) ?_
  refine wp_sc ?_
  refine wp_sq ?_
  refine sq_x rfl (x_box rfl rfl) rfl ?_; rintro _ _ ⟨b3, rfl, rfl⟩
  refine sq_v rfl (v_assign rfl) rfl ?_
  refine sq_end ?_
  refine qs_n ?_
  refine wp_sc ?_
  refine wp_sq ?_
  refine sq_v rfl (v_assign rfl) rfl ?_
  refine sq_end ?_
  refine qs_n ?_
  refine wp_sc ?_
  refine wp_sq ?_
  refine sq_v rfl (v_loadNB 0 ty_32 rfl rfl rfl rfl) rfl ?_
  refine sq_v rfl (v_move rfl) rfl ?_
  refine sq_u rfl (x_callv rfl en_11 (fun w s => ct_l_szMatrix _ _ _ _ _ w (rx.mono (s.get 1 rfl)) (by omega))) rfl ?_
  refine sq_v rfl (v_assign rfl) rfl ?_
  refine sq_end ?_
  refine qs_n ?_
  refine wp_sc ?_
  refine wp_sc ?_
  refine wp_sq ?_
  refine sq_v rfl (v_move rfl) rfl ?_
  refine sq_v rfl (v_lss rfl rfl) rfl ?_
  refine sq_end ?_
  refine qs_n ?_
  refine wp_cd rfl (fun c13 => ?_) (fun c13 => ?_)
  · refine wp_sc ?_
    refine wp_sq ?_
    refine sq_v rfl (v_assign rfl) rfl ?_
    refine sq_end ?_
    refine qs_n ?_
    refine wp_rt ?_
    refine qs_r ?_
    exact qs_ret1 rfl rfl (fin_q (i := 1) rfl rfl)
  · refine wp_sk ?_
    refine qs_n ?_
    refine wp_sc ?_
    refine wp_sq ?_
    refine sq_v rfl (v_move rfl) rfl ?_
    refine sq_v rfl (v_loadNB 0 ty_32 rfl rfl rfl rfl) rfl ?_
    have hsz := szV_ge c13
    refine sq_x rfl (x_call rfl en_13 (fun w s => ct_l_toMatrix _ _ _ _ w (rx.mono (s.get 1 rfl)) (by omega))) rfl ?_; rintro _ h16 ⟨v16, rfl, r16⟩
    refine sq_u rfl (x_callv rfl en_12 (fun w s => ct_s_MatrixOk _ _ _ _ _ w (r16.toR.mono (s.get 0 rfl)))) rfl ?_
    refine sq_v rfl (v_assign rfl) rfl ?_
    refine sq_end ?_
    refine qs_n ?_
    refine wp_sc ?_
    refine wp_sq ?_
    refine sq_v rfl (v_loadNB 1 ty_32 rfl rfl rfl rfl) rfl ?_
    refine sq_x rfl (x_call rfl en_13 (fun w s => ct_l_toMatrix _ _ _ _ w (rx.mono (s.get 2 rfl)) (by omega))) rfl ?_; rintro _ h19 ⟨v19, rfl, r19⟩
    refine sq_x rfl (x_alloc ty_35 rfl) rfl ?_; rintro _ _ ⟨b7, rfl, rfl⟩
    refine sq_m 0 rfl rfl (m_store 0 ty_35 rfl rfl rfl rfl (by simp [one_int, r19.toR.sl.one]) rfl (Nat.le_of_ble_eq_true rfl)) rfl ?_; rintro _ _ ⟨rfl, rfl⟩
    refine sq_end ?_
    refine qs_n ?_
    refine wp_sc ?_
    refine wp_sq ?_
    refine sq_v rfl (v_move rfl) rfl ?_
    refine sq_v rfl (v_loadNB 0 ty_35 rfl rfl rfl rfl) rfl ?_
    refine sq_u rfl (x_callv rfl en_14 (fun w s => ct_i_MatrixOk _ _ _ _ _ w (r19.toR.mono (s.get 1 rfl)))) rfl ?_
    refine sq_v rfl (v_assign rfl) rfl ?_
    refine sq_end ?_
    refine qs_n ?_
    refine wp_sc ?_
    refine wp_sc ?_
    refine wp_sq ?_
    refine sq_v rfl (v_move rfl) rfl ?_
    refine sq_v rfl (v_move rfl) rfl ?_
    refine sq_v rfl (v_neqb Try.underlying4 rfl rfl) rfl ?_
    refine sq_end ?_
    refine qs_n ?_
    refine wp_cd rfl (fun c25 => ?_) (fun c25 => ?_)
    · refine wp_sc ?_
      refine wp_sq ?_
      refine sq_v rfl (v_assign rfl) rfl ?_
      refine sq_end ?_
      refine qs_n ?_
      refine wp_rt ?_
      refine qs_r ?_
      exact absurd rfl c25
    · refine wp_sk ?_
      refine qs_n ?_
      refine wp_sc ?_
      refine wp_sc ?_
      refine wp_rj 5 [(0, true), (1, true), (2, false), (3, false), (4, true)] mixed_ok (by kernel_rfl) ?_
      refine rj_v rfl rfl (v_loadNB 0 ty_35 rfl rfl rfl rfl) rfl ?_
      refine rj_v rfl rfl (v_loadNB 3 ty_32 rfl rfl rfl rfl) rfl ?_
      refine rj_x rfl rfl (x_call rfl en_13 (fun w s => ct_l_toMatrix _ _ _ _ w (rx.mono (s.get 4 rfl)) (by omega))) rfl ?_; rintro _ h28 ⟨v28, rfl, r28⟩
      refine rj_u rfl rfl (x_callv rfl en_15 (fun w s => ct_l_eqMatrix _ _ _ _ _ w (r19.toR.mono (s.get 2 rfl)) (r28.toR.mono (s.get 0 rfl)))) rfl ?_
      refine rj_v rfl rfl (v_not rfl) rfl ?_
      refine rj_end ?_
      refine qs_n ?_
      refine wp_cn _ rfl (fun c30 => ?_) (fun c30 => ?_)
      · refine wp_sc ?_
        refine wp_sq ?_
        refine sq_v rfl (v_assign rfl) rfl ?_
        refine sq_end ?_
        refine qs_n ?_
        refine wp_rt ?_
        refine qs_r ?_
        cases c30
      · refine wp_sk ?_
        refine qs_n ?_
        refine wp_sc ?_
        refine wp_sq ?_
        refine sq_v rfl (v_assign rfl) rfl ?_
        refine sq_end ?_
        refine qs_n ?_
        refine wp_rt ?_
        exact qs_ret1 rfl rfl (fin_q (i := 5) rfl rfl)
end Go.Proofs.Ythfohlhdefoopaa
