/-
  IsPrime, in the program and in the reference, answers whether a number is a prime that is not above the limit.
  Conditions: none.
-/
import Derived.Test.YtikeobneipjfnaaData
namespace Go.Proofs.Ytikeobneipjfnaa
set_option maxRecDepth 100000
open Go.RowKit

def noDiv (n k : Int) : Prop := ∀ d : Int, 2 ≤ d → d < k → n.tmod d ≠ 0
theorem noDiv_succ {n k : Int} (h : noDiv n k) (h2 : n.tmod k ≠ 0) : noDiv n (k + 1) := by
  intro d hd hk
  by_cases e : d = k
  · subst e; exact h2
  · exact h d hd (by omega)
def primeL (n : Int) : Prop := 2 ≤ n ∧ n ≤ 1000003 ∧ ∀ d : Int, 2 ≤ d → d * d ≤ n → n.tmod d ≠ 0
open Classical in
noncomputable def primeB (n : Int) : Bool := decide (primeL n)
theorem primeB_no {n d : Int} (h2 : 2 ≤ d) (hd : d * d ≤ n) (h : n.tmod d = 0) : primeB n = false := by
  simp only [primeB, decide_eq_false_iff_not]
  rintro ⟨_, _, h3⟩
  exact h3 d h2 hd h
theorem primeB_out {n : Int} (h : n < 2 ∨ 1000003 < n) : primeB n = false := by
  simp only [primeB, decide_eq_false_iff_not]
  rintro ⟨h1, h2, _⟩
  omega
theorem primeB_yes {n k : Int} (h1 : 2 ≤ n) (h2 : n ≤ 1000003) (h : noDiv n k) (hk0 : 0 ≤ k) (hk : n < k * k) : primeB n = true := by
  simp only [primeB, decide_eq_true_eq]
  refine ⟨h1, h2, fun d hd hdd => h d hd ?_⟩
  rcases Int.lt_or_le d k with h | h
  · exact h
  · have : k * k ≤ d * d := Int.mul_le_mul h h hk0 (by omega)
    omega
theorem primeB_iff {n : Int} : primeB n = true ↔ primeL n := by simp [primeB]
theorem sq_le {k : Int} (h0 : 0 ≤ k) (h : k ≤ 1002) : I64 (k * k) ∧ 0 ≤ k * k := by
  have h1 : k * k ≤ 1002 * 1002 := Int.mul_le_mul h h h0 (by omega)
  have h2 : 0 ≤ k * k := Int.mul_nonneg h0 h0
  exact ⟨by unfold I64; omega, h2⟩
theorem sq_lim {n k : Int} (h0 : 0 ≤ k) (hn : n ≤ 1000003) (h : k * k ≤ n) : k ≤ 1001 := by
  rcases Int.lt_or_le k 1002 with h1 | h1
  · omega
  · have : 1002 * 1002 ≤ k * k := Int.mul_le_mul h1 h1 (by omega) h0
    omega

theorem prime2 {m : Int} (h : primeB m = true) : 2 ≤ m := (primeB_iff.1 h).1
theorem ct_s_l01In (n lo hi : Int) (w : World) : Calls Try.prog 95 [num n, num lo, num hi].toArray w (RetV w (.bool (decide (lo ≤ n ∧ n ≤ hi)))) := by
  refine calls_in Try.func95 rfl Try.ntmps95 rfl (Sat.start w) ?_
  refine wp_sc ?_
  refine wp_sq ?_
  refine sq_v rfl (v_assign rfl) rfl ?_
  refine sq_end ?_
  refine qs_n ?_
  refine wp_sc ?_
  refine wp_sq ?_
  refine sq_v rfl (v_move rfl) rfl ?_
  refine sq_v rfl (v_move rfl) rfl ?_
  refine sq_v rfl (v_geq rfl rfl) rfl ?_
  refine sq_bd 9 rfl (fun c9 => ?_) (fun c9 => ?_)
  · refine sq_v rfl (v_move rfl) rfl ?_
    refine sq_v rfl (v_move rfl) rfl ?_
    refine sq_v rfl (v_move rfl) rfl ?_
    refine sq_v rfl (v_leq rfl rfl) rfl ?_
    refine sq_v rfl (v_pickt rfl rfl) rfl ?_
    refine sq_v rfl (v_assign rfl) rfl ?_
    refine sq_end ?_
    refine qs_n ?_
    refine wp_rt ?_
    exact qs_ret1 rfl rfl (fin_q (i := 0) rfl (by simp [c9]))
  · refine sq_v rfl (v_move rfl) rfl ?_
    refine sq_s rfl rfl ?_
    refine sq_s rfl rfl ?_
    refine sq_s rfl rfl ?_
    refine sq_v rfl (v_pickf rfl rfl) rfl ?_
    refine sq_v rfl (v_assign rfl) rfl ?_
    refine sq_end ?_
    refine qs_n ?_
    refine wp_rt ?_
    exact qs_ret1 rfl rfl (fin_q (i := 0) rfl (by simp [c9]))

theorem ct_s_IsPrime (n : Int) (w : World) : Calls Try.prog 214 [num n].toArray w (RetV w (.bool (primeB n))) := by
  refine calls_in Try.func214 rfl Try.ntmps214 rfl (Sat.start w) ?_
  refine wp_sc ?_
  refine wp_sq ?_
  refine sq_v rfl (v_assign rfl) rfl ?_
  refine sq_end ?_
  refine qs_n ?_
  refine wp_sc ?_
  refine wp_sc ?_
  refine wp_sq ?_
  refine sq_v rfl (v_assign rfl) rfl ?_
  refine sq_end ?_
  refine qs_n ?_
  refine wp_bl ?_
  refine wp_lp (fun k : Int => [(0, num n), (3, num k)]) (fun _ => [hp w]) (fun k => 2 ≤ k ∧ k ≤ 1002 ∧ noDiv n k) (fun k => 2000 - k.toNat) 2 ⟨by omega, by omega, fun d _ _ => by omega⟩ ⟨rfl, rfl, trivial⟩ (fun _ s => s) ?_
  rintro k ⟨h2, h1002, hnd⟩
  have hsq := sq_le (k := k) (by omega) h1002
  refine wp_sc ?_
  refine wp_sc ?_
  refine wp_sq ?_
  refine sq_v rfl (v_move rfl) rfl ?_
  refine sq_v rfl (v_move rfl) rfl ?_
  refine sq_v rfl (v_mul rfl rfl (hsq.1)) rfl ?_
  refine sq_v rfl (v_move rfl) rfl ?_
  refine sq_v rfl (v_leq rfl rfl) rfl ?_
  refine sq_bd 8 rfl (fun c8 => ?_) (fun c8 => ?_)
  · refine sq_v rfl (v_move rfl) rfl ?_
    refine sq_v rfl (v_move rfl) rfl ?_
    refine sq_v rfl (v_leq rfl rfl) rfl ?_
    refine sq_v rfl (v_pickt rfl rfl) rfl ?_
    refine sq_end ?_
    refine qs_n ?_
    refine wp_cd rfl (fun c12 => ?_) (fun c12 => ?_)
    · refine wp_sk ?_
      refine qs_n ?_
      refine wp_sc ?_
      refine wp_bl ?_
      refine wp_sc ?_
      refine wp_sq ?_
      refine sq_v rfl (v_move rfl) rfl ?_
      refine sq_v rfl (v_move rfl) rfl ?_
      refine sq_v rfl (v_rem rfl rfl (by omega)) rfl ?_
      refine sq_v rfl (v_eql rfl rfl) rfl ?_
      refine sq_end ?_
      refine qs_n ?_
      refine wp_cd rfl (fun c18 => ?_) (fun c18 => ?_)
      · refine wp_sc ?_
        refine wp_sq ?_
        refine sq_v rfl (v_assign rfl) rfl ?_
        refine sq_end ?_
        refine qs_n ?_
        refine wp_rt ?_
        refine qs_br ?_
        refine qs_r ?_
        refine qs_r ?_
        refine qs_br ?_
        refine qs_r ?_
        exact qs_ret1 rfl rfl (fin_q (i := 0) rfl (by rw [primeB_no h2 c8 c18]))
      · refine wp_sk ?_
        refine qs_bn ?_
        refine qs_n ?_
        refine wp_sq ?_
        refine sq_v rfl (v_move rfl) rfl ?_
        refine sq_v rfl (v_add rfl rfl ((by unfold I64; omega))) rfl ?_
        refine sq_v rfl (v_assign rfl) rfl ?_
        refine sq_end ?_
        have hl := sq_lim (by omega) c12 c8
        exact qs_bk (k + 1) ⟨by omega, by omega, noDiv_succ hnd c18⟩ (by omega) ⟨rfl, rfl, trivial⟩ (fun _ s => s)
    · refine wp_ex ?_
      refine qs_x ?_
      refine qs_x ?_
      refine qs_bx ?_
      refine qs_n ?_
      refine wp_sc ?_
      refine wp_sq ?_
      refine sq_v rfl (v_move rfl) rfl ?_
      refine sq_u rfl (x_callv rfl en_95 (fun w s => ct_s_l01In _ _ _ w)) rfl ?_
      refine sq_v rfl (v_assign rfl) rfl ?_
      refine sq_end ?_
      refine qs_n ?_
      refine wp_rt ?_
      exact qs_ret1 rfl rfl (fin_q (i := 0) rfl (by rw [primeB_out (by omega)]; simp; omega))
  · refine sq_v rfl (v_move rfl) rfl ?_
    refine sq_s rfl rfl ?_
    refine sq_s rfl rfl ?_
    refine sq_v rfl (v_pickf rfl rfl) rfl ?_
    refine sq_end ?_
    refine qs_n ?_
    refine wp_cf rfl ?_
    refine wp_ex ?_
    refine qs_x ?_
    refine qs_x ?_
    refine qs_bx ?_
    refine qs_n ?_
    refine wp_sc ?_
    refine wp_sq ?_
    refine sq_v rfl (v_move rfl) rfl ?_
    refine sq_u rfl (x_callv rfl en_95 (fun w s => ct_s_l01In _ _ _ w)) rfl ?_
    refine sq_v rfl (v_assign rfl) rfl ?_
    refine sq_end ?_
    refine qs_n ?_
    refine wp_rt ?_
    refine qs_ret1 rfl rfl (fin_q (i := 0) rfl ?_)
    by_cases h : 2 ≤ n ∧ n ≤ 1000003
    · rw [primeB_yes h.1 h.2 hnd (by omega) (by omega)]; simp [h]
    · rw [primeB_out (by omega)]; simp [h]

theorem ct_i_IsPrime (n : Int) (w : World) : Calls Try.prog 216 [num n].toArray w (RetV w (.bool (primeB n))) := by
  refine calls_in Try.func216 rfl Try.ntmps216 rfl (Sat.start w) ?_
  refine wp_sc ?_
  refine wp_sq ?_
  refine sq_v rfl (v_assign rfl) rfl ?_
  refine sq_end ?_
  refine qs_n ?_
  refine wp_sc ?_
  refine wp_sc ?_
  refine wp_sq ?_
  refine sq_v rfl (v_move rfl) rfl ?_
  refine sq_v rfl (v_lss rfl rfl) rfl ?_
  refine sq_bd 5 rfl (fun c5 => ?_) (fun c5 => ?_)
  · refine sq_v rfl (v_move rfl) rfl ?_
    refine sq_s rfl rfl ?_
    refine sq_s rfl rfl ?_
    refine sq_v rfl (v_pickt rfl rfl) rfl ?_
    refine sq_end ?_
    refine qs_n ?_
    refine wp_ct rfl ?_
    refine wp_sc ?_
    refine wp_sq ?_
    refine sq_v rfl (v_assign rfl) rfl ?_
    refine sq_end ?_
    refine qs_n ?_
    refine wp_rt ?_
    refine qs_r ?_
    exact qs_ret1 rfl rfl (fin_q (i := 0) rfl (by rw [primeB_out (by omega)]))
  · refine sq_v rfl (v_move rfl) rfl ?_
    refine sq_v rfl (v_move rfl) rfl ?_
    refine sq_v rfl (v_gtr rfl rfl) rfl ?_
    refine sq_v rfl (v_pickf rfl rfl) rfl ?_
    refine sq_end ?_
    refine qs_n ?_
    refine wp_cd rfl (fun c9 => ?_) (fun c9 => ?_)
    · refine wp_sc ?_
      refine wp_sq ?_
      refine sq_v rfl (v_assign rfl) rfl ?_
      refine sq_end ?_
      refine qs_n ?_
      refine wp_rt ?_
      refine qs_r ?_
      exact qs_ret1 rfl rfl (fin_q (i := 0) rfl (by rw [primeB_out (by omega)]))
    · refine wp_sk ?_
      refine qs_n ?_
      refine wp_sc ?_
      refine wp_sc ?_
      refine wp_sq ?_
      refine sq_v rfl (v_assign rfl) rfl ?_
      refine sq_end ?_
      refine qs_n ?_
      refine wp_bl ?_
      refine wp_lp (fun k : Int => [(0, num n), (3, num k)]) (fun _ => [hp w]) (fun k => 2 ≤ k ∧ k ≤ 1002 ∧ noDiv n k) (fun k => 2000 - k.toNat) 2 ⟨by omega, by omega, fun d _ _ => by omega⟩ ⟨rfl, rfl, trivial⟩ (fun _ s => s) ?_
      rintro k ⟨h2, h1002, hnd⟩
      have hsq := sq_le (k := k) (by omega) h1002
      refine wp_sc ?_
      refine wp_sc ?_
      refine wp_sq ?_
      refine sq_v rfl (v_move rfl) rfl ?_
      refine sq_v rfl (v_move rfl) rfl ?_
      refine sq_v rfl (v_mul rfl rfl (hsq.1)) rfl ?_
      refine sq_v rfl (v_move rfl) rfl ?_
      refine sq_v rfl (v_leq rfl rfl) rfl ?_
      refine sq_end ?_
      refine qs_n ?_
      refine wp_cd rfl (fun c14 => ?_) (fun c14 => ?_)
      · refine wp_sk ?_
        refine qs_n ?_
        refine wp_sc ?_
        refine wp_bl ?_
        refine wp_sc ?_
        refine wp_sq ?_
        refine sq_v rfl (v_move rfl) rfl ?_
        refine sq_v rfl (v_move rfl) rfl ?_
        refine sq_v rfl (v_rem rfl rfl (by omega)) rfl ?_
        refine sq_v rfl (v_eql rfl rfl) rfl ?_
        refine sq_end ?_
        refine qs_n ?_
        refine wp_cd rfl (fun c20 => ?_) (fun c20 => ?_)
        · refine wp_sc ?_
          refine wp_sq ?_
          refine sq_v rfl (v_assign rfl) rfl ?_
          refine sq_end ?_
          refine qs_n ?_
          refine wp_rt ?_
          refine qs_br ?_
          refine qs_r ?_
          refine qs_r ?_
          refine qs_br ?_
          refine qs_r ?_
          exact qs_ret1 rfl rfl (fin_q (i := 0) rfl (by rw [primeB_no h2 c14 c20]))
        · refine wp_sk ?_
          refine qs_bn ?_
          refine qs_n ?_
          refine wp_sq ?_
          refine sq_v rfl (v_move rfl) rfl ?_
          refine sq_v rfl (v_add rfl rfl ((by unfold I64; omega))) rfl ?_
          refine sq_v rfl (v_assign rfl) rfl ?_
          refine sq_end ?_
          have hl := sq_lim (by omega) (by omega) c14
          exact qs_bk (k + 1) ⟨by omega, by omega, noDiv_succ hnd c20⟩ (by omega) ⟨rfl, rfl, trivial⟩ (fun _ s => s)
      · refine wp_ex ?_
        refine qs_x ?_
        refine qs_x ?_
        refine qs_bx ?_
        refine qs_n ?_
        refine wp_sc ?_
        refine wp_sq ?_
        refine sq_v rfl (v_assign rfl) rfl ?_
        refine sq_end ?_
        refine qs_n ?_
        refine wp_rt ?_
        exact qs_ret1 rfl rfl (fin_q (i := 0) rfl (by rw [primeB_yes (by omega) (by omega) hnd (by omega) (by omega)]))

end Go.Proofs.Ytikeobneipjfnaa
