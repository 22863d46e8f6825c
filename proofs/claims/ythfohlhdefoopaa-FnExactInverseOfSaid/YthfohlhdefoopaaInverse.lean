/-
  InverseOf, in the program and in the reference, returns the same number.
  Conditions: none.
-/
import Derived.Test.YthfohlhdefoopaaPrime
namespace Go.Proofs.Ythfohlhdefoopaa
open Go.RowKit

/-- The power by squaring, at most f rounds. -/
def pw (p : Int) : Nat → Int → Int → Int → Int
  | 0, out, _, _ => out
  | f + 1, out, x, n => if 0 < n then pw p f (if n % 2 = 1 then (out * x).tmod p else out) ((x * x).tmod p) (n / 2) else out
theorem pw_fuel (p : Int) : ∀ (f g : Nat) (out x n : Int), n.toNat ≤ f → n.toNat ≤ g → pw p f out x n = pw p g out x n
  | 0, 0, _, _, _, _, _ => rfl
  | 0, g + 1, out, x, n, h, _ => by simp only [pw]; rw [if_neg (by omega)]
  | f + 1, 0, out, x, n, _, h => by simp only [pw]; rw [if_neg (by omega)]
  | f + 1, g + 1, out, x, n, h1, h2 => by
    simp only [pw]
    split
    · exact pw_fuel p f g _ _ _ (by omega) (by omega)
    · rfl
def pwr (p out x n : Int) : Int := pw p n.toNat out x n
theorem pwr_end {p out x n : Int} (h : ¬ 0 < n) : pwr p out x n = out := by
  unfold pwr
  rw [show n.toNat = 0 by omega]
  rfl
theorem pwr_odd {p out x n : Int} (h : 0 < n) (ho : n % 2 = 1) : pwr p out x n = pwr p ((out * x).tmod p) ((x * x).tmod p) (n / 2) := by
  unfold pwr
  obtain ⟨f, hf⟩ : ∃ f, n.toNat = f + 1 := ⟨n.toNat - 1, by omega⟩
  rw [hf, pw, if_pos h, if_pos ho]
  exact pw_fuel p _ _ _ _ _ (by omega) (by omega)
theorem pwr_even {p out x n : Int} (h : 0 < n) (ho : n % 2 ≠ 1) : pwr p out x n = pwr p out ((x * x).tmod p) (n / 2) := by
  unfold pwr
  obtain ⟨f, hf⟩ : ∃ f, n.toNat = f + 1 := ⟨n.toNat - 1, by omega⟩
  rw [hf, pw, if_pos h, if_neg ho]
  exact pw_fuel p _ _ _ _ _ (by omega) (by omega)
theorem mul_in {p a b : Int} (hP : p ≤ 1000003) (ha : 0 ≤ a ∧ a < p) (hb : 0 ≤ b ∧ b < p) : I64 (a * b) ∧ 0 ≤ (a * b).tmod p ∧ (a * b).tmod p < p := by
  have h1 : a * b ≤ 1000003 * 1000003 := Int.mul_le_mul (by omega) (by omega) hb.1 (by omega)
  have h2 : 0 ≤ a * b := Int.mul_nonneg ha.1 hb.1
  rw [Int.tmod_eq_emod_of_nonneg h2]
  exact ⟨by unfold I64; omega, Int.emod_nonneg _ (by omega), Int.emod_lt_of_pos _ (by omega)⟩

theorem ct_s_l31Inverse (p x : Int) (w : World) (hP : 2 ≤ p ∧ p ≤ 1000003) (hx : 0 ≤ x ∧ x < p) : Calls Try.prog 18 [num p, num x].toArray w (RetV w (num (pwr p 1 x (p - 2)))) := by
  refine calls_in Try.func18 rfl Try.ntmps18 rfl (Sat.start w) ?_
  refine wp_sc ?_
  refine wp_sq ?_
  refine sq_v rfl (v_assign rfl) rfl ?_
  refine sq_end ?_
  refine qs_n ?_
  refine wp_sc ?_
  refine wp_sq ?_
  refine sq_v rfl (v_assign rfl) rfl ?_
  refine sq_end ?_
  refine qs_n ?_
  refine wp_sc ?_
  refine wp_sc ?_
  refine wp_sq ?_
  refine sq_v rfl (v_move rfl) rfl ?_
  refine sq_v rfl (v_sub rfl rfl (by unfold I64; omega)) rfl ?_
  refine sq_v rfl (v_assign rfl) rfl ?_
  refine sq_end ?_
  refine qs_n ?_
  refine wp_bl ?_
  refine wp_lp (fun s : Int × Int × Int => [(0, num p), (1, num s.2.1), (5, num s.1), (6, num s.2.2)]) (fun _ => [hp w]) (fun s => (0 ≤ s.1 ∧ s.1 < p) ∧ (0 ≤ s.2.1 ∧ s.2.1 < p) ∧ 0 ≤ s.2.2 ∧ s.2.2 < p ∧ pwr p s.1 s.2.1 s.2.2 = pwr p 1 x (p - 2)) (fun s => s.2.2.toNat) (1, x, p - 2) ⟨by simp; omega, hx, by simp; omega, by simp; omega, rfl⟩ ⟨rfl, rfl, rfl, rfl, trivial⟩ (fun _ s => s) ?_
  rintro ⟨out, y, n⟩ ⟨ho, hy, hn, hnp, he⟩
  simp only at ho hy hn hnp he
  dsimp only
  have hm := mul_in hP.2 ho hy
  have hq := mul_in hP.2 hy hy
  have hmod : n.tmod 2 = n % 2 := Int.tmod_eq_emod_of_nonneg hn
  have hdiv : n.tdiv 2 = n / 2 := Int.tdiv_eq_ediv_of_nonneg hn
  refine wp_sc ?_
  refine wp_sc ?_
  refine wp_sq ?_
  refine sq_v rfl (v_move rfl) rfl ?_
  refine sq_v rfl (v_gtr rfl rfl) rfl ?_
  refine sq_end ?_
  refine qs_n ?_
  refine wp_cd rfl (fun c10 => ?_) (fun c10 => ?_)
  · refine wp_sk ?_
    refine qs_n ?_
    refine wp_sc ?_
    refine wp_bl ?_
    refine wp_sc ?_
    refine wp_sc ?_
    refine wp_sq ?_
    refine sq_v rfl (v_move rfl) rfl ?_
    refine sq_v rfl (v_rem rfl rfl (by omega)) rfl ?_
    refine sq_v rfl (v_eql rfl rfl) rfl ?_
    refine sq_end ?_
    refine qs_n ?_
    refine wp_cd rfl (fun c15 => ?_) (fun c15 => ?_)
    · refine wp_sq ?_
      refine sq_v rfl (v_move rfl) rfl ?_
      refine sq_v rfl (v_move rfl) rfl ?_
      refine sq_v rfl (v_mul rfl rfl hm.1) rfl ?_
      refine sq_v rfl (v_move rfl) rfl ?_
      refine sq_v rfl (v_rem rfl rfl (by omega)) rfl ?_
      refine sq_v rfl (v_assign rfl) rfl ?_
      refine sq_end ?_
      refine qs_n ?_
      refine wp_sq ?_
      refine sq_v rfl (v_move rfl) rfl ?_
      refine sq_v rfl (v_move rfl) rfl ?_
      refine sq_v rfl (v_mul rfl rfl hq.1) rfl ?_
      refine sq_v rfl (v_move rfl) rfl ?_
      refine sq_v rfl (v_rem rfl rfl (by omega)) rfl ?_
      refine sq_v rfl (v_assign rfl) rfl ?_
      refine sq_end ?_
      refine qs_bn ?_
      refine qs_n ?_
      refine wp_sq ?_
      refine sq_v rfl (v_move rfl) rfl ?_
      refine sq_v rfl (v_quo rfl rfl (by omega) (by unfold I64; omega)) rfl ?_
      refine sq_v rfl (v_assign rfl) rfl ?_
      refine sq_end ?_
      exact qs_bk ((out * y).tmod p, (y * y).tmod p, n.tdiv 2) ⟨hm.2, hq.2, by simp only; omega, by simp only; omega, by rw [hdiv, ← pwr_odd c10 (by omega)]; exact he⟩ (by simp only; omega) ⟨rfl, rfl, rfl, rfl, trivial⟩ (fun _ s => s)
    · refine wp_sk ?_
      refine qs_n ?_
      refine wp_sq ?_
      refine sq_v rfl (v_move rfl) rfl ?_
      refine sq_v rfl (v_move rfl) rfl ?_
      refine sq_v rfl (v_mul rfl rfl hq.1) rfl ?_
      refine sq_v rfl (v_move rfl) rfl ?_
      refine sq_v rfl (v_rem rfl rfl (by omega)) rfl ?_
      refine sq_v rfl (v_assign rfl) rfl ?_
      refine sq_end ?_
      refine qs_bn ?_
      refine qs_n ?_
      refine wp_sq ?_
      refine sq_v rfl (v_move rfl) rfl ?_
      refine sq_v rfl (v_quo rfl rfl (by omega) (by unfold I64; omega)) rfl ?_
      refine sq_v rfl (v_assign rfl) rfl ?_
      refine sq_end ?_
      exact qs_bk (out, (y * y).tmod p, n.tdiv 2) ⟨ho, hq.2, by simp only; omega, by simp only; omega, by rw [hdiv, ← pwr_even c10 (by omega)]; exact he⟩ (by simp only; omega) ⟨rfl, rfl, rfl, rfl, trivial⟩ (fun _ s => s)
  · refine wp_ex ?_
    refine qs_x ?_
    refine qs_x ?_
    refine qs_bx ?_
    refine qs_n ?_
    refine wp_sc ?_
    refine wp_sq ?_
    refine sq_v rfl (v_move rfl) rfl ?_
    refine sq_v rfl (v_assign rfl) rfl ?_
    refine sq_end ?_
    refine qs_n ?_
    refine wp_rt ?_
    exact qs_ret1 rfl rfl (fin_q (i := 0) rfl (by rw [← he, pwr_end c10]))

theorem ct_i_rawInverse (p x : Int) (w : World) (hP : 2 ≤ p ∧ p ≤ 1000003) (hx : 0 ≤ x ∧ x < p) : Calls Try.prog 20 [num p, num x].toArray w (RetV w (num (pwr p 1 x (p - 2)))) := by
  refine calls_in Try.func20 rfl Try.ntmps20 rfl (Sat.start w) ?_
  refine wp_sc ?_
  refine wp_sq ?_
  refine sq_v rfl (v_assign rfl) rfl ?_
  refine sq_end ?_
  refine qs_n ?_
  refine wp_sc ?_
  refine wp_sq ?_
  refine sq_v rfl (v_assign rfl) rfl ?_
  refine sq_end ?_
  refine qs_n ?_
  refine wp_sc ?_
  refine wp_sc ?_
  refine wp_sq ?_
  refine sq_v rfl (v_move rfl) rfl ?_
  refine sq_v rfl (v_sub rfl rfl (by unfold I64; omega)) rfl ?_
  refine sq_v rfl (v_assign rfl) rfl ?_
  refine sq_end ?_
  refine qs_n ?_
  refine wp_bl ?_
  refine wp_lp (fun s : Int × Int × Int => [(0, num p), (1, num s.2.1), (5, num s.1), (6, num s.2.2)]) (fun _ => [hp w]) (fun s => (0 ≤ s.1 ∧ s.1 < p) ∧ (0 ≤ s.2.1 ∧ s.2.1 < p) ∧ 0 ≤ s.2.2 ∧ s.2.2 < p ∧ pwr p s.1 s.2.1 s.2.2 = pwr p 1 x (p - 2)) (fun s => s.2.2.toNat) (1, x, p - 2) ⟨by simp; omega, hx, by simp; omega, by simp; omega, rfl⟩ ⟨rfl, rfl, rfl, rfl, trivial⟩ (fun _ s => s) ?_
  rintro ⟨out, y, n⟩ ⟨ho, hy, hn, hnp, he⟩
  simp only at ho hy hn hnp he
  dsimp only
  have hm := mul_in hP.2 ho hy
  have hq := mul_in hP.2 hy hy
  have h21 : n / 2 ^ (1 : Int).toNat = n / 2 := rfl
  have hand : n.toNat &&& (1 : Int).toNat = n.toNat % 2 := Nat.and_one_is_mod _
  refine wp_sc ?_
  refine wp_sc ?_
  refine wp_sq ?_
  refine sq_v rfl (v_move rfl) rfl ?_
  refine sq_v rfl (v_gtr rfl rfl) rfl ?_
  refine sq_end ?_
  refine qs_n ?_
  refine wp_cd rfl (fun c10 => ?_) (fun c10 => ?_)
  · refine wp_sk ?_
    refine qs_n ?_
    refine wp_sc ?_
    refine wp_bl ?_
    refine wp_sc ?_
    refine wp_sc ?_
    refine wp_sq ?_
    refine sq_v rfl (v_move rfl) rfl ?_
    refine sq_v rfl (v_and rfl rfl ⟨by omega, by omega⟩ (by decide)) rfl ?_
    refine sq_v rfl (v_eql rfl rfl) rfl ?_
    refine sq_end ?_
    refine qs_n ?_
    refine wp_cd rfl (fun c15 => ?_) (fun c15 => ?_)
    · refine wp_sq ?_
      refine sq_v rfl (v_move rfl) rfl ?_
      refine sq_v rfl (v_move rfl) rfl ?_
      refine sq_v rfl (v_mul rfl rfl hm.1) rfl ?_
      refine sq_v rfl (v_move rfl) rfl ?_
      refine sq_v rfl (v_rem rfl rfl (by omega)) rfl ?_
      refine sq_v rfl (v_assign rfl) rfl ?_
      refine sq_end ?_
      refine qs_n ?_
      refine wp_sq ?_
      refine sq_v rfl (v_move rfl) rfl ?_
      refine sq_v rfl (v_move rfl) rfl ?_
      refine sq_v rfl (v_mul rfl rfl hq.1) rfl ?_
      refine sq_v rfl (v_move rfl) rfl ?_
      refine sq_v rfl (v_rem rfl rfl (by omega)) rfl ?_
      refine sq_v rfl (v_assign rfl) rfl ?_
      refine sq_end ?_
      refine qs_bn ?_
      refine qs_n ?_
      refine wp_sq ?_
      refine sq_v rfl (v_move rfl) rfl ?_
      refine sq_v rfl (v_shr rfl rfl (by omega) (by omega)) rfl ?_
      refine sq_v rfl (v_assign rfl) rfl ?_
      refine sq_end ?_
      exact qs_bk ((out * y).tmod p, (y * y).tmod p, n / 2 ^ (1 : Int).toNat) ⟨hm.2, hq.2, by simp only; omega, by simp only; omega, by simp only; rw [h21, ← pwr_odd c10 (by omega)]; exact he⟩ (by simp only; omega) ⟨rfl, rfl, rfl, rfl, trivial⟩ (fun _ s => s)
    · refine wp_sk ?_
      refine qs_n ?_
      refine wp_sq ?_
      refine sq_v rfl (v_move rfl) rfl ?_
      refine sq_v rfl (v_move rfl) rfl ?_
      refine sq_v rfl (v_mul rfl rfl hq.1) rfl ?_
      refine sq_v rfl (v_move rfl) rfl ?_
      refine sq_v rfl (v_rem rfl rfl (by omega)) rfl ?_
      refine sq_v rfl (v_assign rfl) rfl ?_
      refine sq_end ?_
      refine qs_bn ?_
      refine qs_n ?_
      refine wp_sq ?_
      refine sq_v rfl (v_move rfl) rfl ?_
      refine sq_v rfl (v_shr rfl rfl (by omega) (by omega)) rfl ?_
      refine sq_v rfl (v_assign rfl) rfl ?_
      refine sq_end ?_
      exact qs_bk (out, (y * y).tmod p, n / 2 ^ (1 : Int).toNat) ⟨ho, hq.2, by simp only; omega, by simp only; omega, by simp only; rw [h21, ← pwr_even c10 (by omega)]; exact he⟩ (by simp only; omega) ⟨rfl, rfl, rfl, rfl, trivial⟩ (fun _ s => s)
  · refine wp_ex ?_
    refine qs_x ?_
    refine qs_x ?_
    refine qs_bx ?_
    refine qs_n ?_
    refine wp_sc ?_
    refine wp_sq ?_
    refine sq_v rfl (v_move rfl) rfl ?_
    refine sq_v rfl (v_assign rfl) rfl ?_
    refine sq_end ?_
    refine qs_n ?_
    refine wp_rt ?_
    exact qs_ret1 rfl rfl (fin_q (i := 0) rfl (by rw [← he, pwr_end c10]))

open Classical in
noncomputable def inverseL (p x : Int) : Int := if primeB p = true ∧ 1 ≤ x ∧ x ≤ p - 1 then pwr p 1 x (p - 2) else 0
theorem ct_s_InverseOf (p x : Int) (w : World) : Calls Try.prog 6 [num p, num x].toArray w (RetV w (num (inverseL p x))) := by
  refine calls_in Try.func6 rfl Try.ntmps6 rfl (Sat.start w) ?_
  refine wp_sc ?_
  refine wp_sq ?_
  refine sq_v rfl (v_assign rfl) rfl ?_
  refine sq_end ?_
  refine qs_n ?_
  refine wp_sc ?_
  refine wp_sc ?_
  refine wp_sq ?_
  refine sq_v rfl (v_move rfl) rfl ?_
  refine sq_u rfl (x_callv rfl en_16 (fun w s => ct_s_IsPrime _ w)) rfl ?_
  refine sq_bb 6 rfl (fun c6 => ?_) (fun c6 => ?_)
  · refine sq_v rfl (v_not rfl) rfl ?_
    refine sq_v rfl (v_move rfl) rfl ?_
    refine sq_v rfl (v_move rfl) rfl ?_
    refine sq_v rfl (v_move rfl) rfl ?_
    have hpl := primeB_iff.1 c6
    refine sq_v rfl (v_sub rfl rfl (by unfold I64; have := hpl.1; have := hpl.2.1; omega)) rfl ?_
    refine sq_u rfl (x_callv rfl en_17 (fun w s => ct_s_l01In _ _ _ w)) rfl ?_
    refine sq_v rfl (v_not rfl) rfl ?_
    refine sq_v rfl (v_pickf rfl rfl) rfl ?_
    refine sq_end ?_
    refine qs_n ?_
    refine wp_cnd rfl (fun c14 => ?_) (fun c14 => ?_)
    · refine wp_sc ?_
      refine wp_sq ?_
      refine sq_v rfl (v_assign rfl) rfl ?_
      refine sq_end ?_
      refine qs_n ?_
      refine wp_rt ?_
      refine qs_r ?_
      exact qs_ret1 rfl rfl (fin_q (i := 0) rfl (by unfold inverseL; rw [if_neg (by rintro ⟨_, h2, h3⟩; exact c14 ⟨h2, h3⟩)]))
    · refine wp_sk ?_
      refine qs_n ?_
      refine wp_sc ?_
      refine wp_sq ?_
      refine sq_v rfl (v_move rfl) rfl ?_
      refine sq_v rfl (v_move rfl) rfl ?_
      refine sq_u rfl (x_callv rfl en_18 (fun w s => ct_s_l31Inverse _ _ w ⟨hpl.1, hpl.2.1⟩ ⟨by omega, by omega⟩)) rfl ?_
      refine sq_v rfl (v_assign rfl) rfl ?_
      refine sq_end ?_
      refine qs_n ?_
      refine wp_rt ?_
      exact qs_ret1 rfl rfl (fin_q (i := 0) rfl (by unfold inverseL; rw [if_pos ⟨c6, c14⟩]))
  · refine sq_v rfl (v_not rfl) rfl ?_
    refine sq_v rfl (v_move rfl) rfl ?_
    refine sq_s rfl rfl ?_
    refine sq_s rfl rfl ?_
    refine sq_s rfl rfl ?_
    refine sq_s rfl rfl ?_
    refine sq_s rfl rfl ?_
    refine sq_v rfl (v_pickt rfl rfl) rfl ?_
    refine sq_end ?_
    refine qs_n ?_
    refine wp_ct rfl ?_
    refine wp_sc ?_
    refine wp_sq ?_
    refine sq_v rfl (v_assign rfl) rfl ?_
    refine sq_end ?_
    refine qs_n ?_
    refine wp_rt ?_
    refine qs_r ?_
    exact qs_ret1 rfl rfl (fin_q (i := 0) rfl (by unfold inverseL; rw [if_neg (by rintro ⟨h1, _⟩; rw [c6] at h1; cases h1)]))
theorem ct_i_InverseOf (p x : Int) (w : World) : Calls Try.prog 7 [num p, num x].toArray w (RetV w (num (inverseL p x))) := by
  refine calls_in Try.func7 rfl Try.ntmps7 rfl (Sat.start w) ?_
  refine wp_sc ?_
  refine wp_sq ?_
  refine sq_v rfl (v_assign rfl) rfl ?_
  refine sq_end ?_
  refine qs_n ?_
  refine wp_sc ?_
  refine wp_sc ?_
  refine wp_sq ?_
  refine sq_v rfl (v_move rfl) rfl ?_
  refine sq_u rfl (x_callv rfl en_19 (fun w s => ct_i_IsPrime _ w)) rfl ?_
  refine sq_bb 6 rfl (fun c6 => ?_) (fun c6 => ?_)
  · refine sq_v rfl (v_not rfl) rfl ?_
    refine sq_v rfl (v_move rfl) rfl ?_
    refine sq_v rfl (v_move rfl) rfl ?_
    refine sq_v rfl (v_lss rfl rfl) rfl ?_
    refine sq_v rfl (v_pickf rfl rfl) rfl ?_
    refine sq_bd 11 rfl (fun c11 => ?_) (fun c11 => ?_)
    · refine sq_v rfl (v_move rfl) rfl ?_
      refine sq_s rfl rfl ?_
      refine sq_s rfl rfl ?_
      refine sq_s rfl rfl ?_
      refine sq_v rfl (v_pickt rfl rfl) rfl ?_
      refine sq_end ?_
      refine qs_n ?_
      refine wp_ct rfl ?_
      refine wp_sc ?_
      refine wp_sq ?_
      refine sq_v rfl (v_assign rfl) rfl ?_
      refine sq_end ?_
      refine qs_n ?_
      refine wp_rt ?_
      refine qs_r ?_
      exact qs_ret1 rfl rfl (fin_q (i := 0) rfl (by unfold inverseL; rw [if_neg (by rintro ⟨_, h⟩; omega)]))
    · refine sq_v rfl (v_move rfl) rfl ?_
      refine sq_v rfl (v_move rfl) rfl ?_
      refine sq_v rfl (v_move rfl) rfl ?_
      refine sq_v rfl (v_geq rfl rfl) rfl ?_
      refine sq_v rfl (v_pickf rfl rfl) rfl ?_
      refine sq_end ?_
      refine qs_n ?_
      refine wp_cd rfl (fun c16 => ?_) (fun c16 => ?_)
      · refine wp_sc ?_
        refine wp_sq ?_
        refine sq_v rfl (v_assign rfl) rfl ?_
        refine sq_end ?_
        refine qs_n ?_
        refine wp_rt ?_
        refine qs_r ?_
        exact qs_ret1 rfl rfl (fin_q (i := 0) rfl (by unfold inverseL; rw [if_neg (by rintro ⟨_, h⟩; omega)]))
      · refine wp_sk ?_
        refine qs_n ?_
        refine wp_sc ?_
        refine wp_sq ?_
        refine sq_v rfl (v_move rfl) rfl ?_
        refine sq_v rfl (v_move rfl) rfl ?_
        refine sq_u rfl (x_callv rfl en_20 (fun w s => ct_i_rawInverse _ _ w ⟨(primeB_iff.1 c6).1, (primeB_iff.1 c6).2.1⟩ ⟨by omega, by omega⟩)) rfl ?_
        refine sq_v rfl (v_assign rfl) rfl ?_
        refine sq_end ?_
        refine qs_n ?_
        refine wp_rt ?_
        exact qs_ret1 rfl rfl (fin_q (i := 0) rfl (by unfold inverseL; rw [if_pos ⟨c6, by omega⟩]))
  · refine sq_v rfl (v_not rfl) rfl ?_
    refine sq_v rfl (v_move rfl) rfl ?_
    refine sq_s rfl rfl ?_
    refine sq_s rfl rfl ?_
    refine sq_v rfl (v_pickt rfl rfl) rfl ?_
    refine sq_v rfl (v_move rfl) rfl ?_
    refine sq_s rfl rfl ?_
    refine sq_s rfl rfl ?_
    refine sq_s rfl rfl ?_
    refine sq_v rfl (v_pickt rfl rfl) rfl ?_
    refine sq_end ?_
    refine qs_n ?_
    refine wp_ct rfl ?_
    refine wp_sc ?_
    refine wp_sq ?_
    refine sq_v rfl (v_assign rfl) rfl ?_
    refine sq_end ?_
    refine qs_n ?_
    refine wp_rt ?_
    refine qs_r ?_
    exact qs_ret1 rfl rfl (fin_q (i := 0) rfl (by unfold inverseL; rw [if_neg (by rintro ⟨h1, _⟩; rw [c6] at h1; cases h1)]))
theorem ct_l_FnExactInverseOf (p x : Int) (w : World) : Calls Try.prog 3 [num p, num x].toArray w (RetV w (.bool true)) := by
  refine calls_in Try.func3 rfl Try.ntmps3 rfl (Sat.start w) ?_
  refine wp_sc ?_
  refine wp_sq ?_
  refine sq_v rfl (v_assign rfl) rfl ?_
  refine sq_end ?_
  refine qs_n ?_
  refine wp_sc ?_
  refine wp_sq ?_
  refine sq_v rfl (v_move rfl) rfl ?_
  refine sq_v rfl (v_move rfl) rfl ?_
  refine sq_u rfl (x_callv rfl en_6 (fun w s => ct_s_InverseOf _ _ w)) rfl ?_
  refine sq_v rfl (v_assign rfl) rfl ?_
  refine sq_end ?_
  refine qs_n ?_
  refine wp_sc ?_
  refine wp_sq ?_
  refine sq_v rfl (v_move rfl) rfl ?_
  refine sq_v rfl (v_move rfl) rfl ?_
  refine sq_u rfl (x_callv rfl en_7 (fun w s => ct_i_InverseOf _ _ w)) rfl ?_
  refine sq_v rfl (v_assign rfl) rfl ?_
  refine sq_end ?_
  refine qs_n ?_
  refine wp_sc ?_
  refine wp_sc ?_
  refine wp_sq ?_
  refine sq_v rfl (v_move rfl) rfl ?_
  refine sq_v rfl (v_move rfl) rfl ?_
  refine sq_v rfl (v_neq rfl rfl) rfl ?_
  refine sq_end ?_
  refine qs_n ?_
  refine wp_cd rfl (fun c15 => ?_) (fun c15 => ?_)
  · refine wp_sc ?_
    refine wp_sq ?_
    refine sq_v rfl (v_assign rfl) rfl ?_
    refine sq_end ?_
    refine qs_n ?_
    refine wp_rt ?_
    refine qs_r ?_
    exact absurd rfl c15
  · refine wp_sk ?_
    refine qs_n ?_
    refine wp_sc ?_
    refine wp_sq ?_
    refine sq_v rfl (v_assign rfl) rfl ?_
    refine sq_end ?_
    refine qs_n ?_
    refine wp_rt ?_
    exact qs_ret1 rfl rfl (fin_q (i := 0) rfl rfl)
end Go.Proofs.Ythfohlhdefoopaa
