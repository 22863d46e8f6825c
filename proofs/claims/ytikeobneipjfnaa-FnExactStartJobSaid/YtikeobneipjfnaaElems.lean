/-
  A ring's width, greatest number, zero and one; copies and comparisons of lists; an element of a tensor; TensorOk: in the program and in the reference.
  Conditions: none.
-/
import Derived.Test.YtikeobneipjfnaaTensor
import Derived.Test.YtikeobneipjfnaaAlt
namespace Go.Proofs.Ytikeobneipjfnaa
set_option maxRecDepth 100000
open Go.RowKit

def widthI (k n : Int) : Int := if k = 7 then n else if k = 8 then 4 else 1
def topI (k p n : Int) : Int := if k = 1 then 1 else if k = 3 ∨ k = 4 ∨ k = 5 then p else if k = 6 then 2 ^ n.toNat - 1 else p - 1
theorem width_range {k p n : Int} (h : ringL k p n) : 1 ≤ widthI k n ∧ widthI k n ≤ 6 := by
  unfold widthI
  unfold ringL at h
  split
  · rcases h with h | h | h | h | h | h <;> omega
  · split <;> omega
theorem pow_range {n : Int} (h : 1 ≤ n ∧ n ≤ 20) : 2 ≤ (2 : Int) ^ n.toNat ∧ (2 : Int) ^ n.toNat ≤ 1048576 := by
  obtain ⟨m, hm⟩ : ∃ m : Nat, n = m := ⟨n.toNat, by omega⟩
  subst hm
  have h1 : 1 ≤ m := by omega
  have h2 : m ≤ 20 := by omega
  simp only [Int.toNat_natCast]
  have a1 : (2 : Nat) ^ 1 ≤ 2 ^ m := Nat.pow_le_pow_right (by omega) h1
  have a2 : (2 : Nat) ^ m ≤ 2 ^ 20 := Nat.pow_le_pow_right (by omega) h2
  have e : ((2 ^ m : Nat) : Int) = (2 : Int) ^ m := by simp
  rw [← e]
  omega
theorem top_range {k p n : Int} (h : ringL k p n) : 0 ≤ topI k p n ∧ topI k p n ≤ 1048576 := by
  unfold topI
  unfold ringL at h
  split
  · omega
  · split
    · rcases h with h | h | h | h | h | h <;> omega
    · split
      · have := pow_range (n := n) (by rcases h with h | h | h | h | h | h <;> omega)
        omega
      · have hp2 : ∀ {m : Int}, primeB m = true → 2 ≤ m ∧ m ≤ 1000003 := fun h => ⟨(primeB_iff.1 h).1, (primeB_iff.1 h).2.1⟩
        rcases h with h | h | h | h | h | h
        · omega
        · have := hp2 h.2.1; omega
        · omega
        · omega
        · have := hp2 h.2.1; omega
        · have := hp2 h.2.1; omega
theorem ct_s_l02Width (k p n : Int) (w : World) : Calls Try.prog 170 [ringV k p n].toArray w (RetV w (num (widthI k n))) := by
  refine calls_in Try.func170 rfl Try.ntmps170 rfl (Sat.start w) ?_
  refine wp_sc ?_
  refine wp_sq ?_
  refine sq_x rfl (x_box rfl rfl) rfl ?_; rintro _ _ ⟨b1, rfl, rfl⟩
  refine sq_v rfl (v_assign rfl) rfl ?_
  refine sq_end ?_
  refine qs_n ?_
  refine wp_sc ?_
  refine wp_sc ?_
  refine wp_sq ?_
  refine sq_v rfl (v_fieldAddr fd_30_0 ty_3 (by decide) rfl) rfl ?_
  refine sq_v rfl (v_loadB 0 ty_3 rfl rfl rfl) rfl ?_
  refine sq_end ?_
  refine qs_n ?_
  refine wp_bl ?_
  refine wp_sc ?_
  refine wp_sq ?_
  refine sq_v rfl (v_eql rfl rfl) rfl ?_
  refine sq_v rfl (v_assign rfl) rfl ?_
  refine sq_end ?_
  refine qs_n ?_
  refine wp_cd rfl (fun c5 => ?_) (fun c5 => ?_)
  · refine wp_sc ?_
    refine wp_sq ?_
    refine sq_v rfl (v_fieldAddr fd_30_2 ty_3 (by decide) rfl) rfl ?_
    refine sq_v rfl (v_loadB 0 ty_3 rfl rfl rfl) rfl ?_
    refine sq_v rfl (v_assign rfl) rfl ?_
    refine sq_end ?_
    refine qs_n ?_
    refine wp_rt ?_
    refine qs_br ?_
    refine qs_r ?_
    exact qs_ret1 rfl rfl (fin_q (i := 1) rfl (by simp [widthI, *]))
  · refine wp_sc ?_
    refine wp_sq ?_
    refine sq_v rfl (v_eql rfl rfl) rfl ?_
    refine sq_v rfl (v_assign rfl) rfl ?_
    refine sq_end ?_
    refine qs_n ?_
    refine wp_cd rfl (fun c9 => ?_) (fun c9 => ?_)
    · refine wp_sc ?_
      refine wp_sq ?_
      refine sq_v rfl (v_assign rfl) rfl ?_
      refine sq_end ?_
      refine qs_n ?_
      refine wp_rt ?_
      refine qs_br ?_
      refine qs_r ?_
      exact qs_ret1 rfl rfl (fin_q (i := 1) rfl (by simp [widthI, *]))
    · refine wp_sk ?_
      refine qs_bn ?_
      refine qs_n ?_
      refine wp_sc ?_
      refine wp_sq ?_
      refine sq_v rfl (v_assign rfl) rfl ?_
      refine sq_end ?_
      refine qs_n ?_
      refine wp_rt ?_
      exact qs_ret1 rfl rfl (fin_q (i := 1) rfl (by simp [widthI, *]))
theorem ct_i_rawWidth (k p n : Int) (w : World) : Calls Try.prog 175 [ringV k p n].toArray w (RetV w (num (widthI k n))) := by
  refine calls_in Try.func175 rfl Try.ntmps175 rfl (Sat.start w) ?_
  refine wp_sc ?_
  refine wp_sq ?_
  refine sq_x rfl (x_box rfl rfl) rfl ?_; rintro _ _ ⟨b1, rfl, rfl⟩
  refine sq_v rfl (v_assign rfl) rfl ?_
  refine sq_end ?_
  refine qs_n ?_
  refine wp_sc ?_
  refine wp_sc ?_
  refine wp_sq ?_
  refine sq_v rfl (v_fieldAddr fd_30_0 ty_3 (by decide) rfl) rfl ?_
  refine sq_v rfl (v_loadB 0 ty_3 rfl rfl rfl) rfl ?_
  refine sq_end ?_
  refine qs_n ?_
  refine wp_bl ?_
  refine wp_sc ?_
  refine wp_sq ?_
  refine sq_v rfl (v_eql rfl rfl) rfl ?_
  refine sq_v rfl (v_assign rfl) rfl ?_
  refine sq_end ?_
  refine qs_n ?_
  refine wp_cd rfl (fun c5 => ?_) (fun c5 => ?_)
  · refine wp_sc ?_
    refine wp_sq ?_
    refine sq_v rfl (v_fieldAddr fd_30_2 ty_3 (by decide) rfl) rfl ?_
    refine sq_v rfl (v_loadB 0 ty_3 rfl rfl rfl) rfl ?_
    refine sq_v rfl (v_assign rfl) rfl ?_
    refine sq_end ?_
    refine qs_n ?_
    refine wp_rt ?_
    refine qs_br ?_
    refine qs_r ?_
    exact qs_ret1 rfl rfl (fin_q (i := 1) rfl (by simp [widthI, *]))
  · refine wp_sc ?_
    refine wp_sq ?_
    refine sq_v rfl (v_eql rfl rfl) rfl ?_
    refine sq_v rfl (v_assign rfl) rfl ?_
    refine sq_end ?_
    refine qs_n ?_
    refine wp_cd rfl (fun c9 => ?_) (fun c9 => ?_)
    · refine wp_sc ?_
      refine wp_sq ?_
      refine sq_v rfl (v_assign rfl) rfl ?_
      refine sq_end ?_
      refine qs_n ?_
      refine wp_rt ?_
      refine qs_br ?_
      refine qs_r ?_
      exact qs_ret1 rfl rfl (fin_q (i := 1) rfl (by simp [widthI, *]))
    · refine wp_sk ?_
      refine qs_bn ?_
      refine qs_n ?_
      refine wp_sc ?_
      refine wp_sq ?_
      refine sq_v rfl (v_assign rfl) rfl ?_
      refine sq_end ?_
      refine qs_n ?_
      refine wp_rt ?_
      exact qs_ret1 rfl rfl (fin_q (i := 1) rfl (by simp [widthI, *]))
theorem ring_set {k p n : Int} (h : ringL k p n) (h6 : k = 6) : 1 ≤ n ∧ n ≤ 20 := by
  unfold ringL at h
  rcases h with h | h | h | h | h | h <;> omega
theorem ring_p {k p n : Int} (h : ringL k p n) : 0 ≤ p ∧ p ≤ 1000003 := by
  have hp2 : ∀ {m : Int}, primeB m = true → 2 ≤ m ∧ m ≤ 1000003 := fun h => ⟨(primeB_iff.1 h).1, (primeB_iff.1 h).2.1⟩
  unfold ringL at h
  rcases h with h | h | h | h | h | h
  · omega
  · have := hp2 h.2.1; omega
  · omega
  · omega
  · have := hp2 h.2.1; omega
  · have := hp2 h.2.1; omega
theorem ct_s_l02Top (k p n : Int) (w : World) (h : ringL k p n) : Calls Try.prog 171 [ringV k p n].toArray w (RetV w (num (topI k p n))) := by
  have hrp := ring_p h
  refine calls_in Try.func171 rfl Try.ntmps171 rfl (Sat.start w) ?_
  refine wp_sc ?_
  refine wp_sq ?_
  refine sq_x rfl (x_box rfl rfl) rfl ?_; rintro _ _ ⟨b1, rfl, rfl⟩
  refine sq_v rfl (v_assign rfl) rfl ?_
  refine sq_end ?_
  refine qs_n ?_
  refine wp_sc ?_
  refine wp_sc ?_
  refine wp_sq ?_
  refine sq_v rfl (v_fieldAddr fd_30_0 ty_3 (by decide) rfl) rfl ?_
  refine sq_v rfl (v_loadB 0 ty_3 rfl rfl rfl) rfl ?_
  refine sq_end ?_
  refine qs_n ?_
  refine wp_bl ?_
  refine wp_sc ?_
  refine wp_sq ?_
  refine sq_v rfl (v_eql rfl rfl) rfl ?_
  refine sq_v rfl (v_assign rfl) rfl ?_
  refine sq_end ?_
  refine qs_n ?_
  refine wp_cd rfl (fun c5 => ?_) (fun c5 => ?_)
  · refine wp_sc ?_
    refine wp_sq ?_
    refine sq_v rfl (v_assign rfl) rfl ?_
    refine sq_end ?_
    refine qs_n ?_
    refine wp_rt ?_
    refine qs_br ?_
    refine qs_r ?_
    exact qs_ret1 rfl rfl (fin_q (i := 1) rfl (by simp [topI, *]))
  · refine wp_sc ?_
    refine wp_sc ?_
    refine wp_sq ?_
    refine sq_v rfl (v_eql rfl rfl) rfl ?_
    refine sq_v rfl (v_assign rfl) rfl ?_
    refine sq_end ?_
    refine qs_n ?_
    refine wp_cSd rfl (fun c7 => ?_) (fun c7 => ?_)
    · refine wp_sk ?_
      refine qs_n ?_
      refine wp_ct rfl ?_
      refine wp_sc ?_
      refine wp_sq ?_
      refine sq_v rfl (v_fieldAddr fd_30_1 ty_3 (by decide) rfl) rfl ?_
      refine sq_v rfl (v_loadB 0 ty_3 rfl rfl rfl) rfl ?_
      refine sq_v rfl (v_assign rfl) rfl ?_
      refine sq_end ?_
      refine qs_n ?_
      refine wp_rt ?_
      refine qs_br ?_
      refine qs_r ?_
      exact qs_ret1 rfl rfl (fin_q (i := 1) rfl (by simp [topI, *]))
    · refine wp_sc ?_
      refine wp_sq ?_
      refine sq_v rfl (v_eql rfl rfl) rfl ?_
      refine sq_v rfl (v_assign rfl) rfl ?_
      refine sq_end ?_
      refine qs_n ?_
      refine wp_cSd rfl (fun c7 => ?_) (fun c7 => ?_)
      · refine wp_sk ?_
        refine qs_n ?_
        refine wp_ct rfl ?_
        refine wp_sc ?_
        refine wp_sq ?_
        refine sq_v rfl (v_fieldAddr fd_30_1 ty_3 (by decide) rfl) rfl ?_
        refine sq_v rfl (v_loadB 0 ty_3 rfl rfl rfl) rfl ?_
        refine sq_v rfl (v_assign rfl) rfl ?_
        refine sq_end ?_
        refine qs_n ?_
        refine wp_rt ?_
        refine qs_br ?_
        refine qs_r ?_
        exact qs_ret1 rfl rfl (fin_q (i := 1) rfl (by simp [topI, *]))
      · refine wp_sq ?_
        refine sq_v rfl (v_eql rfl rfl) rfl ?_
        refine sq_v rfl (v_assign rfl) rfl ?_
        refine sq_end ?_
        refine qs_n ?_
        refine wp_cSd rfl (fun c7 => ?_) (fun c7 => ?_)
        · refine wp_sc ?_
          refine wp_sq ?_
          refine sq_v rfl (v_fieldAddr fd_30_1 ty_3 (by decide) rfl) rfl ?_
          refine sq_v rfl (v_loadB 0 ty_3 rfl rfl rfl) rfl ?_
          refine sq_v rfl (v_assign rfl) rfl ?_
          refine sq_end ?_
          refine qs_n ?_
          refine wp_rt ?_
          refine qs_br ?_
          refine qs_r ?_
          exact qs_ret1 rfl rfl (fin_q (i := 1) rfl (by simp [topI, *]))
        · refine wp_sc ?_
          refine wp_sq ?_
          refine sq_v rfl (v_eql rfl rfl) rfl ?_
          refine sq_v rfl (v_assign rfl) rfl ?_
          refine sq_end ?_
          refine qs_n ?_
          refine wp_cd rfl (fun c13 => ?_) (fun c13 => ?_)
          · refine wp_sc ?_
            refine wp_sq ?_
            refine sq_v rfl (v_fieldAddr fd_30_2 ty_3 (by decide) rfl) rfl ?_
            refine sq_v rfl (v_loadB 0 ty_3 rfl rfl rfl) rfl ?_
            have hn := ring_set h c13; have hpw := pow_range hn
            refine sq_v rfl (v_shl rfl rfl (by omega) (by omega) (by unfold I64; omega)) rfl ?_
            refine sq_v rfl (v_sub rfl rfl ((by unfold I64; omega))) rfl ?_
            refine sq_v rfl (v_assign rfl) rfl ?_
            refine sq_end ?_
            refine qs_n ?_
            refine wp_rt ?_
            refine qs_br ?_
            refine qs_r ?_
            exact qs_ret1 rfl rfl (fin_q (i := 1) rfl (by simp [topI, *]))
          · refine wp_sk ?_
            refine qs_bn ?_
            refine qs_n ?_
            refine wp_sc ?_
            refine wp_sq ?_
            refine sq_v rfl (v_fieldAddr fd_30_1 ty_3 (by decide) rfl) rfl ?_
            refine sq_v rfl (v_loadB 0 ty_3 rfl rfl rfl) rfl ?_
            refine sq_v rfl (v_sub rfl rfl ((by unfold I64; omega))) rfl ?_
            refine sq_v rfl (v_assign rfl) rfl ?_
            refine sq_end ?_
            refine qs_n ?_
            refine wp_rt ?_
            exact qs_ret1 rfl rfl (fin_q (i := 1) rfl (by simp [topI, *]))
theorem ct_i_rawTop (k p n : Int) (w : World) (h : ringL k p n) : Calls Try.prog 208 [ringV k p n].toArray w (RetV w (num (topI k p n))) := by
  have hrp := ring_p h
  refine calls_in Try.func208 rfl Try.ntmps208 rfl (Sat.start w) ?_
  refine wp_sc ?_
  refine wp_sq ?_
  refine sq_x rfl (x_box rfl rfl) rfl ?_; rintro _ _ ⟨b1, rfl, rfl⟩
  refine sq_v rfl (v_assign rfl) rfl ?_
  refine sq_end ?_
  refine qs_n ?_
  refine wp_sc ?_
  refine wp_sc ?_
  refine wp_sq ?_
  refine sq_v rfl (v_fieldAddr fd_30_0 ty_3 (by decide) rfl) rfl ?_
  refine sq_v rfl (v_loadB 0 ty_3 rfl rfl rfl) rfl ?_
  refine sq_end ?_
  refine qs_n ?_
  refine wp_bl ?_
  refine wp_sc ?_
  refine wp_sq ?_
  refine sq_v rfl (v_eql rfl rfl) rfl ?_
  refine sq_v rfl (v_assign rfl) rfl ?_
  refine sq_end ?_
  refine qs_n ?_
  refine wp_cd rfl (fun c5 => ?_) (fun c5 => ?_)
  · refine wp_sc ?_
    refine wp_sq ?_
    refine sq_v rfl (v_assign rfl) rfl ?_
    refine sq_end ?_
    refine qs_n ?_
    refine wp_rt ?_
    refine qs_br ?_
    refine qs_r ?_
    exact qs_ret1 rfl rfl (fin_q (i := 1) rfl (by simp [topI, *]))
  · refine wp_sc ?_
    refine wp_sc ?_
    refine wp_sq ?_
    refine sq_v rfl (v_eql rfl rfl) rfl ?_
    refine sq_v rfl (v_assign rfl) rfl ?_
    refine sq_end ?_
    refine qs_n ?_
    refine wp_cSd rfl (fun c7 => ?_) (fun c7 => ?_)
    · refine wp_sk ?_
      refine qs_n ?_
      refine wp_ct rfl ?_
      refine wp_sc ?_
      refine wp_sq ?_
      refine sq_v rfl (v_fieldAddr fd_30_1 ty_3 (by decide) rfl) rfl ?_
      refine sq_v rfl (v_loadB 0 ty_3 rfl rfl rfl) rfl ?_
      refine sq_v rfl (v_assign rfl) rfl ?_
      refine sq_end ?_
      refine qs_n ?_
      refine wp_rt ?_
      refine qs_br ?_
      refine qs_r ?_
      exact qs_ret1 rfl rfl (fin_q (i := 1) rfl (by simp [topI, *]))
    · refine wp_sc ?_
      refine wp_sq ?_
      refine sq_v rfl (v_eql rfl rfl) rfl ?_
      refine sq_v rfl (v_assign rfl) rfl ?_
      refine sq_end ?_
      refine qs_n ?_
      refine wp_cSd rfl (fun c7 => ?_) (fun c7 => ?_)
      · refine wp_sk ?_
        refine qs_n ?_
        refine wp_ct rfl ?_
        refine wp_sc ?_
        refine wp_sq ?_
        refine sq_v rfl (v_fieldAddr fd_30_1 ty_3 (by decide) rfl) rfl ?_
        refine sq_v rfl (v_loadB 0 ty_3 rfl rfl rfl) rfl ?_
        refine sq_v rfl (v_assign rfl) rfl ?_
        refine sq_end ?_
        refine qs_n ?_
        refine wp_rt ?_
        refine qs_br ?_
        refine qs_r ?_
        exact qs_ret1 rfl rfl (fin_q (i := 1) rfl (by simp [topI, *]))
      · refine wp_sq ?_
        refine sq_v rfl (v_eql rfl rfl) rfl ?_
        refine sq_v rfl (v_assign rfl) rfl ?_
        refine sq_end ?_
        refine qs_n ?_
        refine wp_cSd rfl (fun c7 => ?_) (fun c7 => ?_)
        · refine wp_sc ?_
          refine wp_sq ?_
          refine sq_v rfl (v_fieldAddr fd_30_1 ty_3 (by decide) rfl) rfl ?_
          refine sq_v rfl (v_loadB 0 ty_3 rfl rfl rfl) rfl ?_
          refine sq_v rfl (v_assign rfl) rfl ?_
          refine sq_end ?_
          refine qs_n ?_
          refine wp_rt ?_
          refine qs_br ?_
          refine qs_r ?_
          exact qs_ret1 rfl rfl (fin_q (i := 1) rfl (by simp [topI, *]))
        · refine wp_sc ?_
          refine wp_sq ?_
          refine sq_v rfl (v_eql rfl rfl) rfl ?_
          refine sq_v rfl (v_assign rfl) rfl ?_
          refine sq_end ?_
          refine qs_n ?_
          refine wp_cd rfl (fun c13 => ?_) (fun c13 => ?_)
          · refine wp_sc ?_
            refine wp_sq ?_
            refine sq_v rfl (v_fieldAddr fd_30_2 ty_3 (by decide) rfl) rfl ?_
            refine sq_v rfl (v_loadB 0 ty_3 rfl rfl rfl) rfl ?_
            have hn := ring_set h c13; have hpw := pow_range hn
            refine sq_v rfl (v_shl rfl rfl (by omega) (by omega) (by unfold I64; omega)) rfl ?_
            refine sq_v rfl (v_sub rfl rfl ((by unfold I64; omega))) rfl ?_
            refine sq_v rfl (v_assign rfl) rfl ?_
            refine sq_end ?_
            refine qs_n ?_
            refine wp_rt ?_
            refine qs_br ?_
            refine qs_r ?_
            exact qs_ret1 rfl rfl (fin_q (i := 1) rfl (by simp [topI, *]))
          · refine wp_sk ?_
            refine qs_bn ?_
            refine qs_n ?_
            refine wp_sc ?_
            refine wp_sq ?_
            refine sq_v rfl (v_fieldAddr fd_30_1 ty_3 (by decide) rfl) rfl ?_
            refine sq_v rfl (v_loadB 0 ty_3 rfl rfl rfl) rfl ?_
            refine sq_v rfl (v_sub rfl rfl ((by unfold I64; omega))) rfl ?_
            refine sq_v rfl (v_assign rfl) rfl ?_
            refine sq_end ?_
            refine qs_n ?_
            refine wp_rt ?_
            exact qs_ret1 rfl rfl (fin_q (i := 1) rfl (by simp [topI, *]))
theorem all_of {p : Int → Prop} {xs : List Int} (h : ∀ j, j < xs.length → p (xs.getD j 0)) : ∀ a ∈ xs, p a := fun a ha => by
  obtain ⟨i, h1, h2⟩ := getD_of_mem ha
  rw [← h2]; exact h i h1
theorem ct_i_inRing (k p n : Int) (xs : List Int) (v : Value) (w : World) (h : ringL k p n) (r : IntsR xs v (hp w)) : Calls Try.prog 176 [ringV k p n, v].toArray w (RetV w (.bool (decide (∀ a ∈ xs, 0 ≤ a ∧ a ≤ topI k p n)))) := by
  have hx := r.le
  refine calls_in Try.func176 rfl Try.ntmps176 rfl (Sat.start w) ?_
  refine wp_sc ?_
  refine wp_sq ?_
  refine sq_x rfl (x_box rfl rfl) rfl ?_; rintro _ _ ⟨b2, rfl, rfl⟩
  refine sq_v rfl (v_assign rfl) rfl ?_
  refine sq_end ?_
  refine qs_n ?_
  refine wp_sc ?_
  refine wp_sq ?_
  refine sq_v rfl (v_loadNB 0 ty_30 rfl rfl rfl rfl) rfl ?_
  refine sq_u rfl (x_callv rfl en_208 (fun w s => ct_i_rawTop _ _ _ w h)) rfl ?_
  refine sq_v rfl (v_assign rfl) rfl ?_
  refine sq_end ?_
  refine qs_n ?_
  refine wp_sc ?_
  refine wp_sc ?_
  refine wp_sq ?_
  refine sq_v rfl (v_move rfl) rfl ?_
  refine sq_v rfl (v_len Try.underlying24 rfl r.sl) rfl ?_
  refine sq_v rfl (v_move rfl) rfl ?_
  refine sq_end ?_
  refine qs_n ?_
  refine wp_bl ?_
  refine wp_lp (fun i : Nat => [(5, num (topI k p n)), (10, v), (11, num xs.length), (12, num i)]) (fun _ => [hp w]) (fun i => i ≤ xs.length ∧ ∀ j, j < i → 0 ≤ xs.getD j 0 ∧ xs.getD j 0 ≤ topI k p n) (fun i => xs.length - i) 0 ⟨by omega, fun j hj => by omega⟩ ⟨rfl, rfl, rfl, rfl, trivial⟩ (fun _ s => s.pick [1] (by decide) rfl) ?_
  rintro i ⟨hi, hn⟩
  refine wp_sc ?_
  refine wp_sq ?_
  refine sq_v rfl (v_lss rfl rfl) rfl ?_
  refine sq_end ?_
  refine qs_n ?_
  refine wp_sc ?_
  refine wp_cd rfl (fun c13 => ?_) (fun c13 => ?_)
  · refine wp_sk ?_
    refine qs_n ?_
    refine wp_sc ?_
    refine wp_bl ?_
    refine wp_sc ?_
    refine wp_sq ?_
    refine sq_v rfl (v_idxI Try.underlying24 ty_3 rfl rfl r (by omega) (by omega)) rfl ?_
    refine sq_v rfl (v_loadI  0 ty_3 rfl rfl r (by omega)) rfl ?_
    refine sq_v rfl (v_assign rfl) rfl ?_
    refine sq_end ?_
    refine qs_n ?_
    refine wp_sc ?_
    refine wp_sq ?_
    refine sq_v rfl (v_move rfl) rfl ?_
    refine sq_v rfl (v_lss rfl rfl) rfl ?_
    refine sq_bd 17 rfl (fun c17 => ?_) (fun c17 => ?_)
    · refine sq_v rfl (v_move rfl) rfl ?_
      refine sq_s rfl rfl ?_
      refine sq_s rfl rfl ?_
      refine sq_s rfl rfl ?_
      refine sq_v rfl (v_pickt rfl rfl) rfl ?_
      refine sq_end ?_
      refine qs_n ?_
      refine wp_ct rfl ?_
      refine wp_sc ?_
      refine wp_sq ?_
      refine sq_v rfl (v_assign rfl) rfl ?_
      refine sq_end ?_
      refine qs_n ?_
      refine wp_rt ?_
      refine qs_br ?_
      refine qs_r ?_
      refine qs_r ?_
      refine qs_br ?_
      refine qs_r ?_
      exact qs_ret1 rfl rfl (fin_q (i := 0) rfl (by congr 1; symm; rw [decide_eq_false_iff_not]; intro h; have := h _ (mem_getD (by omega : ((i : Int).toNat) < xs.length)); omega))
    · refine sq_v rfl (v_move rfl) rfl ?_
      refine sq_v rfl (v_move rfl) rfl ?_
      refine sq_v rfl (v_move rfl) rfl ?_
      refine sq_v rfl (v_gtr rfl rfl) rfl ?_
      refine sq_v rfl (v_pickf rfl rfl) rfl ?_
      refine sq_end ?_
      refine qs_n ?_
      refine wp_cd rfl (fun c22 => ?_) (fun c22 => ?_)
      · refine wp_sc ?_
        refine wp_sq ?_
        refine sq_v rfl (v_assign rfl) rfl ?_
        refine sq_end ?_
        refine qs_n ?_
        refine wp_rt ?_
        refine qs_br ?_
        refine qs_r ?_
        refine qs_r ?_
        refine qs_br ?_
        refine qs_r ?_
        exact qs_ret1 rfl rfl (fin_q (i := 0) rfl (by congr 1; symm; rw [decide_eq_false_iff_not]; intro h; have := h _ (mem_getD (by omega : ((i : Int).toNat) < xs.length)); omega))
      · refine wp_sk ?_
        refine qs_bn ?_
        refine qs_n ?_
        refine wp_sq ?_
        refine sq_v rfl (v_add rfl rfl ((by unfold I64; omega))) rfl ?_
        refine sq_v rfl (v_move rfl) rfl ?_
        refine sq_end ?_
        exact qs_bk (i + 1) ⟨by omega, step_all hn (by simp only [Int.toNat_natCast] at *; omega)⟩ (by omega) ⟨rfl, rfl, rfl, rfl, trivial⟩ (fun _ s => s)
  · refine wp_ex ?_
    refine qs_x ?_
    refine qs_x ?_
    refine qs_bx ?_
    refine qs_n ?_
    refine wp_sc ?_
    refine wp_sq ?_
    refine sq_v rfl (v_assign rfl) rfl ?_
    refine sq_end ?_
    refine qs_n ?_
    refine wp_rt ?_
    exact qs_ret1 rfl rfl (fin_q (i := 0) rfl (by congr 1; symm; rw [decide_eq_true_eq]; exact all_of (fun j hj => hn j (by omega))))
/-! ### TensorOk -/
def tensorL (k p n : Int) (ls ds xs : List Int) : Prop := ringL k p n ∧ 0 ≤ sizeI ls ds ∧ (xs.length : Int) = sizeI ls ds * widthI k n ∧ ∀ a ∈ xs, 0 ≤ a ∧ a ≤ topI k p n
open Classical in
noncomputable def tensorB (k p n : Int) (ls ds xs : List Int) : Bool := decide (tensorL k p n ls ds xs)
theorem tensorB_no {k p n : Int} {ls ds xs : List Int} (h : ¬ tensorL k p n ls ds xs) : Value.bool false = .bool (tensorB k p n ls ds xs) := by simp [tensorB, h]
theorem tensorB_yes {k p n : Int} {ls ds xs : List Int} (h : tensorL k p n ls ds xs) : Value.bool true = .bool (tensorB k p n ls ds xs) := by simp [tensorB, h]
theorem ringB_true {k p n : Int} : ringB k p n = true ↔ ringL k p n := by simp [ringB]
theorem ringB_false {k p n : Int} : ringB k p n = false ↔ ¬ ringL k p n := by simp [ringB]
theorem mul_w {s x : Int} (hs : s = -1 ∨ (1 ≤ s ∧ s ≤ 4096)) (hx : 1 ≤ x ∧ x ≤ 6) : I64 (s * x) := by
  rcases hs with rfl | hs
  · unfold I64; omega
  · have h1 : s * x ≤ 4096 * 6 := Int.mul_le_mul hs.2 hx.2 (by omega) (by omega)
    have h2 : 0 ≤ s * x := Int.mul_nonneg (by omega) (by omega)
    unfold I64; omega
theorem ct_s_TensorOk (k p n : Int) (ls ds xs : List Int) (a b c : Value) (w : World) (r1 : IntsR ls a (hp w)) (r2 : IntsR ds b (hp w)) (r3 : IntsR xs c (hp w)) : Calls Try.prog 69 [ringV k p n, tenV a b c].toArray w (RetV w (.bool (tensorB k p n ls ds xs))) := by
  have hx := r3.le
  refine calls_in Try.func69 rfl Try.ntmps69 rfl (Sat.start w) ?_
  refine wp_sc ?_
  refine wp_sq ?_
  refine sq_x rfl (x_box rfl rfl) rfl ?_; rintro _ _ ⟨b2, rfl, rfl⟩
  refine sq_x rfl (x_box rfl rfl) rfl ?_; rintro _ _ ⟨b3, rfl, rfl⟩
  refine sq_v rfl (v_assign rfl) rfl ?_
  refine sq_end ?_
  refine qs_n ?_
  refine wp_sc ?_
  refine wp_sq ?_
  refine sq_v rfl (v_loadNB 0 ty_28 rfl rfl rfl rfl) rfl ?_
  refine sq_u rfl (x_callv rfl en_157 (fun w s => ct_s_TensorSize _ _ _ _ _ w (r1.mono (s.get 2 rfl)) (r2.mono (s.get 2 rfl)))) rfl ?_
  refine sq_v rfl (v_assign rfl) rfl ?_
  refine sq_end ?_
  refine qs_n ?_
  refine wp_sc ?_
  refine wp_sc ?_
  refine wp_rj 17 [(0, true), (1, false), (2, true), (3, true), (4, true), (5, true), (6, true), (7, true), (8, true), (9, true), (10, true), (11, true), (12, true), (13, false), (14, true), (15, true), (16, true)] mixed_ok (by kernel_rfl) ?_
  refine rj_v rfl rfl (v_loadNB 1 ty_30 rfl rfl rfl rfl) rfl ?_
  refine rj_u rfl rfl (x_callv rfl en_169 (fun w s => ct_s_RingOk _ _ _ w)) rfl ?_
  refine rj_bb 11 rfl (fun c11 => ?_) (fun c11 => ?_)
  · refine rj_v rfl rfl (v_not rfl) rfl ?_
    refine rj_v rfl rfl (v_move rfl) rfl ?_
    refine rj_v rfl rfl (v_move rfl) rfl ?_
    refine rj_v rfl rfl (v_lss rfl rfl) rfl ?_
    refine rj_v rfl rfl (v_pickf rfl rfl) rfl ?_
    refine rj_bd 16 rfl (fun c16 => ?_) (fun c16 => ?_)
    · refine rj_v rfl rfl (v_move rfl) rfl ?_
      refine rj_s rfl rfl rfl ?_
      refine rj_s rfl rfl rfl ?_
      refine rj_s rfl rfl rfl ?_
      refine rj_s rfl rfl rfl ?_
      refine rj_s rfl rfl rfl ?_
      refine rj_fs rfl rfl rfl ?_
      refine rj_s rfl rfl rfl ?_
      refine rj_s rfl rfl rfl ?_
      refine rj_v rfl rfl (v_pickt rfl rfl) rfl ?_
      refine rj_end ?_
      refine qs_n ?_
      refine wp_ct rfl ?_
      refine wp_sc ?_
      refine wp_sq ?_
      refine sq_v rfl (v_assign rfl) rfl ?_
      refine sq_end ?_
      refine qs_n ?_
      refine wp_rt ?_
      refine qs_r ?_
      exact qs_ret1 rfl rfl (fin_q (i := 2) rfl (tensorB_no (fun h => by have := h.2.1; omega)))
    · refine rj_v rfl rfl (v_move rfl) rfl ?_
      refine rj_v rfl rfl (v_fieldAddr fd_28_2 ty_24 (by decide) rfl) rfl ?_
      refine rj_v rfl rfl (v_loadB 0 ty_24 rfl rfl rfl) rfl ?_
      refine rj_v rfl rfl (v_len Try.underlying24 rfl r3.sl) rfl ?_
      refine rj_v rfl rfl (v_move rfl) rfl ?_
      refine rj_v rfl rfl (v_loadNB 1 ty_30 rfl rfl rfl rfl) rfl ?_
      refine rj_u rfl rfl (x_callv rfl en_170 (fun w s => ct_s_l02Width _ _ _ w)) rfl ?_
      refine rj_v rfl rfl (v_mul rfl rfl (mul_w (sizeI_range ls ds) (width_range (ringB_true.1 c11)))) rfl ?_
      refine rj_v rfl rfl (v_neq rfl rfl) rfl ?_
      refine rj_v rfl rfl (v_pickf rfl rfl) rfl ?_
      refine rj_end ?_
      refine qs_n ?_
      refine wp_cd rfl (fun c26 => ?_) (fun c26 => ?_)
      · refine wp_sc ?_
        refine wp_sq ?_
        refine sq_v rfl (v_assign rfl) rfl ?_
        refine sq_end ?_
        refine qs_n ?_
        refine wp_rt ?_
        refine qs_r ?_
        exact qs_ret1 rfl rfl (fin_q (i := 2) rfl (tensorB_no (fun h => by have := h.2.2.1; omega)))
      · refine wp_sk ?_
        refine qs_n ?_
        refine wp_sc ?_
        refine wp_sc ?_
        refine wp_sq ?_
        refine sq_v rfl (v_fieldAddr fd_28_2 ty_24 (by decide) rfl) rfl ?_
        refine sq_v rfl (v_loadB 0 ty_24 rfl rfl rfl) rfl ?_
        refine sq_v rfl (v_len Try.underlying24 rfl r3.sl) rfl ?_
        refine sq_v rfl (v_move rfl) rfl ?_
        refine sq_end ?_
        refine qs_n ?_
        refine wp_bl ?_
        refine wp_lp (fun i : Nat => [(2, .pointer (some ⟨b2, 0, none⟩)), (28, c), (29, num xs.length), (30, num i)]) (fun _ => [box b2 [num k, num p, num n] 30, hp w]) (fun i => i ≤ xs.length ∧ ∀ j, j < i → 0 ≤ xs.getD j 0 ∧ xs.getD j 0 ≤ topI k p n) (fun i => xs.length - i) 0 ⟨by omega, fun j hj => by omega⟩ ⟨rfl, rfl, rfl, rfl, trivial⟩ (fun _ s => s.pick [1, 2] (by decide) rfl) ?_
        rintro i ⟨hi, hn⟩
        refine wp_sc ?_
        refine wp_sq ?_
        refine sq_v rfl (v_lss rfl rfl) rfl ?_
        refine sq_end ?_
        refine qs_n ?_
        refine wp_sc ?_
        refine wp_cd rfl (fun c31 => ?_) (fun c31 => ?_)
        · refine wp_sk ?_
          refine qs_n ?_
          refine wp_sc ?_
          refine wp_bl ?_
          refine wp_sc ?_
          refine wp_sq ?_
          refine sq_v rfl (v_idxI Try.underlying24 ty_3 rfl rfl r3 (by omega) (by omega)) rfl ?_
          refine sq_v rfl (v_loadI  1 ty_3 rfl rfl r3 (by omega)) rfl ?_
          refine sq_v rfl (v_assign rfl) rfl ?_
          refine sq_end ?_
          refine qs_n ?_
          refine wp_sc ?_
          refine wp_sq ?_
          refine sq_v rfl (v_move rfl) rfl ?_
          refine sq_v rfl (v_loadNB 0 ty_30 rfl rfl rfl rfl) rfl ?_
          refine sq_u rfl (x_callv rfl en_171 (fun w s => ct_s_l02Top _ _ _ w (ringB_true.1 c11))) rfl ?_
          refine sq_u rfl (x_callv rfl en_95 (fun w s => ct_s_l01In _ _ _ w)) rfl ?_
          refine sq_v rfl (v_not rfl) rfl ?_
          refine sq_end ?_
          refine qs_n ?_
          refine wp_cnd rfl (fun c38 => ?_) (fun c38 => ?_)
          · refine wp_sc ?_
            refine wp_sq ?_
            refine sq_v rfl (v_assign rfl) rfl ?_
            refine sq_end ?_
            refine qs_n ?_
            refine wp_rt ?_
            refine qs_br ?_
            refine qs_r ?_
            refine qs_r ?_
            refine qs_br ?_
            refine qs_r ?_
            exact qs_ret1 rfl rfl (fin_q (i := 1) rfl (tensorB_no (fun h => c38 (h.2.2.2 _ (mem_getD (by omega : ((i : Int).toNat) < xs.length))))))
          · refine wp_sk ?_
            refine qs_bn ?_
            refine qs_n ?_
            refine wp_sq ?_
            refine sq_v rfl (v_add rfl rfl ((by unfold I64; omega))) rfl ?_
            refine sq_v rfl (v_move rfl) rfl ?_
            refine sq_end ?_
            exact qs_bk (i + 1) ⟨by omega, step_all hn c38⟩ (by omega) ⟨rfl, rfl, rfl, rfl, trivial⟩ (fun _ s => s)
        · refine wp_ex ?_
          refine qs_x ?_
          refine qs_x ?_
          refine qs_bx ?_
          refine qs_n ?_
          refine wp_sc ?_
          refine wp_sq ?_
          refine sq_v rfl (v_assign rfl) rfl ?_
          refine sq_end ?_
          refine qs_n ?_
          refine wp_rt ?_
          exact qs_ret1 rfl rfl (fin_q (i := 1) rfl (tensorB_yes ⟨ringB_true.1 c11, by omega, by omega, all_of (fun j hj => hn j (by omega))⟩))
  · refine rj_v rfl rfl (v_not rfl) rfl ?_
    refine rj_v rfl rfl (v_move rfl) rfl ?_
    refine rj_s rfl rfl rfl ?_
    refine rj_s rfl rfl rfl ?_
    refine rj_v rfl rfl (v_pickt rfl rfl) rfl ?_
    refine rj_v rfl rfl (v_move rfl) rfl ?_
    refine rj_s rfl rfl rfl ?_
    refine rj_s rfl rfl rfl ?_
    refine rj_s rfl rfl rfl ?_
    refine rj_s rfl rfl rfl ?_
    refine rj_s rfl rfl rfl ?_
    refine rj_fs rfl rfl rfl ?_
    refine rj_s rfl rfl rfl ?_
    refine rj_s rfl rfl rfl ?_
    refine rj_v rfl rfl (v_pickt rfl rfl) rfl ?_
    refine rj_end ?_
    refine qs_n ?_
    refine wp_ct rfl ?_
    refine wp_sc ?_
    refine wp_sq ?_
    refine sq_v rfl (v_assign rfl) rfl ?_
    refine sq_end ?_
    refine qs_n ?_
    refine wp_rt ?_
    refine qs_r ?_
    exact qs_ret1 rfl rfl (fin_q (i := 2) rfl (tensorB_no (fun h => ringB_false.1 c11 h.1)))
theorem ct_i_TensorOk (k p n : Int) (ls ds xs : List Int) (a b c : Value) (w : World) (r1 : IntsR ls a (hp w)) (r2 : IntsR ds b (hp w)) (r3 : IntsR xs c (hp w)) : Calls Try.prog 71 [ringV k p n, tenV a b c].toArray w (RetV w (.bool (tensorB k p n ls ds xs))) := by
  have hx := r3.le
  refine calls_in Try.func71 rfl Try.ntmps71 rfl (Sat.start w) ?_
  refine wp_sc ?_
  refine wp_sq ?_
  refine sq_x rfl (x_box rfl rfl) rfl ?_; rintro _ _ ⟨b2, rfl, rfl⟩
  refine sq_x rfl (x_box rfl rfl) rfl ?_; rintro _ _ ⟨b3, rfl, rfl⟩
  refine sq_v rfl (v_assign rfl) rfl ?_
  refine sq_end ?_
  refine qs_n ?_
  refine wp_sc ?_
  refine wp_sc ?_
  refine wp_sq ?_
  refine sq_v rfl (v_loadNB 1 ty_30 rfl rfl rfl rfl) rfl ?_
  refine sq_u rfl (x_callv rfl en_174 (fun w s => ct_i_RingOk _ _ _ w)) rfl ?_
  refine sq_v rfl (v_not rfl) rfl ?_
  refine sq_end ?_
  refine qs_n ?_
  refine wp_cn _ rfl (fun c8 => ?_) (fun c8 => ?_)
  · refine wp_sc ?_
    refine wp_sq ?_
    refine sq_v rfl (v_assign rfl) rfl ?_
    refine sq_end ?_
    refine qs_n ?_
    refine wp_rt ?_
    refine qs_r ?_
    exact qs_ret1 rfl rfl (fin_q (i := 2) rfl (tensorB_no (fun h => ringB_false.1 c8 h.1)))
  · refine wp_sk ?_
    refine qs_n ?_
    refine wp_sc ?_
    refine wp_sq ?_
    refine sq_v rfl (v_loadNB 0 ty_28 rfl rfl rfl rfl) rfl ?_
    refine sq_u rfl (x_callv rfl en_160 (fun w s => ct_i_TensorSize _ _ _ _ _ w (r1.mono (s.get 2 rfl)) (r2.mono (s.get 2 rfl)))) rfl ?_
    refine sq_v rfl (v_assign rfl) rfl ?_
    refine sq_end ?_
    refine qs_n ?_
    refine wp_sc ?_
    refine wp_rj 19 [(0, true), (1, true), (2, true), (3, true), (4, true), (5, true), (6, true), (7, true), (8, false), (9, true), (10, true), (11, true), (12, true), (13, true), (14, true), (15, true), (16, false), (17, true), (18, true)] mixed_ok (by kernel_rfl) ?_
    refine rj_v rfl rfl (v_move rfl) rfl ?_
    refine rj_v rfl rfl (v_neq rfl rfl) rfl ?_
    refine rj_bd 12 rfl (fun c12 => ?_) (fun c12 => ?_)
    · refine rj_v rfl rfl (v_move rfl) rfl ?_
      refine rj_v rfl rfl (v_fieldAddr fd_28_2 ty_24 (by decide) rfl) rfl ?_
      refine rj_v rfl rfl (v_loadB 0 ty_24 rfl rfl rfl) rfl ?_
      refine rj_v rfl rfl (v_len Try.underlying24 rfl r3.sl) rfl ?_
      refine rj_v rfl rfl (v_move rfl) rfl ?_
      refine rj_v rfl rfl (v_loadNB 1 ty_30 rfl rfl rfl rfl) rfl ?_
      refine rj_u rfl rfl (x_callv rfl en_175 (fun w s => ct_i_rawWidth _ _ _ w)) rfl ?_
      refine rj_v rfl rfl (v_mul rfl rfl (mul_w (sizeI_range ls ds) (width_range (ringB_true.1 c8)))) rfl ?_
      refine rj_v rfl rfl (v_eql rfl rfl) rfl ?_
      refine rj_v rfl rfl (v_pickt rfl rfl) rfl ?_
      refine rj_bd 22 rfl (fun c22 => ?_) (fun c22 => ?_)
      · refine rj_v rfl rfl (v_move rfl) rfl ?_
        refine rj_v rfl rfl (v_loadNB 1 ty_30 rfl rfl rfl rfl) rfl ?_
        refine rj_v rfl rfl (v_fieldAddr fd_28_2 ty_24 (by decide) rfl) rfl ?_
        refine rj_v rfl rfl (v_loadB 0 ty_24 rfl rfl rfl) rfl ?_
        refine rj_u rfl rfl (x_callv rfl en_176 (fun w s => ct_i_inRing _ _ _ _ _ w (ringB_true.1 c8) (r3.mono (s.get 2 rfl)))) rfl ?_
        refine rj_v rfl rfl (v_pickt rfl rfl) rfl ?_
        refine rj_v rfl rfl (v_assign rfl) rfl ?_
        refine rj_end ?_
        refine qs_n ?_
        refine wp_rt ?_
        exact qs_ret1 rfl rfl (fin_q (i := 2) rfl (by congr 1; unfold tensorB; congr 1; rw [eq_iff_iff]; exact ⟨fun h => ⟨ringB_true.1 c8, by have := sizeI_range ls ds; omega, c22, h⟩, fun h => h.2.2.2⟩))
      · refine rj_v rfl rfl (v_move rfl) rfl ?_
        refine rj_s rfl rfl rfl ?_
        refine rj_s rfl rfl rfl ?_
        refine rj_s rfl rfl rfl ?_
        refine rj_fs rfl rfl rfl ?_
        refine rj_v rfl rfl (v_pickf rfl rfl) rfl ?_
        refine rj_v rfl rfl (v_assign rfl) rfl ?_
        refine rj_end ?_
        refine qs_n ?_
        refine wp_rt ?_
        exact qs_ret1 rfl rfl (fin_q (i := 2) rfl (tensorB_no (fun h => c22 h.2.2.1)))
    · refine rj_v rfl rfl (v_move rfl) rfl ?_
      refine rj_s rfl rfl rfl ?_
      refine rj_s rfl rfl rfl ?_
      refine rj_s rfl rfl rfl ?_
      refine rj_s rfl rfl rfl ?_
      refine rj_s rfl rfl rfl ?_
      refine rj_fs rfl rfl rfl ?_
      refine rj_s rfl rfl rfl ?_
      refine rj_s rfl rfl rfl ?_
      refine rj_v rfl rfl (v_pickf rfl rfl) rfl ?_
      refine rj_v rfl rfl (v_move rfl) rfl ?_
      refine rj_s rfl rfl rfl ?_
      refine rj_s rfl rfl rfl ?_
      refine rj_s rfl rfl rfl ?_
      refine rj_fs rfl rfl rfl ?_
      refine rj_v rfl rfl (v_pickf rfl rfl) rfl ?_
      refine rj_v rfl rfl (v_assign rfl) rfl ?_
      refine rj_end ?_
      refine qs_n ?_
      refine wp_rt ?_
      exact qs_ret1 rfl rfl (fin_q (i := 2) rfl (tensorB_no (fun h => by have := h.2.1; omega)))
/-! ### copies and comparisons -/
theorem ct_i_copyInts (xs : List Int) (v : Value) (w : World) (r : IntsR xs v (hp w)) (hs : xs.length ≤ 17592186044416) : Calls Try.prog 91 [v].toArray w (Ret w emp (IntsO xs)) := by
  refine calls_in Try.func91 rfl Try.ntmps91 rfl (Sat.start w) ?_
  refine wp_sc ?_
  refine wp_sq ?_
  refine sq_v rfl (v_assign rfl) rfl ?_
  refine sq_end ?_
  refine qs_n ?_
  refine wp_sc ?_
  refine wp_sq ?_
  refine sq_v rfl (v_move rfl) rfl ?_
  refine sq_x rfl (stepx_emp (m_appI 0 (0+1) Try.underlying24 ty_3 rfl rfl rfl rfl IntsO.nil rfl r (by simp; omega))) rfl ?_; intro v4 h4 r4
  refine sq_v rfl (v_assign rfl) rfl ?_
  refine sq_end ?_
  refine qs_n ?_
  refine wp_rt ?_
  exact qs_ret1 rfl rfl (fin_t 0 (i := 1) rfl rfl rfl r4)
theorem ct_s_l05Ints (xs : List Int) (v : Value) (w : World) (r : IntsR xs v (hp w)) (hs : xs.length ≤ 17592186044416) : Calls Try.prog 88 [v].toArray w (Ret w emp (IntsO xs)) := by
  refine calls_in Try.func88 rfl Try.ntmps88 rfl (Sat.start w) ?_
  refine wp_sc ?_
  refine wp_sq ?_
  refine sq_v rfl (v_assign rfl) rfl ?_
  refine sq_end ?_
  refine qs_n ?_
  refine wp_sc ?_
  refine wp_sq ?_
  refine sq_x rfl (x_build0 Try.underlying24 ty_3) rfl ?_; intro v3 h3 (r3 : IntsO [] v3 h3)
  refine sq_v rfl (v_move rfl) rfl ?_
  refine sq_m 0 rfl rfl (m_appI 0 1 Try.underlying24 ty_3 rfl rfl rfl rfl r3 rfl r (by simp; omega)) rfl ?_; intro v5 h_r5 r5
  refine sq_v rfl (v_assign rfl) rfl ?_
  refine sq_end ?_
  refine qs_n ?_
  refine wp_rt ?_
  exact qs_ret1 rfl rfl (fin_t 0 (i := 1) rfl rfl rfl r5)
theorem ext_getD {xs ys : List Int} (h : xs.length = ys.length) (h1 : ∀ j, j < xs.length → xs.getD j 0 = ys.getD j 0) : xs = ys := by
  apply List.ext_getElem h
  intro i h2 h3
  have := h1 i h2
  simpa [List.getD, h2, h3] using this
theorem ct_i_equalInts (xs ys : List Int) (v u : Value) (w : World) (r : IntsR xs v (hp w)) (r' : IntsR ys u (hp w)) : Calls Try.prog 203 [v, u].toArray w (RetV w (.bool (decide (xs = ys)))) := by
  have hx := r.le
  refine calls_in Try.func203 rfl Try.ntmps203 rfl (Sat.start w) ?_
  refine wp_sc ?_
  refine wp_sq ?_
  refine sq_v rfl (v_assign rfl) rfl ?_
  refine sq_end ?_
  refine qs_n ?_
  refine wp_sc ?_
  refine wp_sc ?_
  refine wp_sq ?_
  refine sq_v rfl (v_move rfl) rfl ?_
  refine sq_v rfl (v_len Try.underlying24 rfl r.sl) rfl ?_
  refine sq_v rfl (v_move rfl) rfl ?_
  refine sq_v rfl (v_len Try.underlying24 rfl r'.sl) rfl ?_
  refine sq_v rfl (v_neq rfl rfl) rfl ?_
  refine sq_end ?_
  refine qs_n ?_
  refine wp_cd rfl (fun c10 => ?_) (fun c10 => ?_)
  · refine wp_sc ?_
    refine wp_sq ?_
    refine sq_v rfl (v_assign rfl) rfl ?_
    refine sq_end ?_
    refine qs_n ?_
    refine wp_rt ?_
    refine qs_r ?_
    exact qs_ret1 rfl rfl (fin_q (i := 0) rfl (by congr 1; symm; rw [decide_eq_false_iff_not]; rintro rfl; exact c10 rfl))
  · refine wp_sk ?_
    refine qs_n ?_
    refine wp_sc ?_
    refine wp_sc ?_
    refine wp_sq ?_
    refine sq_v rfl (v_move rfl) rfl ?_
    refine sq_v rfl (v_len Try.underlying24 rfl r.sl) rfl ?_
    refine sq_v rfl (v_move rfl) rfl ?_
    refine sq_end ?_
    refine qs_n ?_
    refine wp_bl ?_
    refine wp_lp (fun i : Nat => [(0, v), (1, u), (12, num xs.length), (13, num i)]) (fun _ => [hp w]) (fun i => i ≤ xs.length ∧ ∀ j, j < i → xs.getD j 0 = ys.getD j 0) (fun i => xs.length - i) 0 ⟨by omega, fun j hj => by omega⟩ ⟨rfl, rfl, rfl, rfl, trivial⟩ (fun _ s => s) ?_
    rintro i ⟨hi, hn⟩
    refine wp_sc ?_
    refine wp_sq ?_
    refine sq_v rfl (v_lss rfl rfl) rfl ?_
    refine sq_end ?_
    refine qs_n ?_
    refine wp_sc ?_
    refine wp_cd rfl (fun c14 => ?_) (fun c14 => ?_)
    · refine wp_sk ?_
      refine qs_n ?_
      refine wp_sc ?_
      refine wp_bl ?_
      refine wp_sc ?_
      refine wp_sq ?_
      refine sq_v rfl (v_move rfl) rfl ?_
      refine sq_v rfl (v_assign rfl) rfl ?_
      refine sq_end ?_
      refine qs_n ?_
      refine wp_sc ?_
      refine wp_rj 9 [(0, true), (1, true), (2, true), (3, true), (4, true), (5, true), (6, true), (7, true), (8, true)] mixed_ok (by kernel_rfl) ?_
      refine rj_v rfl rfl (v_move rfl) rfl ?_
      refine rj_v rfl rfl (v_move rfl) rfl ?_
      refine rj_v rfl rfl (v_idxI Try.underlying24 ty_3 rfl rfl r (by omega) (by omega)) rfl ?_
      refine rj_v rfl rfl (v_loadI  0 ty_3 rfl rfl r (by omega)) rfl ?_
      refine rj_v rfl rfl (v_move rfl) rfl ?_
      refine rj_v rfl rfl (v_move rfl) rfl ?_
      refine rj_v rfl rfl (v_idxI Try.underlying24 ty_3 rfl rfl r' (by omega) (by omega)) rfl ?_
      refine rj_v rfl rfl (v_loadI  0 ty_3 rfl rfl r' (by omega)) rfl ?_
      refine rj_v rfl rfl (v_neq rfl rfl) rfl ?_
      refine rj_end ?_
      refine qs_n ?_
      refine wp_cd rfl (fun c24 => ?_) (fun c24 => ?_)
      · refine wp_sc ?_
        refine wp_sq ?_
        refine sq_v rfl (v_assign rfl) rfl ?_
        refine sq_end ?_
        refine qs_n ?_
        refine wp_rt ?_
        refine qs_br ?_
        refine qs_r ?_
        refine qs_r ?_
        refine qs_br ?_
        refine qs_r ?_
        exact qs_ret1 rfl rfl (fin_q (i := 0) rfl (by congr 1; symm; rw [decide_eq_false_iff_not]; rintro rfl; exact c24 rfl))
      · refine wp_sk ?_
        refine qs_bn ?_
        refine qs_n ?_
        refine wp_sq ?_
        refine sq_v rfl (v_add rfl rfl ((by unfold I64; omega))) rfl ?_
        refine sq_v rfl (v_move rfl) rfl ?_
        refine sq_end ?_
        exact qs_bk (i + 1) ⟨by omega, step_all hn (by simpa using c24)⟩ (by omega) ⟨rfl, rfl, rfl, rfl, trivial⟩ (fun _ s => s)
    · refine wp_ex ?_
      refine qs_x ?_
      refine qs_x ?_
      refine qs_bx ?_
      refine qs_n ?_
      refine wp_sc ?_
      refine wp_sq ?_
      refine sq_v rfl (v_assign rfl) rfl ?_
      refine sq_end ?_
      refine qs_n ?_
      refine wp_rt ?_
      exact qs_ret1 rfl rfl (fin_q (i := 0) rfl (by congr 1; symm; rw [decide_eq_true_eq]; exact ext_getD (by omega) (fun j hj => hn j (by omega))))
theorem ct_s_l06Equal (xs ys : List Int) (v u : Value) (w : World) (r : IntsR xs v (hp w)) (r' : IntsR ys u (hp w)) : Calls Try.prog 202 [v, u].toArray w (RetV w (.bool (decide (xs = ys)))) := by
  have hx := r.le
  have hy := r'.le
  refine calls_in Try.func202 rfl Try.ntmps202 rfl (Sat.start w) ?_
  refine wp_sc ?_
  refine wp_sq ?_
  refine sq_v rfl (v_assign rfl) rfl ?_
  refine sq_end ?_
  refine qs_n ?_
  refine wp_sc ?_
  refine wp_sc ?_
  refine wp_sq ?_
  refine sq_v rfl (v_move rfl) rfl ?_
  refine sq_v rfl (v_len Try.underlying24 rfl r.sl) rfl ?_
  refine sq_v rfl (v_move rfl) rfl ?_
  refine sq_end ?_
  refine qs_n ?_
  refine wp_bl ?_
  refine wp_lp (fun i : Nat => [(0, v), (1, u), (7, v), (8, num xs.length), (9, num i)]) (fun _ => [hp w]) (fun i => i ≤ xs.length ∧ i ≤ ys.length ∧ ∀ j, j < i → xs.getD j 0 = ys.getD j 0) (fun i => xs.length - i) 0 ⟨by omega, by omega, fun j hj => by omega⟩ ⟨rfl, rfl, rfl, rfl, rfl, trivial⟩ (fun _ s => s) ?_
  rintro i ⟨hi, hi', hn⟩
  refine wp_sc ?_
  refine wp_sq ?_
  refine sq_v rfl (v_lss rfl rfl) rfl ?_
  refine sq_end ?_
  refine qs_n ?_
  refine wp_sc ?_
  refine wp_cd rfl (fun c10 => ?_) (fun c10 => ?_)
  · refine wp_sk ?_
    refine qs_n ?_
    refine wp_sc ?_
    refine wp_bl ?_
    refine wp_sc ?_
    refine wp_sq ?_
    refine sq_v rfl (v_move rfl) rfl ?_
    refine sq_v rfl (v_idxI Try.underlying24 ty_3 rfl rfl r (by omega) (by omega)) rfl ?_
    refine sq_v rfl (v_loadI  0 ty_3 rfl rfl r (by omega)) rfl ?_
    refine sq_v rfl (v_assign rfl) rfl ?_
    refine sq_v rfl (v_assign rfl) rfl ?_
    refine sq_end ?_
    refine qs_n ?_
    refine wp_sc ?_
    refine wp_sq ?_
    refine sq_v rfl (v_move rfl) rfl ?_
    refine sq_v rfl (v_move rfl) rfl ?_
    refine sq_v rfl (v_len Try.underlying24 rfl r'.sl) rfl ?_
    refine sq_v rfl (v_geq rfl rfl) rfl ?_
    refine sq_bd 17 rfl (fun c17 => ?_) (fun c17 => ?_)
    · refine sq_v rfl (v_move rfl) rfl ?_
      refine sq_s rfl rfl ?_
      refine sq_s rfl rfl ?_
      refine sq_s rfl rfl ?_
      refine sq_s rfl rfl ?_
      refine sq_s rfl rfl ?_
      refine sq_s rfl rfl ?_
      refine sq_v rfl (v_pickt rfl rfl) rfl ?_
      refine sq_end ?_
      refine qs_n ?_
      refine wp_ct rfl ?_
      refine wp_sc ?_
      refine wp_sq ?_
      refine sq_v rfl (v_assign rfl) rfl ?_
      refine sq_end ?_
      refine qs_n ?_
      refine wp_rt ?_
      refine qs_br ?_
      refine qs_r ?_
      refine qs_r ?_
      refine qs_br ?_
      refine qs_r ?_
      exact qs_ret1 rfl rfl (fin_q (i := 0) rfl (by congr 1; symm; rw [decide_eq_false_iff_not]; rintro rfl; omega))
    · refine sq_v rfl (v_move rfl) rfl ?_
      refine sq_v rfl (v_move rfl) rfl ?_
      refine sq_v rfl (v_move rfl) rfl ?_
      refine sq_v rfl (v_idxI Try.underlying24 ty_3 rfl rfl r' (by omega) (by omega)) rfl ?_
      refine sq_v rfl (v_loadI  0 ty_3 rfl rfl r' (by omega)) rfl ?_
      refine sq_v rfl (v_move rfl) rfl ?_
      refine sq_v rfl (v_neq rfl rfl) rfl ?_
      refine sq_v rfl (v_pickf rfl rfl) rfl ?_
      refine sq_end ?_
      refine qs_n ?_
      refine wp_cd rfl (fun c25 => ?_) (fun c25 => ?_)
      · refine wp_sc ?_
        refine wp_sq ?_
        refine sq_v rfl (v_assign rfl) rfl ?_
        refine sq_end ?_
        refine qs_n ?_
        refine wp_rt ?_
        refine qs_br ?_
        refine qs_r ?_
        refine qs_r ?_
        refine qs_br ?_
        refine qs_r ?_
        exact qs_ret1 rfl rfl (fin_q (i := 0) rfl (by congr 1; symm; rw [decide_eq_false_iff_not]; rintro rfl; exact c25 rfl))
      · refine wp_sk ?_
        refine qs_bn ?_
        refine qs_n ?_
        refine wp_sq ?_
        refine sq_v rfl (v_add rfl rfl ((by unfold I64; omega))) rfl ?_
        refine sq_v rfl (v_move rfl) rfl ?_
        refine sq_end ?_
        exact qs_bk (i + 1) ⟨by omega, by omega, step_all hn (by simp only [Int.toNat_natCast] at c25; omega)⟩ (by omega) ⟨rfl, rfl, rfl, rfl, rfl, trivial⟩ (fun _ s => s)
  · refine wp_ex ?_
    refine qs_x ?_
    refine qs_x ?_
    refine qs_bx ?_
    refine qs_n ?_
    refine wp_sc ?_
    refine wp_sq ?_
    refine sq_v rfl (v_move rfl) rfl ?_
    refine sq_v rfl (v_len Try.underlying24 rfl r.sl) rfl ?_
    refine sq_v rfl (v_move rfl) rfl ?_
    refine sq_v rfl (v_len Try.underlying24 rfl r'.sl) rfl ?_
    refine sq_v rfl (v_eql rfl rfl) rfl ?_
    refine sq_v rfl (v_assign rfl) rfl ?_
    refine sq_end ?_
    refine qs_n ?_
    refine wp_rt ?_
    exact qs_ret1 rfl rfl (fin_q (i := 0) rfl (by congr 1; congr 1; rw [eq_iff_iff]; exact ⟨fun h => ext_getD (by omega) (fun j hj => hn j (by omega)), fun h => by rw [h]⟩))
/-! ### zero and one -/
def zeroL (k p n : Int) : List Int := if k = 4 then [p] else List.replicate (widthI k n).toNat 0
def oneL (k p n : Int) : List Int := if k = 4 then [0] else if k = 5 ∨ k = 6 then [topI k p n] else (List.replicate (widthI k n).toNat 0).set 0 1
theorem width_1 {k n : Int} (h7 : k ≠ 7) (h8 : k ≠ 8) : widthI k n = 1 := by simp [widthI, h7, h8]
theorem zeroL_len (k p n : Int) : (zeroL k p n).length = (widthI k n).toNat := by
  unfold zeroL
  split
  · rename_i e; rw [width_1 (by omega) (by omega)]; rfl
  · simp
theorem oneL_len (k p n : Int) : (oneL k p n).length = (widthI k n).toNat := by
  unfold oneL
  split
  · rename_i e; rw [width_1 (by omega) (by omega)]; rfl
  · split
    · rename_i e; rw [width_1 (by omega) (by omega)]; rfl
    · simp
theorem ct_s_l02Zero (k p n : Int) (w : World) (h : ringL k p n) : Calls Try.prog 206 [ringV k p n].toArray w (Ret w emp (IntsO (zeroL k p n))) := by
  have hw := width_range h
  refine calls_in Try.func206 rfl Try.ntmps206 rfl (Sat.start w) ?_
  refine wp_sc ?_
  refine wp_sq ?_
  refine sq_x rfl (x_box rfl rfl) rfl ?_; rintro _ _ ⟨b1, rfl, rfl⟩
  refine sq_v rfl (v_assign rfl) rfl ?_
  refine sq_end ?_
  refine qs_n ?_
  refine wp_sc ?_
  refine wp_sq ?_
  refine sq_v rfl (v_loadNB 0 ty_30 rfl rfl rfl rfl) rfl ?_
  refine sq_u rfl (x_callv rfl en_170 (fun w s => ct_s_l02Width _ _ _ w)) rfl ?_
  refine sq_x rfl (x_makeI Try.underlying24 ty_3 rfl rfl (by omega) (by omega) (by omega)) rfl ?_; intro v6 h6 r6
  refine sq_v rfl (v_assign rfl) rfl ?_
  refine sq_end ?_
  refine qs_n ?_
  refine wp_sc ?_
  refine wp_sc ?_
  refine wp_sq ?_
  refine sq_v rfl (v_fieldAddr fd_30_0 ty_3 (by decide) rfl) rfl ?_
  refine sq_v rfl (v_loadB 1 ty_3 rfl rfl rfl) rfl ?_
  refine sq_v rfl (v_eql rfl rfl) rfl ?_
  refine sq_end ?_
  refine qs_n ?_
  refine wp_cd rfl (fun c9 => ?_) (fun c9 => ?_)
  · refine wp_sq ?_
    refine sq_v rfl (v_move rfl) rfl ?_
    refine sq_v rfl (v_fieldAddr fd_30_1 ty_3 (by decide) rfl) rfl ?_
    refine sq_v rfl (v_loadB 1 ty_3 rfl rfl rfl) rfl ?_
    refine sq_v rfl (v_idxI Try.underlying24 ty_3 rfl rfl r6.toR (by omega) (by simp; omega)) rfl ?_
    refine sq_m 0 rfl rfl (m_storeI 0 ty_3 rfl rfl rfl r6 (by simp; omega)) rfl ?_; rintro _ h_r14 ⟨rfl, r14⟩
    refine sq_end ?_
    refine qs_n ?_
    refine wp_sc ?_
    refine wp_sq ?_
    refine sq_v rfl (v_move rfl) rfl ?_
    refine sq_v rfl (v_assign rfl) rfl ?_
    refine sq_end ?_
    refine qs_n ?_
    refine wp_rt ?_
    exact qs_ret1 rfl rfl (fin_t 0 (i := 2) rfl rfl rfl (by simpa [zeroL, c9, widthI] using r14))
  · refine wp_sk ?_
    refine qs_n ?_
    refine wp_sc ?_
    refine wp_sq ?_
    refine sq_v rfl (v_move rfl) rfl ?_
    refine sq_v rfl (v_assign rfl) rfl ?_
    refine sq_end ?_
    refine qs_n ?_
    refine wp_rt ?_
    exact qs_ret1 rfl rfl (fin_t 0 (i := 2) rfl rfl rfl (by simpa [zeroL, c9] using r6))
theorem ct_i_rawZero (k p n : Int) (w : World) (h : ringL k p n) : Calls Try.prog 135 [ringV k p n].toArray w (Ret w emp (IntsO (zeroL k p n))) := by
  have hw := width_range h
  refine calls_in Try.func135 rfl Try.ntmps135 rfl (Sat.start w) ?_
  refine wp_sc ?_
  refine wp_sq ?_
  refine sq_x rfl (x_box rfl rfl) rfl ?_; rintro _ _ ⟨b1, rfl, rfl⟩
  refine sq_v rfl (v_assign rfl) rfl ?_
  refine sq_end ?_
  refine qs_n ?_
  refine wp_sc ?_
  refine wp_sq ?_
  refine sq_v rfl (v_loadNB 0 ty_30 rfl rfl rfl rfl) rfl ?_
  refine sq_u rfl (x_callv rfl en_175 (fun w s => ct_i_rawWidth _ _ _ w)) rfl ?_
  refine sq_x rfl (x_makeI Try.underlying24 ty_3 rfl rfl (by omega) (by omega) (by omega)) rfl ?_; intro v6 h6 r6
  refine sq_v rfl (v_assign rfl) rfl ?_
  refine sq_end ?_
  refine qs_n ?_
  refine wp_sc ?_
  refine wp_sc ?_
  refine wp_sq ?_
  refine sq_v rfl (v_fieldAddr fd_30_0 ty_3 (by decide) rfl) rfl ?_
  refine sq_v rfl (v_loadB 1 ty_3 rfl rfl rfl) rfl ?_
  refine sq_v rfl (v_eql rfl rfl) rfl ?_
  refine sq_end ?_
  refine qs_n ?_
  refine wp_cd rfl (fun c9 => ?_) (fun c9 => ?_)
  · refine wp_sq ?_
    refine sq_v rfl (v_move rfl) rfl ?_
    refine sq_v rfl (v_fieldAddr fd_30_1 ty_3 (by decide) rfl) rfl ?_
    refine sq_v rfl (v_loadB 1 ty_3 rfl rfl rfl) rfl ?_
    refine sq_v rfl (v_idxI Try.underlying24 ty_3 rfl rfl r6.toR (by omega) (by simp; omega)) rfl ?_
    refine sq_m 0 rfl rfl (m_storeI 0 ty_3 rfl rfl rfl r6 (by simp; omega)) rfl ?_; rintro _ h_r14 ⟨rfl, r14⟩
    refine sq_end ?_
    refine qs_n ?_
    refine wp_sc ?_
    refine wp_sq ?_
    refine sq_v rfl (v_move rfl) rfl ?_
    refine sq_v rfl (v_assign rfl) rfl ?_
    refine sq_end ?_
    refine qs_n ?_
    refine wp_rt ?_
    exact qs_ret1 rfl rfl (fin_t 0 (i := 2) rfl rfl rfl (by simpa [zeroL, c9, widthI] using r14))
  · refine wp_sk ?_
    refine qs_n ?_
    refine wp_sc ?_
    refine wp_sq ?_
    refine sq_v rfl (v_move rfl) rfl ?_
    refine sq_v rfl (v_assign rfl) rfl ?_
    refine sq_end ?_
    refine qs_n ?_
    refine wp_rt ?_
    exact qs_ret1 rfl rfl (fin_t 0 (i := 2) rfl rfl rfl (by simpa [zeroL, c9] using r6))
theorem ct_s_l02One (k p n : Int) (w : World) (h : ringL k p n) : Calls Try.prog 173 [ringV k p n].toArray w (Ret w emp (IntsO (oneL k p n))) := by
  have hw := width_range h
  refine calls_in Try.func173 rfl Try.ntmps173 rfl (Sat.start w) ?_
  refine wp_sc ?_
  refine wp_sq ?_
  refine sq_x rfl (x_box rfl rfl) rfl ?_; rintro _ _ ⟨b1, rfl, rfl⟩
  refine sq_v rfl (v_assign rfl) rfl ?_
  refine sq_end ?_
  refine qs_n ?_
  refine wp_sc ?_
  refine wp_sq ?_
  refine sq_v rfl (v_loadNB 0 ty_30 rfl rfl rfl rfl) rfl ?_
  refine sq_u rfl (x_callv rfl en_170 (fun w s => ct_s_l02Width _ _ _ w)) rfl ?_
  refine sq_x rfl (x_makeI Try.underlying24 ty_3 rfl rfl (by omega) (by omega) (by omega)) rfl ?_; intro v6 h6 r6
  refine sq_v rfl (v_assign rfl) rfl ?_
  refine sq_end ?_
  refine qs_n ?_
  refine wp_sc ?_
  refine wp_sc ?_
  refine wp_sq ?_
  refine sq_v rfl (v_fieldAddr fd_30_0 ty_3 (by decide) rfl) rfl ?_
  refine sq_v rfl (v_loadB 1 ty_3 rfl rfl rfl) rfl ?_
  refine sq_end ?_
  refine qs_n ?_
  refine wp_bl ?_
  refine wp_sc ?_
  refine wp_sc ?_
  refine wp_sq ?_
  refine sq_v rfl (v_eql rfl rfl) rfl ?_
  refine sq_v rfl (v_assign rfl) rfl ?_
  refine sq_end ?_
  refine qs_n ?_
  refine wp_cSd rfl (fun c11 => ?_) (fun c11 => ?_)
  · refine wp_sk ?_
    refine qs_n ?_
    refine wp_ct rfl ?_
    refine wp_sq ?_
    refine sq_v rfl (v_move rfl) rfl ?_
    refine sq_v rfl (v_loadNB 1 ty_30 rfl rfl rfl rfl) rfl ?_
    refine sq_u rfl (x_callv rfl en_171 (fun w s => ct_s_l02Top _ _ _ w h)) rfl ?_
    refine sq_v rfl (v_idxI Try.underlying24 ty_3 rfl rfl r6.toR (by omega) (by simp; omega)) rfl ?_
    refine sq_m 0 rfl rfl (m_storeI 0 ty_3 rfl rfl rfl r6 (by simp; omega)) rfl ?_; rintro _ h_r18 ⟨rfl, r18⟩
    refine sq_end ?_
    refine qs_bn ?_
    refine qs_n ?_
    refine wp_sc ?_
    refine wp_sq ?_
    refine sq_v rfl (v_move rfl) rfl ?_
    refine sq_v rfl (v_assign rfl) rfl ?_
    refine sq_end ?_
    refine qs_n ?_
    refine wp_rt ?_
    exact qs_ret1 rfl rfl (fin_t 0 (i := 2) rfl rfl rfl (by simpa [oneL, c11, topI, widthI] using r18))
  · refine wp_sq ?_
    refine sq_v rfl (v_eql rfl rfl) rfl ?_
    refine sq_v rfl (v_assign rfl) rfl ?_
    refine sq_end ?_
    refine qs_n ?_
    refine wp_cSd rfl (fun c11 => ?_) (fun c11 => ?_)
    · refine wp_sq ?_
      refine sq_v rfl (v_move rfl) rfl ?_
      refine sq_v rfl (v_loadNB 1 ty_30 rfl rfl rfl rfl) rfl ?_
      refine sq_u rfl (x_callv rfl en_171 (fun w s => ct_s_l02Top _ _ _ w h)) rfl ?_
      refine sq_v rfl (v_idxI Try.underlying24 ty_3 rfl rfl r6.toR (by omega) (by simp; omega)) rfl ?_
      refine sq_m 0 rfl rfl (m_storeI 0 ty_3 rfl rfl rfl r6 (by simp; omega)) rfl ?_; rintro _ h_r18 ⟨rfl, r18⟩
      refine sq_end ?_
      refine qs_bn ?_
      refine qs_n ?_
      refine wp_sc ?_
      refine wp_sq ?_
      refine sq_v rfl (v_move rfl) rfl ?_
      refine sq_v rfl (v_assign rfl) rfl ?_
      refine sq_end ?_
      refine qs_n ?_
      refine wp_rt ?_
      exact qs_ret1 rfl rfl (fin_t 0 (i := 2) rfl rfl rfl (by simpa [oneL, c11, topI, widthI] using r18))
    · refine wp_sc ?_
      refine wp_sq ?_
      refine sq_v rfl (v_eql rfl rfl) rfl ?_
      refine sq_v rfl (v_assign rfl) rfl ?_
      refine sq_end ?_
      refine qs_n ?_
      refine wp_cd rfl (fun c18 => ?_) (fun c18 => ?_)
      · refine wp_sq ?_
        refine sq_v rfl (v_move rfl) rfl ?_
        refine sq_v rfl (v_idxI Try.underlying24 ty_3 rfl rfl r6.toR (by omega) (by simp; omega)) rfl ?_
        refine sq_m 0 rfl rfl (m_storeI 0 ty_3 rfl rfl rfl r6 (by simp; omega)) rfl ?_; rintro _ h_r19 ⟨rfl, r19⟩
        refine sq_end ?_
        refine qs_bn ?_
        refine qs_n ?_
        refine wp_sc ?_
        refine wp_sq ?_
        refine sq_v rfl (v_move rfl) rfl ?_
        refine sq_v rfl (v_assign rfl) rfl ?_
        refine sq_end ?_
        refine qs_n ?_
        refine wp_rt ?_
        exact qs_ret1 rfl rfl (fin_t 0 (i := 2) rfl rfl rfl (by simpa [oneL, c18, widthI] using r19))
      · refine wp_sq ?_
        refine sq_v rfl (v_move rfl) rfl ?_
        refine sq_v rfl (v_idxI Try.underlying24 ty_3 rfl rfl r6.toR (by omega) (by simp; omega)) rfl ?_
        refine sq_m 0 rfl rfl (m_storeI 0 ty_3 rfl rfl rfl r6 (by simp; omega)) rfl ?_; rintro _ h_r20 ⟨rfl, r20⟩
        refine sq_end ?_
        refine qs_bn ?_
        refine qs_n ?_
        refine wp_sc ?_
        refine wp_sq ?_
        refine sq_v rfl (v_move rfl) rfl ?_
        refine sq_v rfl (v_assign rfl) rfl ?_
        refine sq_end ?_
        refine qs_n ?_
        refine wp_rt ?_
        exact qs_ret1 rfl rfl (fin_t 0 (i := 2) rfl rfl rfl (by unfold oneL; rw [if_neg c18, if_neg (by omega)]; simpa using r20))
theorem ct_i_rawOne (k p n : Int) (w : World) (h : ringL k p n) : Calls Try.prog 137 [ringV k p n].toArray w (Ret w emp (IntsO (oneL k p n))) := by
  have hw := width_range h
  refine calls_in Try.func137 rfl Try.ntmps137 rfl (Sat.start w) ?_
  refine wp_sc ?_
  refine wp_sq ?_
  refine sq_x rfl (x_box rfl rfl) rfl ?_; rintro _ _ ⟨b1, rfl, rfl⟩
  refine sq_v rfl (v_assign rfl) rfl ?_
  refine sq_end ?_
  refine qs_n ?_
  refine wp_sc ?_
  refine wp_sq ?_
  refine sq_v rfl (v_loadNB 0 ty_30 rfl rfl rfl rfl) rfl ?_
  refine sq_u rfl (x_callv rfl en_175 (fun w s => ct_i_rawWidth _ _ _ w)) rfl ?_
  refine sq_x rfl (x_makeI Try.underlying24 ty_3 rfl rfl (by omega) (by omega) (by omega)) rfl ?_; intro v6 h6 r6
  refine sq_v rfl (v_assign rfl) rfl ?_
  refine sq_end ?_
  refine qs_n ?_
  refine wp_sc ?_
  refine wp_sc ?_
  refine wp_sq ?_
  refine sq_v rfl (v_fieldAddr fd_30_0 ty_3 (by decide) rfl) rfl ?_
  refine sq_v rfl (v_loadB 1 ty_3 rfl rfl rfl) rfl ?_
  refine sq_end ?_
  refine qs_n ?_
  refine wp_bl ?_
  refine wp_sc ?_
  refine wp_sq ?_
  refine sq_v rfl (v_eql rfl rfl) rfl ?_
  refine sq_v rfl (v_assign rfl) rfl ?_
  refine sq_end ?_
  refine qs_n ?_
  refine wp_cd rfl (fun c11 => ?_) (fun c11 => ?_)
  · refine wp_sq ?_
    refine sq_v rfl (v_move rfl) rfl ?_
    refine sq_v rfl (v_idxI Try.underlying24 ty_3 rfl rfl r6.toR (by omega) (by simp; omega)) rfl ?_
    refine sq_m 0 rfl rfl (m_storeI 0 ty_3 rfl rfl rfl r6 (by simp; omega)) rfl ?_; rintro _ h_r28 ⟨rfl, r28⟩
    refine sq_end ?_
    refine qs_bn ?_
    refine qs_n ?_
    refine wp_sc ?_
    refine wp_sq ?_
    refine sq_v rfl (v_move rfl) rfl ?_
    refine sq_v rfl (v_assign rfl) rfl ?_
    refine sq_end ?_
    refine qs_n ?_
    refine wp_rt ?_
    exact qs_ret1 rfl rfl (fin_t 0 (i := 2) rfl rfl rfl (by simpa [oneL, c11, widthI] using r28))
  · refine wp_sc ?_
    refine wp_sq ?_
    refine sq_v rfl (v_eql rfl rfl) rfl ?_
    refine sq_v rfl (v_assign rfl) rfl ?_
    refine sq_end ?_
    refine qs_n ?_
    refine wp_cd rfl (fun c15 => ?_) (fun c15 => ?_)
    · refine wp_sq ?_
      refine sq_v rfl (v_move rfl) rfl ?_
      refine sq_v rfl (v_fieldAddr fd_30_1 ty_3 (by decide) rfl) rfl ?_
      refine sq_v rfl (v_loadB 1 ty_3 rfl rfl rfl) rfl ?_
      refine sq_v rfl (v_idxI Try.underlying24 ty_3 rfl rfl r6.toR (by omega) (by simp; omega)) rfl ?_
      refine sq_m 0 rfl rfl (m_storeI 0 ty_3 rfl rfl rfl r6 (by simp; omega)) rfl ?_; rintro _ h_r28 ⟨rfl, r28⟩
      refine sq_end ?_
      refine qs_bn ?_
      refine qs_n ?_
      refine wp_sc ?_
      refine wp_sq ?_
      refine sq_v rfl (v_move rfl) rfl ?_
      refine sq_v rfl (v_assign rfl) rfl ?_
      refine sq_end ?_
      refine qs_n ?_
      refine wp_rt ?_
      exact qs_ret1 rfl rfl (fin_t 0 (i := 2) rfl rfl rfl (by simpa [oneL, topI, c15, widthI] using r28))
    · refine wp_sc ?_
      refine wp_sq ?_
      refine sq_v rfl (v_eql rfl rfl) rfl ?_
      refine sq_v rfl (v_assign rfl) rfl ?_
      refine sq_end ?_
      refine qs_n ?_
      refine wp_cd rfl (fun c21 => ?_) (fun c21 => ?_)
      · refine wp_sq ?_
        refine sq_v rfl (v_move rfl) rfl ?_
        refine sq_v rfl (v_loadNB 1 ty_30 rfl rfl rfl rfl) rfl ?_
        refine sq_u rfl (x_callv rfl en_208 (fun w s => ct_i_rawTop _ _ _ w h)) rfl ?_
        refine sq_v rfl (v_idxI Try.underlying24 ty_3 rfl rfl r6.toR (by omega) (by simp; omega)) rfl ?_
        refine sq_m 0 rfl rfl (m_storeI 0 ty_3 rfl rfl rfl r6 (by simp; omega)) rfl ?_; rintro _ h_r28 ⟨rfl, r28⟩
        refine sq_end ?_
        refine qs_bn ?_
        refine qs_n ?_
        refine wp_sc ?_
        refine wp_sq ?_
        refine sq_v rfl (v_move rfl) rfl ?_
        refine sq_v rfl (v_assign rfl) rfl ?_
        refine sq_end ?_
        refine qs_n ?_
        refine wp_rt ?_
        exact qs_ret1 rfl rfl (fin_t 0 (i := 2) rfl rfl rfl (by simpa [oneL, c21, widthI] using r28))
      · refine wp_sq ?_
        refine sq_v rfl (v_move rfl) rfl ?_
        refine sq_v rfl (v_idxI Try.underlying24 ty_3 rfl rfl r6.toR (by omega) (by simp; omega)) rfl ?_
        refine sq_m 0 rfl rfl (m_storeI 0 ty_3 rfl rfl rfl r6 (by simp; omega)) rfl ?_; rintro _ h_r28 ⟨rfl, r28⟩
        refine sq_end ?_
        refine qs_bn ?_
        refine qs_n ?_
        refine wp_sc ?_
        refine wp_sq ?_
        refine sq_v rfl (v_move rfl) rfl ?_
        refine sq_v rfl (v_assign rfl) rfl ?_
        refine sq_end ?_
        refine qs_n ?_
        refine wp_rt ?_
        exact qs_ret1 rfl rfl (fin_t 0 (i := 2) rfl rfl rfl (by unfold oneL; rw [if_neg c11, if_neg (by omega)]; simpa using r28))
/-! ### elements -/
/-- Element number i of 'xs', w numbers each. -/
def elt (xs : List Int) (w i : Int) : List Int := (xs.drop (i * w).toNat).take w.toNat
theorem elt_eq {xs : List Int} {w i : Int} (hw : 0 ≤ w) (hi : 0 ≤ i) : (xs.drop (i * w).toNat).take ((i * w + w).toNat - (i * w).toNat) = elt xs w i := by
  have := Int.mul_nonneg hi hw
  unfold elt
  congr 1
  omega
theorem ct_s_l05Get (k p n i : Int) (xs : List Int) (a b c : Value) (w : World) (h : ringL k p n) (r : IntsR xs c (hp w)) (hi : 0 ≤ i) (hl : i * widthI k n + widthI k n ≤ xs.length) (hs : xs.length ≤ 17592186044416) :
    Calls Try.prog 127 [ringV k p n, tenV a b c, num i].toArray w (Ret w emp (IntsO (elt xs (widthI k n) i))) := by
  have hw := width_range h
  have hm : 0 ≤ i * widthI k n := Int.mul_nonneg hi (by omega)
  refine calls_in Try.func127 rfl Try.ntmps127 rfl (Sat.start w) ?_
  refine wp_sc ?_
  refine wp_sq ?_
  refine sq_x rfl (x_box rfl rfl) rfl ?_; rintro _ _ ⟨b3, rfl, rfl⟩
  refine sq_x rfl (x_box rfl rfl) rfl ?_; rintro _ _ ⟨b4, rfl, rfl⟩
  refine sq_v rfl (v_assign rfl) rfl ?_
  refine sq_end ?_
  refine qs_n ?_
  refine wp_sc ?_
  refine wp_sq ?_
  refine sq_v rfl (v_loadNB 1 ty_30 rfl rfl rfl rfl) rfl ?_
  refine sq_u rfl (x_callv rfl en_170 (fun w s => ct_s_l02Width _ _ _ w)) rfl ?_
  refine sq_v rfl (v_assign rfl) rfl ?_
  refine sq_end ?_
  refine qs_n ?_
  refine wp_sc ?_
  refine wp_sq ?_
  refine sq_x rfl (x_build0 Try.underlying24 ty_3) rfl ?_; intro v10 h10 (r10 : IntsO [] v10 h10)
  refine sq_v rfl (v_fieldAddr fd_28_2 ty_24 (by decide) rfl) rfl ?_
  refine sq_v rfl (v_loadB 1 ty_24 rfl rfl rfl) rfl ?_
  refine sq_v rfl (v_move rfl) rfl ?_
  refine sq_v rfl (v_move rfl) rfl ?_
  refine sq_v rfl (v_mul rfl rfl ((by unfold I64; omega))) rfl ?_
  refine sq_v rfl (v_move rfl) rfl ?_
  refine sq_v rfl (v_move rfl) rfl ?_
  refine sq_v rfl (v_mul rfl rfl ((by unfold I64; omega))) rfl ?_
  refine sq_v rfl (v_move rfl) rfl ?_
  refine sq_v rfl (v_add rfl rfl ((by unfold I64; omega))) rfl ?_
  refine sq_v rfl (v_sliceLH Try.underlying24 ty_3 rfl rfl rfl  r (by omega) (by omega) (by omega)) rfl ?_
  refine sq_m 0 rfl rfl (m_appI 0 3 Try.underlying24 ty_3 rfl rfl rfl rfl r10 rfl (r.sub (by omega) (by omega)) (by simp; omega)) rfl ?_; intro v22 h_r22 r22
  refine sq_v rfl (v_assign rfl) rfl ?_
  refine sq_end ?_
  refine qs_n ?_
  refine wp_rt ?_
  exact qs_ret1 rfl rfl (fin_t 0 (i := 3) rfl rfl rfl (by rw [elt_eq (by omega) hi] at r22; simpa using r22))
/-- The slice with that element. -/
def eltV (c : Value) (w i : Int) : Value := subV c (i * w).toNat ((i + 1) * w).toNat 1
theorem eltV_read {xs : List Int} {c : Value} {h : PH} {w i : Int} (r : IntsR xs c h) (hw : 0 ≤ w) (hi : 0 ≤ i) (hl : i * w + w ≤ xs.length) : IntsR (elt xs w i) (eltV c w i) h := by
  have e : (i + 1) * w = i * w + w := by rw [Int.add_mul, Int.one_mul]
  have hm := Int.mul_nonneg hi hw
  have := r.sub (lo := (i * w).toNat) (hi := (i * w + w).toNat) (by omega) (by omega)
  rw [elt_eq hw hi] at this
  unfold eltV
  rw [e]
  exact this
theorem ct_i_rawElem (k p n i : Int) (xs : List Int) (a b c : Value) (w : World) (h : ringL k p n) (r : IntsR xs c (hp w)) (hi : 0 ≤ i) (hl : i * widthI k n + widthI k n ≤ xs.length) (hs : xs.length ≤ 17592186044416) :
    Calls Try.prog 139 [ringV k p n, tenV a b c, num i].toArray w (RetV w (eltV c (widthI k n) i)) := by
  have hw := width_range h
  have hm : 0 ≤ i * widthI k n := Int.mul_nonneg hi (by omega)
  have e : (i + 1) * widthI k n = i * widthI k n + widthI k n := by rw [Int.add_mul, Int.one_mul]
  have hi2 : i ≤ 17592186044416 := by have := Int.mul_le_mul_of_nonneg_left hw.1 hi; omega
  refine calls_in Try.func139 rfl Try.ntmps139 rfl (Sat.start w) ?_
  refine wp_sc ?_
  refine wp_sq ?_
  refine sq_x rfl (x_box rfl rfl) rfl ?_; rintro _ _ ⟨b3, rfl, rfl⟩
  refine sq_x rfl (x_box rfl rfl) rfl ?_; rintro _ _ ⟨b4, rfl, rfl⟩
  refine sq_v rfl (v_assign rfl) rfl ?_
  refine sq_end ?_
  refine qs_n ?_
  refine wp_sc ?_
  refine wp_sq ?_
  refine sq_v rfl (v_loadNB 1 ty_30 rfl rfl rfl rfl) rfl ?_
  refine sq_u rfl (x_callv rfl en_175 (fun w s => ct_i_rawWidth _ _ _ w)) rfl ?_
  refine sq_v rfl (v_assign rfl) rfl ?_
  refine sq_end ?_
  refine qs_n ?_
  refine wp_sc ?_
  refine wp_sq ?_
  refine sq_v rfl (v_fieldAddr fd_28_2 ty_24 (by decide) rfl) rfl ?_
  refine sq_v rfl (v_loadB 0 ty_24 rfl rfl rfl) rfl ?_
  refine sq_v rfl (v_move rfl) rfl ?_
  refine sq_v rfl (v_move rfl) rfl ?_
  refine sq_v rfl (v_mul rfl rfl ((by unfold I64; omega))) rfl ?_
  refine sq_v rfl (v_move rfl) rfl ?_
  refine sq_v rfl (v_add rfl rfl ((by unfold I64; omega))) rfl ?_
  refine sq_v rfl (v_move rfl) rfl ?_
  refine sq_v rfl (v_mul rfl rfl ((by unfold I64; omega))) rfl ?_
  refine sq_v rfl (v_sliceLH Try.underlying24 ty_3 rfl rfl rfl  r (by omega) (by omega) (by omega)) rfl ?_
  refine sq_v rfl (v_assign rfl) rfl ?_
  refine sq_end ?_
  refine qs_n ?_
  refine wp_rt ?_
  exact qs_ret1 rfl rfl (fin_v (i := 2) rfl)
theorem ct_i_bitElem (b : Bool) (w : World) : Calls Try.prog 221 [.bool b].toArray w (Ret w emp (IntsO [if b then 1 else 0])) := by
  refine calls_in Try.func221 rfl Try.ntmps221 rfl (Sat.start w) ?_
  refine wp_sc ?_
  refine wp_sq ?_
  refine sq_v rfl (v_assign rfl) rfl ?_
  refine sq_end ?_
  refine qs_n ?_
  refine wp_sc ?_
  refine wp_sc ?_
  refine wp_sq ?_
  refine sq_v rfl (v_move rfl) rfl ?_
  refine sq_end ?_
  refine qs_n ?_
  refine wp_cb _ rfl (fun c3 => ?_) (fun c3 => ?_)
  · refine wp_sc ?_
    refine wp_sq ?_
    refine sq_x rfl (x_buildS [num (1)] Try.underlying24 ty_3 (by decide) rfl rfl rfl (by decide) (by decide) (by intro v hv; simp at hv; rcases hv with rfl <;> rfl)) rfl ?_; intro v4 h4 (r4 : IntsO [1] v4 h4)
    refine sq_v rfl (v_assign rfl) rfl ?_
    refine sq_end ?_
    refine qs_n ?_
    refine wp_rt ?_
    refine qs_r ?_
    exact qs_ret1 rfl rfl (fin_t 0 (i := 1) rfl rfl rfl (by rw [c3]; exact r4))
  · refine wp_sk ?_
    refine qs_n ?_
    refine wp_sc ?_
    refine wp_sq ?_
    refine sq_x rfl (x_buildS [num (0)] Try.underlying24 ty_3 (by decide) rfl rfl rfl (by decide) (by decide) (by intro v hv; simp at hv; rcases hv with rfl <;> rfl)) rfl ?_; intro v5 h5 (r5 : IntsO [0] v5 h5)
    refine sq_v rfl (v_assign rfl) rfl ?_
    refine sq_end ?_
    refine qs_n ?_
    refine wp_rt ?_
    exact qs_ret1 rfl rfl (fin_t 0 (i := 1) rfl rfl rfl (by rw [c3]; exact r5))
end Go.Proofs.Ytikeobneipjfnaa
