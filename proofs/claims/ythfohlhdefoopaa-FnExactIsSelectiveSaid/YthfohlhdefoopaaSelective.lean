/-
  IsSelective, in the program and in the reference, answers the same.
  Conditions: none.
-/
import Derived.Test.YthfohlhdefoopaaRing
namespace Go.Proofs.Ythfohlhdefoopaa
open Go.RowKit
noncomputable def selB (k m p : Int) : Bool := ringB k m p && (decide (k = 1) || decide (k = 4) || decide (k = 5))
theorem ct_s_IsSelective (k m p : Int) (w : World) : Calls Try.prog 8 [ringV k m p].toArray w (RetV w (.bool (selB k m p))) := by
  refine calls_in Try.func8 rfl Try.ntmps8 rfl (Sat.start w) ?_
  refine wp_sc ?_
  refine wp_sq ?_
  refine sq_x rfl (x_box rfl rfl) rfl ?_; rintro _ _ ⟨b1, rfl, rfl⟩
  refine sq_v rfl (v_assign rfl) rfl ?_
  refine sq_end ?_
  refine qs_n ?_
  refine wp_sc ?_
  refine wp_sq ?_
  refine sq_v rfl (v_loadNB 0 ty_27 rfl rfl rfl rfl) rfl ?_
  refine sq_u rfl (x_callv rfl en_21 (fun w s => ct_s_RingOk _ _ _ w)) rfl ?_
  refine sq_bb 4 rfl (fun c4 => ?_) (fun c4 => ?_)
  · refine sq_v rfl (v_move rfl) rfl ?_
    refine sq_v rfl (v_fieldAddr fd_27_0 ty_3 (by decide) rfl) rfl ?_
    refine sq_v rfl (v_loadB 0 ty_3 rfl rfl rfl) rfl ?_
    refine sq_v rfl (v_eql rfl rfl) rfl ?_
    refine sq_bd 8 rfl (fun c8 => ?_) (fun c8 => ?_)
    · refine sq_v rfl (v_move rfl) rfl ?_
      refine sq_s rfl rfl ?_
      refine sq_s rfl rfl ?_
      refine sq_s rfl rfl ?_
      refine sq_v rfl (v_pickt rfl rfl) rfl ?_
      refine sq_v rfl (v_move rfl) rfl ?_
      refine sq_s rfl rfl ?_
      refine sq_s rfl rfl ?_
      refine sq_s rfl rfl ?_
      refine sq_v rfl (v_pickt rfl rfl) rfl ?_
      refine sq_v rfl (v_pickt rfl rfl) rfl ?_
      refine sq_v rfl (v_assign rfl) rfl ?_
      refine sq_end ?_
      refine qs_n ?_
      refine wp_rt ?_
      exact qs_ret1 rfl rfl (fin_q (i := 1) rfl (by rw [selB, c4]; simp [*]))
    · refine sq_v rfl (v_move rfl) rfl ?_
      refine sq_v rfl (v_fieldAddr fd_27_0 ty_3 (by decide) rfl) rfl ?_
      refine sq_v rfl (v_loadB 0 ty_3 rfl rfl rfl) rfl ?_
      refine sq_v rfl (v_eql rfl rfl) rfl ?_
      refine sq_v rfl (v_pickf rfl rfl) rfl ?_
      refine sq_bd 13 rfl (fun c13 => ?_) (fun c13 => ?_)
      · refine sq_v rfl (v_move rfl) rfl ?_
        refine sq_s rfl rfl ?_
        refine sq_s rfl rfl ?_
        refine sq_s rfl rfl ?_
        refine sq_v rfl (v_pickt rfl rfl) rfl ?_
        refine sq_v rfl (v_pickt rfl rfl) rfl ?_
        refine sq_v rfl (v_assign rfl) rfl ?_
        refine sq_end ?_
        refine qs_n ?_
        refine wp_rt ?_
        exact qs_ret1 rfl rfl (fin_q (i := 1) rfl (by rw [selB, c4]; simp [*]))
      · refine sq_v rfl (v_move rfl) rfl ?_
        refine sq_v rfl (v_fieldAddr fd_27_0 ty_3 (by decide) rfl) rfl ?_
        refine sq_v rfl (v_loadB 0 ty_3 rfl rfl rfl) rfl ?_
        refine sq_v rfl (v_eql rfl rfl) rfl ?_
        refine sq_v rfl (v_pickf rfl rfl) rfl ?_
        refine sq_v rfl (v_pickt rfl rfl) rfl ?_
        refine sq_v rfl (v_assign rfl) rfl ?_
        refine sq_end ?_
        refine qs_n ?_
        refine wp_rt ?_
        exact qs_ret1 rfl rfl (fin_q (i := 1) rfl (by rw [selB, c4]; simp [*]))
  · refine sq_v rfl (v_move rfl) rfl ?_
    refine sq_s rfl rfl ?_
    refine sq_s rfl rfl ?_
    refine sq_s rfl rfl ?_
    refine sq_s rfl rfl ?_
    refine sq_s rfl rfl ?_
    refine sq_s rfl rfl ?_
    refine sq_s rfl rfl ?_
    refine sq_s rfl rfl ?_
    refine sq_s rfl rfl ?_
    refine sq_s rfl rfl ?_
    refine sq_s rfl rfl ?_
    refine sq_s rfl rfl ?_
    refine sq_s rfl rfl ?_
    refine sq_v rfl (v_pickf rfl rfl) rfl ?_
    refine sq_v rfl (v_assign rfl) rfl ?_
    refine sq_end ?_
    refine qs_n ?_
    refine wp_rt ?_
    exact qs_ret1 rfl rfl (fin_q (i := 1) rfl (by rw [selB, c4]; simp [*]))
theorem ct_i_IsSelective (k m p : Int) (w : World) : Calls Try.prog 10 [ringV k m p].toArray w (RetV w (.bool (selB k m p))) := by
  refine calls_in Try.func10 rfl Try.ntmps10 rfl (Sat.start w) ?_
  refine wp_sc ?_
  refine wp_sq ?_
  refine sq_x rfl (x_box rfl rfl) rfl ?_; rintro _ _ ⟨b1, rfl, rfl⟩
  refine sq_v rfl (v_assign rfl) rfl ?_
  refine sq_end ?_
  refine qs_n ?_
  refine wp_sc ?_
  refine wp_sq ?_
  refine sq_v rfl (v_loadNB 0 ty_27 rfl rfl rfl rfl) rfl ?_
  refine sq_u rfl (x_callv rfl en_22 (fun w s => ct_i_RingOk _ _ _ w)) rfl ?_
  refine sq_bb 4 rfl (fun c4 => ?_) (fun c4 => ?_)
  · refine sq_v rfl (v_move rfl) rfl ?_
    refine sq_v rfl (v_fieldAddr fd_27_0 ty_3 (by decide) rfl) rfl ?_
    refine sq_v rfl (v_loadB 0 ty_3 rfl rfl rfl) rfl ?_
    refine sq_v rfl (v_eql rfl rfl) rfl ?_
    refine sq_bd 8 rfl (fun c8 => ?_) (fun c8 => ?_)
    · refine sq_v rfl (v_move rfl) rfl ?_
      refine sq_s rfl rfl ?_
      refine sq_s rfl rfl ?_
      refine sq_s rfl rfl ?_
      refine sq_v rfl (v_pickt rfl rfl) rfl ?_
      refine sq_v rfl (v_move rfl) rfl ?_
      refine sq_s rfl rfl ?_
      refine sq_s rfl rfl ?_
      refine sq_s rfl rfl ?_
      refine sq_v rfl (v_pickt rfl rfl) rfl ?_
      refine sq_v rfl (v_pickt rfl rfl) rfl ?_
      refine sq_v rfl (v_assign rfl) rfl ?_
      refine sq_end ?_
      refine qs_n ?_
      refine wp_rt ?_
      exact qs_ret1 rfl rfl (fin_q (i := 1) rfl (by rw [selB, c4]; simp [*]))
    · refine sq_v rfl (v_move rfl) rfl ?_
      refine sq_v rfl (v_fieldAddr fd_27_0 ty_3 (by decide) rfl) rfl ?_
      refine sq_v rfl (v_loadB 0 ty_3 rfl rfl rfl) rfl ?_
      refine sq_v rfl (v_eql rfl rfl) rfl ?_
      refine sq_v rfl (v_pickf rfl rfl) rfl ?_
      refine sq_bd 13 rfl (fun c13 => ?_) (fun c13 => ?_)
      · refine sq_v rfl (v_move rfl) rfl ?_
        refine sq_s rfl rfl ?_
        refine sq_s rfl rfl ?_
        refine sq_s rfl rfl ?_
        refine sq_v rfl (v_pickt rfl rfl) rfl ?_
        refine sq_v rfl (v_pickt rfl rfl) rfl ?_
        refine sq_v rfl (v_assign rfl) rfl ?_
        refine sq_end ?_
        refine qs_n ?_
        refine wp_rt ?_
        exact qs_ret1 rfl rfl (fin_q (i := 1) rfl (by rw [selB, c4]; simp [*]))
      · refine sq_v rfl (v_move rfl) rfl ?_
        refine sq_v rfl (v_fieldAddr fd_27_0 ty_3 (by decide) rfl) rfl ?_
        refine sq_v rfl (v_loadB 0 ty_3 rfl rfl rfl) rfl ?_
        refine sq_v rfl (v_eql rfl rfl) rfl ?_
        refine sq_v rfl (v_pickf rfl rfl) rfl ?_
        refine sq_v rfl (v_pickt rfl rfl) rfl ?_
        refine sq_v rfl (v_assign rfl) rfl ?_
        refine sq_end ?_
        refine qs_n ?_
        refine wp_rt ?_
        exact qs_ret1 rfl rfl (fin_q (i := 1) rfl (by rw [selB, c4]; simp [*]))
  · refine sq_v rfl (v_move rfl) rfl ?_
    refine sq_s rfl rfl ?_
    refine sq_s rfl rfl ?_
    refine sq_s rfl rfl ?_
    refine sq_s rfl rfl ?_
    refine sq_s rfl rfl ?_
    refine sq_s rfl rfl ?_
    refine sq_s rfl rfl ?_
    refine sq_s rfl rfl ?_
    refine sq_s rfl rfl ?_
    refine sq_s rfl rfl ?_
    refine sq_s rfl rfl ?_
    refine sq_s rfl rfl ?_
    refine sq_s rfl rfl ?_
    refine sq_v rfl (v_pickf rfl rfl) rfl ?_
    refine sq_v rfl (v_assign rfl) rfl ?_
    refine sq_end ?_
    refine qs_n ?_
    refine wp_rt ?_
    exact qs_ret1 rfl rfl (fin_q (i := 1) rfl (by rw [selB, c4]; simp [*]))
theorem ct_l_FnExactIsSelective (k m p : Int) (w : World) : Calls Try.prog 4 [ringV k m p].toArray w (RetV w (.bool true)) := by
  refine calls_in Try.func4 rfl Try.ntmps4 rfl (Sat.start w) ?_
  refine wp_sc ?_
  refine wp_sq ?_
  refine sq_x rfl (x_box rfl rfl) rfl ?_; rintro _ _ ⟨b1, rfl, rfl⟩
  refine sq_v rfl (v_assign rfl) rfl ?_
  refine sq_end ?_
  refine qs_n ?_
  refine wp_sc ?_
  refine wp_sq ?_
  refine sq_v rfl (v_loadNB 0 ty_25 rfl rfl rfl rfl) rfl ?_
  refine sq_u rfl (x_callv rfl en_9 (fun w s => ct_l_toRing _ _ _ w)) rfl ?_
  refine sq_u rfl (x_callv rfl en_8 (fun w s => ct_s_IsSelective _ _ _ w)) rfl ?_
  refine sq_v rfl (v_assign rfl) rfl ?_
  refine sq_end ?_
  refine qs_n ?_
  refine wp_sc ?_
  refine wp_sq ?_
  refine sq_v rfl (v_loadNB 0 ty_25 rfl rfl rfl rfl) rfl ?_
  refine sq_u rfl (x_callv rfl en_9 (fun w s => ct_l_toRing _ _ _ w)) rfl ?_
  refine sq_u rfl (x_callv rfl en_10 (fun w s => ct_i_IsSelective _ _ _ w)) rfl ?_
  refine sq_v rfl (v_assign rfl) rfl ?_
  refine sq_end ?_
  refine qs_n ?_
  refine wp_sc ?_
  refine wp_sc ?_
  refine wp_sq ?_
  refine sq_v rfl (v_move rfl) rfl ?_
  refine sq_v rfl (v_move rfl) rfl ?_
  refine sq_v rfl (v_neqb Try.underlying4 rfl rfl) rfl ?_
  refine sq_end ?_
  refine qs_n ?_
  refine wp_cd rfl (fun c13 => ?_) (fun c13 => ?_)
  · refine wp_sc ?_
    refine wp_sq ?_
    refine sq_v rfl (v_assign rfl) rfl ?_
    refine sq_end ?_
    refine qs_n ?_
    refine wp_rt ?_
    refine qs_r ?_
    exact absurd rfl c13
  · refine wp_sk ?_
    refine qs_n ?_
    refine wp_sc ?_
    refine wp_sq ?_
    refine sq_v rfl (v_assign rfl) rfl ?_
    refine sq_end ?_
    refine qs_n ?_
    refine wp_rt ?_
    exact qs_ret1 rfl rfl (fin_q (i := 1) rfl rfl)
end Go.Proofs.Ythfohlhdefoopaa
