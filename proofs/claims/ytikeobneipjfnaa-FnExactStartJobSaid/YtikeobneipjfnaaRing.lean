/-
  RingOk, in the program and in the reference, answers whether a ring's row is in order; a ring as the law hands it over.
  Conditions: none.
-/
import Derived.Test.YtikeobneipjfnaaPrime
namespace Go.Proofs.Ytikeobneipjfnaa
set_option maxRecDepth 100000
open Go.RowKit

def ringL (k m p : Int) : Prop := (k = 1 ∧ m = 0 ∧ p = 0) ∨ (k = 2 ∧ primeB m = true ∧ p = 0) ∨ ((k = 3 ∨ k = 4 ∨ k = 5) ∧ (1 ≤ m ∧ m ≤ 1000000) ∧ p = 0) ∨
  (k = 6 ∧ m = 0 ∧ 1 ≤ p ∧ p ≤ 20) ∨ (k = 7 ∧ primeB m = true ∧ 1 ≤ p ∧ p ≤ 6) ∨ (k = 8 ∧ primeB m = true ∧ m ≠ 2 ∧ p = 0)
open Classical in
noncomputable def ringB (k m p : Int) : Bool := decide (ringL k m p)
theorem rb {x : Bool} {k m p : Int} (h : x = true ↔ ringL k m p) : Value.bool x = .bool (ringB k m p) := by
  congr 1
  cases x <;> simp [ringB] at h ⊢ <;> exact h

abbrev ringV (k m p : Int) : Value := .agg [num k, num m, num p].toArray
theorem ct_s_RingOk (k m p : Int) (w : World) : Calls Try.prog 169 [ringV k m p].toArray w (RetV w (.bool (ringB k m p))) := by
  refine calls_in Try.func169 rfl Try.ntmps169 rfl (Sat.start w) ?_
  refine wp_sc ?_
  refine wp_sq ?_
  refine sq_x rfl (x_box rfl rfl) rfl ?_; rintro _ _ ⟨b1, rfl, rfl⟩
  refine sq_v rfl (v_assign rfl) rfl ?_
  refine sq_end ?_
  refine qs_n ?_
  refine wp_sc ?_
  refine wp_sc ?_
  refine wp_sq ?_
  refine sq_v rfl (v_fieldAddr fd_30_0 ty_3 (by decide) rfl) rfl ?_
  refine sq_v rfl (v_loadB 0 ty_3 rfl rfl rfl) rfl ?_
  refine sq_end ?_
  refine qs_n ?_
  refine wp_bl ?_
  refine wp_sc ?_
  refine wp_sq ?_
  refine sq_v rfl (v_eql rfl rfl) rfl ?_
  refine sq_v rfl (v_assign rfl) rfl ?_
  refine sq_end ?_
  refine qs_n ?_
  refine wp_cd rfl (fun c5 => ?_) (fun c5 => ?_)
  · refine wp_sc ?_
    refine wp_sq ?_
    refine sq_v rfl (v_fieldAddr fd_30_1 ty_3 (by decide) rfl) rfl ?_
    refine sq_v rfl (v_loadB 0 ty_3 rfl rfl rfl) rfl ?_
    refine sq_v rfl (v_eql rfl rfl) rfl ?_
    refine sq_bd 9 rfl (fun c9 => ?_) (fun c9 => ?_)
    · refine sq_v rfl (v_move rfl) rfl ?_
      refine sq_v rfl (v_fieldAddr fd_30_2 ty_3 (by decide) rfl) rfl ?_
      refine sq_v rfl (v_loadB 0 ty_3 rfl rfl rfl) rfl ?_
      refine sq_v rfl (v_eql rfl rfl) rfl ?_
      refine sq_v rfl (v_pickt rfl rfl) rfl ?_
      refine sq_v rfl (v_assign rfl) rfl ?_
      refine sq_end ?_
      refine qs_n ?_
      refine wp_rt ?_
      refine qs_br ?_
      refine qs_r ?_
      exact qs_ret1 rfl rfl (fin_q (i := 1) rfl (rb (by simp [ringL, *] <;> omega)))
    · refine sq_v rfl (v_move rfl) rfl ?_
      refine sq_s rfl rfl ?_
      refine sq_s rfl rfl ?_
      refine sq_s rfl rfl ?_
      refine sq_v rfl (v_pickf rfl rfl) rfl ?_
      refine sq_v rfl (v_assign rfl) rfl ?_
      refine sq_end ?_
      refine qs_n ?_
      refine wp_rt ?_
      refine qs_br ?_
      refine qs_r ?_
      exact qs_ret1 rfl rfl (fin_q (i := 1) rfl (rb (by simp [ringL, *] <;> omega)))
  · refine wp_sc ?_
    refine wp_sq ?_
    refine sq_v rfl (v_eql rfl rfl) rfl ?_
    refine sq_v rfl (v_assign rfl) rfl ?_
    refine sq_end ?_
    refine qs_n ?_
    refine wp_cd rfl (fun c15 => ?_) (fun c15 => ?_)
    · refine wp_sc ?_
      refine wp_sq ?_
      refine sq_v rfl (v_fieldAddr fd_30_1 ty_3 (by decide) rfl) rfl ?_
      refine sq_v rfl (v_loadB 0 ty_3 rfl rfl rfl) rfl ?_
      refine sq_u rfl (x_callv rfl en_214 (fun w s => ct_s_IsPrime _ w)) rfl ?_
      refine sq_bb 19 rfl (fun c19 => ?_) (fun c19 => ?_)
      · refine sq_v rfl (v_move rfl) rfl ?_
        refine sq_v rfl (v_fieldAddr fd_30_2 ty_3 (by decide) rfl) rfl ?_
        refine sq_v rfl (v_loadB 0 ty_3 rfl rfl rfl) rfl ?_
        refine sq_v rfl (v_eql rfl rfl) rfl ?_
        refine sq_v rfl (v_pickt rfl rfl) rfl ?_
        refine sq_v rfl (v_assign rfl) rfl ?_
        refine sq_end ?_
        refine qs_n ?_
        refine wp_rt ?_
        refine qs_br ?_
        refine qs_r ?_
        exact qs_ret1 rfl rfl (fin_q (i := 1) rfl (rb (by simp [ringL, *] <;> omega)))
      · refine sq_v rfl (v_move rfl) rfl ?_
        refine sq_s rfl rfl ?_
        refine sq_s rfl rfl ?_
        refine sq_s rfl rfl ?_
        refine sq_v rfl (v_pickf rfl rfl) rfl ?_
        refine sq_v rfl (v_assign rfl) rfl ?_
        refine sq_end ?_
        refine qs_n ?_
        refine wp_rt ?_
        refine qs_br ?_
        refine qs_r ?_
        exact qs_ret1 rfl rfl (fin_q (i := 1) rfl (rb (by simp [ringL, *] <;> omega)))
    · refine wp_sc ?_
      refine wp_sc ?_
      refine wp_sq ?_
      refine sq_v rfl (v_eql rfl rfl) rfl ?_
      refine sq_v rfl (v_assign rfl) rfl ?_
      refine sq_end ?_
      refine qs_n ?_
      refine wp_cSd rfl (fun c25 => ?_) (fun c25 => ?_)
      · refine wp_sk ?_
        refine qs_n ?_
        refine wp_ct rfl ?_
        refine wp_sc ?_
        refine wp_sq ?_
        refine sq_v rfl (v_fieldAddr fd_30_1 ty_3 (by decide) rfl) rfl ?_
        refine sq_v rfl (v_loadB 0 ty_3 rfl rfl rfl) rfl ?_
        refine sq_u rfl (x_callv rfl en_95 (fun w s => ct_s_l01In _ _ _ w)) rfl ?_
        refine sq_bd 31 rfl (fun c31 => ?_) (fun c31 => ?_)
        · refine sq_v rfl (v_move rfl) rfl ?_
          refine sq_v rfl (v_fieldAddr fd_30_2 ty_3 (by decide) rfl) rfl ?_
          refine sq_v rfl (v_loadB 0 ty_3 rfl rfl rfl) rfl ?_
          refine sq_v rfl (v_eql rfl rfl) rfl ?_
          refine sq_v rfl (v_pickt rfl rfl) rfl ?_
          refine sq_v rfl (v_assign rfl) rfl ?_
          refine sq_end ?_
          refine qs_n ?_
          refine wp_rt ?_
          refine qs_br ?_
          refine qs_r ?_
          exact qs_ret1 rfl rfl (fin_q (i := 1) rfl (rb (by simp [ringL, *] <;> omega)))
        · refine sq_v rfl (v_move rfl) rfl ?_
          refine sq_s rfl rfl ?_
          refine sq_s rfl rfl ?_
          refine sq_s rfl rfl ?_
          refine sq_v rfl (v_pickf rfl rfl) rfl ?_
          refine sq_v rfl (v_assign rfl) rfl ?_
          refine sq_end ?_
          refine qs_n ?_
          refine wp_rt ?_
          refine qs_br ?_
          refine qs_r ?_
          exact qs_ret1 rfl rfl (fin_q (i := 1) rfl (rb (by simp [ringL, *] <;> omega)))
      · refine wp_sc ?_
        refine wp_sq ?_
        refine sq_v rfl (v_eql rfl rfl) rfl ?_
        refine sq_v rfl (v_assign rfl) rfl ?_
        refine sq_end ?_
        refine qs_n ?_
        refine wp_cSd rfl (fun c25 => ?_) (fun c25 => ?_)
        · refine wp_sk ?_
          refine qs_n ?_
          refine wp_ct rfl ?_
          refine wp_sc ?_
          refine wp_sq ?_
          refine sq_v rfl (v_fieldAddr fd_30_1 ty_3 (by decide) rfl) rfl ?_
          refine sq_v rfl (v_loadB 0 ty_3 rfl rfl rfl) rfl ?_
          refine sq_u rfl (x_callv rfl en_95 (fun w s => ct_s_l01In _ _ _ w)) rfl ?_
          refine sq_bd 31 rfl (fun c31 => ?_) (fun c31 => ?_)
          · refine sq_v rfl (v_move rfl) rfl ?_
            refine sq_v rfl (v_fieldAddr fd_30_2 ty_3 (by decide) rfl) rfl ?_
            refine sq_v rfl (v_loadB 0 ty_3 rfl rfl rfl) rfl ?_
            refine sq_v rfl (v_eql rfl rfl) rfl ?_
            refine sq_v rfl (v_pickt rfl rfl) rfl ?_
            refine sq_v rfl (v_assign rfl) rfl ?_
            refine sq_end ?_
            refine qs_n ?_
            refine wp_rt ?_
            refine qs_br ?_
            refine qs_r ?_
            exact qs_ret1 rfl rfl (fin_q (i := 1) rfl (rb (by simp [ringL, *] <;> omega)))
          · refine sq_v rfl (v_move rfl) rfl ?_
            refine sq_s rfl rfl ?_
            refine sq_s rfl rfl ?_
            refine sq_s rfl rfl ?_
            refine sq_v rfl (v_pickf rfl rfl) rfl ?_
            refine sq_v rfl (v_assign rfl) rfl ?_
            refine sq_end ?_
            refine qs_n ?_
            refine wp_rt ?_
            refine qs_br ?_
            refine qs_r ?_
            exact qs_ret1 rfl rfl (fin_q (i := 1) rfl (rb (by simp [ringL, *] <;> omega)))
        · refine wp_sq ?_
          refine sq_v rfl (v_eql rfl rfl) rfl ?_
          refine sq_v rfl (v_assign rfl) rfl ?_
          refine sq_end ?_
          refine qs_n ?_
          refine wp_cSd rfl (fun c25 => ?_) (fun c25 => ?_)
          · refine wp_sc ?_
            refine wp_sq ?_
            refine sq_v rfl (v_fieldAddr fd_30_1 ty_3 (by decide) rfl) rfl ?_
            refine sq_v rfl (v_loadB 0 ty_3 rfl rfl rfl) rfl ?_
            refine sq_u rfl (x_callv rfl en_95 (fun w s => ct_s_l01In _ _ _ w)) rfl ?_
            refine sq_bd 31 rfl (fun c31 => ?_) (fun c31 => ?_)
            · refine sq_v rfl (v_move rfl) rfl ?_
              refine sq_v rfl (v_fieldAddr fd_30_2 ty_3 (by decide) rfl) rfl ?_
              refine sq_v rfl (v_loadB 0 ty_3 rfl rfl rfl) rfl ?_
              refine sq_v rfl (v_eql rfl rfl) rfl ?_
              refine sq_v rfl (v_pickt rfl rfl) rfl ?_
              refine sq_v rfl (v_assign rfl) rfl ?_
              refine sq_end ?_
              refine qs_n ?_
              refine wp_rt ?_
              refine qs_br ?_
              refine qs_r ?_
              exact qs_ret1 rfl rfl (fin_q (i := 1) rfl (rb (by simp [ringL, *] <;> omega)))
            · refine sq_v rfl (v_move rfl) rfl ?_
              refine sq_s rfl rfl ?_
              refine sq_s rfl rfl ?_
              refine sq_s rfl rfl ?_
              refine sq_v rfl (v_pickf rfl rfl) rfl ?_
              refine sq_v rfl (v_assign rfl) rfl ?_
              refine sq_end ?_
              refine qs_n ?_
              refine wp_rt ?_
              refine qs_br ?_
              refine qs_r ?_
              exact qs_ret1 rfl rfl (fin_q (i := 1) rfl (rb (by simp [ringL, *] <;> omega)))
          · refine wp_sc ?_
            refine wp_sq ?_
            refine sq_v rfl (v_eql rfl rfl) rfl ?_
            refine sq_v rfl (v_assign rfl) rfl ?_
            refine sq_end ?_
            refine qs_n ?_
            refine wp_cd rfl (fun c37 => ?_) (fun c37 => ?_)
            · refine wp_sc ?_
              refine wp_sq ?_
              refine sq_v rfl (v_fieldAddr fd_30_1 ty_3 (by decide) rfl) rfl ?_
              refine sq_v rfl (v_loadB 0 ty_3 rfl rfl rfl) rfl ?_
              refine sq_v rfl (v_eql rfl rfl) rfl ?_
              refine sq_bd 41 rfl (fun c41 => ?_) (fun c41 => ?_)
              · refine sq_v rfl (v_move rfl) rfl ?_
                refine sq_v rfl (v_fieldAddr fd_30_2 ty_3 (by decide) rfl) rfl ?_
                refine sq_v rfl (v_loadB 0 ty_3 rfl rfl rfl) rfl ?_
                refine sq_u rfl (x_callv rfl en_95 (fun w s => ct_s_l01In _ _ _ w)) rfl ?_
                refine sq_v rfl (v_pickt rfl rfl) rfl ?_
                refine sq_v rfl (v_assign rfl) rfl ?_
                refine sq_end ?_
                refine qs_n ?_
                refine wp_rt ?_
                refine qs_br ?_
                refine qs_r ?_
                exact qs_ret1 rfl rfl (fin_q (i := 1) rfl (rb (by simp [ringL, *] <;> omega)))
              · refine sq_v rfl (v_move rfl) rfl ?_
                refine sq_s rfl rfl ?_
                refine sq_s rfl rfl ?_
                refine sq_s rfl rfl ?_
                refine sq_v rfl (v_pickf rfl rfl) rfl ?_
                refine sq_v rfl (v_assign rfl) rfl ?_
                refine sq_end ?_
                refine qs_n ?_
                refine wp_rt ?_
                refine qs_br ?_
                refine qs_r ?_
                exact qs_ret1 rfl rfl (fin_q (i := 1) rfl (rb (by simp [ringL, *] <;> omega)))
            · refine wp_sc ?_
              refine wp_sq ?_
              refine sq_v rfl (v_eql rfl rfl) rfl ?_
              refine sq_v rfl (v_assign rfl) rfl ?_
              refine sq_end ?_
              refine qs_n ?_
              refine wp_cd rfl (fun c47 => ?_) (fun c47 => ?_)
              · refine wp_sc ?_
                refine wp_sq ?_
                refine sq_v rfl (v_fieldAddr fd_30_1 ty_3 (by decide) rfl) rfl ?_
                refine sq_v rfl (v_loadB 0 ty_3 rfl rfl rfl) rfl ?_
                refine sq_u rfl (x_callv rfl en_214 (fun w s => ct_s_IsPrime _ w)) rfl ?_
                refine sq_bb 51 rfl (fun c51 => ?_) (fun c51 => ?_)
                · refine sq_v rfl (v_move rfl) rfl ?_
                  refine sq_v rfl (v_fieldAddr fd_30_2 ty_3 (by decide) rfl) rfl ?_
                  refine sq_v rfl (v_loadB 0 ty_3 rfl rfl rfl) rfl ?_
                  refine sq_u rfl (x_callv rfl en_95 (fun w s => ct_s_l01In _ _ _ w)) rfl ?_
                  refine sq_v rfl (v_pickt rfl rfl) rfl ?_
                  refine sq_v rfl (v_assign rfl) rfl ?_
                  refine sq_end ?_
                  refine qs_n ?_
                  refine wp_rt ?_
                  refine qs_br ?_
                  refine qs_r ?_
                  exact qs_ret1 rfl rfl (fin_q (i := 1) rfl (rb (by simp [ringL, *] <;> omega)))
                · refine sq_v rfl (v_move rfl) rfl ?_
                  refine sq_s rfl rfl ?_
                  refine sq_s rfl rfl ?_
                  refine sq_s rfl rfl ?_
                  refine sq_v rfl (v_pickf rfl rfl) rfl ?_
                  refine sq_v rfl (v_assign rfl) rfl ?_
                  refine sq_end ?_
                  refine qs_n ?_
                  refine wp_rt ?_
                  refine qs_br ?_
                  refine qs_r ?_
                  exact qs_ret1 rfl rfl (fin_q (i := 1) rfl (rb (by simp [ringL, *] <;> omega)))
              · refine wp_sc ?_
                refine wp_sq ?_
                refine sq_v rfl (v_eql rfl rfl) rfl ?_
                refine sq_v rfl (v_assign rfl) rfl ?_
                refine sq_end ?_
                refine qs_n ?_
                refine wp_cd rfl (fun c57 => ?_) (fun c57 => ?_)
                · refine wp_sc ?_
                  refine wp_sq ?_
                  refine sq_v rfl (v_fieldAddr fd_30_1 ty_3 (by decide) rfl) rfl ?_
                  refine sq_v rfl (v_loadB 0 ty_3 rfl rfl rfl) rfl ?_
                  refine sq_u rfl (x_callv rfl en_214 (fun w s => ct_s_IsPrime _ w)) rfl ?_
                  refine sq_bb 61 rfl (fun c61 => ?_) (fun c61 => ?_)
                  · refine sq_v rfl (v_move rfl) rfl ?_
                    refine sq_v rfl (v_fieldAddr fd_30_1 ty_3 (by decide) rfl) rfl ?_
                    refine sq_v rfl (v_loadB 0 ty_3 rfl rfl rfl) rfl ?_
                    refine sq_v rfl (v_gtr rfl rfl) rfl ?_
                    refine sq_v rfl (v_pickt rfl rfl) rfl ?_
                    refine sq_bd 66 rfl (fun c66 => ?_) (fun c66 => ?_)
                    · refine sq_v rfl (v_move rfl) rfl ?_
                      refine sq_v rfl (v_fieldAddr fd_30_2 ty_3 (by decide) rfl) rfl ?_
                      refine sq_v rfl (v_loadB 0 ty_3 rfl rfl rfl) rfl ?_
                      refine sq_v rfl (v_eql rfl rfl) rfl ?_
                      refine sq_v rfl (v_pickt rfl rfl) rfl ?_
                      refine sq_v rfl (v_assign rfl) rfl ?_
                      refine sq_end ?_
                      refine qs_n ?_
                      refine wp_rt ?_
                      refine qs_br ?_
                      refine qs_r ?_
                      exact qs_ret1 rfl rfl (fin_q (i := 1) rfl (rb (by first | (have := prime2 c61; simp [ringL, *] <;> omega) | (simp [ringL, *] <;> omega) | simp [ringL, *])))
                    · refine sq_v rfl (v_move rfl) rfl ?_
                      refine sq_s rfl rfl ?_
                      refine sq_s rfl rfl ?_
                      refine sq_s rfl rfl ?_
                      refine sq_v rfl (v_pickf rfl rfl) rfl ?_
                      refine sq_v rfl (v_assign rfl) rfl ?_
                      refine sq_end ?_
                      refine qs_n ?_
                      refine wp_rt ?_
                      refine qs_br ?_
                      refine qs_r ?_
                      exact qs_ret1 rfl rfl (fin_q (i := 1) rfl (rb (by first | (have := prime2 c61; simp [ringL, *] <;> omega) | (simp [ringL, *] <;> omega) | simp [ringL, *])))
                  · refine sq_v rfl (v_move rfl) rfl ?_
                    refine sq_s rfl rfl ?_
                    refine sq_s rfl rfl ?_
                    refine sq_s rfl rfl ?_
                    refine sq_v rfl (v_pickf rfl rfl) rfl ?_
                    refine sq_v rfl (v_move rfl) rfl ?_
                    refine sq_s rfl rfl ?_
                    refine sq_s rfl rfl ?_
                    refine sq_s rfl rfl ?_
                    refine sq_v rfl (v_pickf rfl rfl) rfl ?_
                    refine sq_v rfl (v_assign rfl) rfl ?_
                    refine sq_end ?_
                    refine qs_n ?_
                    refine wp_rt ?_
                    refine qs_br ?_
                    refine qs_r ?_
                    exact qs_ret1 rfl rfl (fin_q (i := 1) rfl (rb (by first | (have := prime2 c61; simp [ringL, *] <;> omega) | (simp [ringL, *] <;> omega) | simp [ringL, *])))
                · refine wp_sk ?_
                  refine qs_bn ?_
                  refine qs_n ?_
                  refine wp_sc ?_
                  refine wp_sq ?_
                  refine sq_v rfl (v_assign rfl) rfl ?_
                  refine sq_end ?_
                  refine qs_n ?_
                  refine wp_rt ?_
                  exact qs_ret1 rfl rfl (fin_q (i := 1) rfl (rb (by simp [ringL, *] <;> omega)))
theorem ct_i_RingOk (k m p : Int) (w : World) : Calls Try.prog 174 [ringV k m p].toArray w (RetV w (.bool (ringB k m p))) := by
  refine calls_in Try.func174 rfl Try.ntmps174 rfl (Sat.start w) ?_
  refine wp_sc ?_
  refine wp_sq ?_
  refine sq_x rfl (x_box rfl rfl) rfl ?_; rintro _ _ ⟨b1, rfl, rfl⟩
  refine sq_v rfl (v_assign rfl) rfl ?_
  refine sq_end ?_
  refine qs_n ?_
  refine wp_sc ?_
  refine wp_sc ?_
  refine wp_sq ?_
  refine sq_v rfl (v_fieldAddr fd_30_0 ty_3 (by decide) rfl) rfl ?_
  refine sq_v rfl (v_loadB 0 ty_3 rfl rfl rfl) rfl ?_
  refine sq_end ?_
  refine qs_n ?_
  refine wp_bl ?_
  refine wp_sc ?_
  refine wp_sq ?_
  refine sq_v rfl (v_eql rfl rfl) rfl ?_
  refine sq_v rfl (v_assign rfl) rfl ?_
  refine sq_end ?_
  refine qs_n ?_
  refine wp_cd rfl (fun c5 => ?_) (fun c5 => ?_)
  · refine wp_sc ?_
    refine wp_sq ?_
    refine sq_v rfl (v_fieldAddr fd_30_1 ty_3 (by decide) rfl) rfl ?_
    refine sq_v rfl (v_loadB 0 ty_3 rfl rfl rfl) rfl ?_
    refine sq_v rfl (v_eql rfl rfl) rfl ?_
    refine sq_bd 9 rfl (fun c9 => ?_) (fun c9 => ?_)
    · refine sq_v rfl (v_move rfl) rfl ?_
      refine sq_v rfl (v_fieldAddr fd_30_2 ty_3 (by decide) rfl) rfl ?_
      refine sq_v rfl (v_loadB 0 ty_3 rfl rfl rfl) rfl ?_
      refine sq_v rfl (v_eql rfl rfl) rfl ?_
      refine sq_v rfl (v_pickt rfl rfl) rfl ?_
      refine sq_v rfl (v_assign rfl) rfl ?_
      refine sq_end ?_
      refine qs_n ?_
      refine wp_rt ?_
      refine qs_br ?_
      refine qs_r ?_
      exact qs_ret1 rfl rfl (fin_q (i := 1) rfl (rb (by simp [ringL, *] <;> omega)))
    · refine sq_v rfl (v_move rfl) rfl ?_
      refine sq_s rfl rfl ?_
      refine sq_s rfl rfl ?_
      refine sq_s rfl rfl ?_
      refine sq_v rfl (v_pickf rfl rfl) rfl ?_
      refine sq_v rfl (v_assign rfl) rfl ?_
      refine sq_end ?_
      refine qs_n ?_
      refine wp_rt ?_
      refine qs_br ?_
      refine qs_r ?_
      exact qs_ret1 rfl rfl (fin_q (i := 1) rfl (rb (by simp [ringL, *] <;> omega)))
  · refine wp_sc ?_
    refine wp_sq ?_
    refine sq_v rfl (v_eql rfl rfl) rfl ?_
    refine sq_v rfl (v_assign rfl) rfl ?_
    refine sq_end ?_
    refine qs_n ?_
    refine wp_cd rfl (fun c15 => ?_) (fun c15 => ?_)
    · refine wp_sc ?_
      refine wp_sq ?_
      refine sq_v rfl (v_fieldAddr fd_30_1 ty_3 (by decide) rfl) rfl ?_
      refine sq_v rfl (v_loadB 0 ty_3 rfl rfl rfl) rfl ?_
      refine sq_u rfl (x_callv rfl en_216 (fun w s => ct_i_IsPrime _ w)) rfl ?_
      refine sq_bb 19 rfl (fun c19 => ?_) (fun c19 => ?_)
      · refine sq_v rfl (v_move rfl) rfl ?_
        refine sq_v rfl (v_fieldAddr fd_30_2 ty_3 (by decide) rfl) rfl ?_
        refine sq_v rfl (v_loadB 0 ty_3 rfl rfl rfl) rfl ?_
        refine sq_v rfl (v_eql rfl rfl) rfl ?_
        refine sq_v rfl (v_pickt rfl rfl) rfl ?_
        refine sq_v rfl (v_assign rfl) rfl ?_
        refine sq_end ?_
        refine qs_n ?_
        refine wp_rt ?_
        refine qs_br ?_
        refine qs_r ?_
        exact qs_ret1 rfl rfl (fin_q (i := 1) rfl (rb (by simp [ringL, *] <;> omega)))
      · refine sq_v rfl (v_move rfl) rfl ?_
        refine sq_s rfl rfl ?_
        refine sq_s rfl rfl ?_
        refine sq_s rfl rfl ?_
        refine sq_v rfl (v_pickf rfl rfl) rfl ?_
        refine sq_v rfl (v_assign rfl) rfl ?_
        refine sq_end ?_
        refine qs_n ?_
        refine wp_rt ?_
        refine qs_br ?_
        refine qs_r ?_
        exact qs_ret1 rfl rfl (fin_q (i := 1) rfl (rb (by simp [ringL, *] <;> omega)))
    · refine wp_sc ?_
      refine wp_sc ?_
      refine wp_sq ?_
      refine sq_v rfl (v_eql rfl rfl) rfl ?_
      refine sq_v rfl (v_assign rfl) rfl ?_
      refine sq_end ?_
      refine qs_n ?_
      refine wp_cSd rfl (fun c25 => ?_) (fun c25 => ?_)
      · refine wp_sk ?_
        refine qs_n ?_
        refine wp_ct rfl ?_
        refine wp_sc ?_
        refine wp_sq ?_
        refine sq_v rfl (v_fieldAddr fd_30_1 ty_3 (by decide) rfl) rfl ?_
        refine sq_v rfl (v_loadB 0 ty_3 rfl rfl rfl) rfl ?_
        refine sq_v rfl (v_geq rfl rfl) rfl ?_
        refine sq_bd 31 rfl (fun c31 => ?_) (fun c31 => ?_)
        · refine sq_v rfl (v_move rfl) rfl ?_
          refine sq_v rfl (v_fieldAddr fd_30_1 ty_3 (by decide) rfl) rfl ?_
          refine sq_v rfl (v_loadB 0 ty_3 rfl rfl rfl) rfl ?_
          refine sq_v rfl (v_leq rfl rfl) rfl ?_
          refine sq_v rfl (v_pickt rfl rfl) rfl ?_
          refine sq_bd 36 rfl (fun c36 => ?_) (fun c36 => ?_)
          · refine sq_v rfl (v_move rfl) rfl ?_
            refine sq_v rfl (v_fieldAddr fd_30_2 ty_3 (by decide) rfl) rfl ?_
            refine sq_v rfl (v_loadB 0 ty_3 rfl rfl rfl) rfl ?_
            refine sq_v rfl (v_eql rfl rfl) rfl ?_
            refine sq_v rfl (v_pickt rfl rfl) rfl ?_
            refine sq_v rfl (v_assign rfl) rfl ?_
            refine sq_end ?_
            refine qs_n ?_
            refine wp_rt ?_
            refine qs_br ?_
            refine qs_r ?_
            exact qs_ret1 rfl rfl (fin_q (i := 1) rfl (rb (by simp [ringL, *] <;> omega)))
          · refine sq_v rfl (v_move rfl) rfl ?_
            refine sq_s rfl rfl ?_
            refine sq_s rfl rfl ?_
            refine sq_s rfl rfl ?_
            refine sq_v rfl (v_pickf rfl rfl) rfl ?_
            refine sq_v rfl (v_assign rfl) rfl ?_
            refine sq_end ?_
            refine qs_n ?_
            refine wp_rt ?_
            refine qs_br ?_
            refine qs_r ?_
            exact qs_ret1 rfl rfl (fin_q (i := 1) rfl (rb (by simp [ringL, *] <;> omega)))
        · refine sq_v rfl (v_move rfl) rfl ?_
          refine sq_s rfl rfl ?_
          refine sq_s rfl rfl ?_
          refine sq_s rfl rfl ?_
          refine sq_v rfl (v_pickf rfl rfl) rfl ?_
          refine sq_v rfl (v_move rfl) rfl ?_
          refine sq_s rfl rfl ?_
          refine sq_s rfl rfl ?_
          refine sq_s rfl rfl ?_
          refine sq_v rfl (v_pickf rfl rfl) rfl ?_
          refine sq_v rfl (v_assign rfl) rfl ?_
          refine sq_end ?_
          refine qs_n ?_
          refine wp_rt ?_
          refine qs_br ?_
          refine qs_r ?_
          exact qs_ret1 rfl rfl (fin_q (i := 1) rfl (rb (by simp [ringL, *] <;> omega)))
      · refine wp_sc ?_
        refine wp_sq ?_
        refine sq_v rfl (v_eql rfl rfl) rfl ?_
        refine sq_v rfl (v_assign rfl) rfl ?_
        refine sq_end ?_
        refine qs_n ?_
        refine wp_cSd rfl (fun c25 => ?_) (fun c25 => ?_)
        · refine wp_sk ?_
          refine qs_n ?_
          refine wp_ct rfl ?_
          refine wp_sc ?_
          refine wp_sq ?_
          refine sq_v rfl (v_fieldAddr fd_30_1 ty_3 (by decide) rfl) rfl ?_
          refine sq_v rfl (v_loadB 0 ty_3 rfl rfl rfl) rfl ?_
          refine sq_v rfl (v_geq rfl rfl) rfl ?_
          refine sq_bd 31 rfl (fun c31 => ?_) (fun c31 => ?_)
          · refine sq_v rfl (v_move rfl) rfl ?_
            refine sq_v rfl (v_fieldAddr fd_30_1 ty_3 (by decide) rfl) rfl ?_
            refine sq_v rfl (v_loadB 0 ty_3 rfl rfl rfl) rfl ?_
            refine sq_v rfl (v_leq rfl rfl) rfl ?_
            refine sq_v rfl (v_pickt rfl rfl) rfl ?_
            refine sq_bd 36 rfl (fun c36 => ?_) (fun c36 => ?_)
            · refine sq_v rfl (v_move rfl) rfl ?_
              refine sq_v rfl (v_fieldAddr fd_30_2 ty_3 (by decide) rfl) rfl ?_
              refine sq_v rfl (v_loadB 0 ty_3 rfl rfl rfl) rfl ?_
              refine sq_v rfl (v_eql rfl rfl) rfl ?_
              refine sq_v rfl (v_pickt rfl rfl) rfl ?_
              refine sq_v rfl (v_assign rfl) rfl ?_
              refine sq_end ?_
              refine qs_n ?_
              refine wp_rt ?_
              refine qs_br ?_
              refine qs_r ?_
              exact qs_ret1 rfl rfl (fin_q (i := 1) rfl (rb (by simp [ringL, *] <;> omega)))
            · refine sq_v rfl (v_move rfl) rfl ?_
              refine sq_s rfl rfl ?_
              refine sq_s rfl rfl ?_
              refine sq_s rfl rfl ?_
              refine sq_v rfl (v_pickf rfl rfl) rfl ?_
              refine sq_v rfl (v_assign rfl) rfl ?_
              refine sq_end ?_
              refine qs_n ?_
              refine wp_rt ?_
              refine qs_br ?_
              refine qs_r ?_
              exact qs_ret1 rfl rfl (fin_q (i := 1) rfl (rb (by simp [ringL, *] <;> omega)))
          · refine sq_v rfl (v_move rfl) rfl ?_
            refine sq_s rfl rfl ?_
            refine sq_s rfl rfl ?_
            refine sq_s rfl rfl ?_
            refine sq_v rfl (v_pickf rfl rfl) rfl ?_
            refine sq_v rfl (v_move rfl) rfl ?_
            refine sq_s rfl rfl ?_
            refine sq_s rfl rfl ?_
            refine sq_s rfl rfl ?_
            refine sq_v rfl (v_pickf rfl rfl) rfl ?_
            refine sq_v rfl (v_assign rfl) rfl ?_
            refine sq_end ?_
            refine qs_n ?_
            refine wp_rt ?_
            refine qs_br ?_
            refine qs_r ?_
            exact qs_ret1 rfl rfl (fin_q (i := 1) rfl (rb (by simp [ringL, *] <;> omega)))
        · refine wp_sq ?_
          refine sq_v rfl (v_eql rfl rfl) rfl ?_
          refine sq_v rfl (v_assign rfl) rfl ?_
          refine sq_end ?_
          refine qs_n ?_
          refine wp_cSd rfl (fun c25 => ?_) (fun c25 => ?_)
          · refine wp_sc ?_
            refine wp_sq ?_
            refine sq_v rfl (v_fieldAddr fd_30_1 ty_3 (by decide) rfl) rfl ?_
            refine sq_v rfl (v_loadB 0 ty_3 rfl rfl rfl) rfl ?_
            refine sq_v rfl (v_geq rfl rfl) rfl ?_
            refine sq_bd 31 rfl (fun c31 => ?_) (fun c31 => ?_)
            · refine sq_v rfl (v_move rfl) rfl ?_
              refine sq_v rfl (v_fieldAddr fd_30_1 ty_3 (by decide) rfl) rfl ?_
              refine sq_v rfl (v_loadB 0 ty_3 rfl rfl rfl) rfl ?_
              refine sq_v rfl (v_leq rfl rfl) rfl ?_
              refine sq_v rfl (v_pickt rfl rfl) rfl ?_
              refine sq_bd 36 rfl (fun c36 => ?_) (fun c36 => ?_)
              · refine sq_v rfl (v_move rfl) rfl ?_
                refine sq_v rfl (v_fieldAddr fd_30_2 ty_3 (by decide) rfl) rfl ?_
                refine sq_v rfl (v_loadB 0 ty_3 rfl rfl rfl) rfl ?_
                refine sq_v rfl (v_eql rfl rfl) rfl ?_
                refine sq_v rfl (v_pickt rfl rfl) rfl ?_
                refine sq_v rfl (v_assign rfl) rfl ?_
                refine sq_end ?_
                refine qs_n ?_
                refine wp_rt ?_
                refine qs_br ?_
                refine qs_r ?_
                exact qs_ret1 rfl rfl (fin_q (i := 1) rfl (rb (by simp [ringL, *] <;> omega)))
              · refine sq_v rfl (v_move rfl) rfl ?_
                refine sq_s rfl rfl ?_
                refine sq_s rfl rfl ?_
                refine sq_s rfl rfl ?_
                refine sq_v rfl (v_pickf rfl rfl) rfl ?_
                refine sq_v rfl (v_assign rfl) rfl ?_
                refine sq_end ?_
                refine qs_n ?_
                refine wp_rt ?_
                refine qs_br ?_
                refine qs_r ?_
                exact qs_ret1 rfl rfl (fin_q (i := 1) rfl (rb (by simp [ringL, *] <;> omega)))
            · refine sq_v rfl (v_move rfl) rfl ?_
              refine sq_s rfl rfl ?_
              refine sq_s rfl rfl ?_
              refine sq_s rfl rfl ?_
              refine sq_v rfl (v_pickf rfl rfl) rfl ?_
              refine sq_v rfl (v_move rfl) rfl ?_
              refine sq_s rfl rfl ?_
              refine sq_s rfl rfl ?_
              refine sq_s rfl rfl ?_
              refine sq_v rfl (v_pickf rfl rfl) rfl ?_
              refine sq_v rfl (v_assign rfl) rfl ?_
              refine sq_end ?_
              refine qs_n ?_
              refine wp_rt ?_
              refine qs_br ?_
              refine qs_r ?_
              exact qs_ret1 rfl rfl (fin_q (i := 1) rfl (rb (by simp [ringL, *] <;> omega)))
          · refine wp_sc ?_
            refine wp_sq ?_
            refine sq_v rfl (v_eql rfl rfl) rfl ?_
            refine sq_v rfl (v_assign rfl) rfl ?_
            refine sq_end ?_
            refine qs_n ?_
            refine wp_cd rfl (fun c42 => ?_) (fun c42 => ?_)
            · refine wp_sc ?_
              refine wp_sq ?_
              refine sq_v rfl (v_fieldAddr fd_30_1 ty_3 (by decide) rfl) rfl ?_
              refine sq_v rfl (v_loadB 0 ty_3 rfl rfl rfl) rfl ?_
              refine sq_v rfl (v_eql rfl rfl) rfl ?_
              refine sq_bd 46 rfl (fun c46 => ?_) (fun c46 => ?_)
              · refine sq_v rfl (v_move rfl) rfl ?_
                refine sq_v rfl (v_fieldAddr fd_30_2 ty_3 (by decide) rfl) rfl ?_
                refine sq_v rfl (v_loadB 0 ty_3 rfl rfl rfl) rfl ?_
                refine sq_v rfl (v_geq rfl rfl) rfl ?_
                refine sq_v rfl (v_pickt rfl rfl) rfl ?_
                refine sq_bd 51 rfl (fun c51 => ?_) (fun c51 => ?_)
                · refine sq_v rfl (v_move rfl) rfl ?_
                  refine sq_v rfl (v_fieldAddr fd_30_2 ty_3 (by decide) rfl) rfl ?_
                  refine sq_v rfl (v_loadB 0 ty_3 rfl rfl rfl) rfl ?_
                  refine sq_v rfl (v_leq rfl rfl) rfl ?_
                  refine sq_v rfl (v_pickt rfl rfl) rfl ?_
                  refine sq_v rfl (v_assign rfl) rfl ?_
                  refine sq_end ?_
                  refine qs_n ?_
                  refine wp_rt ?_
                  refine qs_br ?_
                  refine qs_r ?_
                  exact qs_ret1 rfl rfl (fin_q (i := 1) rfl (rb (by simp [ringL, *] <;> omega)))
                · refine sq_v rfl (v_move rfl) rfl ?_
                  refine sq_s rfl rfl ?_
                  refine sq_s rfl rfl ?_
                  refine sq_s rfl rfl ?_
                  refine sq_v rfl (v_pickf rfl rfl) rfl ?_
                  refine sq_v rfl (v_assign rfl) rfl ?_
                  refine sq_end ?_
                  refine qs_n ?_
                  refine wp_rt ?_
                  refine qs_br ?_
                  refine qs_r ?_
                  exact qs_ret1 rfl rfl (fin_q (i := 1) rfl (rb (by simp [ringL, *] <;> omega)))
              · refine sq_v rfl (v_move rfl) rfl ?_
                refine sq_s rfl rfl ?_
                refine sq_s rfl rfl ?_
                refine sq_s rfl rfl ?_
                refine sq_v rfl (v_pickf rfl rfl) rfl ?_
                refine sq_v rfl (v_move rfl) rfl ?_
                refine sq_s rfl rfl ?_
                refine sq_s rfl rfl ?_
                refine sq_s rfl rfl ?_
                refine sq_v rfl (v_pickf rfl rfl) rfl ?_
                refine sq_v rfl (v_assign rfl) rfl ?_
                refine sq_end ?_
                refine qs_n ?_
                refine wp_rt ?_
                refine qs_br ?_
                refine qs_r ?_
                exact qs_ret1 rfl rfl (fin_q (i := 1) rfl (rb (by simp [ringL, *] <;> omega)))
            · refine wp_sc ?_
              refine wp_sq ?_
              refine sq_v rfl (v_eql rfl rfl) rfl ?_
              refine sq_v rfl (v_assign rfl) rfl ?_
              refine sq_end ?_
              refine qs_n ?_
              refine wp_cd rfl (fun c57 => ?_) (fun c57 => ?_)
              · refine wp_sc ?_
                refine wp_sq ?_
                refine sq_v rfl (v_fieldAddr fd_30_1 ty_3 (by decide) rfl) rfl ?_
                refine sq_v rfl (v_loadB 0 ty_3 rfl rfl rfl) rfl ?_
                refine sq_u rfl (x_callv rfl en_216 (fun w s => ct_i_IsPrime _ w)) rfl ?_
                refine sq_bb 61 rfl (fun c61 => ?_) (fun c61 => ?_)
                · refine sq_v rfl (v_move rfl) rfl ?_
                  refine sq_v rfl (v_fieldAddr fd_30_2 ty_3 (by decide) rfl) rfl ?_
                  refine sq_v rfl (v_loadB 0 ty_3 rfl rfl rfl) rfl ?_
                  refine sq_v rfl (v_geq rfl rfl) rfl ?_
                  refine sq_v rfl (v_pickt rfl rfl) rfl ?_
                  refine sq_bd 66 rfl (fun c66 => ?_) (fun c66 => ?_)
                  · refine sq_v rfl (v_move rfl) rfl ?_
                    refine sq_v rfl (v_fieldAddr fd_30_2 ty_3 (by decide) rfl) rfl ?_
                    refine sq_v rfl (v_loadB 0 ty_3 rfl rfl rfl) rfl ?_
                    refine sq_v rfl (v_leq rfl rfl) rfl ?_
                    refine sq_v rfl (v_pickt rfl rfl) rfl ?_
                    refine sq_v rfl (v_assign rfl) rfl ?_
                    refine sq_end ?_
                    refine qs_n ?_
                    refine wp_rt ?_
                    refine qs_br ?_
                    refine qs_r ?_
                    exact qs_ret1 rfl rfl (fin_q (i := 1) rfl (rb (by simp [ringL, *] <;> omega)))
                  · refine sq_v rfl (v_move rfl) rfl ?_
                    refine sq_s rfl rfl ?_
                    refine sq_s rfl rfl ?_
                    refine sq_s rfl rfl ?_
                    refine sq_v rfl (v_pickf rfl rfl) rfl ?_
                    refine sq_v rfl (v_assign rfl) rfl ?_
                    refine sq_end ?_
                    refine qs_n ?_
                    refine wp_rt ?_
                    refine qs_br ?_
                    refine qs_r ?_
                    exact qs_ret1 rfl rfl (fin_q (i := 1) rfl (rb (by simp [ringL, *] <;> omega)))
                · refine sq_v rfl (v_move rfl) rfl ?_
                  refine sq_s rfl rfl ?_
                  refine sq_s rfl rfl ?_
                  refine sq_s rfl rfl ?_
                  refine sq_v rfl (v_pickf rfl rfl) rfl ?_
                  refine sq_v rfl (v_move rfl) rfl ?_
                  refine sq_s rfl rfl ?_
                  refine sq_s rfl rfl ?_
                  refine sq_s rfl rfl ?_
                  refine sq_v rfl (v_pickf rfl rfl) rfl ?_
                  refine sq_v rfl (v_assign rfl) rfl ?_
                  refine sq_end ?_
                  refine qs_n ?_
                  refine wp_rt ?_
                  refine qs_br ?_
                  refine qs_r ?_
                  exact qs_ret1 rfl rfl (fin_q (i := 1) rfl (rb (by simp [ringL, *] <;> omega)))
              · refine wp_sc ?_
                refine wp_sq ?_
                refine sq_v rfl (v_eql rfl rfl) rfl ?_
                refine sq_v rfl (v_assign rfl) rfl ?_
                refine sq_end ?_
                refine qs_n ?_
                refine wp_cd rfl (fun c72 => ?_) (fun c72 => ?_)
                · refine wp_sc ?_
                  refine wp_sq ?_
                  refine sq_v rfl (v_fieldAddr fd_30_1 ty_3 (by decide) rfl) rfl ?_
                  refine sq_v rfl (v_loadB 0 ty_3 rfl rfl rfl) rfl ?_
                  refine sq_u rfl (x_callv rfl en_216 (fun w s => ct_i_IsPrime _ w)) rfl ?_
                  refine sq_bb 76 rfl (fun c76 => ?_) (fun c76 => ?_)
                  · refine sq_v rfl (v_move rfl) rfl ?_
                    refine sq_v rfl (v_fieldAddr fd_30_1 ty_3 (by decide) rfl) rfl ?_
                    refine sq_v rfl (v_loadB 0 ty_3 rfl rfl rfl) rfl ?_
                    refine sq_v rfl (v_neq rfl rfl) rfl ?_
                    refine sq_v rfl (v_pickt rfl rfl) rfl ?_
                    refine sq_bd 81 rfl (fun c81 => ?_) (fun c81 => ?_)
                    · refine sq_v rfl (v_move rfl) rfl ?_
                      refine sq_v rfl (v_fieldAddr fd_30_2 ty_3 (by decide) rfl) rfl ?_
                      refine sq_v rfl (v_loadB 0 ty_3 rfl rfl rfl) rfl ?_
                      refine sq_v rfl (v_eql rfl rfl) rfl ?_
                      refine sq_v rfl (v_pickt rfl rfl) rfl ?_
                      refine sq_v rfl (v_assign rfl) rfl ?_
                      refine sq_end ?_
                      refine qs_n ?_
                      refine wp_rt ?_
                      refine qs_br ?_
                      refine qs_r ?_
                      exact qs_ret1 rfl rfl (fin_q (i := 1) rfl (rb (by simp [ringL, *] <;> omega)))
                    · refine sq_v rfl (v_move rfl) rfl ?_
                      refine sq_s rfl rfl ?_
                      refine sq_s rfl rfl ?_
                      refine sq_s rfl rfl ?_
                      refine sq_v rfl (v_pickf rfl rfl) rfl ?_
                      refine sq_v rfl (v_assign rfl) rfl ?_
                      refine sq_end ?_
                      refine qs_n ?_
                      refine wp_rt ?_
                      refine qs_br ?_
                      refine qs_r ?_
                      exact qs_ret1 rfl rfl (fin_q (i := 1) rfl (rb (by simp [ringL, *] <;> omega)))
                  · refine sq_v rfl (v_move rfl) rfl ?_
                    refine sq_s rfl rfl ?_
                    refine sq_s rfl rfl ?_
                    refine sq_s rfl rfl ?_
                    refine sq_v rfl (v_pickf rfl rfl) rfl ?_
                    refine sq_v rfl (v_move rfl) rfl ?_
                    refine sq_s rfl rfl ?_
                    refine sq_s rfl rfl ?_
                    refine sq_s rfl rfl ?_
                    refine sq_v rfl (v_pickf rfl rfl) rfl ?_
                    refine sq_v rfl (v_assign rfl) rfl ?_
                    refine sq_end ?_
                    refine qs_n ?_
                    refine wp_rt ?_
                    refine qs_br ?_
                    refine qs_r ?_
                    exact qs_ret1 rfl rfl (fin_q (i := 1) rfl (rb (by simp [ringL, *] <;> omega)))
                · refine wp_sk ?_
                  refine qs_bn ?_
                  refine qs_n ?_
                  refine wp_sc ?_
                  refine wp_sq ?_
                  refine sq_v rfl (v_assign rfl) rfl ?_
                  refine sq_end ?_
                  refine qs_n ?_
                  refine wp_rt ?_
                  exact qs_ret1 rfl rfl (fin_q (i := 1) rfl (rb (by simp [ringL, *] <;> omega)))
theorem ct_l_toRing (k m p : Int) (w : World) : Calls Try.prog 17 [ringV k m p].toArray w (RetV w (ringV k m p)) := by
  refine calls_in Try.func17 rfl Try.ntmps17 rfl (Sat.start w) ?_
  refine wp_sc ?_
  refine wp_sq ?_
  refine sq_x rfl (x_box rfl rfl) rfl ?_; rintro _ _ ⟨b1, rfl, rfl⟩
  refine sq_x rfl (x_alloc ty_30 rfl) rfl ?_; rintro _ _ ⟨b2, rfl, rfl⟩
  refine sq_end ?_
  refine qs_n ?_
  refine wp_sc ?_
  refine wp_sq ?_
  refine sq_x rfl (x_alloc ty_30 rfl) rfl ?_; rintro _ _ ⟨b3, rfl, rfl⟩
  refine sq_end ?_
  refine qs_n ?_
  refine wp_sc ?_
  refine wp_sq ?_
  refine sq_v rfl (v_fieldAddr fd_23_0 ty_3 (by decide) rfl) rfl ?_
  refine sq_v rfl (v_loadB 2 ty_3 rfl rfl rfl) rfl ?_
  refine sq_v rfl (v_fieldAddr fd_30_0 ty_3 (by decide) rfl) rfl ?_
  refine sq_m 0 rfl rfl (m_store1 0 ty_3 rfl rfl rfl rfl (Nat.le_of_ble_eq_true rfl)) rfl ?_; rintro _ _ ⟨rfl, rfl⟩
  refine sq_end ?_
  refine qs_n ?_
  refine wp_sc ?_
  refine wp_sq ?_
  refine sq_v rfl (v_fieldAddr fd_23_1 ty_3 (by decide) rfl) rfl ?_
  refine sq_v rfl (v_loadB 2 ty_3 rfl rfl rfl) rfl ?_
  refine sq_v rfl (v_fieldAddr fd_30_1 ty_3 (by decide) rfl) rfl ?_
  refine sq_m 0 rfl rfl (m_store1 0 ty_3 rfl rfl rfl rfl (Nat.le_of_ble_eq_true rfl)) rfl ?_; rintro _ _ ⟨rfl, rfl⟩
  refine sq_end ?_
  refine qs_n ?_
  refine wp_sc ?_
  refine wp_sq ?_
  refine sq_v rfl (v_fieldAddr fd_23_2 ty_3 (by decide) rfl) rfl ?_
  refine sq_v rfl (v_loadB 2 ty_3 rfl rfl rfl) rfl ?_
  refine sq_v rfl (v_fieldAddr fd_30_2 ty_3 (by decide) rfl) rfl ?_
  refine sq_m 0 rfl rfl (m_store1 0 ty_3 rfl rfl rfl rfl (Nat.le_of_ble_eq_true rfl)) rfl ?_; rintro _ _ ⟨rfl, rfl⟩
  refine sq_end ?_
  refine qs_n ?_
  refine wp_sc ?_
  refine wp_sq ?_
  refine sq_v rfl (v_loadNB 0 ty_30 rfl rfl rfl rfl) rfl ?_
  refine sq_m 1 rfl rfl (m_store 1 ty_30 rfl rfl rfl rfl (by simp [Value.oneCell']) rfl (Nat.le_of_ble_eq_true rfl)) rfl ?_; rintro _ _ ⟨rfl, rfl⟩
  refine sq_end ?_
  refine qs_n ?_
  refine wp_rt ?_
  exact qs_retc 1 rfl ty_30 rfl rfl rfl (fin_v (i := 3) rfl)
end Go.Proofs.Ytikeobneipjfnaa
