/-
  At every network, order and list of labels the program's StartJob returns what the reference's returns; the job shares no memory with an argument.
  Conditions: none.
-/
import Derived.Test.YtikeobneipjfnaaCard
import Derived.Test.YtikeobneipjfnaaLiftStep
import Derived.Test.YtikeobneipjfnaaStart
namespace Go.Proofs.Ytikeobneipjfnaa
set_option maxRecDepth 100000
open Go.ChangeShapes Go.WideShapes Go.ChangeAt Go.RowKit
theorem start_size (k p n : Int) (ts : List Ten) (op ls : List Int) (ss : List Stp) : 0 ≤ tenSize (startT k p n ts op ls ss) ∧ tenSize (startT k p n ts op ls ss) ≤ 1000000 ∧ (startLs k p n ts op ls ss).length ≤ ls.length ∧ (startSs k p n ts op ls ss).length ≤ ss.length := by
  refine ⟨tenSize_nn _, ?_⟩
  by_cases h : startP k p n ts op ls ss
  · have hax := sizeI_ge.1 h.1.1.2.2.2.2
    have h1 := hax.1.1
    have h2 := hax.1.2.1
    have hw := width_range h.1.1.1
    have hz := zeroL_len k p n
    have hl := flat_rep_len (zeroL k p n) (prodI (dimsFor ts op)).toNat
    have hm : (prodI (dimsFor ts op)).toNat * (zeroL k p n).length ≤ 4096 * 6 := Nat.mul_le_mul (by omega) (by omega)
    rw [startT, if_pos h, startLs, if_pos h, startSs, if_pos h]
    simp only [tenSize, zeroT]
    omega
  · rw [startT, if_neg h, startLs, if_neg h, startSs, if_neg h]; simp [tenSize]
set_option maxHeartbeats 8000000 in
theorem ct_l_FnExactStartJob (k p n : Int) (ts : List Ten) (op ls : List Int) (ss : List Stp) (vt vo u v : Value) (w : World) (r : TensR ts vt (hp w)) (r' : IntsR op vo (hp w)) (rs : StepsR ss u (hp w)) (rl : IntsR ls v (hp w)) :
    Calls Try.prog 12 [netV k p n vt vo, u, v].toArray w (RetV w (.bool true)) := by
  have hnn := tensSize_nn ts
  have hrs := start_size k p n ts op ls ss
  refine calls_in Try.func12 rfl Try.ntmps12 rfl (Sat.start w) ?_
  have hle0 := r.le
  obtain ⟨cs_r, rr_r, hc_r⟩ := r.at
  have hle1 := r'.le
  have hle2 := rs.le
  obtain ⟨cs_rs, rr_rs, hc_rs⟩ := rs.at
  have hle3 := rl.le
  refine wp_sc ?_
  refine wp_sq ?_
  refine sq_x rfl (x_box rfl rfl) rfl ?_; rintro _ _ ⟨b3, rfl, rfl⟩
  refine sq_v rfl (v_assign rfl) rfl ?_
  refine sq_end ?_
  refine qs_n ?_
  refine wp_sc ?_
  refine wp_sc ?_
  refine wp_sq ?_
  refine sq_v rfl (v_move rfl) rfl ?_
  refine sq_v rfl (v_len Try.underlying24 rfl rl.sl) rfl ?_
  refine sq_v rfl (v_gtr rfl rfl) rfl ?_
  refine sq_end ?_
  refine qs_n ?_
  refine wp_cd rfl (fun c22 => ?_) (fun c22 => ?_)
  · refine wp_sc ?_
    refine wp_sq ?_
    refine sq_v rfl (v_assign rfl) rfl ?_
    refine sq_end ?_
    refine qs_n ?_
    refine wp_rt ?_
    refine qs_r ?_
    exact qs_ret1 rfl rfl (fin_v (i := 1) rfl)
  · refine wp_sk ?_
    refine qs_n ?_
    refine wp_sc ?_
    refine wp_sq ?_
    refine sq_v rfl (v_assign rfl) rfl ?_
    refine sq_end ?_
    refine qs_n ?_
    refine wp_sc ?_
    refine wp_sq ?_
    refine sq_v rfl (v_loadNB 0 ty_41 rfl rfl rfl rfl) rfl ?_
    refine sq_v rfl (v_move rfl) rfl ?_
    refine sq_u rfl (x_callv rfl en_26 (fun w s => ct_l_szNetwork _ _ _ _ _ _ _ _ w (r.mono (s.get 1 rfl)) (r'.mono (s.get 1 rfl)) (by first | assumption | exact iota_held _ _ | omega | rfl))) rfl ?_
    refine sq_v rfl (v_assign rfl) rfl ?_
    refine sq_end ?_
    refine qs_n ?_
    refine wp_sc ?_
    refine wp_sc ?_
    refine wp_sq ?_
    refine sq_v rfl (v_move rfl) rfl ?_
    refine sq_v rfl (v_lss rfl rfl) rfl ?_
    refine sq_end ?_
    refine qs_n ?_
    refine wp_cd rfl (fun c27 => ?_) (fun c27 => ?_)
    · refine wp_sc ?_
      refine wp_sq ?_
      refine sq_v rfl (v_assign rfl) rfl ?_
      refine sq_end ?_
      refine qs_n ?_
      refine wp_rt ?_
      refine qs_r ?_
      exact qs_ret1 rfl rfl (fin_v (i := 1) rfl)
    · have hz27 := szV_ge c27
      refine wp_sk ?_
      refine qs_n ?_
      refine wp_sc ?_
      refine wp_sq ?_
      refine sq_v rfl (v_move rfl) rfl ?_
      refine sq_v rfl (v_move rfl) rfl ?_
      refine sq_u rfl (x_callv rfl en_44 (fun w s => ct_l_szStepS _ _ _ w (rs.mono (s.get 1 rfl)) (by first | assumption | exact iota_held _ _ | omega | rfl))) rfl ?_
      refine sq_v rfl (v_assign rfl) rfl ?_
      refine sq_end ?_
      refine qs_n ?_
      refine wp_sc ?_
      refine wp_sc ?_
      refine wp_sq ?_
      refine sq_v rfl (v_move rfl) rfl ?_
      refine sq_v rfl (v_lss rfl rfl) rfl ?_
      refine sq_end ?_
      refine qs_n ?_
      refine wp_cd rfl (fun c32 => ?_) (fun c32 => ?_)
      · refine wp_sc ?_
        refine wp_sq ?_
        refine sq_v rfl (v_assign rfl) rfl ?_
        refine sq_end ?_
        refine qs_n ?_
        refine wp_rt ?_
        refine qs_r ?_
        exact qs_ret1 rfl rfl (fin_v (i := 1) rfl)
      · have hz32 := szV_ge c32
        refine wp_sk ?_
        refine qs_n ?_
        refine wp_sc ?_
        refine wp_sq ?_
        refine sq_v rfl (v_loadNB 0 ty_41 rfl rfl rfl rfl) rfl ?_
        refine sq_x rfl (x_call rfl en_28 (fun w s => ct_L_toNetwork _ _ _ _ _ _ _ w (r.mono (s.get 1 rfl)) (r'.mono (s.get 1 rfl)) (by first | assumption | exact iota_held _ _ | omega | rfl))) rfl ?_; rintro _ h35 ⟨vt35, vo35, rfl, o35⟩
        obtain ⟨cs_T_35, rr_T_35, hc_T_35⟩ := o35.toR.1.at
        refine sq_v rfl (v_move rfl) rfl ?_
        refine sq_x rfl (x_call rfl en_46 (fun w s => ct_l_toStepS _ _ w (rs.mono (s.get 2 rfl)) (by first | assumption | exact iota_held _ _ | omega | rfl))) rfl ?_; rintro v37 h37 r37
        obtain ⟨cs_S_37, rr_S_37, hc_S_37⟩ := r37.toR.at
        refine sq_v rfl (v_move rfl) rfl ?_
        refine sq_x rfl (x_call rfl en_19 (fun w s => ct_l_toIntS _ _ w (rl.mono (s.get 3 rfl)) (by first | assumption | exact iota_held _ _ | omega | rfl))) rfl ?_; rintro v39 h39 r39
        refine sq_x rfl (x_call rfl en_57 (fun w s => ct_s_StartJob _ _ _ _ _ _ _ _ _ _ _ w (o35.toR.1.mono (s.get 2 rfl)) (o35.toR.2.mono (s.get 2 rfl)) (r37.toR.mono (s.get 1 rfl)) (r39.toR.mono (s.get 0 rfl)) (by first | assumption | exact iota_held _ _ | omega | rfl) (by first | assumption | exact iota_held _ _ | omega | rfl))) rfl ?_; rintro _ h40 ⟨va40, vb40, vc40, vd40, ve40, rfl, o40⟩
        obtain ⟨cs_S_40, rr_S_40, hc_S_40⟩ := o40.toR.2.1.at
        refine sq_v rfl (v_move rfl) rfl ?_
        refine sq_v rfl (v_extract rfl rfl) rfl ?_
        refine sq_v rfl (v_extract rfl rfl) rfl ?_
        refine sq_x rfl (x_alloc ty_88 rfl) rfl ?_; rintro _ _ ⟨b8, rfl, rfl⟩
        refine sq_m 0 rfl rfl (m_store 0 ty_88 rfl rfl rfl rfl (by simp [one_int, o40.toR.1.sl.one, o40.toR.2.1.sl.one, o40.toR.2.2.1.sl.one, o40.toR.2.2.2.1.sl.one, o40.toR.2.2.2.2.sl.one]) rfl (Nat.le_of_ble_eq_true rfl)) rfl ?_; rintro _ _ ⟨rfl, rfl⟩
        refine sq_v rfl (v_assign rfl) rfl ?_
        refine sq_end ?_
        refine qs_n ?_
        refine wp_sc ?_
        refine wp_sq ?_
        refine sq_v rfl (v_loadNB 5 ty_41 rfl rfl rfl rfl) rfl ?_
        refine sq_x rfl (x_call rfl en_28 (fun w s => ct_L_toNetwork _ _ _ _ _ _ _ w (r.mono (s.get 6 rfl)) (r'.mono (s.get 6 rfl)) (by first | assumption | exact iota_held _ _ | omega | rfl))) rfl ?_; rintro _ h44 ⟨vt44, vo44, rfl, o44⟩
        obtain ⟨cs_T_44, rr_T_44, hc_T_44⟩ := o44.toR.1.at
        refine sq_x rfl (x_alloc ty_48 rfl) rfl ?_; rintro _ _ ⟨b10, rfl, rfl⟩
        refine sq_m 0 rfl rfl (m_store 0 ty_48 rfl rfl rfl rfl (by simp [one_int, o44.toR.1.sl.one, o44.toR.2.sl.one]) rfl (Nat.le_of_ble_eq_true rfl)) rfl ?_; rintro _ _ ⟨rfl, rfl⟩
        refine sq_end ?_
        refine qs_n ?_
        refine wp_sc ?_
        refine wp_sq ?_
        refine sq_v rfl (v_move rfl) rfl ?_
        refine sq_x rfl (x_call rfl en_46 (fun w s => ct_l_toStepS _ _ w (rs.mono (s.get 8 rfl)) (by first | assumption | exact iota_held _ _ | omega | rfl))) rfl ?_; rintro v46 h46 r46
        obtain ⟨cs_S_46, rr_S_46, hc_S_46⟩ := r46.toR.at
        refine sq_v rfl (v_assign rfl) rfl ?_
        refine sq_end ?_
        refine qs_n ?_
        refine wp_sc ?_
        refine wp_sq ?_
        refine sq_v rfl (v_move rfl) rfl ?_
        refine sq_x rfl (x_call rfl en_19 (fun w s => ct_l_toIntS _ _ w (rl.mono (s.get 9 rfl)) (by first | assumption | exact iota_held _ _ | omega | rfl))) rfl ?_; rintro v48 h48 r48
        refine sq_v rfl (v_assign rfl) rfl ?_
        refine sq_end ?_
        refine qs_n ?_
        refine wp_sc ?_
        refine wp_sq ?_
        refine sq_v rfl (v_loadNB 2 ty_48 rfl rfl rfl rfl) rfl ?_
        refine sq_v rfl (v_move rfl) rfl ?_
        refine sq_v rfl (v_move rfl) rfl ?_
        refine sq_x rfl (x_call rfl en_58 (fun w s => ct_i_StartJob _ _ _ _ _ _ _ _ _ _ _ w (o44.toR.1.mono (s.get 3 rfl)) (o44.toR.2.mono (s.get 3 rfl)) (r46.toR.mono (s.get 1 rfl)) (r48.toR.mono (s.get 0 rfl)) (by first | assumption | exact iota_held _ _ | omega | rfl) (by first | assumption | exact iota_held _ _ | omega | rfl))) rfl ?_; rintro _ h53 ⟨va53, vb53, vc53, vd53, ve53, rfl, o53⟩
        obtain ⟨cs_S_53, rr_S_53, hc_S_53⟩ := o53.toR.2.1.at
        refine sq_v rfl (v_move rfl) rfl ?_
        refine sq_v rfl (v_extract rfl rfl) rfl ?_
        refine sq_v rfl (v_extract rfl rfl) rfl ?_
        refine sq_x rfl (x_alloc ty_88 rfl) rfl ?_; rintro _ _ ⟨b13, rfl, rfl⟩
        refine sq_m 0 rfl rfl (m_store 0 ty_88 rfl rfl rfl rfl (by simp [one_int, o53.toR.1.sl.one, o53.toR.2.1.sl.one, o53.toR.2.2.1.sl.one, o53.toR.2.2.2.1.sl.one, o53.toR.2.2.2.2.sl.one]) rfl (Nat.le_of_ble_eq_true rfl)) rfl ?_; rintro _ _ ⟨rfl, rfl⟩
        refine sq_v rfl (v_assign rfl) rfl ?_
        refine sq_end ?_
        refine qs_n ?_
        refine wp_sc ?_
        refine wp_sc ?_
        refine wp_sq ?_
        refine sq_v rfl (v_loadNB 0 ty_88 rfl rfl rfl rfl) rfl ?_
        refine sq_v rfl (v_loadNB 6 ty_88 rfl rfl rfl rfl) rfl ?_
        refine sq_u rfl (x_callv rfl en_59 (fun w s => ct_l_eqJob _ _ _ _ _ _ _ _ _ _ _ _ _ _ w (o53.toR.1.mono (s.get 1 rfl)) (o53.toR.2.1.mono (s.get 1 rfl)) (o53.toR.2.2.1.mono (s.get 1 rfl)) (o53.toR.2.2.2.1.mono (s.get 1 rfl)) (o53.toR.2.2.2.2.mono (s.get 1 rfl)) (o40.toR.1.mono (s.get 7 rfl)) (o40.toR.2.1.mono (s.get 7 rfl)) (o40.toR.2.2.1.mono (s.get 7 rfl)) (o40.toR.2.2.2.1.mono (s.get 7 rfl)) (o40.toR.2.2.2.2.mono (s.get 7 rfl)))) rfl ?_
        refine sq_v rfl (v_not rfl) rfl ?_
        refine sq_v rfl (v_move rfl) rfl ?_
        refine sq_v rfl (v_move rfl) rfl ?_
        refine sq_v rfl (v_move rfl) rfl ?_
        refine sq_v rfl (v_neqsb Try.underlying4 rfl rfl) rfl ?_
        refine sq_v rfl (v_pickf rfl rfl) rfl ?_
        refine sq_end ?_
        refine qs_n ?_
        refine wp_cf rfl ?_
        refine wp_sk ?_
        refine qs_n ?_
        refine wp_sc ?_
        refine wp_sc ?_
        refine wp_rj 5 [(0, true), (1, true), (2, false), (3, false), (4, true)] mixed_ok (by kernel_rfl) ?_
        refine rj_v rfl rfl (v_loadNB 4 ty_48 rfl rfl rfl rfl) rfl ?_
        refine rj_v rfl rfl (v_loadNB 11 ty_41 rfl rfl rfl rfl) rfl ?_
        refine rj_x rfl rfl (x_call rfl en_28 (fun w s => ct_L_toNetwork _ _ _ _ _ _ _ w (r.mono (s.get 12 rfl)) (r'.mono (s.get 12 rfl)) (by first | assumption | exact iota_held _ _ | omega | rfl))) rfl ?_; rintro _ h67 ⟨vt67, vo67, rfl, o67⟩
        obtain ⟨cs_T_67, rr_T_67, hc_T_67⟩ := o67.toR.1.at
        refine rj_u rfl rfl (x_callv rfl en_31 (fun w s => ct_l_eqNetwork _ _ _ _ _ _ _ _ _ w (o44.toR.1.mono (s.get 6 rfl)) (o44.toR.2.mono (s.get 6 rfl)) (o67.toR.1.mono (s.get 0 rfl)) (o67.toR.2.mono (s.get 0 rfl)))) rfl ?_
        refine rj_v rfl rfl (v_not rfl) rfl ?_
        refine rj_end ?_
        refine qs_n ?_
        refine wp_cf rfl ?_
        refine wp_sk ?_
        refine qs_n ?_
        refine wp_sc ?_
        refine wp_sc ?_
        refine wp_sq ?_
        refine sq_v rfl (v_move rfl) rfl ?_
        refine sq_v rfl (v_move rfl) rfl ?_
        refine sq_x rfl (x_call rfl en_46 (fun w s => ct_l_toStepS _ _ w (rs.mono (s.get 13 rfl)) (by first | assumption | exact iota_held _ _ | omega | rfl))) rfl ?_; rintro v72 h72 r72
        obtain ⟨cs_S_72, rr_S_72, hc_S_72⟩ := r72.toR.at
        refine sq_u rfl (x_callv rfl en_30 (fun w s => ct_l_eqStepS _ _ _ w (r46.toR.mono (s.get 5 rfl)) (r72.toR.mono (s.get 0 rfl)))) rfl ?_
        refine sq_v rfl (v_not rfl) rfl ?_
        refine sq_end ?_
        refine qs_n ?_
        refine wp_cf rfl ?_
        refine wp_sk ?_
        refine qs_n ?_
        refine wp_sc ?_
        refine wp_sc ?_
        refine wp_sq ?_
        refine sq_v rfl (v_move rfl) rfl ?_
        refine sq_v rfl (v_move rfl) rfl ?_
        refine sq_x rfl (x_call rfl en_19 (fun w s => ct_l_toIntS _ _ w (rl.mono (s.get 14 rfl)) (by first | assumption | exact iota_held _ _ | omega | rfl))) rfl ?_; rintro v77 h77 r77
        refine sq_u rfl (x_callv rfl en_22 (fun w s => ct_l_eqIntS _ _ _ _ w (r48.toR.mono (s.get 5 rfl)) (r77.toR.mono (s.get 0 rfl)) (by first | assumption | exact iota_held _ _ | omega | rfl))) rfl ?_
        refine sq_v rfl (v_not rfl) rfl ?_
        refine sq_end ?_
        refine qs_n ?_
        refine wp_cf rfl ?_
        refine wp_sk ?_
        refine qs_n ?_
        refine wp_sc ?_
        refine wp_sq ?_
        refine sq_v rfl (v_assign rfl) rfl ?_
        refine sq_end ?_
        refine qs_n ?_
        refine wp_sc ?_
        refine wp_sq ?_
        refine sq_v rfl (v_loadNB 7 ty_48 rfl rfl rfl rfl) rfl ?_
        refine sq_v rfl (v_move rfl) rfl ?_
        refine sq_m 8 rfl rfl (x_call rfl en_32 (fun w s => ct_L_markNetwork _ _ _ _ _ _ _ _ w _ (s.get 8 rfl) o44 (by first | assumption | exact iota_held _ _ | omega | rfl))) rfl ?_; rintro _ h82 ⟨rfl, ts82, op82, om82, hl82⟩
        obtain ⟨cs_T_82, rr_T_82, hc_T_82⟩ := om82.toR.1.at
        refine sq_v rfl (v_assign rfl) rfl ?_
        refine sq_end ?_
        refine qs_n ?_
        refine wp_sc ?_
        refine wp_sq ?_
        refine sq_v rfl (v_move rfl) rfl ?_
        refine sq_v rfl (v_move rfl) rfl ?_
        refine sq_m 6 rfl rfl (x_call rfl en_33 (fun w s => ct_l_markStepS _ _ _ w _ (s.get 6 rfl) r46 (by first | assumption | exact iota_held _ _ | omega | rfl))) rfl ?_; rintro _ h85 ⟨rfl, r85⟩
        obtain ⟨cs_S_85, rr_S_85, hc_S_85⟩ := r85.toR.at
        refine sq_v rfl (v_assign rfl) rfl ?_
        refine sq_end ?_
        refine qs_n ?_
        refine wp_sc ?_
        refine wp_sq ?_
        refine sq_v rfl (v_move rfl) rfl ?_
        refine sq_v rfl (v_move rfl) rfl ?_
        refine sq_m 5 rfl rfl (x_call rfl en_24 (fun w s => ct_l_markIntS _ _ _ w _ (s.get 5 rfl) r48 (by first | assumption | exact iota_held _ _ | omega | rfl))) rfl ?_; rintro _ h88 ⟨rfl, r88⟩
        refine sq_v rfl (v_assign rfl) rfl ?_
        refine sq_end ?_
        refine qs_n ?_
        refine wp_sc ?_
        refine wp_sc ?_
        refine wp_sq ?_
        refine sq_v rfl (v_move rfl) rfl ?_
        refine sq_v rfl (v_lss rfl rfl) rfl ?_
        refine sq_bd 90 rfl (fun c90 => ?_) (fun c90 => ?_)
        · refine sq_v rfl (v_move rfl) rfl ?_
          refine sq_s rfl rfl ?_
          refine sq_s rfl rfl ?_
          refine sq_s rfl rfl ?_
          refine sq_s rfl rfl ?_
          refine sq_v rfl (v_pickt rfl rfl) rfl ?_
          refine sq_v rfl (v_move rfl) rfl ?_
          refine sq_s rfl rfl ?_
          refine sq_s rfl rfl ?_
          refine sq_s rfl rfl ?_
          refine sq_v rfl (v_pickt rfl rfl) rfl ?_
          refine sq_end ?_
          refine qs_n ?_
          refine wp_ct rfl ?_
          refine wp_sc ?_
          refine wp_sq ?_
          refine sq_v rfl (v_assign rfl) rfl ?_
          refine sq_end ?_
          refine qs_n ?_
          refine wp_rt ?_
          refine qs_r ?_
          exfalso; first | omega | contradiction
        · refine sq_v rfl (v_move rfl) rfl ?_
          refine sq_v rfl (v_loadNB 3 ty_88 rfl rfl rfl rfl) rfl ?_
          refine sq_v rfl (v_loadNB 9 ty_88 rfl rfl rfl rfl) rfl ?_
          refine sq_u rfl (x_callv rfl en_59 (fun w s => ct_l_eqJob _ _ _ _ _ _ _ _ _ _ _ _ _ _ w (o53.toR.1.mono (s.get 4 rfl)) (o53.toR.2.1.mono (s.get 4 rfl)) (o53.toR.2.2.1.mono (s.get 4 rfl)) (o53.toR.2.2.2.1.mono (s.get 4 rfl)) (o53.toR.2.2.2.2.mono (s.get 4 rfl)) (o40.toR.1.mono (s.get 10 rfl)) (o40.toR.2.1.mono (s.get 10 rfl)) (o40.toR.2.2.1.mono (s.get 10 rfl)) (o40.toR.2.2.2.1.mono (s.get 10 rfl)) (o40.toR.2.2.2.2.mono (s.get 10 rfl)))) rfl ?_
          refine sq_v rfl (v_not rfl) rfl ?_
          refine sq_v rfl (v_pickf rfl rfl) rfl ?_
          refine sq_v rfl (v_move rfl) rfl ?_
          refine sq_v rfl (v_move rfl) rfl ?_
          refine sq_v rfl (v_move rfl) rfl ?_
          refine sq_v rfl (v_neqsb Try.underlying4 rfl rfl) rfl ?_
          refine sq_v rfl (v_pickf rfl rfl) rfl ?_
          refine sq_end ?_
          refine qs_n ?_
          refine wp_cf rfl ?_
          refine wp_sk ?_
          refine qs_n ?_
          refine wp_sc ?_
          refine wp_sq ?_
          refine sq_v rfl (v_assign rfl) rfl ?_
          refine sq_end ?_
          refine qs_n ?_
          refine wp_sc ?_
          refine wp_sq ?_
          refine sq_v rfl (v_loadNB 3 ty_88 rfl rfl rfl rfl) rfl ?_
          refine sq_v rfl (v_move rfl) rfl ?_
          refine sq_m 4 rfl rfl (x_call rfl en_60 (fun w s => ct_L_markJob _ _ _ _ _ _ _ _ _ _ w _ (s.get 4 rfl) o53 (by first | assumption | exact iota_held _ _ | omega | rfl))) rfl ?_; rintro _ h104 ⟨rfl, ls104, ss104, t104, om104, hl104⟩
          obtain ⟨cs_S_104, rr_S_104, hc_S_104⟩ := om104.toR.2.1.at
          refine sq_v rfl (v_assign rfl) rfl ?_
          refine sq_end ?_
          refine qs_n ?_
          refine wp_sc ?_
          refine wp_sq ?_
          refine sq_v rfl (v_assign rfl) rfl ?_
          refine sq_end ?_
          refine qs_n ?_
          refine wp_sc ?_
          refine wp_sq ?_
          refine sq_v rfl (v_loadNB 3 ty_88 rfl rfl rfl rfl) rfl ?_
          refine sq_v rfl (v_move rfl) rfl ?_
          refine sq_u rfl (x_callv rfl en_61 (fun w s => ct_L_heldJob _ _ _ _ _ _ _ _ _ _ _ w (om104.toR.1.mono (s.get 4 rfl)) (om104.toR.2.1.mono (s.get 4 rfl)) (om104.toR.2.2.1.mono (s.get 4 rfl)) (om104.toR.2.2.2.1.mono (s.get 4 rfl)) (om104.toR.2.2.2.2.mono (s.get 4 rfl)) hl104 (by first | assumption | exact iota_held _ _ | omega | rfl))) rfl ?_
          refine sq_v rfl (v_assign rfl) rfl ?_
          refine sq_end ?_
          refine qs_n ?_
          refine wp_sc ?_
          refine wp_sc ?_
          refine wp_sq ?_
          refine sq_v rfl (v_move rfl) rfl ?_
          refine sq_v rfl (v_lss rfl rfl) rfl ?_
          refine sq_end ?_
          refine qs_n ?_
          refine wp_cd rfl (fun c109 => ?_) (fun c109 => ?_)
          · refine wp_sc ?_
            refine wp_sq ?_
            refine sq_v rfl (v_assign rfl) rfl ?_
            refine sq_end ?_
            refine qs_n ?_
            refine wp_rt ?_
            refine qs_r ?_
            exfalso; first | omega | contradiction
          · refine wp_sk ?_
            refine qs_n ?_
            refine wp_sc ?_
            refine wp_sc ?_
            refine wp_sq ?_
            refine sq_v rfl (v_move rfl) rfl ?_
            refine sq_v rfl (v_move rfl) rfl ?_
            refine sq_v rfl (v_neqs rfl rfl) rfl ?_
            refine sq_end ?_
            refine qs_n ?_
            refine wp_cf rfl ?_
            refine wp_sk ?_
            refine qs_n ?_
            refine wp_sc ?_
            refine wp_sq ?_
            refine sq_v rfl (v_loadNB 14 ty_41 rfl rfl rfl rfl) rfl ?_
            refine sq_x rfl (x_call rfl en_28 (fun w s => ct_L_toNetwork _ _ _ _ _ _ _ w (r.mono (s.get 15 rfl)) (r'.mono (s.get 15 rfl)) (by first | assumption | exact iota_held _ _ | omega | rfl))) rfl ?_; rintro _ h115 ⟨vt115, vo115, rfl, o115⟩
            obtain ⟨cs_T_115, rr_T_115, hc_T_115⟩ := o115.toR.1.at
            refine sq_v rfl (v_move rfl) rfl ?_
            refine sq_x rfl (x_call rfl en_46 (fun w s => ct_l_toStepS _ _ w (rs.mono (s.get 16 rfl)) (by first | assumption | exact iota_held _ _ | omega | rfl))) rfl ?_; rintro v117 h117 r117
            obtain ⟨cs_S_117, rr_S_117, hc_S_117⟩ := r117.toR.at
            refine sq_v rfl (v_move rfl) rfl ?_
            refine sq_x rfl (x_call rfl en_19 (fun w s => ct_l_toIntS _ _ w (rl.mono (s.get 17 rfl)) (by first | assumption | exact iota_held _ _ | omega | rfl))) rfl ?_; rintro v119 h119 r119
            refine sq_x rfl (x_call rfl en_58 (fun w s => ct_i_StartJob _ _ _ _ _ _ _ _ _ _ _ w (o115.toR.1.mono (s.get 2 rfl)) (o115.toR.2.mono (s.get 2 rfl)) (r117.toR.mono (s.get 1 rfl)) (r119.toR.mono (s.get 0 rfl)) (by first | assumption | exact iota_held _ _ | omega | rfl) (by first | assumption | exact iota_held _ _ | omega | rfl))) rfl ?_; rintro _ h120 ⟨va120, vb120, vc120, vd120, ve120, rfl, o120⟩
            obtain ⟨cs_S_120, rr_S_120, hc_S_120⟩ := o120.toR.2.1.at
            refine sq_v rfl (v_move rfl) rfl ?_
            refine sq_v rfl (v_extract rfl rfl) rfl ?_
            refine sq_v rfl (v_extract rfl rfl) rfl ?_
            refine sq_x rfl (x_alloc ty_88 rfl) rfl ?_; rintro _ _ ⟨b18, rfl, rfl⟩
            refine sq_m 0 rfl rfl (m_store 0 ty_88 rfl rfl rfl rfl (by simp [one_int, o120.toR.1.sl.one, o120.toR.2.1.sl.one, o120.toR.2.2.1.sl.one, o120.toR.2.2.2.1.sl.one, o120.toR.2.2.2.2.sl.one]) rfl (Nat.le_of_ble_eq_true rfl)) rfl ?_; rintro _ _ ⟨rfl, rfl⟩
            refine sq_v rfl (v_assign rfl) rfl ?_
            refine sq_end ?_
            refine qs_n ?_
            refine wp_sc ?_
            refine wp_sc ?_
            refine wp_sq ?_
            refine sq_v rfl (v_loadNB 0 ty_88 rfl rfl rfl rfl) rfl ?_
            refine sq_v rfl (v_loadNB 14 ty_88 rfl rfl rfl rfl) rfl ?_
            refine sq_u rfl (x_callv rfl en_59 (fun w s => ct_l_eqJob _ _ _ _ _ _ _ _ _ _ _ _ _ _ w (o120.toR.1.mono (s.get 1 rfl)) (o120.toR.2.1.mono (s.get 1 rfl)) (o120.toR.2.2.1.mono (s.get 1 rfl)) (o120.toR.2.2.2.1.mono (s.get 1 rfl)) (o120.toR.2.2.2.2.mono (s.get 1 rfl)) (o40.toR.1.mono (s.get 15 rfl)) (o40.toR.2.1.mono (s.get 15 rfl)) (o40.toR.2.2.1.mono (s.get 15 rfl)) (o40.toR.2.2.2.1.mono (s.get 15 rfl)) (o40.toR.2.2.2.2.mono (s.get 15 rfl)))) rfl ?_
            refine sq_v rfl (v_not rfl) rfl ?_
            refine sq_v rfl (v_move rfl) rfl ?_
            refine sq_v rfl (v_move rfl) rfl ?_
            refine sq_v rfl (v_move rfl) rfl ?_
            refine sq_v rfl (v_neqsb Try.underlying4 rfl rfl) rfl ?_
            refine sq_v rfl (v_pickf rfl rfl) rfl ?_
            refine sq_end ?_
            refine qs_n ?_
            refine wp_cf rfl ?_
            refine wp_sk ?_
            refine qs_n ?_
            refine wp_sc ?_
            refine wp_sq ?_
            refine sq_v rfl (v_assign rfl) rfl ?_
            refine sq_end ?_
            refine qs_n ?_
            refine wp_sc ?_
            refine wp_sq ?_
            refine sq_v rfl (v_loadNB 8 ty_88 rfl rfl rfl rfl) rfl ?_
            refine sq_v rfl (v_move rfl) rfl ?_
            refine sq_u rfl (x_callv rfl en_61 (fun w s => ct_L_heldJob _ _ _ _ _ _ _ _ _ _ _ w (om104.toR.1.mono (s.get 9 rfl)) (om104.toR.2.1.mono (s.get 9 rfl)) (om104.toR.2.2.1.mono (s.get 9 rfl)) (om104.toR.2.2.2.1.mono (s.get 9 rfl)) (om104.toR.2.2.2.2.mono (s.get 9 rfl)) hl104 (by first | assumption | exact iota_held _ _ | omega | rfl))) rfl ?_
            refine sq_v rfl (v_assign rfl) rfl ?_
            refine sq_end ?_
            refine qs_n ?_
            refine wp_sc ?_
            refine wp_sc ?_
            refine wp_sq ?_
            refine sq_v rfl (v_move rfl) rfl ?_
            refine sq_v rfl (v_lss rfl rfl) rfl ?_
            refine sq_end ?_
            refine qs_n ?_
            refine wp_cd rfl (fun c136 => ?_) (fun c136 => ?_)
            · refine wp_sc ?_
              refine wp_sq ?_
              refine sq_v rfl (v_assign rfl) rfl ?_
              refine sq_end ?_
              refine qs_n ?_
              refine wp_rt ?_
              refine qs_r ?_
              exfalso; first | omega | contradiction
            · refine wp_sk ?_
              refine qs_n ?_
              refine wp_sc ?_
              refine wp_sc ?_
              refine wp_sq ?_
              refine sq_v rfl (v_move rfl) rfl ?_
              refine sq_v rfl (v_move rfl) rfl ?_
              refine sq_v rfl (v_neqs rfl rfl) rfl ?_
              refine sq_end ?_
              refine qs_n ?_
              refine wp_cf rfl ?_
              refine wp_sk ?_
              refine qs_n ?_
              refine wp_sc ?_
              refine wp_sq ?_
              refine sq_v rfl (v_assign rfl) rfl ?_
              refine sq_end ?_
              refine qs_n ?_
              refine wp_rt ?_
              exact qs_ret1 rfl rfl (fin_v (i := 20) rfl)
set_option maxRecDepth 100000 in
theorem lifted_fnExactStartJob (os : Os) (started : os.Started) (H : Type) (enc : TypeId × Value → H) :
    ReturnsInHanded {} Try.checked os 12 .any (Rows.fnExactStartJobSpec.pre6 enc Try.prog Try.f12 Rows.fnExactStartJobRow.domain false) (Rows.fnExactStartJobSpec.post enc Try.prog Try.f12 false true false false) := by
  refine returnsInHanded_of_change (C := Try.checked) lift_own started (by kernel_rfl) Try.func12
    (ChangeSpec.witness6 (enc := enc) (C := Try.checked) false ⟨#[], #[.agg #[.int .i64 0, .int .i64 0, .int .i64 0, .slice none 0 0, .slice none 0 0], .slice none 0 0, .slice none 0 0], []⟩ 8 (by kernel_rfl) (by kernel_rfl) (by kernel_rfl) (by kernel_rfl)) ?_
  intro W base args ds gs before hval0 hW hcnd _
  have hval : ∀ (j : Nat) t v, Try.f12.params[j]? = some t → args[j]? = some v → Value.okWide Try.prog W .any base t v := hval0
  have hW' := hW
  obtain ⟨p, q, hA0, hV, rfl, hfz, hnd⟩ := hW
  have hlt : ∀ x ∈ p, x.block < W.heap.size := fun x hx => by simpa using hW'.lt x (by simp [hx])
  have hA : DataW.TrodAll enc Try.prog W 0 (fun _ => true) true Try.f12.params.toList args.toList ds p := hA0
  have hA1 := hA
  rw [Try.params12] at hA1 hval
  obtain ⟨v0, vs0, d0, ds0, p0, q0, hargs, rfl, rfl, h0, r0⟩ := trodAll_cons hA1
  obtain ⟨v1, vs1, d1, ds1, p1, q1, rfl, rfl, rfl, h1, r1⟩ := trodAll_cons r0
  obtain ⟨v2, vs2, d2, ds2, p2, q2, rfl, rfl, rfl, h2, r2⟩ := trodAll_cons r1
  obtain ⟨rfl, rfl, rfl⟩ := trodAll_nil r2
  obtain rfl : args = #[v0, v1, v2] := by cases args; simp_all
  obtain ⟨rfl, rfl⟩ := trodVars_none hV
  have k0 := hval 0 41 v0 rfl rfl
  have k1 := hval 1 73 v1 rfl rfl
  have k2 := hval 2 24 v2 rfl rfl
  obtain ⟨x0, x1, x2, ts, op, vt, vo, rfl, rt, ro⟩ := arg_network k0 h0
  obtain ⟨ss, rs⟩ := arg_steps k1 h1
  obtain ⟨ls, rl, _⟩ := arg_ints k2 h2
  refine (show Calls Try.prog 12 _ W (RetV W (.bool true)) from ct_l_FnExactStartJob x0 x1 x2 ts op ls ss vt vo v1 v2 W rt ro rs rl).mono fun e W' ⟨he, hu⟩ => ?_
  subst he
  refine ⟨_, rfl, _, _, _, [], _, [], hW', trodAll_mk1 (shut_bool Try.underlying4 true), trodAll_below lift_laid hu.below (by kernel_rfl) hA hlt, rfl, hu.below.frame _, fun h => by cases h⟩
set_option maxHeartbeats 4000000 in
theorem joined_fnExactStartJob : joinedFacts Try.pinned.checked.prog 12 Try.f12 Rows.fnExactStartJobSpec Rows.fnExactStartJobRow = true := by
  unfold joinedFacts
  repeat' (with_reducible refine cd_and ?_ ?_)
  all_goals first | with_reducible exact cd_enter | (with_reducible refine cd_lifts' ?_; rfl) | (with_reducible refine cd_make' ?_; rfl) | (as_aux_lemma => kernel_rfl)
theorem named_fnExactStartJob : Try.pinned.checked.prog.funcNamed Rows.fnExactStartJobRow.func = some 12 := by kernel_rfl
theorem over_fnExactStartJob : Rows.fnExactStartJobRow.holds Try.pinned (OpenSpec.ofChange Rows.fnExactStartJobSpec) :=
  OpenClaim.holds_of_wide 12 Try.f12 rfl rfl rfl rfl rfl rfl rfl ⟨rfl, rfl, rfl, rfl, rfl⟩ rfl rfl rfl rfl rfl named_fnExactStartJob Try.func12 joined_fnExactStartJob
    (of_decide_eq_true (by kernel_rfl)) (by unfold Func.isWrapper; first | (rw [if_pos (by decide +kernel)]; kernel_rfl) | (rw [if_neg (by decide +kernel)]; exact ⟨rfl, rfl⟩))
    (fun os started H enc _ => lifted_fnExactStartJob os started H enc)
/-- The law FnExactStartJob holds at every input. -/
theorem proved_fnExactStartJob : Rows.FnExactStartJobSaid :=
  over_fnExactStartJob
#print axioms proved_fnExactStartJob
end Go.Proofs.Ytikeobneipjfnaa
