/-
  At every network and order the program's Contract returns what the reference's returns; the result shares no memory with an argument.
  Conditions: none.
-/
import Derived.Test.YtehjljijionhaaaGreatQContract9
namespace Go.Proofs.YtehjljijionhaaaGreat
set_option maxRecDepth 100000
open Go.ChangeShapes Go.WideShapes Go.ChangeAt Go.RowKit
set_option maxHeartbeats 8000000 in
theorem ct_l_FnExactContract (k p n : Int) (ts : List Ten) (op : List Int) (ss : List Stp) (vt vo v : Value) (w : World) (r : TensR ts vt (hp w)) (r' : IntsR op vo (hp w)) (rv : StepsR ss v (hp w)) :
    Calls Tryz.prog 4 [netV k p n vt vo, v].toArray w (RetV w (.bool true)) := by
  have hnn := tensSize_nn ts
  have hcs := con_size (k := k) (p := p) (n := n) (ts := ts) (op := op) (ss := ss)
  refine calls_in Tryz.func4 rfl Tryz.ntmps4 rfl (Sat.start w) ?_
  have hle0 := r.le
  obtain ⟨cs_r, rr_r, hc_r⟩ := r.at
  have hle1 := r'.le
  have hle2 := rv.le
  obtain ⟨cs_rv, rr_rv, hc_rv⟩ := rv.at
  refine wp_sc ?_
  refine wp_sq ?_
  refine sq_x rfl (x_box rfl rfl) rfl ?_; rintro _ _ ⟨b2, rfl, rfl⟩
  refine sq_v rfl (v_assign rfl) rfl ?_
  refine sq_end ?_
  refine qs_n ?_
  refine wp_sc ?_
  refine wp_sq ?_
  refine sq_v rfl (v_assign rfl) rfl ?_
  refine sq_end ?_
  refine qs_n ?_
  refine wp_sc ?_
  refine wp_sq ?_
  refine sq_v rfl (v_loadNB 0 ty_27 rfl rfl rfl rfl) rfl ?_
  refine sq_v rfl (v_move rfl) rfl ?_
  refine sq_u rfl (x_callv rfl en_15 (fun w s => ct_l_szNetwork _ _ _ _ _ _ _ _ w (r.mono (s.get 1 rfl)) (r'.mono (s.get 1 rfl)) (by first | assumption | exact iota_held _ _ | omega | rfl))) rfl ?_
  refine sq_v rfl (v_assign rfl) rfl ?_
  refine sq_end ?_
  refine qs_n ?_
  refine wp_sc ?_
  refine wp_sc ?_
  refine wp_sq ?_
  refine sq_v rfl (v_move rfl) rfl ?_
  refine sq_v rfl (v_lss rfl rfl) rfl ?_
  refine sq_end ?_
  refine qs_n ?_
  refine wp_cd rfl (fun c21 => ?_) (fun c21 => ?_)
  · refine wp_sc ?_
    refine wp_sq ?_
    refine sq_v rfl (v_assign rfl) rfl ?_
    refine sq_end ?_
    refine qs_n ?_
    refine wp_rt ?_
    refine qs_r ?_
    exact qs_ret1 rfl rfl (fin_v (i := 1) rfl)
  · have hz21 := szV_ge c21
    refine wp_sk ?_
    refine qs_n ?_
    refine wp_sc ?_
    refine wp_sq ?_
    refine sq_v rfl (v_move rfl) rfl ?_
    refine sq_v rfl (v_move rfl) rfl ?_
    refine sq_u rfl (x_callv rfl en_24 (fun w s => ct_l_szStepS _ _ _ w (rv.mono (s.get 1 rfl)) (by first | assumption | exact iota_held _ _ | omega | rfl))) rfl ?_
    refine sq_v rfl (v_assign rfl) rfl ?_
    refine sq_end ?_
    refine qs_n ?_
    refine wp_sc ?_
    refine wp_sc ?_
    refine wp_sq ?_
    refine sq_v rfl (v_move rfl) rfl ?_
    refine sq_v rfl (v_lss rfl rfl) rfl ?_
    refine sq_end ?_
    refine qs_n ?_
    refine wp_cd rfl (fun c26 => ?_) (fun c26 => ?_)
    · refine wp_sc ?_
      refine wp_sq ?_
      refine sq_v rfl (v_assign rfl) rfl ?_
      refine sq_end ?_
      refine qs_n ?_
      refine wp_rt ?_
      refine qs_r ?_
      exact qs_ret1 rfl rfl (fin_v (i := 1) rfl)
    · have hz26 := szV_ge c26
      refine wp_sk ?_
      refine qs_n ?_
      refine wp_sc ?_
      refine wp_sq ?_
      refine sq_v rfl (v_loadNB 0 ty_27 rfl rfl rfl rfl) rfl ?_
      refine sq_x rfl (x_call rfl en_17 (fun w s => ct_L_toNetwork _ _ _ _ _ _ _ w (r.mono (s.get 1 rfl)) (r'.mono (s.get 1 rfl)) (by first | assumption | exact iota_held _ _ | omega | rfl))) rfl ?_; rintro _ h29 ⟨vt29, vo29, rfl, o29⟩
      obtain ⟨cs_T_29, rr_T_29, hc_T_29⟩ := o29.toR.1.at
      refine sq_v rfl (v_move rfl) rfl ?_
      refine sq_x rfl (x_call rfl en_26 (fun w s => ct_l_toStepS _ _ w (rv.mono (s.get 2 rfl)) (by first | assumption | exact iota_held _ _ | omega | rfl))) rfl ?_; rintro v31 h31 r31
      obtain ⟨cs_S_31, rr_S_31, hc_S_31⟩ := r31.toR.at
      refine sq_x rfl (x_call rfl en_25 (fun w s => ct_s_Contract _ _ _ _ _ _ _ _ _ w (o29.toR.1.mono (s.get 1 rfl)) (o29.toR.2.mono (s.get 1 rfl)) (r31.toR.mono (s.get 0 rfl)) (by first | assumption | exact iota_held _ _ | omega | rfl) (by first | assumption | exact iota_held _ _ | omega | rfl))) rfl ?_; rintro _ h32 ⟨va32, vb32, vc32, rfl, o32⟩
      refine sq_v rfl (v_move rfl) rfl ?_
      refine sq_v rfl (v_extract rfl rfl) rfl ?_
      refine sq_v rfl (v_extract rfl rfl) rfl ?_
      refine sq_x rfl (x_alloc ty_44 rfl) rfl ?_; rintro _ _ ⟨b6, rfl, rfl⟩
      refine sq_m 0 rfl rfl (m_store 0 ty_44 rfl rfl rfl rfl (by simp [o32.toR.1.sl.one, o32.toR.2.1.sl.one, o32.toR.2.2.sl.one]) rfl (Nat.le_of_ble_eq_true rfl)) rfl ?_; rintro _ _ ⟨rfl, rfl⟩
      refine sq_v rfl (v_assign rfl) rfl ?_
      refine sq_end ?_
      refine qs_n ?_
      refine wp_sc ?_
      refine wp_sq ?_
      refine sq_v rfl (v_loadNB 4 ty_27 rfl rfl rfl rfl) rfl ?_
      refine sq_x rfl (x_call rfl en_17 (fun w s => ct_L_toNetwork _ _ _ _ _ _ _ w (r.mono (s.get 5 rfl)) (r'.mono (s.get 5 rfl)) (by first | assumption | exact iota_held _ _ | omega | rfl))) rfl ?_; rintro _ h36 ⟨vt36, vo36, rfl, o36⟩
      obtain ⟨cs_T_36, rr_T_36, hc_T_36⟩ := o36.toR.1.at
      refine sq_x rfl (x_alloc ty_34 rfl) rfl ?_; rintro _ _ ⟨b8, rfl, rfl⟩
      refine sq_m 0 rfl rfl (m_store 0 ty_34 rfl rfl rfl rfl (by simp [one_int, o36.toR.1.sl.one, o36.toR.2.sl.one]) rfl (Nat.le_of_ble_eq_true rfl)) rfl ?_; rintro _ _ ⟨rfl, rfl⟩
      refine sq_end ?_
      refine qs_n ?_
      refine wp_sc ?_
      refine wp_sq ?_
      refine sq_v rfl (v_move rfl) rfl ?_
      refine sq_x rfl (x_call rfl en_26 (fun w s => ct_l_toStepS _ _ w (rv.mono (s.get 7 rfl)) (by first | assumption | exact iota_held _ _ | omega | rfl))) rfl ?_; rintro v38 h38 r38
      obtain ⟨cs_S_38, rr_S_38, hc_S_38⟩ := r38.toR.at
      refine sq_v rfl (v_assign rfl) rfl ?_
      refine sq_end ?_
      refine qs_n ?_
      refine wp_sc ?_
      refine wp_sq ?_
      refine sq_v rfl (v_loadNB 1 ty_34 rfl rfl rfl rfl) rfl ?_
      refine sq_v rfl (v_move rfl) rfl ?_
      refine sq_x rfl (x_call rfl en_27 (fun w s => ct_i_Contract _ _ _ _ _ _ _ _ _ w (o36.toR.1.mono (s.get 2 rfl)) (o36.toR.2.mono (s.get 2 rfl)) (r38.toR.mono (s.get 0 rfl)) (by first | assumption | exact iota_held _ _ | omega | rfl))) rfl ?_; rintro _ h42 ⟨va42, vb42, vc42, rfl, o42⟩
      refine sq_v rfl (v_move rfl) rfl ?_
      refine sq_v rfl (v_extract rfl rfl) rfl ?_
      refine sq_v rfl (v_extract rfl rfl) rfl ?_
      refine sq_x rfl (x_alloc ty_44 rfl) rfl ?_; rintro _ _ ⟨b10, rfl, rfl⟩
      refine sq_m 0 rfl rfl (m_store 0 ty_44 rfl rfl rfl rfl (by simp [o42.toR.1.sl.one, o42.toR.2.1.sl.one, o42.toR.2.2.sl.one]) rfl (Nat.le_of_ble_eq_true rfl)) rfl ?_; rintro _ _ ⟨rfl, rfl⟩
      refine sq_v rfl (v_assign rfl) rfl ?_
      refine sq_end ?_
      refine qs_n ?_
      refine wp_sc ?_
      refine wp_sc ?_
      refine wp_sq ?_
      refine sq_v rfl (v_loadNB 0 ty_44 rfl rfl rfl rfl) rfl ?_
      refine sq_v rfl (v_loadNB 5 ty_44 rfl rfl rfl rfl) rfl ?_
      refine sq_u rfl (x_callv rfl en_28 (fun w s => ct_l_eqTensor _ _ _ _ _ _ _ w (o42.toR.1.mono (s.get 1 rfl)) (o42.toR.2.1.mono (s.get 1 rfl)) (o42.toR.2.2.mono (s.get 1 rfl)) (o32.toR.1.mono (s.get 6 rfl)) (o32.toR.2.1.mono (s.get 6 rfl)) (o32.toR.2.2.mono (s.get 6 rfl)))) rfl ?_
      refine sq_v rfl (v_not rfl) rfl ?_
      refine sq_v rfl (v_move rfl) rfl ?_
      refine sq_v rfl (v_move rfl) rfl ?_
      refine sq_v rfl (v_move rfl) rfl ?_
      refine sq_v rfl (v_neqsb Tryz.underlying4 rfl rfl) rfl ?_
      refine sq_v rfl (v_pickf rfl rfl) rfl ?_
      refine sq_end ?_
      refine qs_n ?_
      refine wp_cf rfl ?_
      refine wp_sk ?_
      refine qs_n ?_
      refine wp_sc ?_
      refine wp_sc ?_
      refine wp_rj 5 [(0, true), (1, true), (2, false), (3, false), (4, true)] mixed_ok (by kernel_rfl) ?_
      refine rj_v rfl rfl (v_loadNB 3 ty_34 rfl rfl rfl rfl) rfl ?_
      refine rj_v rfl rfl (v_loadNB 9 ty_27 rfl rfl rfl rfl) rfl ?_
      refine rj_x rfl rfl (x_call rfl en_17 (fun w s => ct_L_toNetwork _ _ _ _ _ _ _ w (r.mono (s.get 10 rfl)) (r'.mono (s.get 10 rfl)) (by first | assumption | exact iota_held _ _ | omega | rfl))) rfl ?_; rintro _ h56 ⟨vt56, vo56, rfl, o56⟩
      obtain ⟨cs_T_56, rr_T_56, hc_T_56⟩ := o56.toR.1.at
      refine rj_u rfl rfl (x_callv rfl en_20 (fun w s => ct_l_eqNetwork _ _ _ _ _ _ _ _ _ w (o36.toR.1.mono (s.get 5 rfl)) (o36.toR.2.mono (s.get 5 rfl)) (o56.toR.1.mono (s.get 0 rfl)) (o56.toR.2.mono (s.get 0 rfl)))) rfl ?_
      refine rj_v rfl rfl (v_not rfl) rfl ?_
      refine rj_end ?_
      refine qs_n ?_
      refine wp_cf rfl ?_
      refine wp_sk ?_
      refine qs_n ?_
      refine wp_sc ?_
      refine wp_sc ?_
      refine wp_sq ?_
      refine sq_v rfl (v_move rfl) rfl ?_
      refine sq_v rfl (v_move rfl) rfl ?_
      refine sq_x rfl (x_call rfl en_26 (fun w s => ct_l_toStepS _ _ w (rv.mono (s.get 11 rfl)) (by first | assumption | exact iota_held _ _ | omega | rfl))) rfl ?_; rintro v61 h61 r61
      obtain ⟨cs_S_61, rr_S_61, hc_S_61⟩ := r61.toR.at
      refine sq_u rfl (x_callv rfl en_29 (fun w s => ct_l_eqStepS _ _ _ w (r38.toR.mono (s.get 4 rfl)) (r61.toR.mono (s.get 0 rfl)))) rfl ?_
      refine sq_v rfl (v_not rfl) rfl ?_
      refine sq_end ?_
      refine qs_n ?_
      refine wp_cf rfl ?_
      refine wp_sk ?_
      refine qs_n ?_
      refine wp_sc ?_
      refine wp_sq ?_
      refine sq_v rfl (v_assign rfl) rfl ?_
      refine sq_end ?_
      refine qs_n ?_
      refine wp_sc ?_
      refine wp_sq ?_
      refine sq_v rfl (v_loadNB 5 ty_34 rfl rfl rfl rfl) rfl ?_
      refine sq_v rfl (v_move rfl) rfl ?_
      refine sq_m 6 rfl rfl (x_call rfl en_21 (fun w s => ct_L_markNetwork _ _ _ _ _ _ _ _ w _ (s.get 6 rfl) o36 (by first | assumption | exact iota_held _ _ | omega | rfl))) rfl ?_; rintro _ h66 ⟨rfl, ts66, op66, om66, hl66⟩
      obtain ⟨cs_T_66, rr_T_66, hc_T_66⟩ := om66.toR.1.at
      refine sq_v rfl (v_assign rfl) rfl ?_
      refine sq_end ?_
      refine qs_n ?_
      refine wp_sc ?_
      refine wp_sq ?_
      refine sq_v rfl (v_move rfl) rfl ?_
      refine sq_v rfl (v_move rfl) rfl ?_
      refine sq_m 4 rfl rfl (x_call rfl en_30 (fun w s => ct_l_markStepS _ _ _ w _ (s.get 4 rfl) r38 (by first | assumption | exact iota_held _ _ | omega | rfl))) rfl ?_; rintro _ h69 ⟨rfl, r69⟩
      obtain ⟨cs_S_69, rr_S_69, hc_S_69⟩ := r69.toR.at
      refine sq_v rfl (v_assign rfl) rfl ?_
      refine sq_end ?_
      refine qs_n ?_
      refine wp_sc ?_
      refine wp_sc ?_
      refine wp_sq ?_
      refine sq_v rfl (v_move rfl) rfl ?_
      refine sq_v rfl (v_lss rfl rfl) rfl ?_
      refine sq_bd 71 rfl (fun c71 => ?_) (fun c71 => ?_)
      · refine sq_v rfl (v_move rfl) rfl ?_
        refine sq_s rfl rfl ?_
        refine sq_s rfl rfl ?_
        refine sq_s rfl rfl ?_
        refine sq_s rfl rfl ?_
        refine sq_v rfl (v_pickt rfl rfl) rfl ?_
        refine sq_v rfl (v_move rfl) rfl ?_
        refine sq_s rfl rfl ?_
        refine sq_s rfl rfl ?_
        refine sq_s rfl rfl ?_
        refine sq_v rfl (v_pickt rfl rfl) rfl ?_
        refine sq_end ?_
        refine qs_n ?_
        refine wp_ct rfl ?_
        refine wp_sc ?_
        refine wp_sq ?_
        refine sq_v rfl (v_assign rfl) rfl ?_
        refine sq_end ?_
        refine qs_n ?_
        refine wp_rt ?_
        refine qs_r ?_
        exfalso; first | omega | contradiction
      · refine sq_v rfl (v_move rfl) rfl ?_
        refine sq_v rfl (v_loadNB 2 ty_44 rfl rfl rfl rfl) rfl ?_
        refine sq_v rfl (v_loadNB 7 ty_44 rfl rfl rfl rfl) rfl ?_
        refine sq_u rfl (x_callv rfl en_28 (fun w s => ct_l_eqTensor _ _ _ _ _ _ _ w (o42.toR.1.mono (s.get 3 rfl)) (o42.toR.2.1.mono (s.get 3 rfl)) (o42.toR.2.2.mono (s.get 3 rfl)) (o32.toR.1.mono (s.get 8 rfl)) (o32.toR.2.1.mono (s.get 8 rfl)) (o32.toR.2.2.mono (s.get 8 rfl)))) rfl ?_
        refine sq_v rfl (v_not rfl) rfl ?_
        refine sq_v rfl (v_pickf rfl rfl) rfl ?_
        refine sq_v rfl (v_move rfl) rfl ?_
        refine sq_v rfl (v_move rfl) rfl ?_
        refine sq_v rfl (v_move rfl) rfl ?_
        refine sq_v rfl (v_neqsb Tryz.underlying4 rfl rfl) rfl ?_
        refine sq_v rfl (v_pickf rfl rfl) rfl ?_
        refine sq_end ?_
        refine qs_n ?_
        refine wp_cf rfl ?_
        refine wp_sk ?_
        refine qs_n ?_
        refine wp_sc ?_
        refine wp_sq ?_
        refine sq_v rfl (v_assign rfl) rfl ?_
        refine sq_end ?_
        refine qs_n ?_
        refine wp_sc ?_
        refine wp_sq ?_
        refine sq_v rfl (v_loadNB 2 ty_44 rfl rfl rfl rfl) rfl ?_
        refine sq_v rfl (v_move rfl) rfl ?_
        refine sq_m 3 rfl rfl (x_call rfl en_31 (fun w s => ct_L_markTensor _ _ _ _ _ w _ (s.get 3 rfl) o42 (by first | assumption | exact iota_held _ _ | omega | rfl))) rfl ?_; rintro _ h85 ⟨rfl, t85, om85, hl85⟩
        refine sq_v rfl (v_assign rfl) rfl ?_
        refine sq_end ?_
        refine qs_n ?_
        refine wp_sc ?_
        refine wp_sq ?_
        refine sq_v rfl (v_assign rfl) rfl ?_
        refine sq_end ?_
        refine qs_n ?_
        refine wp_sc ?_
        refine wp_sq ?_
        refine sq_v rfl (v_loadNB 2 ty_44 rfl rfl rfl rfl) rfl ?_
        refine sq_v rfl (v_move rfl) rfl ?_
        refine sq_u rfl (x_callv rfl en_32 (fun w s => ct_L_heldTensor _ _ _ _ _ _ w (om85.toR.1.mono (s.get 3 rfl)) (om85.toR.2.1.mono (s.get 3 rfl)) (om85.toR.2.2.mono (s.get 3 rfl)) hl85 (by first | assumption | exact iota_held _ _ | omega | rfl))) rfl ?_
        refine sq_v rfl (v_assign rfl) rfl ?_
        refine sq_end ?_
        refine qs_n ?_
        refine wp_sc ?_
        refine wp_sc ?_
        refine wp_sq ?_
        refine sq_v rfl (v_move rfl) rfl ?_
        refine sq_v rfl (v_lss rfl rfl) rfl ?_
        refine sq_end ?_
        refine qs_n ?_
        refine wp_cd rfl (fun c90 => ?_) (fun c90 => ?_)
        · refine wp_sc ?_
          refine wp_sq ?_
          refine sq_v rfl (v_assign rfl) rfl ?_
          refine sq_end ?_
          refine qs_n ?_
          refine wp_rt ?_
          refine qs_r ?_
          exfalso; first | omega | contradiction
        · refine wp_sk ?_
          refine qs_n ?_
          refine wp_sc ?_
          refine wp_sc ?_
          refine wp_sq ?_
          refine sq_v rfl (v_move rfl) rfl ?_
          refine sq_v rfl (v_move rfl) rfl ?_
          refine sq_v rfl (v_neqs rfl rfl) rfl ?_
          refine sq_end ?_
          refine qs_n ?_
          refine wp_cf rfl ?_
          refine wp_sk ?_
          refine qs_n ?_
          refine wp_sc ?_
          refine wp_sq ?_
          refine sq_v rfl (v_loadNB 11 ty_27 rfl rfl rfl rfl) rfl ?_
          refine sq_x rfl (x_call rfl en_17 (fun w s => ct_L_toNetwork _ _ _ _ _ _ _ w (r.mono (s.get 12 rfl)) (r'.mono (s.get 12 rfl)) (by first | assumption | exact iota_held _ _ | omega | rfl))) rfl ?_; rintro _ h96 ⟨vt96, vo96, rfl, o96⟩
          obtain ⟨cs_T_96, rr_T_96, hc_T_96⟩ := o96.toR.1.at
          refine sq_v rfl (v_move rfl) rfl ?_
          refine sq_x rfl (x_call rfl en_26 (fun w s => ct_l_toStepS _ _ w (rv.mono (s.get 13 rfl)) (by first | assumption | exact iota_held _ _ | omega | rfl))) rfl ?_; rintro v98 h98 r98
          obtain ⟨cs_S_98, rr_S_98, hc_S_98⟩ := r98.toR.at
          refine sq_x rfl (x_call rfl en_27 (fun w s => ct_i_Contract _ _ _ _ _ _ _ _ _ w (o96.toR.1.mono (s.get 1 rfl)) (o96.toR.2.mono (s.get 1 rfl)) (r98.toR.mono (s.get 0 rfl)) (by first | assumption | exact iota_held _ _ | omega | rfl))) rfl ?_; rintro _ h99 ⟨va99, vb99, vc99, rfl, o99⟩
          refine sq_v rfl (v_move rfl) rfl ?_
          refine sq_v rfl (v_extract rfl rfl) rfl ?_
          refine sq_v rfl (v_extract rfl rfl) rfl ?_
          refine sq_x rfl (x_alloc ty_44 rfl) rfl ?_; rintro _ _ ⟨b15, rfl, rfl⟩
          refine sq_m 0 rfl rfl (m_store 0 ty_44 rfl rfl rfl rfl (by simp [o99.toR.1.sl.one, o99.toR.2.1.sl.one, o99.toR.2.2.sl.one]) rfl (Nat.le_of_ble_eq_true rfl)) rfl ?_; rintro _ _ ⟨rfl, rfl⟩
          refine sq_v rfl (v_assign rfl) rfl ?_
          refine sq_end ?_
          refine qs_n ?_
          refine wp_sc ?_
          refine wp_sc ?_
          refine wp_sq ?_
          refine sq_v rfl (v_loadNB 0 ty_44 rfl rfl rfl rfl) rfl ?_
          refine sq_v rfl (v_loadNB 11 ty_44 rfl rfl rfl rfl) rfl ?_
          refine sq_u rfl (x_callv rfl en_28 (fun w s => ct_l_eqTensor _ _ _ _ _ _ _ w (o99.toR.1.mono (s.get 1 rfl)) (o99.toR.2.1.mono (s.get 1 rfl)) (o99.toR.2.2.mono (s.get 1 rfl)) (o32.toR.1.mono (s.get 12 rfl)) (o32.toR.2.1.mono (s.get 12 rfl)) (o32.toR.2.2.mono (s.get 12 rfl)))) rfl ?_
          refine sq_v rfl (v_not rfl) rfl ?_
          refine sq_v rfl (v_move rfl) rfl ?_
          refine sq_v rfl (v_move rfl) rfl ?_
          refine sq_v rfl (v_move rfl) rfl ?_
          refine sq_v rfl (v_neqsb Tryz.underlying4 rfl rfl) rfl ?_
          refine sq_v rfl (v_pickf rfl rfl) rfl ?_
          refine sq_end ?_
          refine qs_n ?_
          refine wp_cf rfl ?_
          refine wp_sk ?_
          refine qs_n ?_
          refine wp_sc ?_
          refine wp_sq ?_
          refine sq_v rfl (v_assign rfl) rfl ?_
          refine sq_end ?_
          refine qs_n ?_
          refine wp_sc ?_
          refine wp_sq ?_
          refine sq_v rfl (v_loadNB 6 ty_44 rfl rfl rfl rfl) rfl ?_
          refine sq_v rfl (v_move rfl) rfl ?_
          refine sq_u rfl (x_callv rfl en_32 (fun w s => ct_L_heldTensor _ _ _ _ _ _ w (om85.toR.1.mono (s.get 7 rfl)) (om85.toR.2.1.mono (s.get 7 rfl)) (om85.toR.2.2.mono (s.get 7 rfl)) hl85 (by first | assumption | exact iota_held _ _ | omega | rfl))) rfl ?_
          refine sq_v rfl (v_assign rfl) rfl ?_
          refine sq_end ?_
          refine qs_n ?_
          refine wp_sc ?_
          refine wp_sc ?_
          refine wp_sq ?_
          refine sq_v rfl (v_move rfl) rfl ?_
          refine sq_v rfl (v_lss rfl rfl) rfl ?_
          refine sq_end ?_
          refine qs_n ?_
          refine wp_cd rfl (fun c115 => ?_) (fun c115 => ?_)
          · refine wp_sc ?_
            refine wp_sq ?_
            refine sq_v rfl (v_assign rfl) rfl ?_
            refine sq_end ?_
            refine qs_n ?_
            refine wp_rt ?_
            refine qs_r ?_
            exfalso; first | omega | contradiction
          · refine wp_sk ?_
            refine qs_n ?_
            refine wp_sc ?_
            refine wp_sc ?_
            refine wp_sq ?_
            refine sq_v rfl (v_move rfl) rfl ?_
            refine sq_v rfl (v_move rfl) rfl ?_
            refine sq_v rfl (v_neqs rfl rfl) rfl ?_
            refine sq_end ?_
            refine qs_n ?_
            refine wp_cf rfl ?_
            refine wp_sk ?_
            refine qs_n ?_
            refine wp_sc ?_
            refine wp_sq ?_
            refine sq_v rfl (v_assign rfl) rfl ?_
            refine sq_end ?_
            refine qs_n ?_
            refine wp_rt ?_
            exact qs_ret1 rfl rfl (fin_v (i := 16) rfl)
set_option maxRecDepth 100000 in
theorem lifted_fnExactContract (os : Os) (started : os.Started) (H : Type) (enc : TypeId × Value → H) :
    ReturnsInHanded {} Tryz.checked os 4 .any (Rows.fnExactContractSpec.pre6 enc Tryz.prog Tryz.f4 Rows.fnExactContractRow.domain false) (Rows.fnExactContractSpec.post enc Tryz.prog Tryz.f4 false true false false) := by
  refine returnsInHanded_of_change (C := Tryz.checked) lift_own started (by kernel_rfl) Tryz.func4
    (ChangeSpec.witness6 (enc := enc) (C := Tryz.checked) false ⟨#[], #[.agg #[.int .i64 0, .int .i64 0, .int .i64 0, .slice none 0 0, .slice none 0 0], .slice none 0 0], []⟩ 8 (by kernel_rfl) (by kernel_rfl) (by kernel_rfl) (by kernel_rfl)) ?_
  intro W base args ds gs before hval0 hW hcnd _
  have hval : ∀ (j : Nat) t v, Tryz.f4.params[j]? = some t → args[j]? = some v → Value.okWide Tryz.prog W .any base t v := hval0
  have hW' := hW
  obtain ⟨p, q, hA0, hV, rfl, hfz, hnd⟩ := hW
  have hlt : ∀ x ∈ p, x.block < W.heap.size := fun x hx => by simpa using hW'.lt x (by simp [hx])
  have hA : DataW.TrodAll enc Tryz.prog W 0 (fun _ => true) true Tryz.f4.params.toList args.toList ds p := hA0
  have hA1 := hA
  rw [Tryz.params4] at hA1 hval
  obtain ⟨v0, vs0, d0, ds0, p0, q0, hargs, rfl, rfl, h0, r0⟩ := trodAll_cons hA1
  obtain ⟨v1, vs1, d1, ds1, p1, q1, rfl, rfl, rfl, h1, r1⟩ := trodAll_cons r0
  obtain ⟨rfl, rfl, rfl⟩ := trodAll_nil r1
  obtain rfl : args = #[v0, v1] := by cases args; simp_all
  obtain ⟨rfl, rfl⟩ := trodVars_none hV
  have k0 := hval 0 27 v0 rfl rfl
  have k1 := hval 1 41 v1 rfl rfl
  obtain ⟨x0, x1, x2, ts, op, vt, vo, rfl, rt, ro⟩ := arg_network k0 h0
  obtain ⟨ss, rv⟩ := arg_steps k1 h1
  refine (show Calls Tryz.prog 4 _ W (RetV W (.bool true)) from ct_l_FnExactContract x0 x1 x2 ts op ss vt vo v1 W rt ro rv).mono fun e W' ⟨he, hu⟩ => ?_
  subst he
  refine ⟨_, rfl, _, _, _, [], _, [], hW', trodAll_mk1 (shut_bool Tryz.underlying4 true), trodAll_below lift_laid hu.below (by kernel_rfl) hA hlt, rfl, hu.below.frame _, fun h => by cases h⟩
set_option maxHeartbeats 4000000 in
theorem joined_fnExactContract : joinedFacts Tryz.pinned.checked.prog 4 Tryz.f4 Rows.fnExactContractSpec Rows.fnExactContractRow = true := by
  unfold joinedFacts
  repeat' (with_reducible refine cd_and ?_ ?_)
  all_goals first | with_reducible exact cd_enter | (with_reducible refine cd_lifts' ?_; rfl) | (with_reducible refine cd_make' ?_; rfl) | (as_aux_lemma => kernel_rfl)
theorem named_fnExactContract : Tryz.pinned.checked.prog.funcNamed Rows.fnExactContractRow.func = some 4 := by kernel_rfl
theorem over_fnExactContract : Rows.fnExactContractRow.holds Tryz.pinned (OpenSpec.ofChange Rows.fnExactContractSpec) :=
  OpenClaim.holds_of_wide 4 Tryz.f4 rfl rfl rfl rfl rfl rfl rfl ⟨rfl, rfl, rfl, rfl, rfl⟩ rfl rfl rfl rfl rfl named_fnExactContract Tryz.func4 joined_fnExactContract
    (of_decide_eq_true (by kernel_rfl)) (by unfold Func.isWrapper; first | (rw [if_pos (by decide +kernel)]; kernel_rfl) | (rw [if_neg (by decide +kernel)]; exact ⟨rfl, rfl⟩))
    (fun os started H enc _ => lifted_fnExactContract os started H enc)
/-- The law FnExactContract holds at every input. -/
theorem proved_fnExactContract : Rows.FnExactContractSaid :=
  over_fnExactContract
#print axioms proved_fnExactContract
end Go.Proofs.YtehjljijionhaaaGreat
