/-
  At every network and beginning of an order the program's CompleteOrder returns what the reference's returns; the result shares no memory with an argument.
  Conditions: none.
-/
import Derived.Test.YtalfigjnaidmnaaLiftStep
import Derived.Test.YtalfigjnaidmnaaGreedy6
namespace Go.Proofs.Ytalfigjnaidmnaa
set_option maxRecDepth 100000
open Go.ChangeShapes Go.WideShapes Go.ChangeAt Go.RowKit
/-- Steps and whether there are any. -/
def StepsB (ss : List Stp) (b : Bool) (x : Value) (h : PH) : Prop := ∃ v, x = .tuple [v, .bool b].toArray ∧ StepsO ss v h
theorem ct_L_sCompleteOrder (k p n : Int) (ts : List Ten) (op : List Int) (ss : List Stp) (vt vo v : Value) (w : World) (r : TensR ts vt (hp w)) (r' : IntsR op vo (hp w)) (rv : StepsR ss v (hp w)) (hop : op.length ≤ 1048576) (hss : ss.length ≤ 1048576) :
    Calls Try.prog 58 [netV k p n vt vo, v].toArray w (Ret w emp (StepsB (compS k p n ts op ss) (compB k p n ts op ss))) := ct_s_CompleteOrder k p n ts op ss vt vo v w r r' rv hop hss
theorem ct_L_iCompleteOrder (k p n : Int) (ts : List Ten) (op : List Int) (ss : List Stp) (vt vo v : Value) (w : World) (r : TensR ts vt (hp w)) (r' : IntsR op vo (hp w)) (rv : StepsR ss v (hp w)) (hop : op.length ≤ 1048576) (hss : ss.length ≤ 1048576) :
    Calls Try.prog 59 [netV k p n vt vo, v].toArray w (Ret w emp (StepsB (compS k p n ts op ss) (compB k p n ts op ss))) := ct_i_CompleteOrder k p n ts op ss vt vo v w r r' rv hop hss
theorem comp_len (k p n : Int) (ts : List Ten) (op : List Int) (ss : List Stp) : (compS k p n ts op ss).length ≤ ss.length + 12 := by
  unfold compS
  split
  · rename_i h
    have := h.1.2.1
    rw [List.length_append, greedy_len]
    omega
  · simp
set_option maxHeartbeats 4000000 in
theorem ct_l_FnExactCompleteOrder (k p n : Int) (ts : List Ten) (op : List Int) (ss : List Stp) (vt vo v : Value) (w : World) (r : TensR ts vt (hp w)) (r' : IntsR op vo (hp w)) (rv : StepsR ss v (hp w)) :
    Calls Try.prog 13 [netV k p n vt vo, v].toArray w (RetV w (.bool true)) := by
  have hnn := tensSize_nn ts
  have hcl := comp_len k p n ts op ss
  refine calls_in Try.func13 rfl Try.ntmps13 rfl (Sat.start w) ?_
  have hle0 := r.le
  obtain ⟨cs_r, rr_r, hc_r⟩ := r.at
  have hle1 := r'.le
  have hle2 := rv.le
  obtain ⟨cs_rv, rr_rv, hc_rv⟩ := rv.at
  refine wp_sc ?_
  refine wp_sq ?_
  refine sq_x rfl (x_box rfl rfl) rfl ?_; rintro _ _ ⟨b2, rfl, rfl⟩
  refine sq_v rfl (v_assign rfl) rfl ?_
  refine sq_end ?_
  refine qs_n ?_
  refine wp_sc ?_
  refine wp_sq ?_
  refine sq_v rfl (v_assign rfl) rfl ?_
  refine sq_end ?_
  refine qs_n ?_
  refine wp_sc ?_
  refine wp_sq ?_
  refine sq_v rfl (v_loadNB 0 ty_27 rfl rfl rfl rfl) rfl ?_
  refine sq_v rfl (v_move rfl) rfl ?_
  refine sq_u rfl (x_callv rfl en_15 (fun w s => ct_l_szNetwork _ _ _ _ _ _ _ _ w (r.mono (s.get 1 rfl)) (r'.mono (s.get 1 rfl)) (by first | assumption | exact iota_held _ _ | omega | rfl))) rfl ?_
  refine sq_v rfl (v_assign rfl) rfl ?_
  refine sq_end ?_
  refine qs_n ?_
  refine wp_sc ?_
  refine wp_sc ?_
  refine wp_sq ?_
  refine sq_v rfl (v_move rfl) rfl ?_
  refine sq_v rfl (v_lss rfl rfl) rfl ?_
  refine sq_end ?_
  refine qs_n ?_
  refine wp_cd rfl (fun c21 => ?_) (fun c21 => ?_)
  · refine wp_sc ?_
    refine wp_sq ?_
    refine sq_v rfl (v_assign rfl) rfl ?_
    refine sq_end ?_
    refine qs_n ?_
    refine wp_rt ?_
    refine qs_r ?_
    exact qs_ret1 rfl rfl (fin_v (i := 1) rfl)
  · have hz21 := szV_ge c21
    refine wp_sk ?_
    refine qs_n ?_
    refine wp_sc ?_
    refine wp_sq ?_
    refine sq_v rfl (v_move rfl) rfl ?_
    refine sq_v rfl (v_move rfl) rfl ?_
    refine sq_u rfl (x_callv rfl en_25 (fun w s => ct_l_szStepS _ _ _ w (rv.mono (s.get 1 rfl)) (by first | assumption | exact iota_held _ _ | omega | rfl))) rfl ?_
    refine sq_v rfl (v_assign rfl) rfl ?_
    refine sq_end ?_
    refine qs_n ?_
    refine wp_sc ?_
    refine wp_sc ?_
    refine wp_sq ?_
    refine sq_v rfl (v_move rfl) rfl ?_
    refine sq_v rfl (v_lss rfl rfl) rfl ?_
    refine sq_end ?_
    refine qs_n ?_
    refine wp_cd rfl (fun c26 => ?_) (fun c26 => ?_)
    · refine wp_sc ?_
      refine wp_sq ?_
      refine sq_v rfl (v_assign rfl) rfl ?_
      refine sq_end ?_
      refine qs_n ?_
      refine wp_rt ?_
      refine qs_r ?_
      exact qs_ret1 rfl rfl (fin_v (i := 1) rfl)
    · have hz26 := szV_ge c26
      refine wp_sk ?_
      refine qs_n ?_
      refine wp_sc ?_
      refine wp_sq ?_
      refine sq_v rfl (v_loadNB 0 ty_27 rfl rfl rfl rfl) rfl ?_
      refine sq_x rfl (x_call rfl en_17 (fun w s => ct_L_toNetwork _ _ _ _ _ _ _ w (r.mono (s.get 1 rfl)) (r'.mono (s.get 1 rfl)) (by first | assumption | exact iota_held _ _ | omega | rfl))) rfl ?_; rintro _ h29 ⟨vt29, vo29, rfl, o29⟩
      obtain ⟨cs_T_29, rr_T_29, hc_T_29⟩ := o29.toR.1.at
      refine sq_v rfl (v_move rfl) rfl ?_
      refine sq_x rfl (x_call rfl en_27 (fun w s => ct_l_toStepS _ _ w (rv.mono (s.get 2 rfl)) (by first | assumption | exact iota_held _ _ | omega | rfl))) rfl ?_; rintro v31 h31 r31
      obtain ⟨cs_S_31, rr_S_31, hc_S_31⟩ := r31.toR.at
      refine sq_x rfl (x_call rfl en_58 (fun w s => ct_L_sCompleteOrder _ _ _ _ _ _ _ _ _ w (o29.toR.1.mono (s.get 1 rfl)) (o29.toR.2.mono (s.get 1 rfl)) (r31.toR.mono (s.get 0 rfl)) (by first | assumption | exact iota_held _ _ | omega | rfl) (by first | assumption | exact iota_held _ _ | omega | rfl))) rfl ?_; rintro _ h32 ⟨v32, rfl, r32⟩
      obtain ⟨cs_S_32, rr_S_32, hc_S_32⟩ := r32.toR.at
      refine sq_v rfl (v_move rfl) rfl ?_
      refine sq_v rfl (v_extract rfl rfl) rfl ?_
      refine sq_v rfl (v_extract rfl rfl) rfl ?_
      refine sq_v rfl (v_assign rfl) rfl ?_
      refine sq_v rfl (v_assign rfl) rfl ?_
      refine sq_end ?_
      refine qs_n ?_
      refine wp_sc ?_
      refine wp_sq ?_
      refine sq_v rfl (v_loadNB 3 ty_27 rfl rfl rfl rfl) rfl ?_
      refine sq_x rfl (x_call rfl en_17 (fun w s => ct_L_toNetwork _ _ _ _ _ _ _ w (r.mono (s.get 4 rfl)) (r'.mono (s.get 4 rfl)) (by first | assumption | exact iota_held _ _ | omega | rfl))) rfl ?_; rintro _ h36 ⟨vt36, vo36, rfl, o36⟩
      obtain ⟨cs_T_36, rr_T_36, hc_T_36⟩ := o36.toR.1.at
      refine sq_x rfl (x_alloc ty_33 rfl) rfl ?_; rintro _ _ ⟨b8, rfl, rfl⟩
      refine sq_m 0 rfl rfl (m_store 0 ty_33 rfl rfl rfl rfl (by simp [one_int, o36.toR.1.sl.one, o36.toR.2.sl.one]) rfl (Nat.le_of_ble_eq_true rfl)) rfl ?_; rintro _ _ ⟨rfl, rfl⟩
      refine sq_end ?_
      refine qs_n ?_
      refine wp_sc ?_
      refine wp_sq ?_
      refine sq_v rfl (v_move rfl) rfl ?_
      refine sq_x rfl (x_call rfl en_27 (fun w s => ct_l_toStepS _ _ w (rv.mono (s.get 6 rfl)) (by first | assumption | exact iota_held _ _ | omega | rfl))) rfl ?_; rintro v38 h38 r38
      obtain ⟨cs_S_38, rr_S_38, hc_S_38⟩ := r38.toR.at
      refine sq_v rfl (v_assign rfl) rfl ?_
      refine sq_end ?_
      refine qs_n ?_
      refine wp_sc ?_
      refine wp_sq ?_
      refine sq_v rfl (v_loadNB 1 ty_33 rfl rfl rfl rfl) rfl ?_
      refine sq_v rfl (v_move rfl) rfl ?_
      refine sq_x rfl (x_call rfl en_59 (fun w s => ct_L_iCompleteOrder _ _ _ _ _ _ _ _ _ w (o36.toR.1.mono (s.get 2 rfl)) (o36.toR.2.mono (s.get 2 rfl)) (r38.toR.mono (s.get 0 rfl)) (by first | assumption | exact iota_held _ _ | omega | rfl) (by first | assumption | exact iota_held _ _ | omega | rfl))) rfl ?_; rintro _ h42 ⟨v42, rfl, r42⟩
      obtain ⟨cs_S_42, rr_S_42, hc_S_42⟩ := r42.toR.at
      refine sq_v rfl (v_move rfl) rfl ?_
      refine sq_v rfl (v_extract rfl rfl) rfl ?_
      refine sq_v rfl (v_extract rfl rfl) rfl ?_
      refine sq_v rfl (v_assign rfl) rfl ?_
      refine sq_v rfl (v_assign rfl) rfl ?_
      refine sq_end ?_
      refine qs_n ?_
      refine wp_sc ?_
      refine wp_sc ?_
      refine wp_sq ?_
      refine sq_v rfl (v_move rfl) rfl ?_
      refine sq_v rfl (v_move rfl) rfl ?_
      refine sq_u rfl (x_callv rfl en_29 (fun w s => ct_l_eqStepS _ _ _ w (r42.toR.mono (s.get 0 rfl)) (r32.toR.mono (s.get 4 rfl)))) rfl ?_
      refine sq_v rfl (v_not rfl) rfl ?_
      refine sq_v rfl (v_move rfl) rfl ?_
      refine sq_v rfl (v_move rfl) rfl ?_
      refine sq_v rfl (v_move rfl) rfl ?_
      refine sq_v rfl (v_neqsb Try.underlying4 rfl rfl) rfl ?_
      refine sq_v rfl (v_pickf rfl rfl) rfl ?_
      refine sq_end ?_
      refine qs_n ?_
      refine wp_cf rfl ?_
      refine wp_sk ?_
      refine qs_n ?_
      refine wp_sc ?_
      refine wp_sc ?_
      refine wp_rj 5 [(0, true), (1, true), (2, false), (3, false), (4, true)] mixed_ok (by kernel_rfl) ?_
      refine rj_v rfl rfl (v_loadNB 2 ty_33 rfl rfl rfl rfl) rfl ?_
      refine rj_v rfl rfl (v_loadNB 7 ty_27 rfl rfl rfl rfl) rfl ?_
      refine rj_x rfl rfl (x_call rfl en_17 (fun w s => ct_L_toNetwork _ _ _ _ _ _ _ w (r.mono (s.get 8 rfl)) (r'.mono (s.get 8 rfl)) (by first | assumption | exact iota_held _ _ | omega | rfl))) rfl ?_; rintro _ h56 ⟨vt56, vo56, rfl, o56⟩
      obtain ⟨cs_T_56, rr_T_56, hc_T_56⟩ := o56.toR.1.at
      refine rj_u rfl rfl (x_callv rfl en_21 (fun w s => ct_l_eqNetwork _ _ _ _ _ _ _ _ _ w (o36.toR.1.mono (s.get 4 rfl)) (o36.toR.2.mono (s.get 4 rfl)) (o56.toR.1.mono (s.get 0 rfl)) (o56.toR.2.mono (s.get 0 rfl)))) rfl ?_
      refine rj_v rfl rfl (v_not rfl) rfl ?_
      refine rj_end ?_
      refine qs_n ?_
      refine wp_cf rfl ?_
      refine wp_sk ?_
      refine qs_n ?_
      refine wp_sc ?_
      refine wp_sc ?_
      refine wp_sq ?_
      refine sq_v rfl (v_move rfl) rfl ?_
      refine sq_v rfl (v_move rfl) rfl ?_
      refine sq_x rfl (x_call rfl en_27 (fun w s => ct_l_toStepS _ _ w (rv.mono (s.get 9 rfl)) (by first | assumption | exact iota_held _ _ | omega | rfl))) rfl ?_; rintro v61 h61 r61
      obtain ⟨cs_S_61, rr_S_61, hc_S_61⟩ := r61.toR.at
      refine sq_u rfl (x_callv rfl en_29 (fun w s => ct_l_eqStepS _ _ _ w (r38.toR.mono (s.get 3 rfl)) (r61.toR.mono (s.get 0 rfl)))) rfl ?_
      refine sq_v rfl (v_not rfl) rfl ?_
      refine sq_end ?_
      refine qs_n ?_
      refine wp_cf rfl ?_
      refine wp_sk ?_
      refine qs_n ?_
      refine wp_sc ?_
      refine wp_sq ?_
      refine sq_v rfl (v_assign rfl) rfl ?_
      refine sq_end ?_
      refine qs_n ?_
      refine wp_sc ?_
      refine wp_sq ?_
      refine sq_v rfl (v_loadNB 4 ty_33 rfl rfl rfl rfl) rfl ?_
      refine sq_v rfl (v_move rfl) rfl ?_
      refine sq_m 5 rfl rfl (x_call rfl en_22 (fun w s => ct_L_markNetwork _ _ _ _ _ _ _ _ w _ (s.get 5 rfl) o36 (by first | assumption | exact iota_held _ _ | omega | rfl))) rfl ?_; rintro _ h66 ⟨rfl, ts66, op66, om66, hl66⟩
      obtain ⟨cs_T_66, rr_T_66, hc_T_66⟩ := om66.toR.1.at
      refine sq_v rfl (v_assign rfl) rfl ?_
      refine sq_end ?_
      refine qs_n ?_
      refine wp_sc ?_
      refine wp_sq ?_
      refine sq_v rfl (v_move rfl) rfl ?_
      refine sq_v rfl (v_move rfl) rfl ?_
      refine sq_m 3 rfl rfl (x_call rfl en_30 (fun w s => ct_l_markStepS _ _ _ w _ (s.get 3 rfl) r38 (by first | assumption | exact iota_held _ _ | omega | rfl))) rfl ?_; rintro _ h69 ⟨rfl, r69⟩
      obtain ⟨cs_S_69, rr_S_69, hc_S_69⟩ := r69.toR.at
      refine sq_v rfl (v_assign rfl) rfl ?_
      refine sq_end ?_
      refine qs_n ?_
      refine wp_sc ?_
      refine wp_sc ?_
      refine wp_sq ?_
      refine sq_v rfl (v_move rfl) rfl ?_
      refine sq_v rfl (v_lss rfl rfl) rfl ?_
      refine sq_bd 71 rfl (fun c71 => ?_) (fun c71 => ?_)
      · refine sq_v rfl (v_move rfl) rfl ?_
        refine sq_s rfl rfl ?_
        refine sq_s rfl rfl ?_
        refine sq_s rfl rfl ?_
        refine sq_s rfl rfl ?_
        refine sq_v rfl (v_pickt rfl rfl) rfl ?_
        refine sq_v rfl (v_move rfl) rfl ?_
        refine sq_s rfl rfl ?_
        refine sq_s rfl rfl ?_
        refine sq_s rfl rfl ?_
        refine sq_v rfl (v_pickt rfl rfl) rfl ?_
        refine sq_end ?_
        refine qs_n ?_
        refine wp_ct rfl ?_
        refine wp_sc ?_
        refine wp_sq ?_
        refine sq_v rfl (v_assign rfl) rfl ?_
        refine sq_end ?_
        refine qs_n ?_
        refine wp_rt ?_
        refine qs_r ?_
        exfalso; first | omega | contradiction
      · refine sq_v rfl (v_move rfl) rfl ?_
        refine sq_v rfl (v_move rfl) rfl ?_
        refine sq_v rfl (v_move rfl) rfl ?_
        refine sq_u rfl (x_callv rfl en_29 (fun w s => ct_l_eqStepS _ _ _ w (r42.toR.mono (s.get 2 rfl)) (r32.toR.mono (s.get 6 rfl)))) rfl ?_
        refine sq_v rfl (v_not rfl) rfl ?_
        refine sq_v rfl (v_pickf rfl rfl) rfl ?_
        refine sq_v rfl (v_move rfl) rfl ?_
        refine sq_v rfl (v_move rfl) rfl ?_
        refine sq_v rfl (v_move rfl) rfl ?_
        refine sq_v rfl (v_neqsb Try.underlying4 rfl rfl) rfl ?_
        refine sq_v rfl (v_pickf rfl rfl) rfl ?_
        refine sq_end ?_
        refine qs_n ?_
        refine wp_cf rfl ?_
        refine wp_sk ?_
        refine qs_n ?_
        refine wp_sc ?_
        refine wp_sq ?_
        refine sq_v rfl (v_assign rfl) rfl ?_
        refine sq_end ?_
        refine qs_n ?_
        refine wp_sc ?_
        refine wp_sq ?_
        refine sq_v rfl (v_move rfl) rfl ?_
        refine sq_v rfl (v_move rfl) rfl ?_
        refine sq_m 2 rfl rfl (x_call rfl en_30 (fun w s => ct_l_markStepS _ _ _ w _ (s.get 2 rfl) r42 (by first | assumption | exact iota_held _ _ | omega | rfl))) rfl ?_; rintro _ h85 ⟨rfl, r85⟩
        obtain ⟨cs_S_85, rr_S_85, hc_S_85⟩ := r85.toR.at
        refine sq_v rfl (v_assign rfl) rfl ?_
        refine sq_end ?_
        refine qs_n ?_
        refine wp_sc ?_
        refine wp_sq ?_
        refine sq_v rfl (v_assign rfl) rfl ?_
        refine sq_end ?_
        refine qs_n ?_
        refine wp_sc ?_
        refine wp_sq ?_
        refine sq_v rfl (v_move rfl) rfl ?_
        refine sq_v rfl (v_move rfl) rfl ?_
        refine sq_u rfl (x_callv rfl en_50 (fun w s => ct_l_heldStepS _ _ _ w (r85.toR.mono (s.get 2 rfl)) (by first | assumption | exact iota_held _ _ | omega | rfl))) rfl ?_
        refine sq_v rfl (v_assign rfl) rfl ?_
        refine sq_end ?_
        refine qs_n ?_
        refine wp_sc ?_
        refine wp_sc ?_
        refine wp_sq ?_
        refine sq_v rfl (v_move rfl) rfl ?_
        refine sq_v rfl (v_lss rfl rfl) rfl ?_
        refine sq_end ?_
        refine qs_n ?_
        refine wp_cd rfl (fun c90 => ?_) (fun c90 => ?_)
        · refine wp_sc ?_
          refine wp_sq ?_
          refine sq_v rfl (v_assign rfl) rfl ?_
          refine sq_end ?_
          refine qs_n ?_
          refine wp_rt ?_
          refine qs_r ?_
          exfalso; first | omega | contradiction
        · refine wp_sk ?_
          refine qs_n ?_
          refine wp_sc ?_
          refine wp_sc ?_
          refine wp_sq ?_
          refine sq_v rfl (v_move rfl) rfl ?_
          refine sq_v rfl (v_move rfl) rfl ?_
          refine sq_v rfl (v_neq rfl rfl) rfl ?_
          refine sq_end ?_
          refine qs_n ?_
          refine wp_cd rfl (fun c93 => ?_) (fun c93 => ?_)
          · refine wp_sc ?_
            refine wp_sq ?_
            refine sq_v rfl (v_assign rfl) rfl ?_
            refine sq_end ?_
            refine qs_n ?_
            refine wp_rt ?_
            refine qs_r ?_
            exfalso; first | omega | contradiction
          · refine wp_sk ?_
            refine qs_n ?_
            refine wp_sc ?_
            refine wp_sq ?_
            refine sq_v rfl (v_loadNB 9 ty_27 rfl rfl rfl rfl) rfl ?_
            refine sq_x rfl (x_call rfl en_17 (fun w s => ct_L_toNetwork _ _ _ _ _ _ _ w (r.mono (s.get 10 rfl)) (r'.mono (s.get 10 rfl)) (by first | assumption | exact iota_held _ _ | omega | rfl))) rfl ?_; rintro _ h96 ⟨vt96, vo96, rfl, o96⟩
            obtain ⟨cs_T_96, rr_T_96, hc_T_96⟩ := o96.toR.1.at
            refine sq_v rfl (v_move rfl) rfl ?_
            refine sq_x rfl (x_call rfl en_27 (fun w s => ct_l_toStepS _ _ w (rv.mono (s.get 11 rfl)) (by first | assumption | exact iota_held _ _ | omega | rfl))) rfl ?_; rintro v98 h98 r98
            obtain ⟨cs_S_98, rr_S_98, hc_S_98⟩ := r98.toR.at
            refine sq_x rfl (x_call rfl en_59 (fun w s => ct_L_iCompleteOrder _ _ _ _ _ _ _ _ _ w (o96.toR.1.mono (s.get 1 rfl)) (o96.toR.2.mono (s.get 1 rfl)) (r98.toR.mono (s.get 0 rfl)) (by first | assumption | exact iota_held _ _ | omega | rfl) (by first | assumption | exact iota_held _ _ | omega | rfl))) rfl ?_; rintro _ h99 ⟨v99, rfl, r99⟩
            obtain ⟨cs_S_99, rr_S_99, hc_S_99⟩ := r99.toR.at
            refine sq_v rfl (v_move rfl) rfl ?_
            refine sq_v rfl (v_extract rfl rfl) rfl ?_
            refine sq_v rfl (v_extract rfl rfl) rfl ?_
            refine sq_v rfl (v_assign rfl) rfl ?_
            refine sq_v rfl (v_assign rfl) rfl ?_
            refine sq_end ?_
            refine qs_n ?_
            refine wp_sc ?_
            refine wp_sc ?_
            refine wp_sq ?_
            refine sq_v rfl (v_move rfl) rfl ?_
            refine sq_v rfl (v_move rfl) rfl ?_
            refine sq_u rfl (x_callv rfl en_29 (fun w s => ct_l_eqStepS _ _ _ w (r99.toR.mono (s.get 0 rfl)) (r32.toR.mono (s.get 9 rfl)))) rfl ?_
            refine sq_v rfl (v_not rfl) rfl ?_
            refine sq_v rfl (v_move rfl) rfl ?_
            refine sq_v rfl (v_move rfl) rfl ?_
            refine sq_v rfl (v_move rfl) rfl ?_
            refine sq_v rfl (v_neqsb Try.underlying4 rfl rfl) rfl ?_
            refine sq_v rfl (v_pickf rfl rfl) rfl ?_
            refine sq_end ?_
            refine qs_n ?_
            refine wp_cf rfl ?_
            refine wp_sk ?_
            refine qs_n ?_
            refine wp_sc ?_
            refine wp_sq ?_
            refine sq_v rfl (v_assign rfl) rfl ?_
            refine sq_end ?_
            refine qs_n ?_
            refine wp_sc ?_
            refine wp_sq ?_
            refine sq_v rfl (v_move rfl) rfl ?_
            refine sq_v rfl (v_move rfl) rfl ?_
            refine sq_u rfl (x_callv rfl en_50 (fun w s => ct_l_heldStepS _ _ _ w (r85.toR.mono (s.get 5 rfl)) (by first | assumption | exact iota_held _ _ | omega | rfl))) rfl ?_
            refine sq_v rfl (v_assign rfl) rfl ?_
            refine sq_end ?_
            refine qs_n ?_
            refine wp_sc ?_
            refine wp_sc ?_
            refine wp_sq ?_
            refine sq_v rfl (v_move rfl) rfl ?_
            refine sq_v rfl (v_lss rfl rfl) rfl ?_
            refine sq_end ?_
            refine qs_n ?_
            refine wp_cd rfl (fun c115 => ?_) (fun c115 => ?_)
            · refine wp_sc ?_
              refine wp_sq ?_
              refine sq_v rfl (v_assign rfl) rfl ?_
              refine sq_end ?_
              refine qs_n ?_
              refine wp_rt ?_
              refine qs_r ?_
              exfalso; first | omega | contradiction
            · refine wp_sk ?_
              refine qs_n ?_
              refine wp_sc ?_
              refine wp_sc ?_
              refine wp_sq ?_
              refine sq_v rfl (v_move rfl) rfl ?_
              refine sq_v rfl (v_move rfl) rfl ?_
              refine sq_v rfl (v_neq rfl rfl) rfl ?_
              refine sq_end ?_
              refine qs_n ?_
              refine wp_cd rfl (fun c118 => ?_) (fun c118 => ?_)
              · refine wp_sc ?_
                refine wp_sq ?_
                refine sq_v rfl (v_assign rfl) rfl ?_
                refine sq_end ?_
                refine qs_n ?_
                refine wp_rt ?_
                refine qs_r ?_
                exfalso; first | omega | contradiction
              · refine wp_sk ?_
                refine qs_n ?_
                refine wp_sc ?_
                refine wp_sq ?_
                refine sq_v rfl (v_assign rfl) rfl ?_
                refine sq_end ?_
                refine qs_n ?_
                refine wp_rt ?_
                exact qs_ret1 rfl rfl (fin_v (i := 13) rfl)
set_option maxRecDepth 100000 in
theorem lifted_fnExactCompleteOrder (os : Os) (started : os.Started) (H : Type) (enc : TypeId × Value → H) :
    ReturnsInHanded {} Try.checked os 13 .any (Rows.fnExactCompleteOrderSpec.pre6 enc Try.prog Try.f13 Rows.fnExactCompleteOrderRow.domain false) (Rows.fnExactCompleteOrderSpec.post enc Try.prog Try.f13 false true false false) := by
  refine returnsInHanded_of_change (C := Try.checked) lift_own started (by kernel_rfl) Try.func13
    (ChangeSpec.witness6 (enc := enc) (C := Try.checked) false ⟨#[], #[.agg #[.int .i64 0, .int .i64 0, .int .i64 0, .slice none 0 0, .slice none 0 0], .slice none 0 0], []⟩ 8 (by kernel_rfl) (by kernel_rfl) (by kernel_rfl) (by kernel_rfl)) ?_
  intro W base args ds gs before hval0 hW hcnd _
  have hval : ∀ (j : Nat) t v, Try.f13.params[j]? = some t → args[j]? = some v → Value.okWide Try.prog W .any base t v := hval0
  have hW' := hW
  obtain ⟨p, q, hA0, hV, rfl, hfz, hnd⟩ := hW
  have hlt : ∀ x ∈ p, x.block < W.heap.size := fun x hx => by simpa using hW'.lt x (by simp [hx])
  have hA : DataW.TrodAll enc Try.prog W 0 (fun _ => true) true Try.f13.params.toList args.toList ds p := hA0
  have hA1 := hA
  rw [Try.params13] at hA1 hval
  obtain ⟨v0, vs0, d0, ds0, p0, q0, hargs, rfl, rfl, h0, r0⟩ := trodAll_cons hA1
  obtain ⟨v1, vs1, d1, ds1, p1, q1, rfl, rfl, rfl, h1, r1⟩ := trodAll_cons r0
  obtain ⟨rfl, rfl, rfl⟩ := trodAll_nil r1
  obtain rfl : args = #[v0, v1] := by cases args; simp_all
  obtain ⟨rfl, rfl⟩ := trodVars_none hV
  have k0 := hval 0 27 v0 rfl rfl
  have k1 := hval 1 41 v1 rfl rfl
  obtain ⟨x0, x1, x2, ts, op, vt, vo, rfl, rt, ro⟩ := arg_network k0 h0
  obtain ⟨ss, rv⟩ := arg_steps k1 h1
  refine (show Calls Try.prog 13 _ W (RetV W (.bool true)) from ct_l_FnExactCompleteOrder x0 x1 x2 ts op ss vt vo v1 W rt ro rv).mono fun e W' ⟨he, hu⟩ => ?_
  subst he
  refine ⟨_, rfl, _, _, _, [], _, [], hW', trodAll_mk1 (shut_bool Try.underlying4 true), trodAll_below lift_laid hu.below (by kernel_rfl) hA hlt, rfl, hu.below.frame _, fun h => by cases h⟩
theorem over_fnExactCompleteOrder : Rows.fnExactCompleteOrderRow.holds Try.pinned (OpenSpec.ofChange Rows.fnExactCompleteOrderSpec) :=
  OpenClaim.holds_of_wide 13 Try.f13 rfl rfl rfl rfl rfl rfl rfl ⟨rfl, rfl, rfl, rfl, rfl⟩ rfl rfl rfl rfl rfl (by kernel_rfl) Try.func13 (by kernel_rfl)
    (of_decide_eq_true (by kernel_rfl)) (by unfold Func.isWrapper; first | (rw [if_pos (by decide +kernel)]; kernel_rfl) | (rw [if_neg (by decide +kernel)]; exact ⟨rfl, rfl⟩))
    (fun os started H enc _ => lifted_fnExactCompleteOrder os started H enc)
/-- The law FnExactCompleteOrder holds at every input. -/
theorem proved_fnExactCompleteOrder : Rows.FnExactCompleteOrderSaid :=
  over_fnExactCompleteOrder
#print axioms proved_fnExactCompleteOrder
end Go.Proofs.Ytalfigjnaidmnaa
