/-
  The law's helpers for jobs: size, copy, comparison.
  Conditions: none.
-/
import Derived.Test.YtalfigjnaidmnaaLaw5
import Derived.Test.YtalfigjnaidmnaaJob
namespace Go.Proofs.Ytalfigjnaidmnaa
set_option maxRecDepth 100000
open Go.RowKit
def JobO (ls : List Int) (ss : List Stp) (t : Ten) (a b c d e : Value) (h : PH) : Prop := ∃ h1 h2 h3, IntsO ls a h1 ∧ StepsO ss b h2 ∧ TriO t c d e h3 ∧ Made h [h1, h2, h3]
theorem JobO.toR {ls : List Int} {ss : List Stp} {t : Ten} {a b c d e : Value} {h : PH} (r : JobO ls ss t a b c d e h) : IntsR ls a h ∧ StepsR ss b h ∧ IntsR t.l c h ∧ IntsR t.d d h ∧ IntsR t.x e h := by
  obtain ⟨h1, h2, h3, r1, r2, r3, m⟩ := r
  have l := m.le h3 (by simp)
  exact ⟨r1.toR.mono (m.le h1 (by simp)), r2.toR.mono (m.le h2 (by simp)), r3.toR.1.mono l, r3.toR.2.1.mono l, r3.toR.2.2.mono l⟩
def JobT (ls : List Int) (ss : List Stp) (n : Int) (t : Ten) (u : Value) (h : PH) : Prop := ∃ a b c d e, u = jobV a b n c d e ∧ JobO ls ss t a b c d e h
theorem ct_l_szJob (ls : List Int) (ss : List Stp) (n : Int) (t : Ten) (a b c d e : Value) (left : Int) (w : World) (ra : IntsR ls a (hp w)) (rb : StepsR ss b (hp w)) (rc : IntsR t.l c (hp w)) (rd : IntsR t.d d (hp w)) (re : IntsR t.x e (hp w)) (hl : 0 ≤ left ∧ left ≤ 1048576) :
    Calls Try.prog 51 [jobV a b n c d e, num left].toArray w (RetV w (num (szV left (ls.length + ss.length + tenSize t)))) := by
  have htn := tenSize_nn t
  refine calls_in Try.func51 rfl Try.ntmps51 rfl (Sat.start w) ?_
  have hle0 := ra.le
  have hle1 := rb.le
  obtain ⟨cs_rb, rr_rb, hc_rb⟩ := rb.at
  have hle2 := rc.le
  have hle3 := rd.le
  have hle4 := re.le
  refine wp_sc ?_
  refine wp_sq ?_
  refine sq_x rfl (x_box rfl rfl) rfl ?_; rintro _ _ ⟨b2, rfl, rfl⟩
  refine sq_v rfl (v_assign rfl) rfl ?_
  refine sq_end ?_
  refine qs_n ?_
  refine wp_sc ?_
  refine wp_sq ?_
  refine sq_v rfl (v_fieldAddr fd_71_0 ty_25 (by decide) rfl) rfl ?_
  refine sq_v rfl (v_loadB 0 ty_25 rfl rfl rfl) rfl ?_
  refine sq_v rfl (v_move rfl) rfl ?_
  refine sq_u rfl (x_callv rfl en_64 (fun w s => ct_l_szIntS _ _ _ w (ra.mono (s.get 1 rfl)) (by first | assumption | exact iota_held _ _ | omega | rfl))) rfl ?_
  refine sq_v rfl (v_assign rfl) rfl ?_
  refine sq_end ?_
  refine qs_n ?_
  refine wp_sc ?_
  refine wp_sc ?_
  refine wp_sq ?_
  refine sq_v rfl (v_move rfl) rfl ?_
  refine sq_v rfl (v_lss rfl rfl) rfl ?_
  refine sq_end ?_
  refine qs_n ?_
  refine wp_cd rfl (fun c10 => ?_) (fun c10 => ?_)
  · refine wp_sc ?_
    refine wp_sq ?_
    refine sq_v rfl (v_assign rfl) rfl ?_
    refine sq_end ?_
    refine qs_n ?_
    refine wp_rt ?_
    refine qs_r ?_
    exact qs_ret1 rfl rfl (fin_q (i := 1) rfl (by rw [Int.add_assoc, szV_neg c10 (by omega)]))
  · refine wp_sk ?_
    refine qs_n ?_
    refine wp_sc ?_
    refine wp_sq ?_
    refine sq_v rfl (v_fieldAddr fd_71_1 ty_41 (by decide) rfl) rfl ?_
    refine sq_v rfl (v_loadB 0 ty_41 rfl rfl rfl) rfl ?_
    refine sq_v rfl (v_move rfl) rfl ?_
    have h1 := szV_ge c10
    refine sq_u rfl (x_callv rfl en_25 (fun w s => ct_l_szStepS _ _ _ w (rb.mono (s.get 1 rfl)) (by first | assumption | exact iota_held _ _ | omega | rfl))) rfl ?_
    refine sq_v rfl (v_assign rfl) rfl ?_
    refine sq_end ?_
    refine qs_n ?_
    refine wp_sc ?_
    refine wp_sc ?_
    refine wp_sq ?_
    refine sq_v rfl (v_move rfl) rfl ?_
    refine sq_v rfl (v_lss rfl rfl) rfl ?_
    refine sq_end ?_
    refine qs_n ?_
    refine wp_cd rfl (fun c16 => ?_) (fun c16 => ?_)
    · refine wp_sc ?_
      refine wp_sq ?_
      refine sq_v rfl (v_assign rfl) rfl ?_
      refine sq_end ?_
      refine qs_n ?_
      refine wp_rt ?_
      refine qs_r ?_
      exact qs_ret1 rfl rfl (fin_q (i := 1) rfl (by rw [szV_add c10] at c16; rw [szV_neg c16 (by omega)]))
    · refine wp_sk ?_
      refine qs_n ?_
      refine wp_sc ?_
      refine wp_sq ?_
      refine sq_v rfl (v_fieldAddr fd_71_3 ty_50 (by decide) rfl) rfl ?_
      refine sq_v rfl (v_loadNB 0 ty_50 rfl rfl rfl rfl) rfl ?_
      refine sq_v rfl (v_move rfl) rfl ?_
      have h2 := szV_ge c16
      refine sq_u rfl (x_callv rfl en_31 (fun w s => ct_l_szTensor _ _ _ _ _ w (rc.mono (s.get 1 rfl)) (rd.mono (s.get 1 rfl)) (re.mono (s.get 1 rfl)) (by first | assumption | exact iota_held _ _ | omega | rfl))) rfl ?_
      refine sq_v rfl (v_assign rfl) rfl ?_
      refine sq_end ?_
      refine qs_n ?_
      refine wp_sc ?_
      refine wp_sc ?_
      refine wp_sq ?_
      refine sq_v rfl (v_move rfl) rfl ?_
      refine sq_v rfl (v_lss rfl rfl) rfl ?_
      refine sq_end ?_
      refine qs_n ?_
      refine wp_cd rfl (fun c22 => ?_) (fun c22 => ?_)
      · refine wp_sc ?_
        refine wp_sq ?_
        refine sq_v rfl (v_assign rfl) rfl ?_
        refine sq_end ?_
        refine qs_n ?_
        refine wp_rt ?_
        refine qs_r ?_
        exact qs_ret1 rfl rfl (fin_q (i := 1) rfl (by rw [szV_add c16, szV_add c10] at c22; rw [Int.add_assoc]; have := szV_lt c22; rw [szV, if_pos this]))
      · refine wp_sk ?_
        refine qs_n ?_
        refine wp_sc ?_
        refine wp_sq ?_
        refine sq_v rfl (v_move rfl) rfl ?_
        refine sq_v rfl (v_assign rfl) rfl ?_
        refine sq_end ?_
        refine qs_n ?_
        refine wp_rt ?_
        exact qs_ret1 rfl rfl (fin_q (i := 1) rfl (by rw [szV_add c16, szV_add c10, Int.add_assoc]))
theorem ct_l_toJob (ls : List Int) (ss : List Stp) (n : Int) (t : Ten) (a b c d e : Value) (w : World) (ra : IntsR ls a (hp w)) (rb : StepsR ss b (hp w)) (rc : IntsR t.l c (hp w)) (rd : IntsR t.d d (hp w)) (re : IntsR t.x e (hp w)) (hs : ls.length + ss.length + tenSize t ≤ 1048576) :
    Calls Try.prog 53 [jobV a b n c d e].toArray w (Ret w emp (JobT ls ss n t)) := by
  have htn := tenSize_nn t
  refine calls_in Try.func53 rfl Try.ntmps53 rfl (Sat.start w) ?_
  have hle0 := ra.le
  have hle1 := rb.le
  obtain ⟨cs_rb, rr_rb, hc_rb⟩ := rb.at
  have hle2 := rc.le
  have hle3 := rd.le
  have hle4 := re.le
  refine wp_sc ?_
  refine wp_sq ?_
  refine sq_x rfl (x_box rfl rfl) rfl ?_; rintro _ _ ⟨b1, rfl, rfl⟩
  refine sq_x rfl (x_alloc ty_75 rfl) rfl ?_; rintro _ _ ⟨b2, rfl, rfl⟩
  refine sq_end ?_
  refine qs_n ?_
  refine wp_sc ?_
  refine wp_sq ?_
  refine sq_x rfl (x_alloc ty_75 rfl) rfl ?_; rintro _ _ ⟨b3, rfl, rfl⟩
  refine sq_end ?_
  refine qs_n ?_
  refine wp_sc ?_
  refine wp_sq ?_
  refine sq_v rfl (v_fieldAddr fd_71_0 ty_25 (by decide) rfl) rfl ?_
  refine sq_v rfl (v_loadB 2 ty_25 rfl rfl rfl) rfl ?_
  refine sq_x rfl (x_call rfl en_18 (fun w s => ct_l_toIntS _ _ w (ra.mono (s.get 3 rfl)) (by first | assumption | exact iota_held _ _ | omega | rfl))) rfl ?_; rintro v6 h6 r6
  refine sq_v rfl (v_fieldAddr fd_75_0 ty_25 (by decide) rfl) rfl ?_
  refine sq_m 1 rfl rfl (m_store1 1 ty_25 rfl rfl r6.toR.sl.one rfl (Nat.le_of_ble_eq_true rfl)) rfl ?_; rintro _ _ ⟨rfl, rfl⟩
  refine sq_end ?_
  refine qs_n ?_
  refine wp_sc ?_
  refine wp_sq ?_
  refine sq_v rfl (v_fieldAddr fd_71_1 ty_41 (by decide) rfl) rfl ?_
  refine sq_v rfl (v_loadB 3 ty_41 rfl rfl rfl) rfl ?_
  refine sq_x rfl (x_call rfl en_27 (fun w s => ct_l_toStepS _ _ w (rb.mono (s.get 4 rfl)) (by first | assumption | exact iota_held _ _ | omega | rfl))) rfl ?_; rintro v10 h10 r10
  obtain ⟨cs_S_10, rr_S_10, hc_S_10⟩ := r10.toR.at
  refine sq_v rfl (v_fieldAddr fd_75_1 ty_44 (by decide) rfl) rfl ?_
  refine sq_m 2 rfl rfl (m_store1 2 ty_44 rfl rfl r10.toR.sl.one rfl (Nat.le_of_ble_eq_true rfl)) rfl ?_; rintro _ _ ⟨rfl, rfl⟩
  refine sq_end ?_
  refine qs_n ?_
  refine wp_sc ?_
  refine wp_sq ?_
  refine sq_v rfl (v_fieldAddr fd_71_2 ty_3 (by decide) rfl) rfl ?_
  refine sq_v rfl (v_loadB 4 ty_3 rfl rfl rfl) rfl ?_
  refine sq_v rfl (v_fieldAddr fd_75_2 ty_3 (by decide) rfl) rfl ?_
  refine sq_m 2 rfl rfl (m_store1 2 ty_3 rfl rfl rfl rfl (Nat.le_of_ble_eq_true rfl)) rfl ?_; rintro _ _ ⟨rfl, rfl⟩
  refine sq_end ?_
  refine qs_n ?_
  refine wp_sc ?_
  refine wp_sq ?_
  refine sq_v rfl (v_fieldAddr fd_71_3 ty_50 (by decide) rfl) rfl ?_
  refine sq_v rfl (v_loadNB 4 ty_50 rfl rfl rfl rfl) rfl ?_
  refine sq_x rfl (x_call rfl en_34 (fun w s => ct_L_toTensor _ _ _ _ w (rc.mono (s.get 5 rfl)) (rd.mono (s.get 5 rfl)) (re.mono (s.get 5 rfl)) (by first | assumption | exact iota_held _ _ | omega | rfl))) rfl ?_; rintro _ h17 ⟨va17, vb17, vc17, rfl, o17⟩
  refine sq_v rfl (v_fieldAddr fd_75_3 ty_52 (by decide) rfl) rfl ?_
  refine sq_m 3 rfl rfl (m_store 3 ty_52 rfl rfl rfl rfl (by simp [o17.toR.1.sl.one, o17.toR.2.1.sl.one, o17.toR.2.2.sl.one]) rfl (Nat.le_of_ble_eq_true rfl)) rfl ?_; rintro _ _ ⟨rfl, rfl⟩
  refine sq_end ?_
  refine qs_n ?_
  refine wp_sc ?_
  refine wp_sq ?_
  refine sq_v rfl (v_loadNB 3 ty_75 rfl rfl rfl rfl) rfl ?_
  refine sq_m 4 rfl rfl (m_store 4 ty_75 rfl rfl rfl rfl (by simp [one_int, r6.toR.sl.one, r10.toR.sl.one, o17.toR.1.sl.one, o17.toR.2.1.sl.one, o17.toR.2.2.sl.one]) rfl (Nat.le_of_ble_eq_true rfl)) rfl ?_; rintro _ _ ⟨rfl, rfl⟩
  refine sq_end ?_
  refine qs_n ?_
  refine wp_rt ?_
  refine qs_close [box b2 _ _, hp w] [h6, h10, h17] (fun _ s => s.pick [4, 6, 2, 1, 0] (by decide) rfl) (fun md => ?_)
  exact qs_retc 1 rfl ty_75 rfl rfl rfl (fin_t 0 (i := 2) rfl rfl rfl ⟨_, _, _, _, _, rfl, h6, h10, h17, r6, r10, o17, md⟩)
theorem ct_l_eqJob (ls : List Int) (ss : List Stp) (n : Int) (t : Ten) (a b c d e a' b' c' d' e' : Value) (w : World) (ra : IntsR ls a (hp w)) (rb : StepsR ss b (hp w)) (rc : IntsR t.l c (hp w)) (rd : IntsR t.d d (hp w)) (re : IntsR t.x e (hp w)) (ra' : IntsR ls a' (hp w)) (rb' : StepsR ss b' (hp w)) (rc' : IntsR t.l c' (hp w)) (rd' : IntsR t.d d' (hp w)) (re' : IntsR t.x e' (hp w)) :
    Calls Try.prog 55 [jobV a b n c d e, jobV a' b' n c' d' e'].toArray w (RetV w (.bool true)) := by
  refine calls_in Try.func55 rfl Try.ntmps55 rfl (Sat.start w) ?_
  have hle0 := ra.le
  have hle1 := rb.le
  obtain ⟨cs_rb, rr_rb, hc_rb⟩ := rb.at
  have hle2 := rc.le
  have hle3 := rd.le
  have hle4 := re.le
  have hle5 := ra'.le
  have hle6 := rb'.le
  obtain ⟨cs_rb_, rr_rb_, hc_rb_⟩ := rb'.at
  have hle7 := rc'.le
  have hle8 := rd'.le
  have hle9 := re'.le
  refine wp_sc ?_
  refine wp_sq ?_
  refine sq_x rfl (x_box rfl rfl) rfl ?_; rintro _ _ ⟨b2, rfl, rfl⟩
  refine sq_x rfl (x_box rfl rfl) rfl ?_; rintro _ _ ⟨b3, rfl, rfl⟩
  refine sq_v rfl (v_assign rfl) rfl ?_
  refine sq_end ?_
  refine qs_n ?_
  refine wp_sc ?_
  refine wp_sc ?_
  refine wp_sq ?_
  refine sq_v rfl (v_fieldAddr fd_75_0 ty_25 (by decide) rfl) rfl ?_
  refine sq_v rfl (v_loadB 1 ty_25 rfl rfl rfl) rfl ?_
  refine sq_v rfl (v_fieldAddr fd_75_0 ty_25 (by decide) rfl) rfl ?_
  refine sq_v rfl (v_loadB 0 ty_25 rfl rfl rfl) rfl ?_
  refine sq_u rfl (x_callv rfl en_20 (fun w s => ct_l_eqIntS _ _ _ _ w (ra.mono (s.get 2 rfl)) (ra'.mono (s.get 2 rfl)) (by first | assumption | exact iota_held _ _ | omega | rfl))) rfl ?_
  refine sq_v rfl (v_not rfl) rfl ?_
  refine sq_end ?_
  refine qs_n ?_
  refine wp_cf rfl ?_
  refine wp_sk ?_
  refine qs_n ?_
  refine wp_sc ?_
  refine wp_sc ?_
  refine wp_sq ?_
  refine sq_v rfl (v_fieldAddr fd_75_1 ty_44 (by decide) rfl) rfl ?_
  refine sq_v rfl (v_loadB 1 ty_44 rfl rfl rfl) rfl ?_
  refine sq_v rfl (v_fieldAddr fd_75_1 ty_44 (by decide) rfl) rfl ?_
  refine sq_v rfl (v_loadB 0 ty_44 rfl rfl rfl) rfl ?_
  refine sq_u rfl (x_callv rfl en_29 (fun w s => ct_l_eqStepS _ _ _ w (rb.mono (s.get 2 rfl)) (rb'.mono (s.get 2 rfl)))) rfl ?_
  refine sq_v rfl (v_not rfl) rfl ?_
  refine sq_end ?_
  refine qs_n ?_
  refine wp_cf rfl ?_
  refine wp_sk ?_
  refine qs_n ?_
  refine wp_sc ?_
  refine wp_sc ?_
  refine wp_sq ?_
  refine sq_v rfl (v_fieldAddr fd_75_2 ty_3 (by decide) rfl) rfl ?_
  refine sq_v rfl (v_loadB 1 ty_3 rfl rfl rfl) rfl ?_
  refine sq_v rfl (v_fieldAddr fd_75_2 ty_3 (by decide) rfl) rfl ?_
  refine sq_v rfl (v_loadB 0 ty_3 rfl rfl rfl) rfl ?_
  refine sq_v rfl (v_neqs rfl rfl) rfl ?_
  refine sq_end ?_
  refine qs_n ?_
  refine wp_cf rfl ?_
  refine wp_sk ?_
  refine qs_n ?_
  refine wp_sc ?_
  refine wp_sc ?_
  refine wp_sq ?_
  refine sq_v rfl (v_fieldAddr fd_75_3 ty_52 (by decide) rfl) rfl ?_
  refine sq_v rfl (v_loadNB 1 ty_52 rfl rfl rfl rfl) rfl ?_
  refine sq_v rfl (v_fieldAddr fd_75_3 ty_52 (by decide) rfl) rfl ?_
  refine sq_v rfl (v_loadNB 0 ty_52 rfl rfl rfl rfl) rfl ?_
  refine sq_u rfl (x_callv rfl en_36 (fun w s => ct_l_eqTensor _ _ _ _ _ _ _ w (rc.mono (s.get 2 rfl)) (rd.mono (s.get 2 rfl)) (re.mono (s.get 2 rfl)) (rc'.mono (s.get 2 rfl)) (rd'.mono (s.get 2 rfl)) (re'.mono (s.get 2 rfl)))) rfl ?_
  refine sq_v rfl (v_not rfl) rfl ?_
  refine sq_end ?_
  refine qs_n ?_
  refine wp_cf rfl ?_
  refine wp_sk ?_
  refine qs_n ?_
  refine wp_sc ?_
  refine wp_sq ?_
  refine sq_v rfl (v_assign rfl) rfl ?_
  refine sq_end ?_
  refine qs_n ?_
  refine wp_rt ?_
  exact qs_ret1 rfl rfl (fin_v (i := 2) rfl)
end Go.Proofs.Ytalfigjnaidmnaa
