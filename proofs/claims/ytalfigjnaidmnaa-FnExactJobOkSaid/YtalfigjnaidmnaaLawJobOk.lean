/-
  At every network and job the program's JobOk and the reference's give the same answer.
  Conditions: none.
-/
import Derived.Test.YtalfigjnaidmnaaLiftJob
namespace Go.Proofs.Ytalfigjnaidmnaa
set_option maxRecDepth 100000
open Go.ChangeShapes Go.WideShapes Go.ChangeAt Go.RowKit
set_option maxHeartbeats 4000000 in
theorem ct_l_FnExactJobOk (k p n m : Int) (ts : List Ten) (op ls : List Int) (ss : List Stp) (t : Ten) (vt vo a b c d e : Value) (w : World) (r : TensR ts vt (hp w)) (r' : IntsR op vo (hp w)) (ra : IntsR ls a (hp w)) (rb : StepsR ss b (hp w)) (rc : IntsR t.l c (hp w)) (rd : IntsR t.d d (hp w)) (re : IntsR t.x e (hp w)) :
    Calls Try.prog 11 [netV k p n vt vo, jobV a b m c d e].toArray w (RetV w (.bool true)) := by
  have hnn := tensSize_nn ts
  have htn := tenSize_nn t
  refine calls_in Try.func11 rfl Try.ntmps11 rfl (Sat.start w) ?_
  have hle0 := r.le
  obtain ⟨cs_r, rr_r, hc_r⟩ := r.at
  have hle1 := r'.le
  have hle2 := ra.le
  have hle3 := rb.le
  obtain ⟨cs_rb, rr_rb, hc_rb⟩ := rb.at
  have hle4 := rc.le
  have hle5 := rd.le
  have hle6 := re.le
  refine wp_sc ?_
  refine wp_sq ?_
  refine sq_x rfl (x_box rfl rfl) rfl ?_; rintro _ _ ⟨b2, rfl, rfl⟩
  refine sq_x rfl (x_box rfl rfl) rfl ?_; rintro _ _ ⟨b3, rfl, rfl⟩
  refine sq_v rfl (v_assign rfl) rfl ?_
  refine sq_end ?_
  refine qs_n ?_
  refine wp_sc ?_
  refine wp_sq ?_
  refine sq_v rfl (v_assign rfl) rfl ?_
  refine sq_end ?_
  refine qs_n ?_
  refine wp_sc ?_
  refine wp_sq ?_
  refine sq_v rfl (v_loadNB 1 ty_27 rfl rfl rfl rfl) rfl ?_
  refine sq_v rfl (v_move rfl) rfl ?_
  refine sq_u rfl (x_callv rfl en_15 (fun w s => ct_l_szNetwork _ _ _ _ _ _ _ _ w (r.mono (s.get 2 rfl)) (r'.mono (s.get 2 rfl)) (by first | assumption | exact iota_held _ _ | omega | rfl))) rfl ?_
  refine sq_v rfl (v_assign rfl) rfl ?_
  refine sq_end ?_
  refine qs_n ?_
  refine wp_sc ?_
  refine wp_sc ?_
  refine wp_sq ?_
  refine sq_v rfl (v_move rfl) rfl ?_
  refine sq_v rfl (v_lss rfl rfl) rfl ?_
  refine sq_end ?_
  refine qs_n ?_
  refine wp_cd rfl (fun c14 => ?_) (fun c14 => ?_)
  · refine wp_sc ?_
    refine wp_sq ?_
    refine sq_v rfl (v_assign rfl) rfl ?_
    refine sq_end ?_
    refine qs_n ?_
    refine wp_rt ?_
    refine qs_r ?_
    exact qs_ret1 rfl rfl (fin_v (i := 2) rfl)
  · have hz14 := szV_ge c14
    refine wp_sk ?_
    refine qs_n ?_
    refine wp_sc ?_
    refine wp_sq ?_
    refine sq_v rfl (v_loadNB 0 ty_71 rfl rfl rfl rfl) rfl ?_
    refine sq_v rfl (v_move rfl) rfl ?_
    refine sq_u rfl (x_callv rfl en_51 (fun w s => ct_l_szJob _ _ _ _ _ _ _ _ _ _ w (ra.mono (s.get 2 rfl)) (rb.mono (s.get 2 rfl)) (rc.mono (s.get 2 rfl)) (rd.mono (s.get 2 rfl)) (re.mono (s.get 2 rfl)) (by first | assumption | exact iota_held _ _ | omega | rfl))) rfl ?_
    refine sq_v rfl (v_assign rfl) rfl ?_
    refine sq_end ?_
    refine qs_n ?_
    refine wp_sc ?_
    refine wp_sc ?_
    refine wp_sq ?_
    refine sq_v rfl (v_move rfl) rfl ?_
    refine sq_v rfl (v_lss rfl rfl) rfl ?_
    refine sq_end ?_
    refine qs_n ?_
    refine wp_cd rfl (fun c19 => ?_) (fun c19 => ?_)
    · refine wp_sc ?_
      refine wp_sq ?_
      refine sq_v rfl (v_assign rfl) rfl ?_
      refine sq_end ?_
      refine qs_n ?_
      refine wp_rt ?_
      refine qs_r ?_
      exact qs_ret1 rfl rfl (fin_v (i := 2) rfl)
    · have hz19 := szV_ge c19
      refine wp_sk ?_
      refine qs_n ?_
      refine wp_sc ?_
      refine wp_rj 6 [(0, true), (2, true), (1, false), (3, false), (4, false), (5, true)] mixed_ok (by kernel_rfl) ?_
      refine rj_v rfl rfl (v_loadNB 1 ty_27 rfl rfl rfl rfl) rfl ?_
      refine rj_v rfl rfl (v_loadNB 0 ty_71 rfl rfl rfl rfl) rfl ?_
      refine rj_x rfl rfl (x_call rfl en_17 (fun w s => ct_L_toNetwork _ _ _ _ _ _ _ w (r.mono (s.get 2 rfl)) (r'.mono (s.get 2 rfl)) (by first | assumption | exact iota_held _ _ | omega | rfl))) rfl ?_; rintro _ h21 ⟨vt21, vo21, rfl, o21⟩
      obtain ⟨cs_T_21, rr_T_21, hc_T_21⟩ := o21.toR.1.at
      refine rj_x rfl rfl (x_call rfl en_53 (fun w s => ct_l_toJob _ _ _ _ _ _ _ _ _ w (ra.mono (s.get 3 rfl)) (rb.mono (s.get 3 rfl)) (rc.mono (s.get 3 rfl)) (rd.mono (s.get 3 rfl)) (re.mono (s.get 3 rfl)) (by first | assumption | exact iota_held _ _ | omega | rfl))) rfl ?_; rintro _ h23 ⟨va23, vb23, vc23, vd23, ve23, rfl, o23⟩
      obtain ⟨cs_S_23, rr_S_23, hc_S_23⟩ := o23.toR.2.1.at
      refine rj_u rfl rfl (x_callv rfl en_52 (fun w s => ct_s_JobOk _ _ _ _ _ _ _ _ _ _ _ _ _ _ _ _ w (o21.toR.1.mono (s.get 1 rfl)) (o21.toR.2.mono (s.get 1 rfl)) (o23.toR.1.mono (s.get 0 rfl)) (o23.toR.2.1.mono (s.get 0 rfl)) (o23.toR.2.2.1.mono (s.get 0 rfl)) (o23.toR.2.2.2.1.mono (s.get 0 rfl)) (o23.toR.2.2.2.2.mono (s.get 0 rfl)) (by first | assumption | exact iota_held _ _ | omega | rfl) (by first | assumption | exact iota_held _ _ | omega | rfl))) rfl ?_
      refine rj_v rfl rfl (v_assign rfl) rfl ?_
      refine rj_end ?_
      refine qs_n ?_
      refine wp_sc ?_
      refine wp_sq ?_
      refine sq_v rfl (v_loadNB 3 ty_27 rfl rfl rfl rfl) rfl ?_
      refine sq_x rfl (x_call rfl en_17 (fun w s => ct_L_toNetwork _ _ _ _ _ _ _ w (r.mono (s.get 4 rfl)) (r'.mono (s.get 4 rfl)) (by first | assumption | exact iota_held _ _ | omega | rfl))) rfl ?_; rintro _ h26 ⟨vt26, vo26, rfl, o26⟩
      obtain ⟨cs_T_26, rr_T_26, hc_T_26⟩ := o26.toR.1.at
      refine sq_x rfl (x_alloc ty_33 rfl) rfl ?_; rintro _ _ ⟨b7, rfl, rfl⟩
      refine sq_m 0 rfl rfl (m_store 0 ty_33 rfl rfl rfl rfl (by simp [one_int, o26.toR.1.sl.one, o26.toR.2.sl.one]) rfl (Nat.le_of_ble_eq_true rfl)) rfl ?_; rintro _ _ ⟨rfl, rfl⟩
      refine sq_end ?_
      refine qs_n ?_
      refine wp_sc ?_
      refine wp_sq ?_
      refine sq_v rfl (v_loadNB 4 ty_71 rfl rfl rfl rfl) rfl ?_
      refine sq_x rfl (x_call rfl en_53 (fun w s => ct_l_toJob _ _ _ _ _ _ _ _ _ w (ra.mono (s.get 6 rfl)) (rb.mono (s.get 6 rfl)) (rc.mono (s.get 6 rfl)) (rd.mono (s.get 6 rfl)) (re.mono (s.get 6 rfl)) (by first | assumption | exact iota_held _ _ | omega | rfl))) rfl ?_; rintro _ h28 ⟨va28, vb28, vc28, vd28, ve28, rfl, o28⟩
      obtain ⟨cs_S_28, rr_S_28, hc_S_28⟩ := o28.toR.2.1.at
      refine sq_x rfl (x_alloc ty_75 rfl) rfl ?_; rintro _ _ ⟨b8, rfl, rfl⟩
      refine sq_m 0 rfl rfl (m_store 0 ty_75 rfl rfl rfl rfl (by simp [one_int, o28.toR.1.sl.one, o28.toR.2.1.sl.one, o28.toR.2.2.1.sl.one, o28.toR.2.2.2.1.sl.one, o28.toR.2.2.2.2.sl.one]) rfl (Nat.le_of_ble_eq_true rfl)) rfl ?_; rintro _ _ ⟨rfl, rfl⟩
      refine sq_end ?_
      refine qs_n ?_
      refine wp_sc ?_
      refine wp_sq ?_
      refine sq_v rfl (v_loadNB 2 ty_33 rfl rfl rfl rfl) rfl ?_
      refine sq_v rfl (v_loadNB 0 ty_75 rfl rfl rfl rfl) rfl ?_
      refine sq_u rfl (x_callv rfl en_54 (fun w s => ct_i_JobOk _ _ _ _ _ _ _ _ _ _ _ _ _ _ _ _ w (o26.toR.1.mono (s.get 3 rfl)) (o26.toR.2.mono (s.get 3 rfl)) (o28.toR.1.mono (s.get 1 rfl)) (o28.toR.2.1.mono (s.get 1 rfl)) (o28.toR.2.2.1.mono (s.get 1 rfl)) (o28.toR.2.2.2.1.mono (s.get 1 rfl)) (o28.toR.2.2.2.2.mono (s.get 1 rfl)) (by first | assumption | exact iota_held _ _ | omega | rfl))) rfl ?_
      refine sq_v rfl (v_assign rfl) rfl ?_
      refine sq_end ?_
      refine qs_n ?_
      refine wp_sc ?_
      refine wp_sc ?_
      refine wp_sq ?_
      refine sq_v rfl (v_move rfl) rfl ?_
      refine sq_v rfl (v_move rfl) rfl ?_
      refine sq_v rfl (v_neqsb Try.underlying4 rfl rfl) rfl ?_
      refine sq_end ?_
      refine qs_n ?_
      refine wp_cf rfl ?_
      refine wp_sk ?_
      refine qs_n ?_
      refine wp_sc ?_
      refine wp_sc ?_
      refine wp_rj 5 [(0, true), (1, true), (2, false), (3, false), (4, true)] mixed_ok (by kernel_rfl) ?_
      refine rj_v rfl rfl (v_loadNB 2 ty_33 rfl rfl rfl rfl) rfl ?_
      refine rj_v rfl rfl (v_loadNB 7 ty_27 rfl rfl rfl rfl) rfl ?_
      refine rj_x rfl rfl (x_call rfl en_17 (fun w s => ct_L_toNetwork _ _ _ _ _ _ _ w (r.mono (s.get 8 rfl)) (r'.mono (s.get 8 rfl)) (by first | assumption | exact iota_held _ _ | omega | rfl))) rfl ?_; rintro _ h37 ⟨vt37, vo37, rfl, o37⟩
      obtain ⟨cs_T_37, rr_T_37, hc_T_37⟩ := o37.toR.1.at
      refine rj_u rfl rfl (x_callv rfl en_21 (fun w s => ct_l_eqNetwork _ _ _ _ _ _ _ _ _ w (o26.toR.1.mono (s.get 4 rfl)) (o26.toR.2.mono (s.get 4 rfl)) (o37.toR.1.mono (s.get 0 rfl)) (o37.toR.2.mono (s.get 0 rfl)))) rfl ?_
      refine rj_v rfl rfl (v_not rfl) rfl ?_
      refine rj_end ?_
      refine qs_n ?_
      refine wp_cf rfl ?_
      refine wp_sk ?_
      refine qs_n ?_
      refine wp_sc ?_
      refine wp_sc ?_
      refine wp_rj 5 [(0, true), (1, true), (2, false), (3, false), (4, true)] mixed_ok (by kernel_rfl) ?_
      refine rj_v rfl rfl (v_loadNB 1 ty_75 rfl rfl rfl rfl) rfl ?_
      refine rj_v rfl rfl (v_loadNB 7 ty_71 rfl rfl rfl rfl) rfl ?_
      refine rj_x rfl rfl (x_call rfl en_53 (fun w s => ct_l_toJob _ _ _ _ _ _ _ _ _ w (ra.mono (s.get 9 rfl)) (rb.mono (s.get 9 rfl)) (rc.mono (s.get 9 rfl)) (rd.mono (s.get 9 rfl)) (re.mono (s.get 9 rfl)) (by first | assumption | exact iota_held _ _ | omega | rfl))) rfl ?_; rintro _ h42 ⟨va42, vb42, vc42, vd42, ve42, rfl, o42⟩
      obtain ⟨cs_S_42, rr_S_42, hc_S_42⟩ := o42.toR.2.1.at
      refine rj_u rfl rfl (x_callv rfl en_55 (fun w s => ct_l_eqJob _ _ _ _ _ _ _ _ _ _ _ _ _ _ w (o28.toR.1.mono (s.get 3 rfl)) (o28.toR.2.1.mono (s.get 3 rfl)) (o28.toR.2.2.1.mono (s.get 3 rfl)) (o28.toR.2.2.2.1.mono (s.get 3 rfl)) (o28.toR.2.2.2.2.mono (s.get 3 rfl)) (o42.toR.1.mono (s.get 0 rfl)) (o42.toR.2.1.mono (s.get 0 rfl)) (o42.toR.2.2.1.mono (s.get 0 rfl)) (o42.toR.2.2.2.1.mono (s.get 0 rfl)) (o42.toR.2.2.2.2.mono (s.get 0 rfl)))) rfl ?_
      refine rj_v rfl rfl (v_not rfl) rfl ?_
      refine rj_end ?_
      refine qs_n ?_
      refine wp_cf rfl ?_
      refine wp_sk ?_
      refine qs_n ?_
      refine wp_sc ?_
      refine wp_sq ?_
      refine sq_v rfl (v_assign rfl) rfl ?_
      refine sq_end ?_
      refine qs_n ?_
      refine wp_rt ?_
      exact qs_ret1 rfl rfl (fin_v (i := 10) rfl)
set_option maxRecDepth 100000 in
theorem lifted_fnExactJobOk (os : Os) (started : os.Started) (H : Type) (enc : TypeId × Value → H) :
    ReturnsInHanded {} Try.checked os 11 .any (Rows.fnExactJobOkSpec.pre6 enc Try.prog Try.f11 Rows.fnExactJobOkRow.domain false) (Rows.fnExactJobOkSpec.post enc Try.prog Try.f11 false true false false) := by
  refine returnsInHanded_of_change (C := Try.checked) lift_own started (by kernel_rfl) Try.func11
    (ChangeSpec.witness6 (enc := enc) (C := Try.checked) false ⟨#[], #[.agg #[.int .i64 0, .int .i64 0, .int .i64 0, .slice none 0 0, .slice none 0 0], .agg #[.slice none 0 0, .slice none 0 0, .int .i64 0, .slice none 0 0, .slice none 0 0, .slice none 0 0]], []⟩ 8 (by kernel_rfl) (by kernel_rfl) (by kernel_rfl) (by kernel_rfl)) ?_
  intro W base args ds gs before hval0 hW hcnd _
  have hval : ∀ (j : Nat) t v, Try.f11.params[j]? = some t → args[j]? = some v → Value.okWide Try.prog W .any base t v := hval0
  have hW' := hW
  obtain ⟨p, q, hA0, hV, rfl, hfz, hnd⟩ := hW
  have hlt : ∀ x ∈ p, x.block < W.heap.size := fun x hx => by simpa using hW'.lt x (by simp [hx])
  have hA : DataW.TrodAll enc Try.prog W 0 (fun _ => true) true Try.f11.params.toList args.toList ds p := hA0
  have hA1 := hA
  rw [Try.params11] at hA1 hval
  obtain ⟨v0, vs0, d0, ds0, p0, q0, hargs, rfl, rfl, h0, r0⟩ := trodAll_cons hA1
  obtain ⟨v1, vs1, d1, ds1, p1, q1, rfl, rfl, rfl, h1, r1⟩ := trodAll_cons r0
  obtain ⟨rfl, rfl, rfl⟩ := trodAll_nil r1
  obtain rfl : args = #[v0, v1] := by cases args; simp_all
  obtain ⟨rfl, rfl⟩ := trodVars_none hV
  have k0 := hval 0 27 v0 rfl rfl
  have k1 := hval 1 71 v1 rfl rfl
  obtain ⟨x0, x1, x2, ts, op, vt, vo, rfl, rt, ro⟩ := arg_network k0 h0
  obtain ⟨ls, ss, m, t, a, b, c, d, e, rfl, ra, rb, rc, rd, re⟩ := arg_job k1 h1
  refine (show Calls Try.prog 11 _ W (RetV W (.bool true)) from ct_l_FnExactJobOk x0 x1 x2 m ts op ls ss t vt vo a b c d e W rt ro ra rb rc rd re).mono fun e W' ⟨he, hu⟩ => ?_
  subst he
  refine ⟨_, rfl, _, _, _, [], _, [], hW', trodAll_mk1 (shut_bool Try.underlying4 true), trodAll_below lift_laid hu.below (by kernel_rfl) hA hlt, rfl, hu.below.frame _, fun h => by cases h⟩
theorem over_fnExactJobOk : Rows.fnExactJobOkRow.holds Try.pinned (OpenSpec.ofChange Rows.fnExactJobOkSpec) :=
  OpenClaim.holds_of_wide 11 Try.f11 rfl rfl rfl rfl rfl rfl rfl ⟨rfl, rfl, rfl, rfl, rfl⟩ rfl rfl rfl rfl rfl (by kernel_rfl) Try.func11 (by kernel_rfl)
    (of_decide_eq_true (by kernel_rfl)) (by unfold Func.isWrapper; first | (rw [if_pos (by decide +kernel)]; kernel_rfl) | (rw [if_neg (by decide +kernel)]; exact ⟨rfl, rfl⟩))
    (fun os started H enc _ => lifted_fnExactJobOk os started H enc)
/-- The law FnExactJobOk holds at every input. -/
theorem proved_fnExactJobOk : Rows.FnExactJobOkSaid :=
  over_fnExactJobOk
#print axioms proved_fnExactJobOk
end Go.Proofs.Ytalfigjnaidmnaa
