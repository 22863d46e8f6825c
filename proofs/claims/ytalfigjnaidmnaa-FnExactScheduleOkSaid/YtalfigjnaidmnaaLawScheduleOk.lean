/-
  At every network, order, number of workers and start times the program and the reference give the same answer.
  Conditions: none.
-/
import Derived.Test.YtalfigjnaidmnaaLiftStep
import Derived.Test.YtalfigjnaidmnaaSched2
namespace Go.Proofs.Ytalfigjnaidmnaa
set_option maxRecDepth 100000
open Go.ChangeShapes Go.WideShapes Go.ChangeAt Go.RowKit
set_option maxHeartbeats 4000000 in
theorem ct_l_FnExactScheduleOk (k p n : Int) (ts : List Ten) (op : List Int) (ss : List Stp) (wk : Int) (st : List Int) (vt vo v u : Value) (w : World) (r : TensR ts vt (hp w)) (r' : IntsR op vo (hp w)) (rv : StepsR ss v (hp w)) (rs : IntsR st u (hp w)) :
    Calls Try.prog 12 [netV k p n vt vo, v, num wk, u].toArray w (RetV w (.bool true)) := by
  have hnn := tensSize_nn ts
  refine calls_in Try.func12 rfl Try.ntmps12 rfl (Sat.start w) ?_
  have hle0 := r.le
  obtain ⟨cs_r, rr_r, hc_r⟩ := r.at
  have hle1 := r'.le
  have hle2 := rv.le
  obtain ⟨cs_rv, rr_rv, hc_rv⟩ := rv.at
  have hle3 := rs.le
  refine wp_sc ?_
  refine wp_sq ?_
  refine sq_x rfl (x_box rfl rfl) rfl ?_; rintro _ _ ⟨b4, rfl, rfl⟩
  refine sq_v rfl (v_assign rfl) rfl ?_
  refine sq_end ?_
  refine qs_n ?_
  refine wp_sc ?_
  refine wp_sc ?_
  refine wp_sq ?_
  refine sq_v rfl (v_move rfl) rfl ?_
  refine sq_v rfl (v_len Try.underlying25 rfl rs.sl) rfl ?_
  refine sq_v rfl (v_gtr rfl rfl) rfl ?_
  refine sq_end ?_
  refine qs_n ?_
  refine wp_cd rfl (fun c17 => ?_) (fun c17 => ?_)
  · refine wp_sc ?_
    refine wp_sq ?_
    refine sq_v rfl (v_assign rfl) rfl ?_
    refine sq_end ?_
    refine qs_n ?_
    refine wp_rt ?_
    refine qs_r ?_
    exact qs_ret1 rfl rfl (fin_v (i := 1) rfl)
  · refine wp_sk ?_
    refine qs_n ?_
    refine wp_sc ?_
    refine wp_sq ?_
    refine sq_v rfl (v_assign rfl) rfl ?_
    refine sq_end ?_
    refine qs_n ?_
    refine wp_sc ?_
    refine wp_sq ?_
    refine sq_v rfl (v_loadNB 0 ty_27 rfl rfl rfl rfl) rfl ?_
    refine sq_v rfl (v_move rfl) rfl ?_
    refine sq_u rfl (x_callv rfl en_15 (fun w s => ct_l_szNetwork _ _ _ _ _ _ _ _ w (r.mono (s.get 1 rfl)) (r'.mono (s.get 1 rfl)) (by first | assumption | exact iota_held _ _ | omega | rfl))) rfl ?_
    refine sq_v rfl (v_assign rfl) rfl ?_
    refine sq_end ?_
    refine qs_n ?_
    refine wp_sc ?_
    refine wp_sc ?_
    refine wp_sq ?_
    refine sq_v rfl (v_move rfl) rfl ?_
    refine sq_v rfl (v_lss rfl rfl) rfl ?_
    refine sq_end ?_
    refine qs_n ?_
    refine wp_cd rfl (fun c22 => ?_) (fun c22 => ?_)
    · refine wp_sc ?_
      refine wp_sq ?_
      refine sq_v rfl (v_assign rfl) rfl ?_
      refine sq_end ?_
      refine qs_n ?_
      refine wp_rt ?_
      refine qs_r ?_
      exact qs_ret1 rfl rfl (fin_v (i := 1) rfl)
    · have hz22 := szV_ge c22
      refine wp_sk ?_
      refine qs_n ?_
      refine wp_sc ?_
      refine wp_sq ?_
      refine sq_v rfl (v_move rfl) rfl ?_
      refine sq_v rfl (v_move rfl) rfl ?_
      refine sq_u rfl (x_callv rfl en_25 (fun w s => ct_l_szStepS _ _ _ w (rv.mono (s.get 1 rfl)) (by first | assumption | exact iota_held _ _ | omega | rfl))) rfl ?_
      refine sq_v rfl (v_assign rfl) rfl ?_
      refine sq_end ?_
      refine qs_n ?_
      refine wp_sc ?_
      refine wp_sc ?_
      refine wp_sq ?_
      refine sq_v rfl (v_move rfl) rfl ?_
      refine sq_v rfl (v_lss rfl rfl) rfl ?_
      refine sq_end ?_
      refine qs_n ?_
      refine wp_cd rfl (fun c27 => ?_) (fun c27 => ?_)
      · refine wp_sc ?_
        refine wp_sq ?_
        refine sq_v rfl (v_assign rfl) rfl ?_
        refine sq_end ?_
        refine qs_n ?_
        refine wp_rt ?_
        refine qs_r ?_
        exact qs_ret1 rfl rfl (fin_v (i := 1) rfl)
      · have hz27 := szV_ge c27
        refine wp_sk ?_
        refine qs_n ?_
        refine wp_sc ?_
        refine wp_sq ?_
        refine sq_v rfl (v_loadNB 0 ty_27 rfl rfl rfl rfl) rfl ?_
        refine sq_x rfl (x_call rfl en_17 (fun w s => ct_L_toNetwork _ _ _ _ _ _ _ w (r.mono (s.get 1 rfl)) (r'.mono (s.get 1 rfl)) (by first | assumption | exact iota_held _ _ | omega | rfl))) rfl ?_; rintro _ h29 ⟨vt29, vo29, rfl, o29⟩
        obtain ⟨cs_T_29, rr_T_29, hc_T_29⟩ := o29.toR.1.at
        refine sq_v rfl (v_move rfl) rfl ?_
        refine sq_x rfl (x_call rfl en_27 (fun w s => ct_l_toStepS _ _ w (rv.mono (s.get 2 rfl)) (by first | assumption | exact iota_held _ _ | omega | rfl))) rfl ?_; rintro v31 h31 r31
        obtain ⟨cs_S_31, rr_S_31, hc_S_31⟩ := r31.toR.at
        refine sq_v rfl (v_move rfl) rfl ?_
        refine sq_v rfl (v_move rfl) rfl ?_
        refine sq_x rfl (x_call rfl en_18 (fun w s => ct_l_toIntS _ _ w (rs.mono (s.get 3 rfl)) (by first | assumption | exact iota_held _ _ | omega | rfl))) rfl ?_; rintro v34 h34 r34
        refine sq_u rfl (x_callv rfl en_56 (fun w s => ct_s_ScheduleOk _ _ _ _ _ _ _ _ _ _ _ _ w (o29.toR.1.mono (s.get 2 rfl)) (o29.toR.2.mono (s.get 2 rfl)) (r31.toR.mono (s.get 1 rfl)) (r34.toR.mono (s.get 0 rfl)) (by first | assumption | exact iota_held _ _ | omega | rfl) (by first | assumption | exact iota_held _ _ | omega | rfl))) rfl ?_
        refine sq_v rfl (v_assign rfl) rfl ?_
        refine sq_end ?_
        refine qs_n ?_
        refine wp_sc ?_
        refine wp_sq ?_
        refine sq_v rfl (v_loadNB 3 ty_27 rfl rfl rfl rfl) rfl ?_
        refine sq_x rfl (x_call rfl en_17 (fun w s => ct_L_toNetwork _ _ _ _ _ _ _ w (r.mono (s.get 4 rfl)) (r'.mono (s.get 4 rfl)) (by first | assumption | exact iota_held _ _ | omega | rfl))) rfl ?_; rintro _ h37 ⟨vt37, vo37, rfl, o37⟩
        obtain ⟨cs_T_37, rr_T_37, hc_T_37⟩ := o37.toR.1.at
        refine sq_x rfl (x_alloc ty_33 rfl) rfl ?_; rintro _ _ ⟨b11, rfl, rfl⟩
        refine sq_m 0 rfl rfl (m_store 0 ty_33 rfl rfl rfl rfl (by simp [one_int, o37.toR.1.sl.one, o37.toR.2.sl.one]) rfl (Nat.le_of_ble_eq_true rfl)) rfl ?_; rintro _ _ ⟨rfl, rfl⟩
        refine sq_end ?_
        refine qs_n ?_
        refine wp_sc ?_
        refine wp_sq ?_
        refine sq_v rfl (v_move rfl) rfl ?_
        refine sq_x rfl (x_call rfl en_27 (fun w s => ct_l_toStepS _ _ w (rv.mono (s.get 6 rfl)) (by first | assumption | exact iota_held _ _ | omega | rfl))) rfl ?_; rintro v39 h39 r39
        obtain ⟨cs_S_39, rr_S_39, hc_S_39⟩ := r39.toR.at
        refine sq_v rfl (v_assign rfl) rfl ?_
        refine sq_end ?_
        refine qs_n ?_
        refine wp_sc ?_
        refine wp_sq ?_
        refine sq_v rfl (v_move rfl) rfl ?_
        refine sq_x rfl (x_call rfl en_18 (fun w s => ct_l_toIntS _ _ w (rs.mono (s.get 7 rfl)) (by first | assumption | exact iota_held _ _ | omega | rfl))) rfl ?_; rintro v41 h41 r41
        refine sq_v rfl (v_assign rfl) rfl ?_
        refine sq_end ?_
        refine qs_n ?_
        refine wp_sc ?_
        refine wp_sq ?_
        refine sq_v rfl (v_loadNB 2 ty_33 rfl rfl rfl rfl) rfl ?_
        refine sq_v rfl (v_move rfl) rfl ?_
        refine sq_v rfl (v_move rfl) rfl ?_
        refine sq_v rfl (v_move rfl) rfl ?_
        refine sq_u rfl (x_callv rfl en_57 (fun w s => ct_i_ScheduleOk _ _ _ _ _ _ _ _ _ _ _ _ w (o37.toR.1.mono (s.get 3 rfl)) (o37.toR.2.mono (s.get 3 rfl)) (r39.toR.mono (s.get 1 rfl)) (r41.toR.mono (s.get 0 rfl)) (by first | assumption | exact iota_held _ _ | omega | rfl))) rfl ?_
        refine sq_v rfl (v_assign rfl) rfl ?_
        refine sq_end ?_
        refine qs_n ?_
        refine wp_sc ?_
        refine wp_sc ?_
        refine wp_sq ?_
        refine sq_v rfl (v_move rfl) rfl ?_
        refine sq_v rfl (v_move rfl) rfl ?_
        refine sq_v rfl (v_neqsb Try.underlying4 rfl rfl) rfl ?_
        refine sq_end ?_
        refine qs_n ?_
        refine wp_cf rfl ?_
        refine wp_sk ?_
        refine qs_n ?_
        refine wp_sc ?_
        refine wp_sc ?_
        refine wp_rj 5 [(0, true), (1, true), (2, false), (3, false), (4, true)] mixed_ok (by kernel_rfl) ?_
        refine rj_v rfl rfl (v_loadNB 2 ty_33 rfl rfl rfl rfl) rfl ?_
        refine rj_v rfl rfl (v_loadNB 7 ty_27 rfl rfl rfl rfl) rfl ?_
        refine rj_x rfl rfl (x_call rfl en_17 (fun w s => ct_L_toNetwork _ _ _ _ _ _ _ w (r.mono (s.get 8 rfl)) (r'.mono (s.get 8 rfl)) (by first | assumption | exact iota_held _ _ | omega | rfl))) rfl ?_; rintro _ h52 ⟨vt52, vo52, rfl, o52⟩
        obtain ⟨cs_T_52, rr_T_52, hc_T_52⟩ := o52.toR.1.at
        refine rj_u rfl rfl (x_callv rfl en_21 (fun w s => ct_l_eqNetwork _ _ _ _ _ _ _ _ _ w (o37.toR.1.mono (s.get 4 rfl)) (o37.toR.2.mono (s.get 4 rfl)) (o52.toR.1.mono (s.get 0 rfl)) (o52.toR.2.mono (s.get 0 rfl)))) rfl ?_
        refine rj_v rfl rfl (v_not rfl) rfl ?_
        refine rj_end ?_
        refine qs_n ?_
        refine wp_cf rfl ?_
        refine wp_sk ?_
        refine qs_n ?_
        refine wp_sc ?_
        refine wp_sc ?_
        refine wp_sq ?_
        refine sq_v rfl (v_move rfl) rfl ?_
        refine sq_v rfl (v_move rfl) rfl ?_
        refine sq_x rfl (x_call rfl en_27 (fun w s => ct_l_toStepS _ _ w (rv.mono (s.get 9 rfl)) (by first | assumption | exact iota_held _ _ | omega | rfl))) rfl ?_; rintro v57 h57 r57
        obtain ⟨cs_S_57, rr_S_57, hc_S_57⟩ := r57.toR.at
        refine sq_u rfl (x_callv rfl en_29 (fun w s => ct_l_eqStepS _ _ _ w (r39.toR.mono (s.get 3 rfl)) (r57.toR.mono (s.get 0 rfl)))) rfl ?_
        refine sq_v rfl (v_not rfl) rfl ?_
        refine sq_end ?_
        refine qs_n ?_
        refine wp_cf rfl ?_
        refine wp_sk ?_
        refine qs_n ?_
        refine wp_sc ?_
        refine wp_sc ?_
        refine wp_sq ?_
        refine sq_v rfl (v_move rfl) rfl ?_
        refine sq_v rfl (v_move rfl) rfl ?_
        refine sq_x rfl (x_call rfl en_18 (fun w s => ct_l_toIntS _ _ w (rs.mono (s.get 10 rfl)) (by first | assumption | exact iota_held _ _ | omega | rfl))) rfl ?_; rintro v62 h62 r62
        refine sq_u rfl (x_callv rfl en_20 (fun w s => ct_l_eqIntS _ _ _ _ w (r41.toR.mono (s.get 3 rfl)) (r62.toR.mono (s.get 0 rfl)) (by first | assumption | exact iota_held _ _ | omega | rfl))) rfl ?_
        refine sq_v rfl (v_not rfl) rfl ?_
        refine sq_end ?_
        refine qs_n ?_
        refine wp_cf rfl ?_
        refine wp_sk ?_
        refine qs_n ?_
        refine wp_sc ?_
        refine wp_sq ?_
        refine sq_v rfl (v_assign rfl) rfl ?_
        refine sq_end ?_
        refine qs_n ?_
        refine wp_rt ?_
        exact qs_ret1 rfl rfl (fin_v (i := 11) rfl)
set_option maxRecDepth 100000 in
theorem lifted_fnExactScheduleOk (os : Os) (started : os.Started) (H : Type) (enc : TypeId × Value → H) :
    ReturnsInHanded {} Try.checked os 12 .any (Rows.fnExactScheduleOkSpec.pre6 enc Try.prog Try.f12 Rows.fnExactScheduleOkRow.domain false) (Rows.fnExactScheduleOkSpec.post enc Try.prog Try.f12 false true false false) := by
  refine returnsInHanded_of_change (C := Try.checked) lift_own started (by kernel_rfl) Try.func12
    (ChangeSpec.witness6 (enc := enc) (C := Try.checked) false ⟨#[], #[.agg #[.int .i64 0, .int .i64 0, .int .i64 0, .slice none 0 0, .slice none 0 0], .slice none 0 0, .int .i64 0, .slice none 0 0], []⟩ 8 (by kernel_rfl) (by kernel_rfl) (by kernel_rfl) (by kernel_rfl)) ?_
  intro W base args ds gs before hval0 hW hcnd _
  have hval : ∀ (j : Nat) t v, Try.f12.params[j]? = some t → args[j]? = some v → Value.okWide Try.prog W .any base t v := hval0
  have hW' := hW
  obtain ⟨p, q, hA0, hV, rfl, hfz, hnd⟩ := hW
  have hlt : ∀ x ∈ p, x.block < W.heap.size := fun x hx => by simpa using hW'.lt x (by simp [hx])
  have hA : DataW.TrodAll enc Try.prog W 0 (fun _ => true) true Try.f12.params.toList args.toList ds p := hA0
  have hA1 := hA
  rw [Try.params12] at hA1 hval
  obtain ⟨v0, vs0, d0, ds0, p0, q0, hargs, rfl, rfl, h0, r0⟩ := trodAll_cons hA1
  obtain ⟨v1, vs1, d1, ds1, p1, q1, rfl, rfl, rfl, h1, r1⟩ := trodAll_cons r0
  obtain ⟨v2, vs2, d2, ds2, p2, q2, rfl, rfl, rfl, h2, r2⟩ := trodAll_cons r1
  obtain ⟨v3, vs3, d3, ds3, p3, q3, rfl, rfl, rfl, h3, r3⟩ := trodAll_cons r2
  obtain ⟨rfl, rfl, rfl⟩ := trodAll_nil r3
  obtain rfl : args = #[v0, v1, v2, v3] := by cases args; simp_all
  obtain ⟨rfl, rfl⟩ := trodVars_none hV
  have k0 := hval 0 27 v0 rfl rfl
  have k1 := hval 1 41 v1 rfl rfl
  have k2 := hval 2 3 v2 rfl rfl
  have k3 := hval 3 25 v3 rfl rfl
  obtain ⟨x0, x1, x2, ts, op, vt, vo, rfl, rt, ro⟩ := arg_network k0 h0
  obtain ⟨ss, rv⟩ := arg_steps k1 h1
  obtain ⟨wk, rfl, _⟩ := arg_int k2 h2
  obtain ⟨st, rs, _⟩ := arg_ints k3 h3
  refine (show Calls Try.prog 12 _ W (RetV W (.bool true)) from ct_l_FnExactScheduleOk x0 x1 x2 ts op ss wk st vt vo v1 v3 W rt ro rv rs).mono fun e W' ⟨he, hu⟩ => ?_
  subst he
  refine ⟨_, rfl, _, _, _, [], _, [], hW', trodAll_mk1 (shut_bool Try.underlying4 true), trodAll_below lift_laid hu.below (by kernel_rfl) hA hlt, rfl, hu.below.frame _, fun h => by cases h⟩
theorem over_fnExactScheduleOk : Rows.fnExactScheduleOkRow.holds Try.pinned (OpenSpec.ofChange Rows.fnExactScheduleOkSpec) :=
  OpenClaim.holds_of_wide 12 Try.f12 rfl rfl rfl rfl rfl rfl rfl ⟨rfl, rfl, rfl, rfl, rfl⟩ rfl rfl rfl rfl rfl (by kernel_rfl) Try.func12 (by kernel_rfl)
    (of_decide_eq_true (by kernel_rfl)) (by unfold Func.isWrapper; first | (rw [if_pos (by decide +kernel)]; kernel_rfl) | (rw [if_neg (by decide +kernel)]; exact ⟨rfl, rfl⟩))
    (fun os started H enc _ => lifted_fnExactScheduleOk os started H enc)
/-- The law FnExactScheduleOk holds at every input. -/
theorem proved_fnExactScheduleOk : Rows.FnExactScheduleOkSaid :=
  over_fnExactScheduleOk
#print axioms proved_fnExactScheduleOk
end Go.Proofs.Ytalfigjnaidmnaa
