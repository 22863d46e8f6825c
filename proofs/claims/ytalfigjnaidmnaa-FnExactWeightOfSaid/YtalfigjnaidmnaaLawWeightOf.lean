/-
  At every network and assignment the program's WeightOf returns what the reference's returns; neither result shares memory with an argument or with another result.
  Conditions: none.
-/
import Derived.Test.YtalfigjnaidmnaaLaw4
import Derived.Test.YtalfigjnaidmnaaWeight
import Derived.Test.YtalfigjnaidmnaaLiftNet
namespace Go.Proofs.Ytalfigjnaidmnaa
set_option maxRecDepth 100000
open Go.ChangeShapes Go.WideShapes Go.ChangeAt Go.RowKit
theorem weightL_len (k p n : Int) (ts : List Ten) (op vs : List Int) : (weightL k p n ts op vs).length ≤ 6 := by
  unfold weightL
  split
  · rename_i h
    have h1 := weight_in (assign_at h) ts.length (Nat.le_refl _)
    rw [List.take_length] at h1
    have := h1.len h.1.1
    omega
  · simp
set_option maxHeartbeats 2000000 in
theorem ct_l_FnExactWeightOf (k p n : Int) (ts : List Ten) (op vs : List Int) (vt vo v : Value) (w : World) (r : TensR ts vt (hp w)) (r' : IntsR op vo (hp w)) (rv : IntsR vs v (hp w)) :
    Calls Try.prog 3 [netV k p n vt vo, v].toArray w (RetV w (.bool true)) := by
  have hnn := tensSize_nn ts
  have hwl := weightL_len k p n ts op vs
  refine calls_in Try.func3 rfl Try.ntmps3 rfl (Sat.start w) ?_
  have hle0 := r.le
  obtain ⟨cs_r, rr_r, hc_r⟩ := r.at
  have hle1 := r'.le
  have hle2 := rv.le
  refine wp_sc ?_
  refine wp_sq ?_
  refine sq_x rfl (x_box rfl rfl) rfl ?_; rintro _ _ ⟨b2, rfl, rfl⟩
  refine sq_v rfl (v_assign rfl) rfl ?_
  refine sq_end ?_
  refine qs_n ?_
  refine wp_sc ?_
  refine wp_sc ?_
  refine wp_sq ?_
  refine sq_v rfl (v_move rfl) rfl ?_
  refine sq_v rfl (v_len Try.underlying25 rfl rv.sl) rfl ?_
  refine sq_v rfl (v_gtr rfl rfl) rfl ?_
  refine sq_end ?_
  refine qs_n ?_
  refine wp_cd rfl (fun c16 => ?_) (fun c16 => ?_)
  · refine wp_sc ?_
    refine wp_sq ?_
    refine sq_v rfl (v_assign rfl) rfl ?_
    refine sq_end ?_
    refine qs_n ?_
    refine wp_rt ?_
    refine qs_r ?_
    exact qs_ret1 rfl rfl (fin_v (i := 1) rfl)
  · refine wp_sk ?_
    refine qs_n ?_
    refine wp_sc ?_
    refine wp_sq ?_
    refine sq_v rfl (v_assign rfl) rfl ?_
    refine sq_end ?_
    refine qs_n ?_
    refine wp_sc ?_
    refine wp_sq ?_
    refine sq_v rfl (v_loadNB 0 ty_27 rfl rfl rfl rfl) rfl ?_
    refine sq_v rfl (v_move rfl) rfl ?_
    refine sq_u rfl (x_callv rfl en_15 (fun w s => ct_l_szNetwork _ _ _ _ _ _ _ _ w (r.mono (s.get 1 rfl)) (r'.mono (s.get 1 rfl)) (by first | assumption | exact iota_held _ _ | omega | rfl))) rfl ?_
    refine sq_v rfl (v_assign rfl) rfl ?_
    refine sq_end ?_
    refine qs_n ?_
    refine wp_sc ?_
    refine wp_sc ?_
    refine wp_sq ?_
    refine sq_v rfl (v_move rfl) rfl ?_
    refine sq_v rfl (v_lss rfl rfl) rfl ?_
    refine sq_end ?_
    refine qs_n ?_
    refine wp_cd rfl (fun c21 => ?_) (fun c21 => ?_)
    · refine wp_sc ?_
      refine wp_sq ?_
      refine sq_v rfl (v_assign rfl) rfl ?_
      refine sq_end ?_
      refine qs_n ?_
      refine wp_rt ?_
      refine qs_r ?_
      exact qs_ret1 rfl rfl (fin_v (i := 1) rfl)
    · have hz21 := szV_ge c21
      refine wp_sk ?_
      refine qs_n ?_
      refine wp_sc ?_
      refine wp_sq ?_
      refine sq_v rfl (v_loadNB 0 ty_27 rfl rfl rfl rfl) rfl ?_
      refine sq_x rfl (x_call rfl en_17 (fun w s => ct_L_toNetwork _ _ _ _ _ _ _ w (r.mono (s.get 1 rfl)) (r'.mono (s.get 1 rfl)) (by first | assumption | exact iota_held _ _ | omega | rfl))) rfl ?_; rintro _ h23 ⟨vt23, vo23, rfl, o23⟩
      refine sq_v rfl (v_move rfl) rfl ?_
      refine sq_x rfl (x_call rfl en_18 (fun w s => ct_l_toIntS _ _ w (rv.mono (s.get 2 rfl)) (by first | assumption | exact iota_held _ _ | omega | rfl))) rfl ?_; rintro v25 h25 r25
      refine sq_x rfl (x_call rfl en_16 (fun w s => ct_s_WeightOf _ _ _ _ _ _ _ _ _ w (o23.toR.1.mono (s.get 1 rfl)) (o23.toR.2.mono (s.get 1 rfl)) (r25.toR.mono (s.get 0 rfl)) (by first | assumption | exact iota_held _ _ | omega | rfl))) rfl ?_; rintro v26 h26 r26
      refine sq_v rfl (v_assign rfl) rfl ?_
      refine sq_end ?_
      refine qs_n ?_
      refine wp_sc ?_
      refine wp_sq ?_
      refine sq_v rfl (v_loadNB 3 ty_27 rfl rfl rfl rfl) rfl ?_
      refine sq_x rfl (x_call rfl en_17 (fun w s => ct_L_toNetwork _ _ _ _ _ _ _ w (r.mono (s.get 4 rfl)) (r'.mono (s.get 4 rfl)) (by first | assumption | exact iota_held _ _ | omega | rfl))) rfl ?_; rintro _ h28 ⟨vt28, vo28, rfl, o28⟩
      refine sq_x rfl (x_alloc ty_33 rfl) rfl ?_; rintro _ _ ⟨b7, rfl, rfl⟩
      refine sq_m 0 rfl rfl (m_store 0 ty_33 rfl rfl rfl rfl (by simp [one_int, o28.toR.1.sl.one, o28.toR.2.sl.one]) rfl (Nat.le_of_ble_eq_true rfl)) rfl ?_; rintro _ _ ⟨rfl, rfl⟩
      refine sq_end ?_
      refine qs_n ?_
      refine wp_sc ?_
      refine wp_sq ?_
      refine sq_v rfl (v_move rfl) rfl ?_
      refine sq_x rfl (x_call rfl en_18 (fun w s => ct_l_toIntS _ _ w (rv.mono (s.get 6 rfl)) (by first | assumption | exact iota_held _ _ | omega | rfl))) rfl ?_; rintro v30 h30 r30
      refine sq_v rfl (v_assign rfl) rfl ?_
      refine sq_end ?_
      refine qs_n ?_
      refine wp_sc ?_
      refine wp_sq ?_
      refine sq_v rfl (v_loadNB 1 ty_33 rfl rfl rfl rfl) rfl ?_
      refine sq_v rfl (v_move rfl) rfl ?_
      refine sq_x rfl (x_call rfl en_19 (fun w s => ct_i_WeightOf _ _ _ _ _ _ _ _ _ w (o28.toR.1.mono (s.get 2 rfl)) (o28.toR.2.mono (s.get 2 rfl)) (r30.toR.mono (s.get 0 rfl)) (by first | assumption | exact iota_held _ _ | omega | rfl))) rfl ?_; rintro v33 h33 r33
      refine sq_v rfl (v_assign rfl) rfl ?_
      refine sq_end ?_
      refine qs_n ?_
      refine wp_sc ?_
      refine wp_sc ?_
      refine wp_sq ?_
      refine sq_v rfl (v_move rfl) rfl ?_
      refine sq_v rfl (v_move rfl) rfl ?_
      refine sq_u rfl (x_callv rfl en_20 (fun w s => ct_l_eqIntS _ _ _ _ w (r33.toR.mono (s.get 0 rfl)) (r26.toR.mono (s.get 4 rfl)) (by first | assumption | exact iota_held _ _ | omega | rfl))) rfl ?_
      refine sq_v rfl (v_not rfl) rfl ?_
      refine sq_end ?_
      refine qs_n ?_
      refine wp_cf rfl ?_
      refine wp_sk ?_
      refine qs_n ?_
      refine wp_sc ?_
      refine wp_sc ?_
      refine wp_rj 5 [(0, true), (1, true), (2, false), (3, false), (4, true)] mixed_ok (by kernel_rfl) ?_
      refine rj_v rfl rfl (v_loadNB 2 ty_33 rfl rfl rfl rfl) rfl ?_
      refine rj_v rfl rfl (v_loadNB 7 ty_27 rfl rfl rfl rfl) rfl ?_
      refine rj_x rfl rfl (x_call rfl en_17 (fun w s => ct_L_toNetwork _ _ _ _ _ _ _ w (r.mono (s.get 8 rfl)) (r'.mono (s.get 8 rfl)) (by first | assumption | exact iota_held _ _ | omega | rfl))) rfl ?_; rintro _ h40 ⟨vt40, vo40, rfl, o40⟩
      refine rj_u rfl rfl (x_callv rfl en_21 (fun w s => ct_l_eqNetwork _ _ _ _ _ _ _ _ _ w (o28.toR.1.mono (s.get 4 rfl)) (o28.toR.2.mono (s.get 4 rfl)) (o40.toR.1.mono (s.get 0 rfl)) (o40.toR.2.mono (s.get 0 rfl)))) rfl ?_
      refine rj_v rfl rfl (v_not rfl) rfl ?_
      refine rj_end ?_
      refine qs_n ?_
      refine wp_cf rfl ?_
      refine wp_sk ?_
      refine qs_n ?_
      refine wp_sc ?_
      refine wp_sc ?_
      refine wp_sq ?_
      refine sq_v rfl (v_move rfl) rfl ?_
      refine sq_v rfl (v_move rfl) rfl ?_
      refine sq_x rfl (x_call rfl en_18 (fun w s => ct_l_toIntS _ _ w (rv.mono (s.get 9 rfl)) (by first | assumption | exact iota_held _ _ | omega | rfl))) rfl ?_; rintro v45 h45 r45
      refine sq_u rfl (x_callv rfl en_20 (fun w s => ct_l_eqIntS _ _ _ _ w (r30.toR.mono (s.get 3 rfl)) (r45.toR.mono (s.get 0 rfl)) (by first | assumption | exact iota_held _ _ | omega | rfl))) rfl ?_
      refine sq_v rfl (v_not rfl) rfl ?_
      refine sq_end ?_
      refine qs_n ?_
      refine wp_cf rfl ?_
      refine wp_sk ?_
      refine qs_n ?_
      refine wp_sc ?_
      refine wp_sq ?_
      refine sq_v rfl (v_assign rfl) rfl ?_
      refine sq_end ?_
      refine qs_n ?_
      refine wp_sc ?_
      refine wp_sq ?_
      refine sq_v rfl (v_loadNB 4 ty_33 rfl rfl rfl rfl) rfl ?_
      refine sq_v rfl (v_move rfl) rfl ?_
      refine sq_m 5 rfl rfl (x_call rfl en_22 (fun w s => ct_L_markNetwork _ _ _ _ _ _ _ _ w _ (s.get 5 rfl) o28 (by first | assumption | exact iota_held _ _ | omega | rfl))) rfl ?_; rintro _ h50 ⟨rfl, ts50, op50, om50, hl50⟩
      refine sq_v rfl (v_assign rfl) rfl ?_
      refine sq_end ?_
      refine qs_n ?_
      refine wp_sc ?_
      refine wp_sq ?_
      refine sq_v rfl (v_move rfl) rfl ?_
      refine sq_v rfl (v_move rfl) rfl ?_
      refine sq_m 3 rfl rfl (x_call rfl en_23 (fun w s => ct_l_markIntS _ _ _ w _ (s.get 3 rfl) r30 (by first | assumption | exact iota_held _ _ | omega | rfl))) rfl ?_; rintro _ h53 ⟨rfl, r53⟩
      refine sq_v rfl (v_assign rfl) rfl ?_
      refine sq_end ?_
      refine qs_n ?_
      refine wp_sc ?_
      refine wp_sc ?_
      refine wp_sq ?_
      refine sq_v rfl (v_move rfl) rfl ?_
      refine sq_v rfl (v_lss rfl rfl) rfl ?_
      refine sq_bd 55 rfl (fun c55 => ?_) (fun c55 => ?_)
      · refine sq_v rfl (v_move rfl) rfl ?_
        refine sq_s rfl rfl ?_
        refine sq_s rfl rfl ?_
        refine sq_s rfl rfl ?_
        refine sq_s rfl rfl ?_
        refine sq_v rfl (v_pickt rfl rfl) rfl ?_
        refine sq_end ?_
        refine qs_n ?_
        refine wp_ct rfl ?_
        refine wp_sc ?_
        refine wp_sq ?_
        refine sq_v rfl (v_assign rfl) rfl ?_
        refine sq_end ?_
        refine qs_n ?_
        refine wp_rt ?_
        refine qs_r ?_
        exfalso; first | omega | contradiction
      · refine sq_v rfl (v_move rfl) rfl ?_
        refine sq_v rfl (v_move rfl) rfl ?_
        refine sq_v rfl (v_move rfl) rfl ?_
        refine sq_u rfl (x_callv rfl en_20 (fun w s => ct_l_eqIntS _ _ _ _ w (r33.toR.mono (s.get 2 rfl)) (r26.toR.mono (s.get 6 rfl)) (by first | assumption | exact iota_held _ _ | omega | rfl))) rfl ?_
        refine sq_v rfl (v_not rfl) rfl ?_
        refine sq_v rfl (v_pickf rfl rfl) rfl ?_
        refine sq_end ?_
        refine qs_n ?_
        refine wp_cf rfl ?_
        refine wp_sk ?_
        refine qs_n ?_
        refine wp_sc ?_
        refine wp_sq ?_
        refine sq_v rfl (v_assign rfl) rfl ?_
        refine sq_end ?_
        refine qs_n ?_
        refine wp_sc ?_
        refine wp_sq ?_
        refine sq_v rfl (v_move rfl) rfl ?_
        refine sq_v rfl (v_move rfl) rfl ?_
        refine sq_m 2 rfl rfl (x_call rfl en_23 (fun w s => ct_l_markIntS _ _ _ w _ (s.get 2 rfl) r33 (by first | assumption | exact iota_held _ _ | omega | rfl))) rfl ?_; rintro _ h64 ⟨rfl, r64⟩
        refine sq_v rfl (v_assign rfl) rfl ?_
        refine sq_end ?_
        refine qs_n ?_
        refine wp_sc ?_
        refine wp_sq ?_
        refine sq_v rfl (v_assign rfl) rfl ?_
        refine sq_end ?_
        refine qs_n ?_
        refine wp_sc ?_
        refine wp_sq ?_
        refine sq_v rfl (v_move rfl) rfl ?_
        refine sq_v rfl (v_move rfl) rfl ?_
        refine sq_u rfl (x_callv rfl en_24 (fun w s => ct_L_heldIntS _ _ _ w (r64.toR.mono (s.get 2 rfl)) (by first | assumption | exact iota_held _ _ | omega | rfl))) rfl ?_
        refine sq_v rfl (v_assign rfl) rfl ?_
        refine sq_end ?_
        refine qs_n ?_
        refine wp_sc ?_
        refine wp_sc ?_
        refine wp_sq ?_
        refine sq_v rfl (v_move rfl) rfl ?_
        refine sq_v rfl (v_lss rfl rfl) rfl ?_
        refine sq_end ?_
        refine qs_n ?_
        refine wp_cd rfl (fun c69 => ?_) (fun c69 => ?_)
        · refine wp_sc ?_
          refine wp_sq ?_
          refine sq_v rfl (v_assign rfl) rfl ?_
          refine sq_end ?_
          refine qs_n ?_
          refine wp_rt ?_
          refine qs_r ?_
          exfalso; first | omega | contradiction
        · refine wp_sk ?_
          refine qs_n ?_
          refine wp_sc ?_
          refine wp_sc ?_
          refine wp_sq ?_
          refine sq_v rfl (v_move rfl) rfl ?_
          refine sq_v rfl (v_move rfl) rfl ?_
          refine sq_v rfl (v_neqs rfl rfl) rfl ?_
          refine sq_end ?_
          refine qs_n ?_
          refine wp_cf rfl ?_
          refine wp_sk ?_
          refine qs_n ?_
          refine wp_sc ?_
          refine wp_sq ?_
          refine sq_v rfl (v_loadNB 9 ty_27 rfl rfl rfl rfl) rfl ?_
          refine sq_x rfl (x_call rfl en_17 (fun w s => ct_L_toNetwork _ _ _ _ _ _ _ w (r.mono (s.get 10 rfl)) (r'.mono (s.get 10 rfl)) (by first | assumption | exact iota_held _ _ | omega | rfl))) rfl ?_; rintro _ h74 ⟨vt74, vo74, rfl, o74⟩
          refine sq_v rfl (v_move rfl) rfl ?_
          refine sq_x rfl (x_call rfl en_18 (fun w s => ct_l_toIntS _ _ w (rv.mono (s.get 11 rfl)) (by first | assumption | exact iota_held _ _ | omega | rfl))) rfl ?_; rintro v76 h76 r76
          refine sq_x rfl (x_call rfl en_19 (fun w s => ct_i_WeightOf _ _ _ _ _ _ _ _ _ w (o74.toR.1.mono (s.get 1 rfl)) (o74.toR.2.mono (s.get 1 rfl)) (r76.toR.mono (s.get 0 rfl)) (by first | assumption | exact iota_held _ _ | omega | rfl))) rfl ?_; rintro v77 h77 r77
          refine sq_v rfl (v_assign rfl) rfl ?_
          refine sq_end ?_
          refine qs_n ?_
          refine wp_sc ?_
          refine wp_sc ?_
          refine wp_sq ?_
          refine sq_v rfl (v_move rfl) rfl ?_
          refine sq_v rfl (v_move rfl) rfl ?_
          refine sq_u rfl (x_callv rfl en_20 (fun w s => ct_l_eqIntS _ _ _ _ w (r77.toR.mono (s.get 0 rfl)) (r26.toR.mono (s.get 9 rfl)) (by first | assumption | exact iota_held _ _ | omega | rfl))) rfl ?_
          refine sq_v rfl (v_not rfl) rfl ?_
          refine sq_end ?_
          refine qs_n ?_
          refine wp_cf rfl ?_
          refine wp_sk ?_
          refine qs_n ?_
          refine wp_sc ?_
          refine wp_sq ?_
          refine sq_v rfl (v_assign rfl) rfl ?_
          refine sq_end ?_
          refine qs_n ?_
          refine wp_sc ?_
          refine wp_sq ?_
          refine sq_v rfl (v_move rfl) rfl ?_
          refine sq_v rfl (v_move rfl) rfl ?_
          refine sq_u rfl (x_callv rfl en_24 (fun w s => ct_L_heldIntS _ _ _ w (r64.toR.mono (s.get 5 rfl)) (by first | assumption | exact iota_held _ _ | omega | rfl))) rfl ?_
          refine sq_v rfl (v_assign rfl) rfl ?_
          refine sq_end ?_
          refine qs_n ?_
          refine wp_sc ?_
          refine wp_sc ?_
          refine wp_sq ?_
          refine sq_v rfl (v_move rfl) rfl ?_
          refine sq_v rfl (v_lss rfl rfl) rfl ?_
          refine sq_end ?_
          refine qs_n ?_
          refine wp_cd rfl (fun c86 => ?_) (fun c86 => ?_)
          · refine wp_sc ?_
            refine wp_sq ?_
            refine sq_v rfl (v_assign rfl) rfl ?_
            refine sq_end ?_
            refine qs_n ?_
            refine wp_rt ?_
            refine qs_r ?_
            exfalso; first | omega | contradiction
          · refine wp_sk ?_
            refine qs_n ?_
            refine wp_sc ?_
            refine wp_sc ?_
            refine wp_sq ?_
            refine sq_v rfl (v_move rfl) rfl ?_
            refine sq_v rfl (v_move rfl) rfl ?_
            refine sq_v rfl (v_neqs rfl rfl) rfl ?_
            refine sq_end ?_
            refine qs_n ?_
            refine wp_cf rfl ?_
            refine wp_sk ?_
            refine qs_n ?_
            refine wp_sc ?_
            refine wp_sq ?_
            refine sq_v rfl (v_assign rfl) rfl ?_
            refine sq_end ?_
            refine qs_n ?_
            refine wp_rt ?_
            exact qs_ret1 rfl rfl (fin_v (i := 13) rfl)
set_option maxRecDepth 100000 in
theorem lifted_fnExactWeightOf (os : Os) (started : os.Started) (H : Type) (enc : TypeId × Value → H) :
    ReturnsInHanded {} Try.checked os 3 .any (Rows.fnExactWeightOfSpec.pre6 enc Try.prog Try.f3 Rows.fnExactWeightOfRow.domain false) (Rows.fnExactWeightOfSpec.post enc Try.prog Try.f3 false true false false) := by
  refine returnsInHanded_of_change (C := Try.checked) lift_own started (by kernel_rfl) Try.func3
    (ChangeSpec.witness6 (enc := enc) (C := Try.checked) false ⟨#[], #[.agg #[.int .i64 0, .int .i64 0, .int .i64 0, .slice none 0 0, .slice none 0 0], .slice none 0 0], []⟩ 8 (by kernel_rfl) (by kernel_rfl) (by kernel_rfl) (by kernel_rfl)) ?_
  intro W base args ds gs before hval0 hW hcnd _
  have hval : ∀ (j : Nat) t v, Try.f3.params[j]? = some t → args[j]? = some v → Value.okWide Try.prog W .any base t v := hval0
  have hW' := hW
  obtain ⟨p, q, hA0, hV, rfl, hfz, hnd⟩ := hW
  have hlt : ∀ x ∈ p, x.block < W.heap.size := fun x hx => by simpa using hW'.lt x (by simp [hx])
  have hA : DataW.TrodAll enc Try.prog W 0 (fun _ => true) true Try.f3.params.toList args.toList ds p := hA0
  have hA1 := hA
  rw [Try.params3] at hA1 hval
  obtain ⟨v0, vs0, d0, ds0, p0, q0, hargs, rfl, rfl, h0, r0⟩ := trodAll_cons hA1
  obtain ⟨v1, vs1, d1, ds1, p1, q1, rfl, rfl, rfl, h1, r1⟩ := trodAll_cons r0
  obtain ⟨rfl, rfl, rfl⟩ := trodAll_nil r1
  obtain rfl : args = #[v0, v1] := by cases args; simp_all
  obtain ⟨rfl, rfl⟩ := trodVars_none hV
  have k0 := hval 0 27 v0 rfl rfl
  have k1 := hval 1 25 v1 rfl rfl
  obtain ⟨x0, x1, x2, ts, op, vt, vo, rfl, rt, ro⟩ := arg_network k0 h0
  obtain ⟨vs, rv, _⟩ := arg_ints k1 h1
  refine (show Calls Try.prog 3 _ W (RetV W (.bool true)) from ct_l_FnExactWeightOf x0 x1 x2 ts op vs vt vo v1 W rt ro rv).mono fun e W' ⟨he, hu⟩ => ?_
  subst he
  refine ⟨_, rfl, _, _, _, [], _, [], hW', trodAll_mk1 (shut_bool Try.underlying4 true), trodAll_below lift_laid hu.below (by kernel_rfl) hA hlt, rfl, hu.below.frame _, fun h => by cases h⟩
theorem over_fnExactWeightOf : Rows.fnExactWeightOfRow.holds Try.pinned (OpenSpec.ofChange Rows.fnExactWeightOfSpec) :=
  OpenClaim.holds_of_wide 3 Try.f3 rfl rfl rfl rfl rfl rfl rfl ⟨rfl, rfl, rfl, rfl, rfl⟩ rfl rfl rfl rfl rfl (by kernel_rfl) Try.func3 (by kernel_rfl)
    (of_decide_eq_true (by kernel_rfl)) (by unfold Func.isWrapper; first | (rw [if_pos (by decide +kernel)]; kernel_rfl) | (rw [if_neg (by decide +kernel)]; exact ⟨rfl, rfl⟩))
    (fun os started H enc _ => lifted_fnExactWeightOf os started H enc)
/-- The law FnExactWeightOf holds at every input. -/
theorem proved_fnExactWeightOf : Rows.FnExactWeightOfSaid :=
  over_fnExactWeightOf
#print axioms proved_fnExactWeightOf
end Go.Proofs.Ytalfigjnaidmnaa
