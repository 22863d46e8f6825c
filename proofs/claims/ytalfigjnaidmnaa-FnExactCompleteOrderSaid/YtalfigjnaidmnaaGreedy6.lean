/-
  The program's CompleteOrder.
  Conditions: none.
-/
import Derived.Test.YtalfigjnaidmnaaGreedy5
namespace Go.Proofs.Ytalfigjnaidmnaa
set_option maxRecDepth 100000
open Go.RowKit
set_option maxHeartbeats 2000000 in
theorem ct_i_CompleteOrder (k p n : Int) (ts : List Ten) (op : List Int) (ss : List Stp) (vt vo v : Value) (w : World) (r : TensR ts vt (hp w)) (r' : IntsR op vo (hp w)) (rv : StepsR ss v (hp w)) (hop : op.length ≤ 1048576) (hss : ss.length ≤ 1048576) :
    Calls Try.prog 59 [netV k p n vt vo, v].toArray w (Ret w emp (CompR k p n ts op ss)) := by
  refine calls_in Try.func59 rfl Try.ntmps59 rfl (Sat.start w) ?_
  have hle0 := r.le
  obtain ⟨cs_r, rr_r, hc_r⟩ := r.at
  have hle1 := r'.le
  have hle2 := rv.le
  obtain ⟨cs_rv, rr_rv, hc_rv⟩ := rv.at
  refine wp_sc ?_
  refine wp_sq ?_
  refine sq_x rfl (x_box rfl rfl) rfl ?_; rintro _ _ ⟨b2, rfl, rfl⟩
  refine sq_v rfl (v_assign rfl) rfl ?_
  refine sq_v rfl (v_assign rfl) rfl ?_
  refine sq_end ?_
  refine qs_n ?_
  refine wp_sc ?_
  refine wp_sc ?_
  refine wp_sq ?_
  refine sq_v rfl (v_loadNB 0 ty_33 rfl rfl rfl rfl) rfl ?_
  refine sq_u rfl (x_callv rfl en_101 (fun w s => ct_i_NetworkOk _ _ _ _ _ _ _ w (r.mono (s.get 1 rfl)) (r'.mono (s.get 1 rfl)) (by first | assumption | omega))) rfl ?_
  refine sq_v rfl (v_not rfl) rfl ?_
  refine sq_end ?_
  refine qs_n ?_
  refine wp_cn _ rfl (fun c11 => ?_) (fun c11 => ?_)
  · refine wp_sc ?_
    refine wp_sq ?_
    refine sq_v rfl (v_assign rfl) rfl ?_
    refine sq_v rfl (v_assign rfl) rfl ?_
    refine sq_end ?_
    refine qs_n ?_
    refine wp_rt ?_
    refine qs_r ?_
    exact qs_ret2 rfl rfl rfl (fin_e (i := 1) rfl (CompR.no (fun h => netB_false.1 c11 h.1)))
  · refine wp_sk ?_
    refine qs_n ?_
    refine wp_sc ?_
    refine wp_sq ?_
    refine sq_v rfl (v_loadNB 0 ty_33 rfl rfl rfl rfl) rfl ?_
    have hnet := netB_true.1 c11; have hax := net_axes hnet; have h12 := hnet.2.1; have hfi := sh0_fine hax; have hfit := net_fit hnet
    refine sq_x rfl (x_call rfl en_82 (fun w s => ct_i_startState _ _ _ _ _ _ _ w (r.mono (s.get 1 rfl)) (r'.mono (s.get 1 rfl)) hax h12)) rfl ?_; rintro _ h13 ⟨bb, arr, rfl, rst, hinv⟩
    refine sq_v rfl (v_assign rfl) rfl ?_
    refine sq_end ?_
    refine qs_n ?_
    refine wp_sc ?_
    refine wp_sc ?_
    refine wp_sq ?_
    refine sq_v rfl (v_move rfl) rfl ?_
    refine sq_v rfl (v_len Try.underlying44 rfl rv.sl) rfl ?_
    refine sq_v rfl (v_move rfl) rfl ?_
    refine sq_end ?_
    refine qs_n ?_
    refine wp_bl ?_
    refine wp_lp (σ := Nat × PH) (fun z_ => [(1, v), (4, .slice none 0 0), (5, .bool false), (6, ptrV bb), (14, v), (15, num ss.length), (16, num z_.1)]) (fun z_ => [z_.2, box b2 [num k, num p, num n, vt, vo] 33, hp w]) (fun z_ => z_.1 ≤ ss.length ∧ okSteps op (sh0 ts) (ss.take z_.1) ∧ StO arr vo (shTo op (sh0 ts) (ss.take z_.1)) bb z_.2) (fun z_ => ss.length - z_.1) (0, h13) (⟨by (try dsimp only); omega, fun j hj => by simp at hj, rst⟩) ⟨rfl, rfl, rfl, rfl, rfl, rfl, (by first | rfl | exact ksub rfl (by first | omega | (simp; done) | (simp; omega))), trivial⟩ (fun _ s => s) ?_
    rintro ⟨i, g⟩ ⟨hi, hok, rst⟩
    dsimp only at hi hok rst ⊢
    have hfs := shTo_fine (op := op) hfi (ss.take i)
    have hft := fit_to (op := op) hfit (ss.take i)
    have hal := shTo_all (op := op) (s := sh0 ts) (ss := ss.take i)
    have hfew := few_steps hax hok
    have hsc := steps_count hfi hok (ss.take i).length (Nat.le_refl _)
    rw [List.take_length, show (sh0 ts).ixs.length = ts.length by rw [sh0_ixs]; simp] at hsc
    rw [show (sh0 ts).all.length = ts.length by simp [sh0]] at hal
    refine wp_sc ?_
    refine wp_sq ?_
    refine sq_v rfl (v_lss rfl rfl) rfl ?_
    refine sq_end ?_
    refine qs_n ?_
    refine wp_sc ?_
    refine wp_cd rfl (fun c17 => ?_) (fun c17 => ?_)
    · refine wp_sk ?_
      refine qs_n ?_
      refine wp_sc ?_
      refine wp_bl ?_
      refine wp_sc ?_
      refine wp_sq ?_
      obtain ⟨x18, hx18, hcs18⟩ := hc_rv (i) (by first | omega | (rw [List.length_set]; omega))
      refine sq_v rfl (v_indexAddr Try.underlying44 ty_107 rfl rfl rr_rv (by decide) (by omega) (by first | omega | (rw [List.length_set]; omega))) rfl ?_
      refine sq_v rfl (v_loadNE 2 ty_107 rfl rfl rr_rv (by have := rr_rv.1; omega) rfl hcs18) rfl ?_
      refine sq_x rfl (x_alloc ty_107 rfl) rfl ?_; rintro _ _ ⟨b8, rfl, rfl⟩
      refine sq_m 0 rfl rfl (m_store 0 ty_107 rfl rfl rfl rfl (by simp [Value.oneCell']) rfl (Nat.le_of_ble_eq_true rfl)) rfl ?_; rintro _ _ ⟨rfl, rfl⟩
      refine sq_end ?_
      refine qs_n ?_
      refine wp_sc ?_
      refine wp_sq ?_
      refine sq_v rfl (v_move rfl) rfl ?_
      refine sq_v rfl (v_loadNB 0 ty_107 rfl rfl rfl rfl) rfl ?_
      refine sq_m 1 rfl rfl (x_call rfl en_83 (fun w s => ct_L_follow arr op vo _ bb _ _ w _ (s.get 1 rfl) rst (r'.mono (s.getR 1 3 rfl rfl (by decide))) (fun i => by have := hfs.few i; omega) (by omega))) rfl ?_; rintro _ h22 ⟨rfl, rst'⟩
      refine sq_v rfl (v_not rfl) rfl ?_
      refine sq_end ?_
      refine qs_n ?_
      refine wp_cn _ rfl (fun c23 => ?_) (fun c23 => ?_)
      · refine wp_sc ?_
        refine wp_sq ?_
        refine sq_v rfl (v_assign rfl) rfl ?_
        refine sq_v rfl (v_assign rfl) rfl ?_
        refine sq_end ?_
        refine qs_n ?_
        refine wp_rt ?_
        refine qs_br ?_
        refine qs_r ?_
        refine qs_r ?_
        refine qs_br ?_
        refine qs_r ?_
        exact qs_ret2 rfl rfl rfl (fin_e (i := 3) rfl (CompR.no (fun h => okB_false.1 c23 (stepOk_at h.2 hx18))))
      · refine wp_sk ?_
        refine qs_bn ?_
        refine qs_n ?_
        refine wp_sq ?_
        refine sq_v rfl (v_add rfl rfl ((by unfold I64; omega))) rfl ?_
        refine sq_v rfl (v_move rfl) rfl ?_
        refine sq_end ?_
        exact qs_bk (i + 1, h22) ⟨by (try dsimp only); omega, okSteps_next hok hx18 (okB_true.1 c23), by (try dsimp only); rw [nextSh_yes c23] at rst'; rw [shTo_step hx18]; exact rst'⟩ (by simp only; omega) ⟨rfl, rfl, rfl, rfl, rfl, rfl, (by first | rfl | exact ksub rfl (by first | omega | (simp; done) | (simp; omega))), trivial⟩ (fun _ s => s.pick [1, 2, 3] (by decide) rfl)
    · refine wp_ex ?_
      refine qs_x ?_
      refine qs_x ?_
      refine qs_bx ?_
      refine qs_n ?_
      refine wp_sc ?_
      refine wp_sq ?_
      refine sq_v rfl (v_move rfl) rfl ?_
      refine sq_x rfl (x_call rfl en_120 (fun w s => ct_i_copySteps _ _ w (rv.mono (s.get 2 rfl)) (by first | assumption | omega))) rfl ?_; rintro v26 h26 r26
      obtain ⟨cs_S_26, rr_S_26, hc_S_26⟩ := r26.toR.at
      refine sq_v rfl (v_move rfl) rfl ?_
      rw [List.take_of_length_le (by omega)] at hok rst hfs hft hal hsc; have hgl := greedy_len (dimOf ts) op (shTo op (sh0 ts) ss) ((shTo op (sh0 ts) ss).ixs.length - 1)
      refine sq_m 1 rfl rfl (x_call rfl en_121 (fun w s => ct_i_greedySteps (dimOf ts) arr op vo _ bb w _ (s.get 1 rfl) rst (r'.mono (s.getR 1 3 rfl rfl (by decide))) hfs hft (hinv hnet.2.2.2.1).2 (by omega))) rfl ?_; rintro v28 h28 r28
      obtain ⟨cs_S_28, rr_S_28, hc_S_28⟩ := r28.at
      refine sq_m 0 rfl rfl (m_appS (ss := ss) (us := (greedyTo (dimOf ts) op (shTo op (sh0 ts) ss) ((shTo op (sh0 ts) ss).ixs.length - 1))) 0 1 Try.underlying44 ty_107 rfl rfl rfl rfl r26 rfl r28 (by first | omega | (simp only [List.length_cons, List.length_nil]; omega) | (simp only [List.length_append, List.length_cons, List.length_nil]; omega) | (rw [List.length_set]; omega) | (rw [List.length_replicate]; omega) | (simp; omega))) rfl ?_; intro v29 h_r29 r29
      obtain ⟨cs_S_29, rr_S_29, hc_S_29⟩ := r29.toR.at
      refine sq_v rfl (v_assign rfl) rfl ?_
      refine sq_v rfl (v_assign rfl) rfl ?_
      refine sq_end ?_
      refine qs_n ?_
      refine wp_rt ?_
      exact qs_ret2 rfl rfl rfl (fin_t 0 (i := 3) rfl rfl rfl ⟨_, by rw [show compB k p n ts op ss = true by simp [compB, show compP k p n ts op ss from ⟨hnet, hok⟩]], by rw [compS, if_pos ⟨hnet, hok⟩, show ts.length - 1 - ss.length = (shTo op (sh0 ts) ss).ixs.length - 1 by omega]; exact r29⟩)
end Go.Proofs.Ytalfigjnaidmnaa
