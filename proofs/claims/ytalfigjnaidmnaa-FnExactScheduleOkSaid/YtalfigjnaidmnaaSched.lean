/-
  Times of steps: spans, critical times and schedules, in the program and in the reference: the same answers.
  Conditions: none.
-/
import Derived.Test.YtalfigjnaidmnaaOrd6
namespace Go.Proofs.Ytalfigjnaidmnaa
set_option maxRecDepth 100000
open Go.RowKit
def timesL (st : List Int) (n : Nat) : Prop := st.length = n ∧ ∀ j, j < st.length → 0 ≤ st.getD j 0 ∧ st.getD j 0 ≤ 1000000000000
open Classical in
noncomputable def timesB (st : List Int) (n : Nat) : Bool := decide (timesL st n)
theorem timesB_true {st : List Int} {n : Nat} : timesB st n = true ↔ timesL st n := by simp [timesB]
theorem timesB_false {st : List Int} {n : Nat} : timesB st n = false ↔ ¬ timesL st n := by simp [timesB]
theorem timesB_no {st : List Int} {n : Nat} (h : ¬ timesL st n) : Value.bool false = .bool (timesB st n) := by simp [timesB, h]
theorem timesB_yes {st : List Int} {n : Nat} (h : timesL st n) : Value.bool true = .bool (timesB st n) := by simp [timesB, h]
theorem ct_i_timesOk (ss : List Stp) (st : List Int) (v u : Value) (w : World) (r : StepsR ss v (hp w)) (r' : IntsR st u (hp w)) : Calls Try.prog 92 [v, u].toArray w (RetV w (.bool (timesB st ss.length))) := by
  refine calls_in Try.func92 rfl Try.ntmps92 rfl (Sat.start w) ?_
  have hle0 := r.le
  obtain ⟨cs_r, rr_r, hc_r⟩ := r.at
  have hle1 := r'.le
  refine wp_sc ?_
  refine wp_sq ?_
  refine sq_v rfl (v_assign rfl) rfl ?_
  refine sq_end ?_
  refine qs_n ?_
  refine wp_sc ?_
  refine wp_sc ?_
  refine wp_sq ?_
  refine sq_v rfl (v_move rfl) rfl ?_
  refine sq_v rfl (v_len Try.underlying25 rfl r'.sl) rfl ?_
  refine sq_v rfl (v_move rfl) rfl ?_
  refine sq_v rfl (v_len Try.underlying44 rfl r.sl) rfl ?_
  refine sq_v rfl (v_neq rfl rfl) rfl ?_
  refine sq_end ?_
  refine qs_n ?_
  refine wp_cd rfl (fun c11 => ?_) (fun c11 => ?_)
  · refine wp_sc ?_
    refine wp_sq ?_
    refine sq_v rfl (v_assign rfl) rfl ?_
    refine sq_end ?_
    refine qs_n ?_
    refine wp_rt ?_
    refine qs_r ?_
    exact qs_ret1 rfl rfl (fin_q (i := 0) rfl (timesB_no (fun h => by have := h.1; omega)))
  · refine wp_sk ?_
    refine qs_n ?_
    refine wp_sc ?_
    refine wp_sc ?_
    refine wp_sq ?_
    refine sq_v rfl (v_move rfl) rfl ?_
    refine sq_v rfl (v_len Try.underlying25 rfl r'.sl) rfl ?_
    refine sq_v rfl (v_move rfl) rfl ?_
    refine sq_end ?_
    refine qs_n ?_
    refine wp_bl ?_
    refine wp_lp (σ := Nat) (fun z_ => [(4, .bool false), (12, u), (13, num st.length), (14, num z_)]) (fun z_ => [hp w]) (fun z_ => z_ ≤ st.length ∧ (∀ j, j < z_ → 0 ≤ st.getD j 0 ∧ st.getD j 0 ≤ 1000000000000)) (fun z_ => st.length - z_) 0 (⟨by omega, fun j hj => by omega⟩) ⟨rfl, rfl, rfl, (by first | rfl | exact ksub rfl (by first | omega | (simp; done) | (simp; omega))), trivial⟩ (fun _ s => s) ?_
    rintro i ⟨hi, hv⟩
    refine wp_sc ?_
    refine wp_sq ?_
    refine sq_v rfl (v_lss rfl rfl) rfl ?_
    refine sq_end ?_
    refine qs_n ?_
    refine wp_sc ?_
    refine wp_cd rfl (fun c15 => ?_) (fun c15 => ?_)
    · refine wp_sk ?_
      refine qs_n ?_
      refine wp_sc ?_
      refine wp_bl ?_
      refine wp_sc ?_
      refine wp_sq ?_
      refine sq_v rfl (v_idxI Try.underlying25 ty_3 rfl rfl r' (by first | omega | (simp only [List.length_cons, List.length_nil]; omega) | (simp only [List.length_append, List.length_cons, List.length_nil]; omega) | (rw [List.length_set]; omega) | (rw [List.length_replicate]; omega) | (simp; omega)) (by first | omega | (simp only [List.length_cons, List.length_nil]; omega) | (simp only [List.length_append, List.length_cons, List.length_nil]; omega) | (rw [List.length_set]; omega) | (rw [List.length_replicate]; omega) | (simp; omega))) rfl ?_
      refine sq_v rfl (v_loadI (k := i) 0 ty_3 rfl rfl r' (by first | omega | (simp only [List.length_cons, List.length_nil]; omega) | (simp only [List.length_append, List.length_cons, List.length_nil]; omega) | (rw [List.length_set]; omega) | (rw [List.length_replicate]; omega) | (simp; omega))) rfl ?_
      refine sq_v rfl (v_assign rfl) rfl ?_
      refine sq_end ?_
      refine qs_n ?_
      refine wp_sc ?_
      refine wp_sq ?_
      refine sq_v rfl (v_move rfl) rfl ?_
      refine sq_v rfl (v_lss rfl rfl) rfl ?_
      refine sq_bd 19 rfl (fun c19 => ?_) (fun c19 => ?_)
      · refine sq_v rfl (v_move rfl) rfl ?_
        refine sq_s rfl rfl ?_
        refine sq_s rfl rfl ?_
        refine sq_v rfl (v_pickt rfl rfl) rfl ?_
        refine sq_end ?_
        refine qs_n ?_
        refine wp_ct rfl ?_
        refine wp_sc ?_
        refine wp_sq ?_
        refine sq_v rfl (v_assign rfl) rfl ?_
        refine sq_end ?_
        refine qs_n ?_
        refine wp_rt ?_
        refine qs_br ?_
        refine qs_r ?_
        refine qs_r ?_
        refine qs_br ?_
        refine qs_r ?_
        exact qs_ret1 rfl rfl (fin_q (i := 0) rfl (timesB_no (fun h => by have := h.2 i (by omega); omega)))
      · refine sq_v rfl (v_move rfl) rfl ?_
        refine sq_v rfl (v_move rfl) rfl ?_
        refine sq_v rfl (v_gtr rfl rfl) rfl ?_
        refine sq_v rfl (v_pickf rfl rfl) rfl ?_
        refine sq_end ?_
        refine qs_n ?_
        refine wp_cd rfl (fun c23 => ?_) (fun c23 => ?_)
        · refine wp_sc ?_
          refine wp_sq ?_
          refine sq_v rfl (v_assign rfl) rfl ?_
          refine sq_end ?_
          refine qs_n ?_
          refine wp_rt ?_
          refine qs_br ?_
          refine qs_r ?_
          refine qs_r ?_
          refine qs_br ?_
          refine qs_r ?_
          exact qs_ret1 rfl rfl (fin_q (i := 0) rfl (timesB_no (fun h => by have := h.2 i (by omega); omega)))
        · refine wp_sk ?_
          refine qs_bn ?_
          refine qs_n ?_
          refine wp_sq ?_
          refine sq_v rfl (v_add rfl rfl ((by unfold I64; omega))) rfl ?_
          refine sq_v rfl (v_move rfl) rfl ?_
          refine sq_end ?_
          exact qs_bk (i + 1) ⟨by omega, step_all hv (by omega)⟩ (by omega) ⟨rfl, rfl, rfl, (by first | rfl | exact ksub rfl (by first | omega | (simp; done) | (simp; omega))), trivial⟩ (fun _ s => s)
    · refine wp_ex ?_
      refine qs_x ?_
      refine qs_x ?_
      refine qs_bx ?_
      refine qs_n ?_
      refine wp_sc ?_
      refine wp_sq ?_
      refine sq_v rfl (v_assign rfl) rfl ?_
      refine sq_end ?_
      refine qs_n ?_
      refine wp_rt ?_
      exact qs_ret1 rfl rfl (fin_q (i := 0) rfl (timesB_yes ⟨by omega, fun j hj => hv j (by omega)⟩))
theorem ct_s_l26Times (ss : List Stp) (st : List Int) (v u : Value) (w : World) (r : StepsR ss v (hp w)) (r' : IntsR st u (hp w)) : Calls Try.prog 91 [v, u].toArray w (RetV w (.bool (timesB st ss.length))) := by
  refine calls_in Try.func91 rfl Try.ntmps91 rfl (Sat.start w) ?_
  have hle0 := r.le
  obtain ⟨cs_r, rr_r, hc_r⟩ := r.at
  have hle1 := r'.le
  refine wp_sc ?_
  refine wp_sq ?_
  refine sq_v rfl (v_assign rfl) rfl ?_
  refine sq_end ?_
  refine qs_n ?_
  refine wp_sc ?_
  refine wp_sc ?_
  refine wp_sq ?_
  refine sq_v rfl (v_move rfl) rfl ?_
  refine sq_v rfl (v_len Try.underlying25 rfl r'.sl) rfl ?_
  refine sq_v rfl (v_move rfl) rfl ?_
  refine sq_end ?_
  refine qs_n ?_
  refine wp_bl ?_
  refine wp_lp (σ := Nat) (fun z_ => [(0, v), (1, u), (4, .bool false), (7, u), (8, num st.length), (9, num z_)]) (fun z_ => [hp w]) (fun z_ => z_ ≤ st.length ∧ (∀ j, j < z_ → 0 ≤ st.getD j 0 ∧ st.getD j 0 ≤ 1000000000000)) (fun z_ => st.length - z_) 0 (⟨by omega, fun j hj => by omega⟩) ⟨rfl, rfl, rfl, rfl, rfl, (by first | rfl | exact ksub rfl (by first | omega | (simp; done) | (simp; omega))), trivial⟩ (fun _ s => s) ?_
  rintro i ⟨hi, hv⟩
  refine wp_sc ?_
  refine wp_sq ?_
  refine sq_v rfl (v_lss rfl rfl) rfl ?_
  refine sq_end ?_
  refine qs_n ?_
  refine wp_sc ?_
  refine wp_cd rfl (fun c10 => ?_) (fun c10 => ?_)
  · refine wp_sk ?_
    refine qs_n ?_
    refine wp_sc ?_
    refine wp_bl ?_
    refine wp_sc ?_
    refine wp_sq ?_
    refine sq_v rfl (v_idxI Try.underlying25 ty_3 rfl rfl r' (by first | omega | (simp only [List.length_cons, List.length_nil]; omega) | (simp only [List.length_append, List.length_cons, List.length_nil]; omega) | (rw [List.length_set]; omega) | (rw [List.length_replicate]; omega) | (simp; omega)) (by first | omega | (simp only [List.length_cons, List.length_nil]; omega) | (simp only [List.length_append, List.length_cons, List.length_nil]; omega) | (rw [List.length_set]; omega) | (rw [List.length_replicate]; omega) | (simp; omega))) rfl ?_
    refine sq_v rfl (v_loadI (k := i) 0 ty_3 rfl rfl r' (by first | omega | (simp only [List.length_cons, List.length_nil]; omega) | (simp only [List.length_append, List.length_cons, List.length_nil]; omega) | (rw [List.length_set]; omega) | (rw [List.length_replicate]; omega) | (simp; omega))) rfl ?_
    refine sq_v rfl (v_assign rfl) rfl ?_
    refine sq_end ?_
    refine qs_n ?_
    refine wp_sc ?_
    refine wp_sq ?_
    refine sq_v rfl (v_move rfl) rfl ?_
    refine sq_u rfl (x_callv rfl en_68 (fun w s => ct_s_l01In _ _ _ w)) rfl ?_
    refine sq_v rfl (v_not rfl) rfl ?_
    refine sq_end ?_
    refine qs_n ?_
    refine wp_cnd rfl (fun c15 => ?_) (fun c15 => ?_)
    · refine wp_sc ?_
      refine wp_sq ?_
      refine sq_v rfl (v_assign rfl) rfl ?_
      refine sq_end ?_
      refine qs_n ?_
      refine wp_rt ?_
      refine qs_br ?_
      refine qs_r ?_
      refine qs_r ?_
      refine qs_br ?_
      refine qs_r ?_
      exact qs_ret1 rfl rfl (fin_q (i := 0) rfl (timesB_no (fun h => c15 (h.2 i (by omega)))))
    · refine wp_sk ?_
      refine qs_bn ?_
      refine qs_n ?_
      refine wp_sq ?_
      refine sq_v rfl (v_add rfl rfl ((by unfold I64; omega))) rfl ?_
      refine sq_v rfl (v_move rfl) rfl ?_
      refine sq_end ?_
      exact qs_bk (i + 1) ⟨by omega, step_all hv c15⟩ (by omega) ⟨rfl, rfl, rfl, rfl, rfl, (by first | rfl | exact ksub rfl (by first | omega | (simp; done) | (simp; omega))), trivial⟩ (fun _ s => s)
  · refine wp_ex ?_
    refine qs_x ?_
    refine qs_x ?_
    refine qs_bx ?_
    refine qs_n ?_
    refine wp_sc ?_
    refine wp_sq ?_
    refine sq_v rfl (v_move rfl) rfl ?_
    refine sq_v rfl (v_len Try.underlying25 rfl r'.sl) rfl ?_
    refine sq_v rfl (v_move rfl) rfl ?_
    refine sq_v rfl (v_len Try.underlying44 rfl r.sl) rfl ?_
    refine sq_v rfl (v_eql rfl rfl) rfl ?_
    refine sq_v rfl (v_assign rfl) rfl ?_
    refine sq_end ?_
    refine qs_n ?_
    refine wp_rt ?_
    exact qs_ret1 rfl rfl (fin_q (i := 0) rfl (by congr 1; unfold timesB; rw [decide_eq_decide]; exact ⟨fun h => ⟨by omega, fun j hj => hv j (by omega)⟩, fun h => by have := h.1; omega⟩))
theorem costs_in {k p n : Int} {ts : List Ten} {op : List Int} {ss : List Stp} (h : orderL k p n ts op ss) (j : Nat) (hj : j < ss.length) : 1 ≤ (costsL (dimOf ts) op (sh0 ts) ss).getD j 0 ∧ (costsL (dimOf ts) op (sh0 ts) ss).getD j 0 ≤ 1000000000 := by
  rw [costsL_at (List.getElem?_eq_getElem hj)]
  exact costL_in (fit_to (op := op) (net_fit h.1) _)
theorem ord_eq {k p n : Int} {ts : List Ten} {op : List Int} {ss : List Stp} (h : orderL k p n ts op ss) : ordCosts k p n ts op ss = costsL (dimOf ts) op (sh0 ts) ss := if_pos h
def spanTo (st co : List Int) : Nat → Int
  | 0 => 0
  | m + 1 => max (spanTo st co m) (st.getD m 0 + co.getD m 0)
theorem spanTo_in {st co : List Int} (h : ∀ j, j < st.length → 0 ≤ st.getD j 0 ∧ st.getD j 0 ≤ 1000000000000) (h2 : ∀ j, j < st.length → 1 ≤ co.getD j 0 ∧ co.getD j 0 ≤ 1000000000) : ∀ m, m ≤ st.length → 0 ≤ spanTo st co m ∧ spanTo st co m ≤ 1001000000000
  | 0, _ => by simp [spanTo]
  | m + 1, hm => by
    have := spanTo_in h h2 m (by omega)
    have := h m (by omega)
    have := h2 m (by omega)
    simp only [spanTo]
    omega
noncomputable def spanL (k p n : Int) (ts : List Ten) (op : List Int) (ss : List Stp) (st : List Int) : Int := @ite _ (orderL k p n ts op ss ∧ timesL st ss.length) (Classical.propDecidable _) (spanTo st (costsL (dimOf ts) op (sh0 ts) ss) ss.length) (-1)
theorem ct_i_Makespan (k p n : Int) (ts : List Ten) (op : List Int) (ss : List Stp) (st : List Int) (vt vo v u : Value) (w : World) (r : TensR ts vt (hp w)) (r' : IntsR op vo (hp w)) (rv : StepsR ss v (hp w)) (rs : IntsR st u (hp w)) (hs : op.length ≤ 1048576) :
    Calls Try.prog 40 [netV k p n vt vo, v, u].toArray w (RetV w (num (spanL k p n ts op ss st))) := by
  refine calls_in Try.func40 rfl Try.ntmps40 rfl (Sat.start w) ?_
  have hle0 := r.le
  obtain ⟨cs_r, rr_r, hc_r⟩ := r.at
  have hle1 := r'.le
  have hle2 := rv.le
  obtain ⟨cs_rv, rr_rv, hc_rv⟩ := rv.at
  have hle3 := rs.le
  refine wp_sc ?_
  refine wp_sq ?_
  refine sq_x rfl (x_box rfl rfl) rfl ?_; rintro _ _ ⟨b3, rfl, rfl⟩
  refine sq_v rfl (v_assign rfl) rfl ?_
  refine sq_end ?_
  refine qs_n ?_
  refine wp_sc ?_
  refine wp_sc ?_
  refine wp_sq ?_
  refine sq_v rfl (v_loadNB 0 ty_33 rfl rfl rfl rfl) rfl ?_
  refine sq_v rfl (v_move rfl) rfl ?_
  refine sq_u rfl (x_callv rfl en_81 (fun w s => ct_i_OrderOk _ _ _ _ _ _ _ _ _ w (r.mono (s.get 1 rfl)) (r'.mono (s.get 1 rfl)) (rv.mono (s.get 1 rfl)) (by first | assumption | omega))) rfl ?_
  refine sq_bb 12 rfl (fun c12 => ?_) (fun c12 => ?_)
  · refine sq_v rfl (v_not rfl) rfl ?_
    refine sq_v rfl (v_move rfl) rfl ?_
    refine sq_v rfl (v_move rfl) rfl ?_
    refine sq_v rfl (v_move rfl) rfl ?_
    refine sq_u rfl (x_callv rfl en_92 (fun w s => ct_i_timesOk _ _ _ _ w (rv.mono (s.get 1 rfl)) (rs.mono (s.get 1 rfl)))) rfl ?_
    refine sq_v rfl (v_not rfl) rfl ?_
    refine sq_v rfl (v_pickf rfl rfl) rfl ?_
    refine sq_end ?_
    refine qs_n ?_
    refine wp_cn _ rfl (fun c19 => ?_) (fun c19 => ?_)
    · refine wp_sc ?_
      refine wp_sq ?_
      refine sq_v rfl (v_assign rfl) rfl ?_
      refine sq_end ?_
      refine qs_n ?_
      refine wp_rt ?_
      refine qs_r ?_
      exact qs_ret1 rfl rfl (fin_q (i := 1) rfl (by rw [spanL, if_neg (fun h => timesB_false.1 c19 h.2)]))
    · refine wp_sk ?_
      refine qs_n ?_
      refine wp_sc ?_
      refine wp_sq ?_
      refine sq_v rfl (v_assign rfl) rfl ?_
      refine sq_end ?_
      refine qs_n ?_
      refine wp_sc ?_
      refine wp_sc ?_
      refine wp_sq ?_
      refine sq_v rfl (v_loadNB 0 ty_33 rfl rfl rfl rfl) rfl ?_
      refine sq_v rfl (v_move rfl) rfl ?_
      refine sq_x rfl (x_call rfl en_44 (fun w s => ct_i_OrderCosts _ _ _ _ _ _ _ _ _ w (r.mono (s.get 1 rfl)) (r'.mono (s.get 1 rfl)) (rv.mono (s.get 1 rfl)) (by first | assumption | omega))) rfl ?_; rintro v22 h22 r22
      refine sq_v rfl (v_len Try.underlying25 rfl r22.toR.sl) rfl ?_
      refine sq_v rfl (v_move rfl) rfl ?_
      refine sq_end ?_
      have hord := orderB_true.1 c12
      have htm := timesB_true.1 c19
      have hci := costs_in hord
      rw [← ord_eq hord] at hci
      have hcl : (ordCosts k p n ts op ss).length = ss.length := by rw [ord_eq hord, costsL_len]
      have htl := htm.1
      refine qs_n ?_
      refine wp_bl ?_
      refine wp_lp (σ := Nat) (fun z_ => [(2, u), (6, num 0), (7, num (spanTo st (ordCosts k p n ts op ss) z_)), (22, v22), (23, num (ordCosts k p n ts op ss).length), (24, num z_)]) (fun z_ => [h22, box b3 [num k, num p, num n, vt, vo] 33, hp w]) (fun z_ => z_ ≤ (ordCosts k p n ts op ss).length) (fun z_ => (ordCosts k p n ts op ss).length - z_) 0 (by omega) ⟨rfl, rfl, (by first | rfl | exact ksub rfl (by first | omega | (simp; done) | (simp; omega))), rfl, rfl, (by first | rfl | exact ksub rfl (by first | omega | (simp; done) | (simp; omega))), trivial⟩ (fun _ s => s) ?_
      rintro i hi
      refine wp_sc ?_
      refine wp_sq ?_
      refine sq_v rfl (v_lss rfl rfl) rfl ?_
      refine sq_end ?_
      refine qs_n ?_
      refine wp_sc ?_
      refine wp_cd rfl (fun c25 => ?_) (fun c25 => ?_)
      · refine wp_sk ?_
        refine qs_n ?_
        refine wp_sc ?_
        refine wp_bl ?_
        refine wp_sc ?_
        refine wp_sq ?_
        refine sq_v rfl (v_move rfl) rfl ?_
        refine sq_v rfl (v_idxI Try.underlying25 ty_3 rfl rfl r22.toR (by first | omega | (simp only [List.length_cons, List.length_nil]; omega) | (simp only [List.length_append, List.length_cons, List.length_nil]; omega) | (rw [List.length_set]; omega) | (rw [List.length_replicate]; omega) | (simp; omega)) (by first | omega | (simp only [List.length_cons, List.length_nil]; omega) | (simp only [List.length_append, List.length_cons, List.length_nil]; omega) | (rw [List.length_set]; omega) | (rw [List.length_replicate]; omega) | (simp; omega))) rfl ?_
        refine sq_v rfl (v_loadI (k := i) 0 ty_3 rfl rfl r22.toR (by first | omega | (simp only [List.length_cons, List.length_nil]; omega) | (simp only [List.length_append, List.length_cons, List.length_nil]; omega) | (rw [List.length_set]; omega) | (rw [List.length_replicate]; omega) | (simp; omega))) rfl ?_
        refine sq_v rfl (v_assign rfl) rfl ?_
        refine sq_v rfl (v_assign rfl) rfl ?_
        refine sq_end ?_
        have hsi := spanTo_in htm.2 (fun j hj => hci j (by omega)) i (by omega)
        have hti := htm.2 i (by omega)
        have hcc := hci i (by omega)
        refine qs_n ?_
        refine wp_sq ?_
        refine sq_v rfl (v_move rfl) rfl ?_
        refine sq_v rfl (v_move rfl) rfl ?_
        refine sq_v rfl (v_move rfl) rfl ?_
        refine sq_v rfl (v_idxI Try.underlying25 ty_3 rfl rfl rs (by first | omega | (simp only [List.length_cons, List.length_nil]; omega) | (simp only [List.length_append, List.length_cons, List.length_nil]; omega) | (rw [List.length_set]; omega) | (rw [List.length_replicate]; omega) | (simp; omega)) (by first | omega | (simp only [List.length_cons, List.length_nil]; omega) | (simp only [List.length_append, List.length_cons, List.length_nil]; omega) | (rw [List.length_set]; omega) | (rw [List.length_replicate]; omega) | (simp; omega))) rfl ?_
        refine sq_v rfl (v_loadI (k := i) 2 ty_3 rfl rfl rs (by first | omega | (simp only [List.length_cons, List.length_nil]; omega) | (simp only [List.length_append, List.length_cons, List.length_nil]; omega) | (rw [List.length_set]; omega) | (rw [List.length_replicate]; omega) | (simp; omega))) rfl ?_
        refine sq_v rfl (v_move rfl) rfl ?_
        refine sq_v rfl (v_add rfl rfl ((by unfold I64; omega))) rfl ?_
        refine sq_v rfl (v_max rfl rfl) rfl ?_
        refine sq_v rfl (v_assign rfl) rfl ?_
        refine sq_end ?_
        refine qs_bn ?_
        refine qs_n ?_
        refine wp_sq ?_
        refine sq_v rfl (v_add rfl rfl ((by unfold I64; omega))) rfl ?_
        refine sq_v rfl (v_move rfl) rfl ?_
        refine sq_end ?_
        exact qs_bk (i + 1) (by omega) (by omega) ⟨rfl, rfl, (by first | rfl | exact ksub rfl (by first | omega | (simp; done) | (simp; omega))), rfl, rfl, (by first | rfl | exact ksub rfl (by first | omega | (simp; done) | (simp; omega))), trivial⟩ (fun _ s => s)
      · refine wp_ex ?_
        refine qs_x ?_
        refine qs_x ?_
        refine qs_bx ?_
        refine qs_n ?_
        refine wp_sc ?_
        refine wp_sq ?_
        refine sq_v rfl (v_move rfl) rfl ?_
        refine sq_v rfl (v_assign rfl) rfl ?_
        refine sq_end ?_
        refine qs_n ?_
        refine wp_rt ?_
        exact qs_ret1 rfl rfl (fin_q (i := 2) rfl (by rw [spanL, if_pos ⟨hord, htm⟩, ← ord_eq hord, show ss.length = i by omega]))
  · refine sq_v rfl (v_not rfl) rfl ?_
    refine sq_v rfl (v_move rfl) rfl ?_
    refine sq_s rfl rfl ?_
    refine sq_s rfl rfl ?_
    refine sq_s rfl rfl ?_
    refine sq_s rfl rfl ?_
    refine sq_v rfl (v_pickt rfl rfl) rfl ?_
    refine sq_end ?_
    refine qs_n ?_
    refine wp_ct rfl ?_
    refine wp_sc ?_
    refine wp_sq ?_
    refine sq_v rfl (v_assign rfl) rfl ?_
    refine sq_end ?_
    refine qs_n ?_
    refine wp_rt ?_
    refine qs_r ?_
    exact qs_ret1 rfl rfl (fin_q (i := 1) rfl (by rw [spanL, if_neg (fun h => orderB_false.1 c12 h.1)]))
theorem ct_s_Makespan (k p n : Int) (ts : List Ten) (op : List Int) (ss : List Stp) (st : List Int) (vt vo v u : Value) (w : World) (r : TensR ts vt (hp w)) (r' : IntsR op vo (hp w)) (rv : StepsR ss v (hp w)) (rs : IntsR st u (hp w)) (hs : op.length ≤ 1048576) (hss : ss.length ≤ 1048576) :
    Calls Try.prog 39 [netV k p n vt vo, v, u].toArray w (RetV w (num (spanL k p n ts op ss st))) := by
  refine calls_in Try.func39 rfl Try.ntmps39 rfl (Sat.start w) ?_
  have hle0 := r.le
  obtain ⟨cs_r, rr_r, hc_r⟩ := r.at
  have hle1 := r'.le
  have hle2 := rv.le
  obtain ⟨cs_rv, rr_rv, hc_rv⟩ := rv.at
  have hle3 := rs.le
  refine wp_sc ?_
  refine wp_sq ?_
  refine sq_x rfl (x_box rfl rfl) rfl ?_; rintro _ _ ⟨b3, rfl, rfl⟩
  refine sq_v rfl (v_assign rfl) rfl ?_
  refine sq_end ?_
  refine qs_n ?_
  refine wp_sc ?_
  refine wp_sc ?_
  refine wp_sq ?_
  refine sq_v rfl (v_loadNB 0 ty_33 rfl rfl rfl rfl) rfl ?_
  refine sq_v rfl (v_move rfl) rfl ?_
  refine sq_u rfl (x_callv rfl en_77 (fun w s => ct_s_OrderOk _ _ _ _ _ _ _ _ _ w (r.mono (s.get 1 rfl)) (r'.mono (s.get 1 rfl)) (rv.mono (s.get 1 rfl)) (by first | assumption | omega) (by first | assumption | omega))) rfl ?_
  refine sq_bb 14 rfl (fun c14 => ?_) (fun c14 => ?_)
  · refine sq_v rfl (v_not rfl) rfl ?_
    refine sq_v rfl (v_move rfl) rfl ?_
    refine sq_v rfl (v_move rfl) rfl ?_
    refine sq_v rfl (v_move rfl) rfl ?_
    refine sq_u rfl (x_callv rfl en_91 (fun w s => ct_s_l26Times _ _ _ _ w (rv.mono (s.get 1 rfl)) (rs.mono (s.get 1 rfl)))) rfl ?_
    refine sq_v rfl (v_not rfl) rfl ?_
    refine sq_v rfl (v_pickf rfl rfl) rfl ?_
    refine sq_end ?_
    refine qs_n ?_
    refine wp_cn _ rfl (fun c21 => ?_) (fun c21 => ?_)
    · refine wp_sc ?_
      refine wp_sq ?_
      refine sq_v rfl (v_assign rfl) rfl ?_
      refine sq_end ?_
      refine qs_n ?_
      refine wp_rt ?_
      refine qs_r ?_
      exact qs_ret1 rfl rfl (fin_q (i := 1) rfl (by rw [spanL, if_neg (fun h => timesB_false.1 c21 h.2)]))
    · refine wp_sk ?_
      refine qs_n ?_
      refine wp_sc ?_
      refine wp_sq ?_
      refine sq_v rfl (v_loadNB 0 ty_33 rfl rfl rfl rfl) rfl ?_
      refine sq_v rfl (v_move rfl) rfl ?_
      have hord := orderB_true.1 c14; have hnet := hord.1; have h12 := hnet.2.1; have hsl := hord.2.1; have htm := timesB_true.1 c21; have hci := costs_in hord; have hcl := costsL_len (dimOf ts) op (sh0 ts) ss; have htl := htm.1
      refine sq_x rfl (x_call rfl en_78 (fun w s => ct_s_l17Run (dimOf ts) _ _ _ _ _ _ _ _ _ w _ (s.get 1 rfl) r (r'.mono (s.get 1 rfl)) (rv.mono (s.get 1 rfl)) (net_dmap hnet) (by first | assumption | omega) (by first | assumption | omega) (sh0_fine (net_axes hnet)) (net_fit hnet) hord.2.2 (by first | assumption | omega))) rfl ?_; rintro _ h25 ⟨bb, vc, g1, g2, rfl, hsp, rc, md⟩
      refine sq_v rfl (v_move rfl) rfl ?_
      refine sq_v rfl (v_extract rfl rfl) rfl ?_
      refine sq_v rfl (v_extract rfl rfl) rfl ?_
      refine sq_v rfl (v_assign rfl) rfl ?_
      refine sq_v rfl (v_assign rfl) rfl ?_
      refine sq_end ?_
      refine qs_n ?_
      refine wp_sc ?_
      refine wp_sq ?_
      refine sq_v rfl (v_assign rfl) rfl ?_
      refine sq_end ?_
      refine qs_n ?_
      refine wp_sc ?_
      refine wp_sc ?_
      refine wp_sq ?_
      refine sq_v rfl (v_move rfl) rfl ?_
      refine sq_v rfl (v_len Try.underlying25 rfl rs.sl) rfl ?_
      refine sq_v rfl (v_move rfl) rfl ?_
      refine sq_end ?_
      refine qs_n ?_
      refine wp_bl ?_
      refine wp_lp (σ := Nat) (fun z_ => [(6, num 0), (8, vc), (9, num (spanTo st (costsL (dimOf ts) op (sh0 ts) ss) z_)), (28, u), (29, num st.length), (30, num z_)]) (fun z_ => [h25, box b3 [num k, num p, num n, vt, vo] 33, hp w]) (fun z_ => z_ ≤ st.length) (fun z_ => st.length - z_) 0 (by omega) ⟨rfl, rfl, (by first | rfl | exact ksub rfl (by first | omega | (simp; done) | (simp; omega))), rfl, rfl, (by first | rfl | exact ksub rfl (by first | omega | (simp; done) | (simp; omega))), trivial⟩ (fun _ s => s) ?_
      rintro i hi
      refine wp_sc ?_
      refine wp_sq ?_
      refine sq_v rfl (v_lss rfl rfl) rfl ?_
      refine sq_end ?_
      refine qs_n ?_
      refine wp_sc ?_
      refine wp_cd rfl (fun c31 => ?_) (fun c31 => ?_)
      · refine wp_sk ?_
        refine qs_n ?_
        refine wp_sc ?_
        refine wp_bl ?_
        refine wp_sc ?_
        refine wp_sq ?_
        refine sq_v rfl (v_move rfl) rfl ?_
        refine sq_v rfl (v_idxI Try.underlying25 ty_3 rfl rfl rs (by first | omega | (simp only [List.length_cons, List.length_nil]; omega) | (simp only [List.length_append, List.length_cons, List.length_nil]; omega) | (rw [List.length_set]; omega) | (rw [List.length_replicate]; omega) | (simp; omega)) (by first | omega | (simp only [List.length_cons, List.length_nil]; omega) | (simp only [List.length_append, List.length_cons, List.length_nil]; omega) | (rw [List.length_set]; omega) | (rw [List.length_replicate]; omega) | (simp; omega))) rfl ?_
        refine sq_v rfl (v_loadI (k := i) 2 ty_3 rfl rfl rs (by first | omega | (simp only [List.length_cons, List.length_nil]; omega) | (simp only [List.length_append, List.length_cons, List.length_nil]; omega) | (rw [List.length_set]; omega) | (rw [List.length_replicate]; omega) | (simp; omega))) rfl ?_
        refine sq_v rfl (v_assign rfl) rfl ?_
        refine sq_v rfl (v_assign rfl) rfl ?_
        refine sq_end ?_
        have hsi := spanTo_in htm.2 (fun j hj => hci j (by omega)) i (by omega)
        have hti := htm.2 i (by omega)
        have hcc := hci i (by omega)
        refine qs_n ?_
        refine wp_sq ?_
        refine sq_v rfl (v_move rfl) rfl ?_
        refine sq_v rfl (v_move rfl) rfl ?_
        refine sq_v rfl (v_move rfl) rfl ?_
        refine sq_v rfl (v_move rfl) rfl ?_
        refine sq_v rfl (v_idxI Try.underlying25 ty_3 rfl rfl (rc.toR.mono (md.le g2 (by simp))) (by first | omega | (simp only [List.length_cons, List.length_nil]; omega) | (simp only [List.length_append, List.length_cons, List.length_nil]; omega) | (rw [List.length_set]; omega) | (rw [List.length_replicate]; omega) | (simp; omega)) (by first | omega | (simp only [List.length_cons, List.length_nil]; omega) | (simp only [List.length_append, List.length_cons, List.length_nil]; omega) | (rw [List.length_set]; omega) | (rw [List.length_replicate]; omega) | (simp; omega))) rfl ?_
        refine sq_v rfl (v_loadI (k := i) 0 ty_3 rfl rfl (rc.toR.mono (md.le g2 (by simp))) (by first | omega | (simp only [List.length_cons, List.length_nil]; omega) | (simp only [List.length_append, List.length_cons, List.length_nil]; omega) | (rw [List.length_set]; omega) | (rw [List.length_replicate]; omega) | (simp; omega))) rfl ?_
        refine sq_v rfl (v_add rfl rfl ((by unfold I64; omega))) rfl ?_
        refine sq_v rfl (v_max rfl rfl) rfl ?_
        refine sq_v rfl (v_assign rfl) rfl ?_
        refine sq_end ?_
        refine qs_bn ?_
        refine qs_n ?_
        refine wp_sq ?_
        refine sq_v rfl (v_add rfl rfl ((by unfold I64; omega))) rfl ?_
        refine sq_v rfl (v_move rfl) rfl ?_
        refine sq_end ?_
        exact qs_bk (i + 1) (by omega) (by omega) ⟨rfl, rfl, (by first | rfl | exact ksub rfl (by first | omega | (simp; done) | (simp; omega))), rfl, rfl, (by first | rfl | exact ksub rfl (by first | omega | (simp; done) | (simp; omega))), trivial⟩ (fun _ s => s)
      · refine wp_ex ?_
        refine qs_x ?_
        refine qs_x ?_
        refine qs_bx ?_
        refine qs_n ?_
        refine wp_sc ?_
        refine wp_sq ?_
        refine sq_v rfl (v_move rfl) rfl ?_
        refine sq_v rfl (v_assign rfl) rfl ?_
        refine sq_end ?_
        refine qs_n ?_
        refine wp_rt ?_
        exact qs_ret1 rfl rfl (fin_q (i := 2) rfl (by rw [spanL, if_pos ⟨hord, htm⟩, show ss.length = i by omega]))
  · refine sq_v rfl (v_not rfl) rfl ?_
    refine sq_v rfl (v_move rfl) rfl ?_
    refine sq_s rfl rfl ?_
    refine sq_s rfl rfl ?_
    refine sq_s rfl rfl ?_
    refine sq_s rfl rfl ?_
    refine sq_v rfl (v_pickt rfl rfl) rfl ?_
    refine sq_end ?_
    refine qs_n ?_
    refine wp_ct rfl ?_
    refine wp_sc ?_
    refine wp_sq ?_
    refine sq_v rfl (v_assign rfl) rfl ?_
    refine sq_end ?_
    refine qs_n ?_
    refine wp_rt ?_
    refine qs_r ?_
    exact qs_ret1 rfl rfl (fin_q (i := 1) rfl (by rw [spanL, if_neg (fun h => orderB_false.1 c14 h.1)]))
/-! ### when a step may begin -/
def rdyF (E : Int → Int) (m : Int) (l : List Int) : Int := l.foldl (fun q y => if m ≤ y then max q (E (y - m)) else q) 0
theorem rdyF_yes {E : Int → Int} {m : Int} {l : List Int} {i : Nat} (h : i < l.length) (h1 : m ≤ l.getD i 0) : rdyF E m (l.take (i + 1)) = max (rdyF E m (l.take i)) (E (l.getD i 0 - m)) := by
  rw [take_succ h, rdyF, List.foldl_append]; simp only [List.foldl_cons, List.foldl_nil, if_pos h1]; rfl
theorem rdyF_no {E : Int → Int} {m : Int} {l : List Int} {i : Nat} (h : i < l.length) (h1 : ¬ m ≤ l.getD i 0) : rdyF E m (l.take (i + 1)) = rdyF E m (l.take i) := by
  rw [take_succ h, rdyF, List.foldl_append]; simp only [List.foldl_cons, List.foldl_nil, if_neg h1]; rfl
theorem rdyF_snoc (E : Int → Int) (m : Int) (l : List Int) (y : Int) : rdyF E m (l ++ [y]) = if m ≤ y then max (rdyF E m l) (E (y - m)) else rdyF E m l := by simp [rdyF, List.foldl_append]
theorem rdyF_le {E : Int → Int} {m B : Int} (hB : 0 ≤ B) : ∀ {l : List Int}, (∀ y ∈ l, m ≤ y → E (y - m) ≤ B) → 0 ≤ rdyF E m l ∧ rdyF E m l ≤ B := by
  intro l
  unfold rdyF
  suffices H : ∀ (l : List Int) (q : Int), 0 ≤ q → q ≤ B → (∀ y ∈ l, m ≤ y → E (y - m) ≤ B) → 0 ≤ l.foldl (fun q y => if m ≤ y then max q (E (y - m)) else q) q ∧ l.foldl (fun q y => if m ≤ y then max q (E (y - m)) else q) q ≤ B from H l 0 (Int.le_refl _) hB
  intro l
  induction l with
  | nil => intro q h1 h2 _; exact ⟨h1, h2⟩
  | cons y r ih =>
    intro q h1 h2 h
    simp only [List.foldl_cons]
    refine ih _ ?_ ?_ (fun z hz => h z (by simp [hz]))
    · split <;> omega
    · split
      · rename_i hy; have := h y (by simp) hy; omega
      · exact h2
theorem rdyF_congr {E E' : Int → Int} {m : Int} {l : List Int} (h : ∀ y ∈ l, m ≤ y → E (y - m) = E' (y - m)) : rdyF E m l = rdyF E' m l := by
  unfold rdyF
  suffices H : ∀ (l : List Int) (q : Int), (∀ y ∈ l, m ≤ y → E (y - m) = E' (y - m)) → l.foldl (fun q y => if m ≤ y then max q (E (y - m)) else q) q = l.foldl (fun q y => if m ≤ y then max q (E' (y - m)) else q) q from H l 0 h
  intro l
  induction l with
  | nil => intro q _; rfl
  | cons y r ih =>
    intro q h
    simp only [List.foldl_cons]
    have : (if m ≤ y then max q (E (y - m)) else q) = if m ≤ y then max q (E' (y - m)) else q := by
      split
      · rename_i hy; rw [h y (by simp) hy]
      · rfl
    rw [this]
    exact ih _ (fun z hz => h z (by simp [hz]))
theorem rdyF_iff {E : Int → Int} {m B : Int} (hB : 0 ≤ B) {l : List Int} : rdyF E m l ≤ B ↔ ∀ y ∈ l, m ≤ y → E (y - m) ≤ B := by
  refine ⟨fun h => ?_, fun h => (rdyF_le hB h).2⟩
  unfold rdyF at h
  suffices H : ∀ (l : List Int) (q : Int), l.foldl (fun q y => if m ≤ y then max q (E (y - m)) else q) q ≤ B → q ≤ B ∧ ∀ y ∈ l, m ≤ y → E (y - m) ≤ B from (H l 0 h).2
  intro l
  induction l with
  | nil => intro q h; exact ⟨h, fun y hy => by simp at hy⟩
  | cons y r ih =>
    intro q h
    simp only [List.foldl_cons] at h
    obtain ⟨h1, h2⟩ := ih _ h
    split at h1
    · refine ⟨by omega, fun z hz hm => ?_⟩
      rcases List.mem_cons.1 hz with rfl | hz
      · omega
      · exact h2 z hz hm
    · rename_i hy
      refine ⟨h1, fun z hz hm => ?_⟩
      rcases List.mem_cons.1 hz with rfl | hz
      · exact absurd hm hy
      · exact h2 z hz hm
def sumE (st co : List Int) (j : Int) : Int := st.getD j.toNat 0 + co.getD j.toNat 0
theorem ct_s_l26Ready (m a b : Int) (st co : List Int) (v u : Value) (w : World) (r : IntsR st v (hp w)) (r' : IntsR co u (hp w)) (hm : 0 ≤ m ∧ m ≤ 1000) (ha : a - m < st.length ∧ a - m < co.length) (hb : b - m < st.length ∧ b - m < co.length) (hl : st.length ≤ 1000)
    (h1 : ∀ j, j < st.length → 0 ≤ st.getD j 0 ∧ st.getD j 0 ≤ 10000000000000) (h2 : ∀ j, j < co.length → 0 ≤ co.getD j 0 ∧ co.getD j 0 ≤ 1000000000) :
    Calls Try.prog 93 [num m, stepV a b, v, u].toArray w (RetV w (num (rdyF (sumE st co) m [a, b]))) := by
  refine calls_in Try.func93 rfl Try.ntmps93 rfl (Sat.start w) ?_
  have hle0 := r.le
  have hle1 := r'.le
  refine wp_sc ?_
  refine wp_sq ?_
  refine sq_x rfl (x_box rfl rfl) rfl ?_; rintro _ _ ⟨b5, rfl, rfl⟩
  refine sq_v rfl (v_assign rfl) rfl ?_
  refine sq_end ?_
  refine qs_n ?_
  refine wp_sc ?_
  refine wp_sq ?_
  refine sq_v rfl (v_assign rfl) rfl ?_
  refine sq_end ?_
  refine qs_n ?_
  refine wp_sc ?_
  refine wp_sc ?_
  refine wp_sq ?_
  refine sq_v rfl (v_fieldAddr fd_107_0 ty_3 (by decide) rfl) rfl ?_
  refine sq_v rfl (v_loadB 0 ty_3 rfl rfl rfl) rfl ?_
  refine sq_v rfl (v_fieldAddr fd_107_1 ty_3 (by decide) rfl) rfl ?_
  refine sq_v rfl (v_loadB 0 ty_3 rfl rfl rfl) rfl ?_
  refine sq_x rfl (x_buildS [num (a), num (b)] Try.underlying25 ty_3 (by decide) rfl rfl rfl (by decide) (by decide) (by intro v hv; simp at hv; rcases hv with rfl | rfl <;> rfl)) rfl ?_; intro v16 h16 (r16 : IntsO [a, b] v16 h16)
  refine sq_v rfl (v_len Try.underlying25 rfl r16.toR.sl) rfl ?_
  refine sq_v rfl (v_move rfl) rfl ?_
  refine sq_end ?_
  refine qs_n ?_
  refine wp_bl ?_
  refine wp_lp (σ := Nat × Int) (fun z_ => [(0, num m), (2, v), (3, u), (8, num 0), (9, num z_.2), (16, v16), (17, num [a, b].length), (18, num z_.1)]) (fun z_ => [h16, box b5 [num a, num b] 107, hp w]) (fun z_ => z_.1 ≤ 2 ∧ z_.2 = rdyF (sumE st co) m (([a, b] : List Int).take z_.1)) (fun z_ => 2 - z_.1) (0, 0) (⟨by (try dsimp only); omega, by (try dsimp only); rfl⟩) ⟨rfl, rfl, rfl, rfl, (by first | rfl | exact ksub rfl (by first | omega | (simp; done) | (simp; omega))), rfl, rfl, (by first | rfl | exact ksub rfl (by first | omega | (simp; done) | (simp; omega))), trivial⟩ (fun _ s => s) ?_
  rintro ⟨i, q⟩ ⟨hi, hq⟩
  dsimp only at hi hq ⊢
  have hl2 : ([a, b] : List Int).length = 2 := rfl
  have hq0 := rdyF_le (E := sumE st co) (m := m) (B := 10001000000000) (by omega) (l := ([a, b] : List Int).take i) (fun y hy hmy => by have hm2 := List.mem_of_mem_take hy; have hlt : y - m < st.length ∧ y - m < co.length := (List.mem_cons.1 hm2).elim (fun e => by rw [e]; exact ha) (fun h => by simp at h; rw [h]; exact hb); have := h1 (y - m).toNat (by omega); have := h2 (y - m).toNat (by omega); simp only [sumE]; omega)
  refine wp_sc ?_
  refine wp_sq ?_
  refine sq_v rfl (v_lss rfl rfl) rfl ?_
  refine sq_end ?_
  refine qs_n ?_
  refine wp_sc ?_
  refine wp_cd rfl (fun c19 => ?_) (fun c19 => ?_)
  · refine wp_sk ?_
    refine qs_n ?_
    refine wp_sc ?_
    refine wp_bl ?_
    refine wp_sc ?_
    refine wp_sq ?_
    refine sq_v rfl (v_idxI Try.underlying25 ty_3 rfl rfl r16.toR (by first | omega | (simp only [List.length_cons, List.length_nil]; omega) | (simp only [List.length_append, List.length_cons, List.length_nil]; omega) | (rw [List.length_set]; omega) | (rw [List.length_replicate]; omega) | (simp; omega)) (by first | omega | (simp only [List.length_cons, List.length_nil]; omega) | (simp only [List.length_append, List.length_cons, List.length_nil]; omega) | (rw [List.length_set]; omega) | (rw [List.length_replicate]; omega) | (simp; omega))) rfl ?_
    refine sq_v rfl (v_loadI (k := i) 0 ty_3 rfl rfl r16.toR (by first | omega | (simp only [List.length_cons, List.length_nil]; omega) | (simp only [List.length_append, List.length_cons, List.length_nil]; omega) | (rw [List.length_set]; omega) | (rw [List.length_replicate]; omega) | (simp; omega))) rfl ?_
    refine sq_v rfl (v_assign rfl) rfl ?_
    refine sq_end ?_
    have hy : ([a, b] : List Int).getD i 0 - m < st.length ∧ ([a, b] : List Int).getD i 0 - m < co.length := by rcases (show i = 0 ∨ i = 1 by omega) with rfl | rfl <;> assumption
    refine qs_n ?_
    refine wp_sc ?_
    refine wp_sq ?_
    refine sq_v rfl (v_move rfl) rfl ?_
    refine sq_v rfl (v_move rfl) rfl ?_
    refine sq_v rfl (v_geq rfl rfl) rfl ?_
    refine sq_end ?_
    refine qs_n ?_
    refine wp_cd rfl (fun c24 => ?_) (fun c24 => ?_)
    · refine wp_rj 16 [(0, true), (1, true), (2, true), (3, true), (4, true), (5, true), (6, true), (7, true), (8, true), (9, true), (10, true), (11, true), (12, true), (13, true), (14, true), (15, true)] mixed_ok (by kernel_rfl) ?_
      refine rj_v rfl rfl (v_move rfl) rfl ?_
      refine rj_v rfl rfl (v_move rfl) rfl ?_
      refine rj_v rfl rfl (v_move rfl) rfl ?_
      refine rj_v rfl rfl (v_move rfl) rfl ?_
      refine rj_v rfl rfl (v_sub rfl rfl ((by unfold I64; omega))) rfl ?_
      have hs1 := h1 (([a, b] : List Int).getD i 0 - m).toNat (by omega); have hs2 := h2 (([a, b] : List Int).getD i 0 - m).toNat (by omega)
      refine rj_v rfl rfl (v_idxI Try.underlying25 ty_3 rfl rfl r (by first | omega | (simp only [List.length_cons, List.length_nil]; omega) | (simp only [List.length_append, List.length_cons, List.length_nil]; omega) | (rw [List.length_set]; omega) | (rw [List.length_replicate]; omega) | (simp; omega)) (by first | omega | (simp only [List.length_cons, List.length_nil]; omega) | (simp only [List.length_append, List.length_cons, List.length_nil]; omega) | (rw [List.length_set]; omega) | (rw [List.length_replicate]; omega) | (simp; omega))) rfl ?_
      refine rj_v rfl rfl (v_loadI  2 ty_3 rfl rfl r (by first | omega | (simp only [List.length_cons, List.length_nil]; omega) | (simp only [List.length_append, List.length_cons, List.length_nil]; omega) | (rw [List.length_set]; omega) | (rw [List.length_replicate]; omega) | (simp; omega))) rfl ?_
      refine rj_v rfl rfl (v_move rfl) rfl ?_
      refine rj_v rfl rfl (v_move rfl) rfl ?_
      refine rj_v rfl rfl (v_move rfl) rfl ?_
      refine rj_v rfl rfl (v_sub rfl rfl ((by unfold I64; omega))) rfl ?_
      refine rj_v rfl rfl (v_idxI Try.underlying25 ty_3 rfl rfl r' (by first | omega | (simp only [List.length_cons, List.length_nil]; omega) | (simp only [List.length_append, List.length_cons, List.length_nil]; omega) | (rw [List.length_set]; omega) | (rw [List.length_replicate]; omega) | (simp; omega)) (by first | omega | (simp only [List.length_cons, List.length_nil]; omega) | (simp only [List.length_append, List.length_cons, List.length_nil]; omega) | (rw [List.length_set]; omega) | (rw [List.length_replicate]; omega) | (simp; omega))) rfl ?_
      refine rj_v rfl rfl (v_loadI  2 ty_3 rfl rfl r' (by first | omega | (simp only [List.length_cons, List.length_nil]; omega) | (simp only [List.length_append, List.length_cons, List.length_nil]; omega) | (rw [List.length_set]; omega) | (rw [List.length_replicate]; omega) | (simp; omega))) rfl ?_
      refine rj_v rfl rfl (v_add rfl rfl ((by unfold I64; omega))) rfl ?_
      refine rj_v rfl rfl (v_max rfl rfl) rfl ?_
      refine rj_v rfl rfl (v_assign rfl) rfl ?_
      refine rj_end ?_
      refine qs_bn ?_
      refine qs_n ?_
      refine wp_sq ?_
      refine sq_v rfl (v_add rfl rfl ((by unfold I64; omega))) rfl ?_
      refine sq_v rfl (v_move rfl) rfl ?_
      refine sq_end ?_
      exact qs_bk (i + 1, max q (st.getD (([a, b] : List Int).getD i 0 - m).toNat 0 + co.getD (([a, b] : List Int).getD i 0 - m).toNat 0)) ⟨by (try dsimp only); omega, by (try dsimp only); rw [rdyF_yes (by omega) c24, ← hq]; rfl⟩ (by simp only; omega) ⟨rfl, rfl, rfl, rfl, (by first | rfl | exact ksub rfl (by first | omega | (simp; done) | (simp; omega))), rfl, rfl, (by first | rfl | exact ksub rfl (by first | omega | (simp; done) | (simp; omega))), trivial⟩ (fun _ s => s)
    · refine wp_sk ?_
      refine qs_bn ?_
      refine qs_n ?_
      refine wp_sq ?_
      refine sq_v rfl (v_add rfl rfl ((by unfold I64; omega))) rfl ?_
      refine sq_v rfl (v_move rfl) rfl ?_
      refine sq_end ?_
      exact qs_bk (i + 1, q) ⟨by (try dsimp only); omega, by (try dsimp only); rw [rdyF_no (by omega) c24]; exact hq⟩ (by simp only; omega) ⟨rfl, rfl, rfl, rfl, (by first | rfl | exact ksub rfl (by first | omega | (simp; done) | (simp; omega))), rfl, rfl, (by first | rfl | exact ksub rfl (by first | omega | (simp; done) | (simp; omega))), trivial⟩ (fun _ s => s)
  · refine wp_ex ?_
    refine qs_x ?_
    refine qs_x ?_
    refine qs_bx ?_
    refine qs_n ?_
    refine wp_sc ?_
    refine wp_sq ?_
    refine sq_v rfl (v_move rfl) rfl ?_
    refine sq_v rfl (v_assign rfl) rfl ?_
    refine sq_end ?_
    refine qs_n ?_
    refine wp_rt ?_
    exact qs_ret1 rfl rfl (fin_q (i := 2) rfl (by rw [hq, show i = 2 by omega]; rfl))
end Go.Proofs.Ytalfigjnaidmnaa
