/-
  Closed labels, counts of slices and jobs, in the program and in the reference: the same answers.
  Conditions: none.
-/
import Derived.Test.YtikeobneipjfnaaOrd6
namespace Go.Proofs.Ytikeobneipjfnaa
set_option maxRecDepth 100000
open Go.RowKit
abbrev jobV (a b : Value) (n : Int) (c d e : Value) : Value := .agg [a, b, num n, c, d, e].toArray
def closedL (ts : List Ten) (op : List Int) : List Int := (labelsL ts).filter fun x => decide (x ∉ op)
theorem closed_mem {ts : List Ten} {op : List Int} {x : Int} (h : x ∈ closedL ts op) : (0 ≤ x ∧ x ≤ 99) ∧ 1 ≤ dimOf ts x := by
  have h1 := (List.mem_filter.1 h).1
  have := mem_labels.1 h1
  omega
theorem ct_s_l21Closed (k p n : Int) (ts : List Ten) (op : List Int) (vt vo : Value) (w : World) (r : TensR ts vt (hp w)) (r' : IntsR op vo (hp w)) (hok : ∀ t ∈ ts, AxOK t) :
    Calls Try.prog 210 [netV k p n vt vo].toArray w (Ret w emp (IntsO (closedL ts op))) := by
  have hll : (labelsL ts).length ≤ 100 := labels_len ts 100
  refine calls_in Try.func210 rfl Try.ntmps210 rfl (Sat.start w) ?_
  have hle0 := r.le
  obtain ⟨cs_r, rr_r, hc_r⟩ := r.at
  have hle1 := r'.le
  refine wp_sc ?_
  refine wp_sq ?_
  refine sq_x rfl (x_box rfl rfl) rfl ?_; rintro _ _ ⟨b1, rfl, rfl⟩
  refine sq_v rfl (v_assign rfl) rfl ?_
  refine sq_end ?_
  refine qs_n ?_
  refine wp_sc ?_
  refine wp_sq ?_
  refine sq_x rfl (x_build0 Try.underlying24 ty_3) rfl ?_; intro v6 h6 (r6 : IntsO [] v6 h6)
  refine sq_v rfl (v_assign rfl) rfl ?_
  refine sq_end ?_
  refine qs_n ?_
  refine wp_sc ?_
  refine wp_sc ?_
  refine wp_sq ?_
  refine sq_v rfl (v_fieldAddr fd_48_1 ty_46 (by decide) rfl) rfl ?_
  refine sq_v rfl (v_loadB 1 ty_46 rfl rfl rfl) rfl ?_
  refine sq_x rfl (x_call rfl en_118 (fun w s => ct_s_l12Labels _ _ w (r.mono (s.get 2 rfl)) (by first | assumption | omega))) rfl ?_; rintro v9 h9 r9
  refine sq_v rfl (v_len Try.underlying24 rfl r9.toR.sl) rfl ?_
  refine sq_v rfl (v_move rfl) rfl ?_
  refine sq_end ?_
  refine qs_n ?_
  refine wp_bl ?_
  refine wp_lp (σ := Nat × Value × PH) (fun z_ => [(1, .pointer (some ⟨b1, 0, none⟩)), (2, .slice none 0 0), (3, z_.2.1), (9, v9), (10, num (labelsL ts).length), (11, num z_.1)]) (fun z_ => [z_.2.2, h9, box b1 [num k, num p, num n, vt, vo] 48, hp w]) (fun z_ => z_.1 ≤ (labelsL ts).length ∧ IntsO (((labelsL ts).take z_.1).filter fun x => decide (x ∉ op)) z_.2.1 z_.2.2) (fun z_ => (labelsL ts).length - z_.1) (0, v6, h6) (⟨by (try dsimp only); omega, r6⟩) ⟨rfl, rfl, (by first | rfl | exact ksub rfl (by first | omega | (simp; done) | (simp; omega))), rfl, rfl, (by first | rfl | exact ksub rfl (by first | omega | (simp; done) | (simp; omega))), trivial⟩ (fun _ s => s.pick [1, 0, 2, 3] (by decide) rfl) ?_
  rintro ⟨i, lv, lh⟩ ⟨hi, q⟩
  dsimp only at hi q ⊢
  have hle_q := q.toR.le
  have hfl := filter_take_len (labelsL ts) (fun x => decide (x ∉ op)) i
  have hmem := findI_ge (xs := op) (n := (labelsL ts).getD i 0)
  refine wp_sc ?_
  refine wp_sq ?_
  refine sq_v rfl (v_lss rfl rfl) rfl ?_
  refine sq_end ?_
  refine qs_n ?_
  refine wp_sc ?_
  refine wp_cd rfl (fun c12 => ?_) (fun c12 => ?_)
  · refine wp_sk ?_
    refine qs_n ?_
    refine wp_sc ?_
    refine wp_bl ?_
    refine wp_sc ?_
    refine wp_sq ?_
    refine sq_v rfl (v_idxI Try.underlying24 ty_3 rfl rfl r9.toR (by first | omega | (simp only [List.length_cons, List.length_nil]; omega) | (simp only [List.length_append, List.length_cons, List.length_nil]; omega) | (rw [List.length_set]; omega) | (rw [List.length_replicate]; omega) | (simp; omega)) (by first | omega | (simp only [List.length_cons, List.length_nil]; omega) | (simp only [List.length_append, List.length_cons, List.length_nil]; omega) | (rw [List.length_set]; omega) | (rw [List.length_replicate]; omega) | (simp; omega))) rfl ?_
    refine sq_v rfl (v_loadI (k := i) 1 ty_3 rfl rfl r9.toR (by first | omega | (simp only [List.length_cons, List.length_nil]; omega) | (simp only [List.length_append, List.length_cons, List.length_nil]; omega) | (rw [List.length_set]; omega) | (rw [List.length_replicate]; omega) | (simp; omega))) rfl ?_
    refine sq_v rfl (v_assign rfl) rfl ?_
    refine sq_end ?_
    refine qs_n ?_
    refine wp_sc ?_
    refine wp_sq ?_
    refine sq_v rfl (v_fieldAddr fd_48_2 ty_24 (by decide) rfl) rfl ?_
    refine sq_v rfl (v_loadB 2 ty_24 rfl rfl rfl) rfl ?_
    refine sq_v rfl (v_move rfl) rfl ?_
    refine sq_u rfl (x_callv rfl en_123 (fun w s => ct_s_l05Find _ _ _ w (r'.mono (s.get 3 rfl)))) rfl ?_
    refine sq_v rfl (v_lss rfl rfl) rfl ?_
    refine sq_end ?_
    refine qs_n ?_
    refine wp_cd rfl (fun c19 => ?_) (fun c19 => ?_)
    · refine wp_sq ?_
      refine sq_v rfl (v_move rfl) rfl ?_
      refine sq_v rfl (v_move rfl) rfl ?_
      refine sq_x rfl (x_buildS [num ((labelsL ts).getD i 0)] Try.underlying24 ty_3 (by decide) rfl rfl rfl (by decide) (by decide) (by intro v hv; simp at hv; rcases hv with rfl <;> rfl)) rfl ?_; intro v22 h22 (r22 : IntsO [(labelsL ts).getD i 0] v22 h22)
      refine sq_m 1 rfl rfl (m_appI 1 0 Try.underlying24 ty_3 rfl rfl rfl rfl q rfl r22.toR (by first | omega | (simp only [List.length_cons, List.length_nil]; omega) | (simp only [List.length_append, List.length_cons, List.length_nil]; omega) | (rw [List.length_set]; omega) | (rw [List.length_replicate]; omega) | (simp; omega))) rfl ?_; intro v23 h_r23 r23
      refine sq_v rfl (v_assign rfl) rfl ?_
      refine sq_end ?_
      refine qs_bn ?_
      refine qs_n ?_
      refine wp_sq ?_
      refine sq_v rfl (v_add rfl rfl ((by unfold I64; omega))) rfl ?_
      refine sq_v rfl (v_move rfl) rfl ?_
      refine sq_end ?_
      exact qs_bk (i + 1, v23, h_r23) ⟨by (try dsimp only); omega, by (try dsimp only); rw [filter_yes (by omega) (by simpa using fun h => by have := hmem.2 h; omega)]; exact r23⟩ (by simp only; omega) ⟨rfl, rfl, (by first | rfl | exact ksub rfl (by first | omega | (simp; done) | (simp; omega))), rfl, rfl, (by first | rfl | exact ksub rfl (by first | omega | (simp; done) | (simp; omega))), trivial⟩ (fun _ s => s.pick [1, 2, 3, 4] (by decide) rfl)
    · refine wp_sk ?_
      refine qs_bn ?_
      refine qs_n ?_
      refine wp_sq ?_
      refine sq_v rfl (v_add rfl rfl ((by unfold I64; omega))) rfl ?_
      refine sq_v rfl (v_move rfl) rfl ?_
      refine sq_end ?_
      exact qs_bk (i + 1, lv, lh) ⟨by (try dsimp only); omega, by (try dsimp only); rw [filter_no (by omega) (by simpa using hmem.1 (by omega))]; exact q⟩ (by simp only; omega) ⟨rfl, rfl, (by first | rfl | exact ksub rfl (by first | omega | (simp; done) | (simp; omega))), rfl, rfl, (by first | rfl | exact ksub rfl (by first | omega | (simp; done) | (simp; omega))), trivial⟩ (fun _ s => s)
  · refine wp_ex ?_
    refine qs_x ?_
    refine qs_x ?_
    refine qs_bx ?_
    refine qs_n ?_
    refine wp_sc ?_
    refine wp_sq ?_
    refine sq_v rfl (v_move rfl) rfl ?_
    refine sq_v rfl (v_assign rfl) rfl ?_
    refine sq_end ?_
    refine qs_n ?_
    refine wp_rt ?_
    exact qs_ret1 rfl rfl (fin_t 0 (i := 3) rfl rfl rfl (by rw [List.take_of_length_le (by omega)] at q; exact q))
theorem ct_i_ClosedLabels (k p n : Int) (ts : List Ten) (op : List Int) (vt vo : Value) (w : World) (r : TensR ts vt (hp w)) (r' : IntsR op vo (hp w)) (hs : op.length ≤ 1048576) (hnet : netL k p n ts op) :
    Calls Try.prog 211 [netV k p n vt vo].toArray w (Ret w emp (IntsO (closedL ts op))) := by
  have hll : (labelsL ts).length ≤ 100 := labels_len ts 100
  have e9 : labelsOf k p n ts op = labelsL ts := if_pos hnet
  refine calls_in Try.func211 rfl Try.ntmps211 rfl (Sat.start w) ?_
  have hle0 := r.le
  obtain ⟨cs_r, rr_r, hc_r⟩ := r.at
  have hle1 := r'.le
  refine wp_sc ?_
  refine wp_sq ?_
  refine sq_x rfl (x_box rfl rfl) rfl ?_; rintro _ _ ⟨b1, rfl, rfl⟩
  refine sq_v rfl (v_assign rfl) rfl ?_
  refine sq_end ?_
  refine qs_n ?_
  refine wp_sc ?_
  refine wp_sq ?_
  refine sq_v rfl (v_assign rfl) rfl ?_
  refine sq_end ?_
  refine qs_n ?_
  refine wp_sc ?_
  refine wp_sc ?_
  refine wp_sq ?_
  refine sq_v rfl (v_loadNB 0 ty_48 rfl rfl rfl rfl) rfl ?_
  refine sq_x rfl (x_call rfl en_225 (fun w s => ct_i_LabelsOf _ _ _ _ _ _ _ w (r.mono (s.get 1 rfl)) (r'.mono (s.get 1 rfl)) (by first | assumption | omega))) rfl ?_; rintro v7 h7 r7
  rw [e9] at r7;
  refine sq_v rfl (v_len Try.underlying24 rfl r7.toR.sl) rfl ?_
  refine sq_v rfl (v_move rfl) rfl ?_
  refine sq_end ?_
  refine qs_n ?_
  refine wp_bl ?_
  refine wp_lp (σ := Nat × Value × PH) (fun z_ => [(1, .pointer (some ⟨b1, 0, none⟩)), (2, .slice none 0 0), (3, z_.2.1), (7, v7), (8, num (labelsL ts).length), (9, num z_.1)]) (fun z_ => [z_.2.2, h7, box b1 [num k, num p, num n, vt, vo] 48, hp w]) (fun z_ => z_.1 ≤ (labelsL ts).length ∧ IntsO (((labelsL ts).take z_.1).filter fun x => decide (x ∉ op)) z_.2.1 z_.2.2) (fun z_ => (labelsL ts).length - z_.1) (0, .slice none 0 0, emp) (⟨by (try dsimp only); omega, IntsO.nil⟩) ⟨rfl, rfl, (by first | rfl | exact ksub rfl (by first | omega | (simp; done) | (simp; omega))), rfl, rfl, (by first | rfl | exact ksub rfl (by first | omega | (simp; done) | (simp; omega))), trivial⟩ (fun _ s => (emp_sat s)) ?_
  rintro ⟨i, lv, lh⟩ ⟨hi, q⟩
  dsimp only at hi q ⊢
  have hle_q := q.toR.le
  have hfl := filter_take_len (labelsL ts) (fun x => decide (x ∉ op)) i
  refine wp_sc ?_
  refine wp_sq ?_
  refine sq_v rfl (v_lss rfl rfl) rfl ?_
  refine sq_end ?_
  refine qs_n ?_
  refine wp_sc ?_
  refine wp_cd rfl (fun c10 => ?_) (fun c10 => ?_)
  · refine wp_sk ?_
    refine qs_n ?_
    refine wp_sc ?_
    refine wp_bl ?_
    refine wp_sc ?_
    refine wp_sq ?_
    refine sq_v rfl (v_idxI Try.underlying24 ty_3 rfl rfl r7.toR (by first | omega | (simp only [List.length_cons, List.length_nil]; omega) | (simp only [List.length_append, List.length_cons, List.length_nil]; omega) | (rw [List.length_set]; omega) | (rw [List.length_replicate]; omega) | (simp; omega)) (by first | omega | (simp only [List.length_cons, List.length_nil]; omega) | (simp only [List.length_append, List.length_cons, List.length_nil]; omega) | (rw [List.length_set]; omega) | (rw [List.length_replicate]; omega) | (simp; omega))) rfl ?_
    refine sq_v rfl (v_loadI (k := i) 1 ty_3 rfl rfl r7.toR (by first | omega | (simp only [List.length_cons, List.length_nil]; omega) | (simp only [List.length_append, List.length_cons, List.length_nil]; omega) | (rw [List.length_set]; omega) | (rw [List.length_replicate]; omega) | (simp; omega))) rfl ?_
    refine sq_v rfl (v_assign rfl) rfl ?_
    refine sq_end ?_
    refine qs_n ?_
    refine wp_sc ?_
    refine wp_sq ?_
    refine sq_v rfl (v_fieldAddr fd_48_2 ty_24 (by decide) rfl) rfl ?_
    refine sq_v rfl (v_loadB 2 ty_24 rfl rfl rfl) rfl ?_
    refine sq_v rfl (v_move rfl) rfl ?_
    refine sq_u rfl (x_callv rfl en_212 (fun w s => ct_i_hasInt _ _ _ w (r'.mono (s.get 3 rfl)))) rfl ?_
    refine sq_v rfl (v_not rfl) rfl ?_
    refine sq_end ?_
    refine qs_n ?_
    refine wp_cnd rfl (fun c17 => ?_) (fun c17 => ?_)
    · refine wp_sq ?_
      refine sq_v rfl (v_move rfl) rfl ?_
      refine sq_v rfl (v_move rfl) rfl ?_
      refine sq_x rfl (x_buildS [num ((labelsL ts).getD i 0)] Try.underlying24 ty_3 (by decide) rfl rfl rfl (by decide) (by decide) (by intro v hv; simp at hv; rcases hv with rfl <;> rfl)) rfl ?_; intro v20 h20 (r20 : IntsO [(labelsL ts).getD i 0] v20 h20)
      refine sq_m 1 rfl rfl (m_appI 1 0 Try.underlying24 ty_3 rfl rfl rfl rfl q rfl r20.toR (by first | omega | (simp only [List.length_cons, List.length_nil]; omega) | (simp only [List.length_append, List.length_cons, List.length_nil]; omega) | (rw [List.length_set]; omega) | (rw [List.length_replicate]; omega) | (simp; omega))) rfl ?_; intro v21 h_r21 r21
      refine sq_v rfl (v_assign rfl) rfl ?_
      refine sq_end ?_
      refine qs_bn ?_
      refine qs_n ?_
      refine wp_sq ?_
      refine sq_v rfl (v_add rfl rfl ((by unfold I64; omega))) rfl ?_
      refine sq_v rfl (v_move rfl) rfl ?_
      refine sq_end ?_
      exact qs_bk (i + 1, v21, h_r21) ⟨by (try dsimp only); omega, by (try dsimp only); rw [filter_yes (by omega) (by simpa using c17)]; exact r21⟩ (by simp only; omega) ⟨rfl, rfl, (by first | rfl | exact ksub rfl (by first | omega | (simp; done) | (simp; omega))), rfl, rfl, (by first | rfl | exact ksub rfl (by first | omega | (simp; done) | (simp; omega))), trivial⟩ (fun _ s => s.pick [1, 2, 3, 4] (by decide) rfl)
    · refine wp_sk ?_
      refine qs_bn ?_
      refine qs_n ?_
      refine wp_sq ?_
      refine sq_v rfl (v_add rfl rfl ((by unfold I64; omega))) rfl ?_
      refine sq_v rfl (v_move rfl) rfl ?_
      refine sq_end ?_
      exact qs_bk (i + 1, lv, lh) ⟨by (try dsimp only); omega, by (try dsimp only); rw [filter_no (by omega) (by simpa using c17)]; exact q⟩ (by simp only; omega) ⟨rfl, rfl, (by first | rfl | exact ksub rfl (by first | omega | (simp; done) | (simp; omega))), rfl, rfl, (by first | rfl | exact ksub rfl (by first | omega | (simp; done) | (simp; omega))), trivial⟩ (fun _ s => s)
  · refine wp_ex ?_
    refine qs_x ?_
    refine qs_x ?_
    refine qs_bx ?_
    refine qs_n ?_
    refine wp_sc ?_
    refine wp_sq ?_
    refine sq_v rfl (v_move rfl) rfl ?_
    refine sq_v rfl (v_assign rfl) rfl ?_
    refine sq_end ?_
    refine qs_n ?_
    refine wp_rt ?_
    exact qs_ret1 rfl rfl (fin_t 0 (i := 3) rfl rfl rfl (by rw [List.take_of_length_le (by omega)] at q; exact q))
theorem ct_i_openAxes (k p n : Int) (ts : List Ten) (op : List Int) (vt vo : Value) (w : World) (r : TensR ts vt (hp w)) (r' : IntsR op vo (hp w)) (hs : op.length ≤ 1048576) (hnet : netL k p n ts op) :
    Calls Try.prog 133 [netV k p n vt vo].toArray w (Ret w emp (fun u h => ∃ u1 u2, u = tenV u1 u2 (.slice none 0 0) ∧ IntsR op u1 h ∧ IntsR (dimsFor ts op) u2 h)) := by
  have hax := net_axes hnet
  have hop : ∀ x ∈ op, 0 ≤ x ∧ x ≤ 99 := all_of fun j hj => (open_at hnet.2.2.2.2 hj).1
  refine calls_in Try.func133 rfl Try.ntmps133 rfl (Sat.start w) ?_
  have hle0 := r.le
  obtain ⟨cs_r, rr_r, hc_r⟩ := r.at
  have hle1 := r'.le
  refine wp_sc ?_
  refine wp_sq ?_
  refine sq_x rfl (x_box rfl rfl) rfl ?_; rintro _ _ ⟨b1, rfl, rfl⟩
  refine sq_x rfl (x_alloc ty_28 rfl) rfl ?_; rintro _ _ ⟨b2, rfl, rfl⟩
  refine sq_end ?_
  refine qs_n ?_
  refine wp_sc ?_
  refine wp_sq ?_
  refine sq_v rfl (v_fieldAddr fd_48_1 ty_46 (by decide) rfl) rfl ?_
  refine sq_v rfl (v_loadB 1 ty_46 rfl rfl rfl) rfl ?_
  refine sq_x rfl (x_call rfl en_129 (fun w s => ct_i_dimsOf _ _ w (r.mono (s.get 2 rfl)) (by first | assumption | omega))) rfl ?_; rintro _ h8 ⟨arr, ok, rfl, hal, hok, hav⟩
  refine sq_v rfl (v_move rfl) rfl ?_
  refine sq_v rfl (v_extract rfl rfl) rfl ?_
  refine sq_v rfl (v_extract rfl rfl) rfl ?_
  refine sq_x rfl (x_alloc ty_155 rfl) rfl ?_; rintro _ _ ⟨b3, rfl, rfl⟩
  refine sq_m 0 rfl rfl (m_storeW 0 ty_155 rfl rfl rfl (by rw [ints_length]; exact hal) (ints_one arr) rfl (by simp)) rfl ?_; rintro _ _ ⟨rfl, rfl⟩
  refine sq_v rfl (v_assign rfl) rfl ?_
  refine sq_end ?_
  refine qs_n ?_
  refine wp_sc ?_
  refine wp_sq ?_
  refine sq_v rfl (v_loadNB 0 ty_155 rfl rfl (by rw [ints_length]; exact hal) (by rw [List.drop_zero, List.take_of_length_le]; rw [ints_length, hal]; omega)) rfl ?_
  refine sq_v rfl (v_fieldAddr fd_48_2 ty_24 (by decide) rfl) rfl ?_
  refine sq_v rfl (v_loadB 3 ty_24 rfl rfl rfl) rfl ?_
  have hinv := hav (hok.2 hnet.2.2.2.1); have hao := arrOf_eq hinv hop
  refine sq_x rfl (x_call rfl en_130 (fun w s => ct_i_axesOf _ _ _ w (r'.mono (s.get 4 rfl)) (by first | assumption | omega) (by first | assumption | omega) (by first | assumption | omega))) rfl ?_; rintro _ h14 ⟨u1, u2, rfl, ru1, ru2⟩
  refine sq_m 3 rfl rfl (m_store 3 ty_28 rfl rfl rfl rfl (by simp [ru1.sl.one, ru2.sl.one, one_sl]) rfl (Nat.le_of_ble_eq_true rfl)) rfl ?_; rintro _ _ ⟨rfl, rfl⟩
  refine sq_end ?_
  refine qs_n ?_
  refine wp_rt ?_
  exact qs_retc 3 rfl ty_28 rfl rfl rfl (fin_t 0 (i := 5) rfl rfl rfl (⟨u1, u2, rfl, ru1, by rw [← hao]; exact ru2⟩))
/-! ### counts -/
def sliceP (ts : List Ten) (op ls : List Int) (i : Nat) : Prop := ls.getD i 0 ∈ closedL ts op ∧ ls.getD i 0 ∉ ls.take i
def slicesL (k p n : Int) (ts : List Ten) (op ls : List Int) : Prop := netL k p n ts op ∧ ls.length ≤ 4 ∧ ∀ i, i < ls.length → sliceP ts op ls i
noncomputable def sliceL (k p n : Int) (ts : List Ten) (op ls : List Int) : Int := @ite _ (slicesL k p n ts op ls) (Classical.propDecidable _) (prodI (dimsFor ts ls)) (-1)
theorem slice_dims {k p n : Int} {ts : List Ten} {op ls : List Int} (h : slicesL k p n ts op ls) : dimsIn (dimsFor ts ls) ∧ (1 ≤ prodI (dimsFor ts ls) ∧ prodI (dimsFor ts ls) ≤ 4096) ∧ ∀ x ∈ ls, 0 ≤ x ∧ x ≤ 99 := by
  have hax := net_ax h.1
  have hm : ∀ i, i < ls.length → (0 ≤ ls.getD i 0 ∧ ls.getD i 0 ≤ 99) ∧ 1 ≤ dimOf ts (ls.getD i 0) := fun i hi => closed_mem (h.2.2 i hi).1
  have hl : (dimsFor ts ls).length = ls.length := List.length_map _
  have hd : dimsIn (dimsFor ts ls) := fun j hj => by
    rw [dimsFor, map_getD (by omega)]
    have := hm j (by omega)
    have := dimOf_range hax (ls.getD j 0)
    omega
  refine ⟨hd, ?_, all_of fun j hj => (hm j hj).1⟩
  have h4 : (dimsFor ts ls).length ≤ 4 := by have := h.2.1; omega
  suffices H : ∀ i, i ≤ (dimsFor ts ls).length → 1 ≤ prodI ((dimsFor ts ls).take i) ∧ prodI ((dimsFor ts ls).take i) ≤ 8 ^ i by
    have := H _ (Nat.le_refl _)
    rw [List.take_length] at this
    have h8 : (8 : Int) ^ (dimsFor ts ls).length ≤ 8 ^ 4 := by
      have : (8 : Nat) ^ (dimsFor ts ls).length ≤ 8 ^ 4 := Nat.pow_le_pow_right (by omega) h4
      exact_mod_cast this
    omega
  intro i
  induction i with
  | zero => intro _; simp [prodI]
  | succ i ih =>
    intro hi
    have h1 := ih (by omega)
    have h2 := hd i (by omega)
    rw [prodI_step (by omega)]
    refine ⟨?_, ?_⟩
    · have := Int.mul_le_mul h1.1 h2.1 (by omega) (by omega); omega
    · have := Int.mul_le_mul h1.2 h2.2 (by omega) (by omega : (0 : Int) ≤ 8 ^ i)
      rw [Int.pow_succ]; omega
set_option maxHeartbeats 1000000 in
theorem ct_s_SliceCount (k p n : Int) (ts : List Ten) (op ls : List Int) (vt vo v : Value) (w : World) (r : TensR ts vt (hp w)) (r' : IntsR op vo (hp w)) (rl : IntsR ls v (hp w)) (hs : op.length ≤ 1048576) :
    Calls Try.prog 154 [netV k p n vt vo, v].toArray w (RetV w (num (sliceL k p n ts op ls))) := by
  refine calls_in Try.func154 rfl Try.ntmps154 rfl (Sat.start w) ?_
  have hle0 := r.le
  obtain ⟨cs_r, rr_r, hc_r⟩ := r.at
  have hle1 := r'.le
  have hle2 := rl.le
  refine wp_sc ?_
  refine wp_sq ?_
  refine sq_x rfl (x_box rfl rfl) rfl ?_; rintro _ _ ⟨b2, rfl, rfl⟩
  refine sq_v rfl (v_assign rfl) rfl ?_
  refine sq_end ?_
  refine qs_n ?_
  refine wp_sc ?_
  refine wp_sc ?_
  refine wp_sq ?_
  refine sq_v rfl (v_loadNB 0 ty_48 rfl rfl rfl rfl) rfl ?_
  refine sq_u rfl (x_callv rfl en_86 (fun w s => ct_s_NetworkOk _ _ _ _ _ _ _ w (r.mono (s.get 1 rfl)) (r'.mono (s.get 1 rfl)) (by first | assumption | omega))) rfl ?_
  refine sq_bb 9 rfl (fun c9 => ?_) (fun c9 => ?_)
  · refine sq_v rfl (v_not rfl) rfl ?_
    refine sq_v rfl (v_move rfl) rfl ?_
    refine sq_v rfl (v_move rfl) rfl ?_
    refine sq_v rfl (v_len Try.underlying24 rfl rl.sl) rfl ?_
    refine sq_v rfl (v_gtr rfl rfl) rfl ?_
    refine sq_v rfl (v_pickf rfl rfl) rfl ?_
    refine sq_end ?_
    refine qs_n ?_
    refine wp_cd rfl (fun c15 => ?_) (fun c15 => ?_)
    · refine wp_sc ?_
      refine wp_sq ?_
      refine sq_v rfl (v_assign rfl) rfl ?_
      refine sq_end ?_
      refine qs_n ?_
      refine wp_rt ?_
      refine qs_r ?_
      exact qs_ret1 rfl rfl (fin_q (i := 1) rfl (by rw [sliceL, if_neg (fun h => by first | exact netB_false.1 c9 h.1 | (have := h.2.1; omega))]))
    · refine wp_sk ?_
      refine qs_n ?_
      refine wp_sc ?_
      refine wp_sq ?_
      refine sq_v rfl (v_loadNB 0 ty_48 rfl rfl rfl rfl) rfl ?_
      have hnet := netB_true.1 c9; have hax := net_ax hnet
      refine sq_x rfl (x_call rfl en_210 (fun w s => ct_s_l21Closed _ _ _ _ _ _ _ w (r.mono (s.get 1 rfl)) (r'.mono (s.get 1 rfl)) (by first | assumption | omega))) rfl ?_; rintro v17 h17 r17
      refine sq_v rfl (v_assign rfl) rfl ?_
      refine sq_end ?_
      have hcl : (closedL ts op).length ≤ 100 := Nat.le_trans (List.length_filter_le _ _) (labels_len ts 100)
      refine qs_n ?_
      refine wp_sc ?_
      refine wp_sc ?_
      refine wp_sq ?_
      refine sq_v rfl (v_move rfl) rfl ?_
      refine sq_v rfl (v_len Try.underlying24 rfl rl.sl) rfl ?_
      refine sq_v rfl (v_move rfl) rfl ?_
      refine sq_end ?_
      refine qs_n ?_
      refine wp_bl ?_
      refine wp_lp (σ := Nat) (fun z_ => [(1, v), (2, .pointer (some ⟨b2, 0, none⟩)), (4, num 0), (5, v17), (18, v), (19, num ls.length), (20, num z_)]) (fun z_ => [h17, box b2 [num k, num p, num n, vt, vo] 48, hp w]) (fun z_ => z_ ≤ ls.length ∧ (∀ j, j < z_ → sliceP ts op ls j)) (fun z_ => ls.length - z_) 0 (⟨by omega, fun j hj => by omega⟩) ⟨rfl, rfl, rfl, rfl, rfl, rfl, (by first | rfl | exact ksub rfl (by first | omega | (simp; done) | (simp; omega))), trivial⟩ (fun _ s => s) ?_
      rintro i ⟨hi, hv⟩
      have hm1 := findI_ge (xs := closedL ts op) (n := ls.getD i 0)
      have hm2 := findI_ge (xs := ls.take i) (n := ls.getD i 0)
      refine wp_sc ?_
      refine wp_sq ?_
      refine sq_v rfl (v_lss rfl rfl) rfl ?_
      refine sq_end ?_
      refine qs_n ?_
      refine wp_sc ?_
      refine wp_cd rfl (fun c21 => ?_) (fun c21 => ?_)
      · refine wp_sk ?_
        refine qs_n ?_
        refine wp_sc ?_
        refine wp_bl ?_
        refine wp_sc ?_
        refine wp_sq ?_
        refine sq_v rfl (v_move rfl) rfl ?_
        refine sq_v rfl (v_idxI Try.underlying24 ty_3 rfl rfl rl (by first | omega | (simp only [List.length_cons, List.length_nil]; omega) | (simp only [List.length_append, List.length_cons, List.length_nil]; omega) | (rw [List.length_set]; omega) | (rw [List.length_replicate]; omega) | (simp; omega)) (by first | omega | (simp only [List.length_cons, List.length_nil]; omega) | (simp only [List.length_append, List.length_cons, List.length_nil]; omega) | (rw [List.length_set]; omega) | (rw [List.length_replicate]; omega) | (simp; omega))) rfl ?_
        refine sq_v rfl (v_loadI (k := i) 2 ty_3 rfl rfl rl (by first | omega | (simp only [List.length_cons, List.length_nil]; omega) | (simp only [List.length_append, List.length_cons, List.length_nil]; omega) | (rw [List.length_set]; omega) | (rw [List.length_replicate]; omega) | (simp; omega))) rfl ?_
        refine sq_v rfl (v_assign rfl) rfl ?_
        refine sq_v rfl (v_assign rfl) rfl ?_
        refine sq_end ?_
        refine qs_n ?_
        refine wp_sc ?_
        refine wp_sq ?_
        refine sq_v rfl (v_move rfl) rfl ?_
        refine sq_v rfl (v_move rfl) rfl ?_
        refine sq_u rfl (x_callv rfl en_123 (fun w s => ct_s_l05Find _ _ _ w (r17.toR.mono (s.get 0 rfl)))) rfl ?_
        refine sq_v rfl (v_lss rfl rfl) rfl ?_
        refine sq_bd 28 rfl (fun c28 => ?_) (fun c28 => ?_)
        · refine sq_v rfl (v_move rfl) rfl ?_
          refine sq_s rfl rfl ?_
          refine sq_s rfl rfl ?_
          refine sq_s rfl rfl ?_
          refine sq_s rfl rfl ?_
          refine sq_s rfl rfl ?_
          refine sq_s rfl rfl ?_
          refine sq_v rfl (v_pickt rfl rfl) rfl ?_
          refine sq_end ?_
          refine qs_n ?_
          refine wp_ct rfl ?_
          refine wp_sc ?_
          refine wp_sq ?_
          refine sq_v rfl (v_assign rfl) rfl ?_
          refine sq_end ?_
          refine qs_n ?_
          refine wp_rt ?_
          refine qs_br ?_
          refine qs_r ?_
          refine qs_r ?_
          refine qs_br ?_
          refine qs_r ?_
          exact qs_ret1 rfl rfl (fin_q (i := 2) rfl (by rw [sliceL, if_neg (fun h => by have h1 := h.2.2 i (by omega); have h2 := hm1.2 h1.1; first | omega | exact h1.2 (hm2.1 (by omega)))]))
        · refine sq_v rfl (v_move rfl) rfl ?_
          refine sq_v rfl (v_move rfl) rfl ?_
          refine sq_v rfl (v_move rfl) rfl ?_
          refine sq_v rfl (v_sliceH Try.underlying24 ty_3 rfl rfl  rl (by omega) (by omega)) rfl ?_
          refine sq_v rfl (v_move rfl) rfl ?_
          refine sq_u rfl (x_callv rfl en_123 (fun w s => ct_s_l05Find _ _ _ w ((rl.subH (hi := i) (by omega)).mono (s.get 2 rfl)))) rfl ?_
          refine sq_v rfl (v_geq rfl rfl) rfl ?_
          refine sq_v rfl (v_pickf rfl rfl) rfl ?_
          refine sq_end ?_
          refine qs_n ?_
          refine wp_cd rfl (fun c36 => ?_) (fun c36 => ?_)
          · refine wp_sc ?_
            refine wp_sq ?_
            refine sq_v rfl (v_assign rfl) rfl ?_
            refine sq_end ?_
            refine qs_n ?_
            refine wp_rt ?_
            refine qs_br ?_
            refine qs_r ?_
            refine qs_r ?_
            refine qs_br ?_
            refine qs_r ?_
            exact qs_ret1 rfl rfl (fin_q (i := 2) rfl (by rw [sliceL, if_neg (fun h => by have h1 := h.2.2 i (by omega); have h2 := hm1.2 h1.1; first | omega | exact h1.2 (hm2.1 (by omega)))]))
          · refine wp_sk ?_
            refine qs_bn ?_
            refine qs_n ?_
            refine wp_sq ?_
            refine sq_v rfl (v_add rfl rfl ((by unfold I64; omega))) rfl ?_
            refine sq_v rfl (v_move rfl) rfl ?_
            refine sq_end ?_
            exact qs_bk (i + 1) ⟨by omega, step_all hv ⟨hm1.1 (by omega), fun h => by have := hm2.2 h; omega⟩⟩ (by omega) ⟨rfl, rfl, rfl, rfl, rfl, rfl, (by first | rfl | exact ksub rfl (by first | omega | (simp; done) | (simp; omega))), trivial⟩ (fun _ s => s)
      · refine wp_ex ?_
        refine qs_x ?_
        refine qs_x ?_
        refine qs_bx ?_
        refine qs_n ?_
        refine wp_sc ?_
        refine wp_sq ?_
        refine sq_v rfl (v_fieldAddr fd_48_1 ty_46 (by decide) rfl) rfl ?_
        refine sq_v rfl (v_loadB 1 ty_46 rfl rfl rfl) rfl ?_
        refine sq_v rfl (v_move rfl) rfl ?_
        have hsl : slicesL k p n ts op ls := ⟨hnet, by omega, fun j hj => hv j (by omega)⟩; have hsd := slice_dims hsl; have hd := hsd.1
        refine sq_x rfl (x_call rfl en_119 (fun w s => ct_s_l12Dims _ _ _ _ w (r.mono (s.get 2 rfl)) (rl.mono (s.get 2 rfl)) (by first | assumption | omega) (by first | assumption | omega))) rfl ?_; rintro v41 h41 r41
        skip
        refine sq_u rfl (x_callv rfl en_120 (fun w s => ct_s_l05Product _ _ _ w (r41.toR.mono (s.get 0 rfl)) (by first | assumption | omega) (by first | assumption | omega))) rfl ?_
        refine sq_v rfl (v_assign rfl) rfl ?_
        refine sq_end ?_
        refine qs_n ?_
        refine wp_rt ?_
        exact qs_ret1 rfl rfl (fin_q (i := 3) rfl (by rw [sliceL, if_pos hsl, Int.min_eq_left (by omega)]))
  · refine sq_v rfl (v_not rfl) rfl ?_
    refine sq_v rfl (v_move rfl) rfl ?_
    refine sq_s rfl rfl ?_
    refine sq_s rfl rfl ?_
    refine sq_s rfl rfl ?_
    refine sq_v rfl (v_pickt rfl rfl) rfl ?_
    refine sq_end ?_
    refine qs_n ?_
    refine wp_ct rfl ?_
    refine wp_sc ?_
    refine wp_sq ?_
    refine sq_v rfl (v_assign rfl) rfl ?_
    refine sq_end ?_
    refine qs_n ?_
    refine wp_rt ?_
    refine qs_r ?_
    exact qs_ret1 rfl rfl (fin_q (i := 1) rfl (by rw [sliceL, if_neg (fun h => by first | exact netB_false.1 c9 h.1 | (have := h.2.1; omega))]))
set_option maxHeartbeats 1000000 in
theorem ct_i_SliceCount (k p n : Int) (ts : List Ten) (op ls : List Int) (vt vo v : Value) (w : World) (r : TensR ts vt (hp w)) (r' : IntsR op vo (hp w)) (rl : IntsR ls v (hp w)) (hs : op.length ≤ 1048576) :
    Calls Try.prog 155 [netV k p n vt vo, v].toArray w (RetV w (num (sliceL k p n ts op ls))) := by
  refine calls_in Try.func155 rfl Try.ntmps155 rfl (Sat.start w) ?_
  have hle0 := r.le
  obtain ⟨cs_r, rr_r, hc_r⟩ := r.at
  have hle1 := r'.le
  have hle2 := rl.le
  refine wp_sc ?_
  refine wp_sq ?_
  refine sq_x rfl (x_box rfl rfl) rfl ?_; rintro _ _ ⟨b2, rfl, rfl⟩
  refine sq_v rfl (v_assign rfl) rfl ?_
  refine sq_end ?_
  refine qs_n ?_
  refine wp_sc ?_
  refine wp_sc ?_
  refine wp_sq ?_
  refine sq_v rfl (v_loadNB 0 ty_48 rfl rfl rfl rfl) rfl ?_
  refine sq_u rfl (x_callv rfl en_79 (fun w s => ct_i_NetworkOk _ _ _ _ _ _ _ w (r.mono (s.get 1 rfl)) (r'.mono (s.get 1 rfl)) (by first | assumption | omega))) rfl ?_
  refine sq_bb 12 rfl (fun c12 => ?_) (fun c12 => ?_)
  · refine sq_v rfl (v_not rfl) rfl ?_
    refine sq_v rfl (v_move rfl) rfl ?_
    refine sq_v rfl (v_move rfl) rfl ?_
    refine sq_v rfl (v_len Try.underlying24 rfl rl.sl) rfl ?_
    refine sq_v rfl (v_gtr rfl rfl) rfl ?_
    refine sq_v rfl (v_pickf rfl rfl) rfl ?_
    refine sq_end ?_
    refine qs_n ?_
    refine wp_cd rfl (fun c18 => ?_) (fun c18 => ?_)
    · refine wp_sc ?_
      refine wp_sq ?_
      refine sq_v rfl (v_assign rfl) rfl ?_
      refine sq_end ?_
      refine qs_n ?_
      refine wp_rt ?_
      refine qs_r ?_
      exact qs_ret1 rfl rfl (fin_q (i := 1) rfl (by rw [sliceL, if_neg (fun h => by first | exact netB_false.1 c12 h.1 | (have := h.2.1; omega))]))
    · refine wp_sk ?_
      refine qs_n ?_
      refine wp_sc ?_
      refine wp_sq ?_
      refine sq_v rfl (v_loadNB 0 ty_48 rfl rfl rfl rfl) rfl ?_
      have hnet := netB_true.1 c12; have hax := net_axes hnet
      refine sq_x rfl (x_call rfl en_211 (fun w s => ct_i_ClosedLabels _ _ _ _ _ _ _ w (r.mono (s.get 1 rfl)) (r'.mono (s.get 1 rfl)) (by first | assumption | omega) (by first | assumption | omega))) rfl ?_; rintro v20 h20 r20
      refine sq_v rfl (v_assign rfl) rfl ?_
      refine sq_end ?_
      have hcl : (closedL ts op).length ≤ 100 := Nat.le_trans (List.length_filter_le _ _) (labels_len ts 100)
      refine qs_n ?_
      refine wp_sc ?_
      refine wp_sc ?_
      refine wp_sq ?_
      refine sq_v rfl (v_move rfl) rfl ?_
      refine sq_v rfl (v_len Try.underlying24 rfl rl.sl) rfl ?_
      refine sq_v rfl (v_move rfl) rfl ?_
      refine sq_end ?_
      refine qs_n ?_
      refine wp_bl ?_
      refine wp_lp (σ := Nat) (fun z_ => [(1, v), (2, .pointer (some ⟨b2, 0, none⟩)), (4, num 0), (5, v20), (21, v), (22, num ls.length), (23, num z_)]) (fun z_ => [h20, box b2 [num k, num p, num n, vt, vo] 48, hp w]) (fun z_ => z_ ≤ ls.length ∧ (∀ j, j < z_ → sliceP ts op ls j)) (fun z_ => ls.length - z_) 0 (⟨by omega, fun j hj => by omega⟩) ⟨rfl, rfl, rfl, rfl, rfl, rfl, (by first | rfl | exact ksub rfl (by first | omega | (simp; done) | (simp; omega))), trivial⟩ (fun _ s => s) ?_
      rintro i ⟨hi, hv⟩
      refine wp_sc ?_
      refine wp_sq ?_
      refine sq_v rfl (v_lss rfl rfl) rfl ?_
      refine sq_end ?_
      refine qs_n ?_
      refine wp_sc ?_
      refine wp_cd rfl (fun c24 => ?_) (fun c24 => ?_)
      · refine wp_sk ?_
        refine qs_n ?_
        refine wp_sc ?_
        refine wp_bl ?_
        refine wp_sc ?_
        refine wp_sq ?_
        refine sq_v rfl (v_move rfl) rfl ?_
        refine sq_v rfl (v_idxI Try.underlying24 ty_3 rfl rfl rl (by first | omega | (simp only [List.length_cons, List.length_nil]; omega) | (simp only [List.length_append, List.length_cons, List.length_nil]; omega) | (rw [List.length_set]; omega) | (rw [List.length_replicate]; omega) | (simp; omega)) (by first | omega | (simp only [List.length_cons, List.length_nil]; omega) | (simp only [List.length_append, List.length_cons, List.length_nil]; omega) | (rw [List.length_set]; omega) | (rw [List.length_replicate]; omega) | (simp; omega))) rfl ?_
        refine sq_v rfl (v_loadI (k := i) 2 ty_3 rfl rfl rl (by first | omega | (simp only [List.length_cons, List.length_nil]; omega) | (simp only [List.length_append, List.length_cons, List.length_nil]; omega) | (rw [List.length_set]; omega) | (rw [List.length_replicate]; omega) | (simp; omega))) rfl ?_
        refine sq_v rfl (v_assign rfl) rfl ?_
        refine sq_v rfl (v_assign rfl) rfl ?_
        refine sq_end ?_
        refine qs_n ?_
        refine wp_sc ?_
        refine wp_sq ?_
        refine sq_v rfl (v_move rfl) rfl ?_
        refine sq_v rfl (v_move rfl) rfl ?_
        refine sq_u rfl (x_callv rfl en_212 (fun w s => ct_i_hasInt _ _ _ w (r20.toR.mono (s.get 0 rfl)))) rfl ?_
        refine sq_bd 30 rfl (fun c30 => ?_) (fun c30 => ?_)
        · refine sq_v rfl (v_not rfl) rfl ?_
          refine sq_v rfl (v_move rfl) rfl ?_
          refine sq_v rfl (v_move rfl) rfl ?_
          refine sq_v rfl (v_move rfl) rfl ?_
          refine sq_v rfl (v_sliceH Try.underlying24 ty_3 rfl rfl  rl (by omega) (by omega)) rfl ?_
          refine sq_v rfl (v_move rfl) rfl ?_
          refine sq_u rfl (x_callv rfl en_212 (fun w s => ct_i_hasInt _ _ _ w ((rl.subH (hi := i) (by omega)).mono (s.get 2 rfl)))) rfl ?_
          refine sq_v rfl (v_pickf rfl rfl) rfl ?_
          refine sq_end ?_
          refine qs_n ?_
          refine wp_cd rfl (fun c38 => ?_) (fun c38 => ?_)
          · refine wp_sc ?_
            refine wp_sq ?_
            refine sq_v rfl (v_assign rfl) rfl ?_
            refine sq_end ?_
            refine qs_n ?_
            refine wp_rt ?_
            refine qs_br ?_
            refine qs_r ?_
            refine qs_r ?_
            refine qs_br ?_
            refine qs_r ?_
            exact qs_ret1 rfl rfl (fin_q (i := 2) rfl (by rw [sliceL, if_neg (fun h => by have h1 := h.2.2 i (by omega); first | exact c30 h1.1 | exact h1.2 c38)]))
          · refine wp_sk ?_
            refine qs_bn ?_
            refine qs_n ?_
            refine wp_sq ?_
            refine sq_v rfl (v_add rfl rfl ((by unfold I64; omega))) rfl ?_
            refine sq_v rfl (v_move rfl) rfl ?_
            refine sq_end ?_
            exact qs_bk (i + 1) ⟨by omega, step_all hv ⟨c30, c38⟩⟩ (by omega) ⟨rfl, rfl, rfl, rfl, rfl, rfl, (by first | rfl | exact ksub rfl (by first | omega | (simp; done) | (simp; omega))), trivial⟩ (fun _ s => s)
        · refine sq_v rfl (v_not rfl) rfl ?_
          refine sq_v rfl (v_move rfl) rfl ?_
          refine sq_s rfl rfl ?_
          refine sq_s rfl rfl ?_
          refine sq_s rfl rfl ?_
          refine sq_s rfl rfl ?_
          refine sq_s rfl rfl ?_
          refine sq_v rfl (v_pickt rfl rfl) rfl ?_
          refine sq_end ?_
          refine qs_n ?_
          refine wp_ct rfl ?_
          refine wp_sc ?_
          refine wp_sq ?_
          refine sq_v rfl (v_assign rfl) rfl ?_
          refine sq_end ?_
          refine qs_n ?_
          refine wp_rt ?_
          refine qs_br ?_
          refine qs_r ?_
          refine qs_r ?_
          refine qs_br ?_
          refine qs_r ?_
          exact qs_ret1 rfl rfl (fin_q (i := 2) rfl (by rw [sliceL, if_neg (fun h => by have h1 := h.2.2 i (by omega); first | exact c30 h1.1 | exact h1.2 c38)]))
      · refine wp_ex ?_
        refine qs_x ?_
        refine qs_x ?_
        refine qs_bx ?_
        refine qs_n ?_
        refine wp_sc ?_
        refine wp_sq ?_
        refine sq_v rfl (v_fieldAddr fd_48_1 ty_46 (by decide) rfl) rfl ?_
        refine sq_v rfl (v_loadB 1 ty_46 rfl rfl rfl) rfl ?_
        have hsl : slicesL k p n ts op ls := ⟨hnet, by omega, fun j hj => hv j (by omega)⟩; have hsd := slice_dims hsl; have hd := hsd.1; have hl4 := hsl.2.1
        refine sq_x rfl (x_call rfl en_129 (fun w s => ct_i_dimsOf _ _ w (r.mono (s.get 2 rfl)) (by first | assumption | omega))) rfl ?_; rintro _ h43 ⟨arr, ok, rfl, hal, hok, hav⟩
        refine sq_v rfl (v_move rfl) rfl ?_
        refine sq_v rfl (v_extract rfl rfl) rfl ?_
        refine sq_v rfl (v_extract rfl rfl) rfl ?_
        refine sq_x rfl (x_alloc ty_155 rfl) rfl ?_; rintro _ _ ⟨b8, rfl, rfl⟩
        refine sq_m 0 rfl rfl (m_storeW 0 ty_155 rfl rfl rfl (by rw [ints_length]; exact hal) (ints_one arr) rfl (by simp)) rfl ?_; rintro _ _ ⟨rfl, rfl⟩
        refine sq_v rfl (v_assign rfl) rfl ?_
        refine sq_end ?_
        refine qs_n ?_
        refine wp_sc ?_
        refine wp_sq ?_
        refine sq_v rfl (v_loadNB 0 ty_155 rfl rfl (by rw [ints_length]; exact hal) (by rw [List.drop_zero, List.take_of_length_le]; rw [ints_length, hal]; omega)) rfl ?_
        refine sq_v rfl (v_move rfl) rfl ?_
        have hinv := hav (hok.2 hnet.2.2.2.1); have hao := arrOf_eq hinv hsd.2.2
        refine sq_x rfl (x_call rfl en_130 (fun w s => ct_i_axesOf _ _ _ w (rl.mono (s.get 4 rfl)) (by first | assumption | omega) hsd.2.2 (by first | assumption | omega))) rfl ?_; rintro _ h48 ⟨u1, u2, rfl, ru1, ru2⟩
        refine sq_v rfl (v_field1 fd_28_1 ty_24 rfl rfl) rfl ?_
        refine sq_u rfl (x_callv rfl en_159 (fun w s => ct_i_productOf _ _ w ((hao ▸ ru2).mono (s.get 0 rfl)) (by first | assumption | omega) (by first | assumption | omega))) rfl ?_
        refine sq_v rfl (v_assign rfl) rfl ?_
        refine sq_end ?_
        refine qs_n ?_
        refine wp_sc ?_
        refine wp_sc ?_
        refine wp_sq ?_
        refine sq_v rfl (v_move rfl) rfl ?_
        refine sq_v rfl (v_gtr rfl rfl) rfl ?_
        refine sq_end ?_
        refine qs_n ?_
        refine wp_cd rfl (fun c52 => ?_) (fun c52 => ?_)
        · refine wp_sc ?_
          refine wp_sq ?_
          refine sq_v rfl (v_assign rfl) rfl ?_
          refine sq_end ?_
          refine qs_n ?_
          refine wp_rt ?_
          refine qs_r ?_
          exact qs_ret1 rfl rfl (fin_q (i := 5) rfl (by omega))
        · refine wp_sk ?_
          refine qs_n ?_
          refine wp_sc ?_
          refine wp_sq ?_
          refine sq_v rfl (v_move rfl) rfl ?_
          refine sq_v rfl (v_assign rfl) rfl ?_
          refine sq_end ?_
          refine qs_n ?_
          refine wp_rt ?_
          exact qs_ret1 rfl rfl (fin_q (i := 5) rfl (by rw [sliceL, if_pos hsl]))
  · refine sq_v rfl (v_not rfl) rfl ?_
    refine sq_v rfl (v_move rfl) rfl ?_
    refine sq_s rfl rfl ?_
    refine sq_s rfl rfl ?_
    refine sq_s rfl rfl ?_
    refine sq_v rfl (v_pickt rfl rfl) rfl ?_
    refine sq_end ?_
    refine qs_n ?_
    refine wp_ct rfl ?_
    refine wp_sc ?_
    refine wp_sq ?_
    refine sq_v rfl (v_assign rfl) rfl ?_
    refine sq_end ?_
    refine qs_n ?_
    refine wp_rt ?_
    refine qs_r ?_
    exact qs_ret1 rfl rfl (fin_q (i := 1) rfl (by rw [sliceL, if_neg (fun h => by first | exact netB_false.1 c12 h.1 | (have := h.2.1; omega))]))
/-! ### jobs -/
def jobL (k p n : Int) (ts : List Ten) (op ls : List Int) (ss : List Stp) (at_ : Int) (t : Ten) : Prop :=
  orderL k p n ts op ss ∧ (0 ≤ at_ ∧ at_ ≤ sliceL k p n ts op ls) ∧ tensorL k p n t.l t.d t.x ∧ t.l = op ∧ t.d = dimsFor ts op
open Classical in
noncomputable def jobB (k p n : Int) (ts : List Ten) (op ls : List Int) (ss : List Stp) (at_ : Int) (t : Ten) : Bool := decide (jobL k p n ts op ls ss at_ t)
theorem jobB_dec {k p n : Int} {ts : List Ten} {op ls : List Int} {ss : List Stp} {at_ : Int} {t : Ten} {b : Bool} (h : b = true ↔ jobL k p n ts op ls ss at_ t) : Value.bool b = .bool (jobB k p n ts op ls ss at_ t) := by
  unfold jobB
  congr 1
  rw [Bool.eq_iff_iff, h]
  simp
theorem jobB_no {k p n : Int} {ts : List Ten} {op ls : List Int} {ss : List Stp} {at_ : Int} {t : Ten} (h : ¬ jobL k p n ts op ls ss at_ t) : Value.bool false = .bool (jobB k p n ts op ls ss at_ t) := by simp [jobB, h]
theorem slice_ge (k p n : Int) (ts : List Ten) (op ls : List Int) : sliceL k p n ts op ls = -1 ∨ 1 ≤ sliceL k p n ts op ls := by
  unfold sliceL
  split
  · rename_i h; have := (slice_dims h).2.1; omega
  · omega
end Go.Proofs.Ytikeobneipjfnaa
