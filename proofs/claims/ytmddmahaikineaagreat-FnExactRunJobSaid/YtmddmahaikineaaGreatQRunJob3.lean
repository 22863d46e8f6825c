/-
  Parts of the proof of FnExactRunJob: laws of heaps, contracts of functions.
  Conditions: none.
-/
import Derived.Test.YtmddmahaikineaaGreatQRunJob2
namespace Go.Proofs.YtmddmahaikineaaGreat
set_option maxRecDepth 100000
open Go.RowKit

abbrev netV (k p n : Int) (vt vo : Value) : Value := .agg [num k, num p, num n, vt, vo].toArray
def netL (k p n : Int) (ts : List Ten) (op : List Int) : Prop := ringL k p n ∧ ts.length ≤ 12 ∧ (∀ t ∈ ts, tensorL k p n t.l t.d t.x) ∧ consL ts ∧ 0 ≤ sizeI op (dimsFor ts op)
open Classical in
noncomputable def netB (k p n : Int) (ts : List Ten) (op : List Int) : Bool := decide (netL k p n ts op)
theorem netB_no {k p n : Int} {ts : List Ten} {op : List Int} (h : ¬ netL k p n ts op) : Value.bool false = .bool (netB k p n ts op) := by simp [netB, h]
theorem netB_dec {k p n : Int} {ts : List Ten} {op : List Int} {q : Prop} [Decidable q] (h : q ↔ netL k p n ts op) : Value.bool (decide q) = .bool (netB k p n ts op) := by
  congr 1
  unfold netB
  congr 1
  exact eq_iff_iff.2 h
theorem tensor_axes {k p n : Int} {t : Ten} (h : tensorL k p n t.l t.d t.x) : axesL t.l t.d := (sizeI_ge.1 h.2.1).1
theorem tensorB_true {k p n : Int} {ls ds xs : List Int} : tensorB k p n ls ds xs = true ↔ tensorL k p n ls ds xs := by simp [tensorB]
theorem tensorB_false {k p n : Int} {ls ds xs : List Int} : tensorB k p n ls ds xs = false ↔ ¬ tensorL k p n ls ds xs := by simp [tensorB]
theorem all_at {ts : List Ten} {p : Ten → Prop} (h : ∀ i, i < ts.length → ∀ t, ts[i]? = some t → p t) : ∀ t ∈ ts, p t := fun t ht => by
  obtain ⟨i, hi⟩ := List.getElem?_of_mem ht; exact h i (List.getElem?_eq_some_iff.1 hi).1 t hi
theorem take_at {ts : List Ten} {i : Nat} {p : Ten → Prop} (h : ∀ j, j < i → ∀ t, ts[j]? = some t → p t) : ∀ t ∈ ts.take i, p t := fun t ht => by
  obtain ⟨j, hj⟩ := List.getElem?_of_mem ht; rw [List.getElem?_take] at hj
  split at hj
  · rename_i hlt; exact h j hlt t hj
  · cases hj
theorem one_at {ts : List Ten} {i : Nat} {t : Ten} {p : Ten → Prop} (ht : ts[i]? = some t) (h : p t) : ∀ t', ts[i]? = some t' → p t' := fun t' h' => by
  rw [ht] at h'; cases h'; exact h

set_option maxHeartbeats 1000000 in
theorem ct_s_NetworkOk (k p n : Int) (ts : List Ten) (op : List Int) (vt vo : Value) (w : World) (r : TensR ts vt (hp w)) (r' : IntsR op vo (hp w)) (hs : op.length ≤ 1048576) :
    Calls Tryz.prog 52 [netV k p n vt vo].toArray w (RetV w (.bool (netB k p n ts op))) := by
  have hx := r.le; obtain ⟨cells, rr, hc⟩ := r.at; refine calls_in Tryz.func52 rfl Tryz.ntmps52 rfl (Sat.start w) (wp_sc (wp_sq ?_)); refine sq_x rfl (x_box rfl rfl) rfl ?_; rintro _ _ ⟨b1, rfl, rfl⟩; refine sq_v rfl (v_assign rfl) rfl (sq_end (qs_n (wp_sc (wp_sc (wp_sq (sq_v rfl (v_fieldAddr fd_32_0 ty_29 (by decide) rfl) rfl (sq_v rfl (v_loadNB 0 ty_29 rfl rfl rfl rfl) rfl (sq_u rfl (x_callv rfl en_136 (fun w s => ct_s_RingOk _ _ _ w)) rfl ?_)))))))); refine sq_bb 10 rfl (fun c10 => ?_) (fun c10 => ?_)
  · refine sq_v rfl (v_not rfl) rfl (sq_v rfl (v_move rfl) rfl (sq_v rfl (v_fieldAddr fd_32_1 ty_30 (by decide) rfl) rfl (sq_v rfl (v_loadB 0 ty_30 rfl rfl rfl) rfl (sq_v rfl (v_len Tryz.underlying30 rfl r.sl) rfl (sq_v rfl (v_gtr rfl rfl) rfl (sq_v rfl (v_pickf rfl rfl) rfl (sq_end (qs_n ?_)))))))); refine wp_cd rfl (fun c17 => ?_) (fun c17 => ?_)
    · refine wp_sc (wp_sq (sq_v rfl (v_assign rfl) rfl (sq_end (qs_n (wp_rt (qs_r ?_)))))); exact qs_ret1 rfl rfl (fin_q (i := 1) rfl (netB_no (fun h => by have := h.2.1; omega)))
    · refine wp_sk (qs_n (wp_sc (wp_sc (wp_sq (sq_v rfl (v_fieldAddr fd_32_1 ty_30 (by decide) rfl) rfl (sq_v rfl (v_loadB 0 ty_30 rfl rfl rfl) rfl (sq_v rfl (v_len Tryz.underlying30 rfl r.sl) rfl (sq_v rfl (v_move rfl) rfl (sq_end (qs_n (wp_bl (wp_lp (fun i : Nat => [(1, .pointer (some ⟨b1, 0, none⟩)), (19, vt), (20, num ts.length), (21, num i)]) (fun _ => [box b1 [num k, num p, num n, vt, vo] 32, hp w]) (fun i => i ≤ ts.length ∧ (∀ j, j < i → ∀ t, ts[j]? = some t → tensorL k p n t.l t.d t.x) ∧ ∀ i', i' < i → ∀ t, ts[i']? = some t → ∀ j, j < t.l.length → consAt ts i' j) (fun i => ts.length - i) 0 ⟨by omega, fun j hj => by omega, fun j hj => by omega⟩ ⟨rfl, rfl, rfl, rfl, trivial⟩ (fun _ s => s) ?_)))))))))))); rintro i ⟨hi, hten, hcons⟩; refine wp_sc (wp_sq (sq_v rfl (v_lss rfl rfl) rfl (sq_end (qs_n (wp_sc ?_))))); refine wp_cd rfl (fun c22 => ?_) (fun c22 => ?_)
      · refine wp_sk (qs_n (wp_sc (wp_bl (wp_sc (wp_sq (sq_v rfl (v_move rfl) rfl ?_)))))); obtain ⟨t, a, b, c, ht, hcs, r1, r2, r3⟩ := hc i (by omega); have hxl := r1.le; refine sq_v rfl (v_indexAddr Tryz.underlying30 ty_39 rfl rfl rr (by decide) (by omega) (by omega)) rfl ?_; refine sq_v rfl (v_loadNE 1 ty_39 rfl rfl rr (by have := rr.1; omega) rfl hcs) rfl ?_; refine sq_x rfl (x_alloc ty_39 rfl) rfl ?_; rintro _ _ ⟨b4, rfl, rfl⟩; refine sq_v rfl (v_assign rfl) rfl ?_; refine sq_m 0 rfl rfl (m_store 0 ty_39 rfl rfl rfl rfl (by simp [r1.sl.one, r2.sl.one, r3.sl.one]) rfl (Nat.le_of_ble_eq_true rfl)) rfl ?_; rintro _ _ ⟨rfl, rfl⟩; refine sq_end (qs_n (wp_sc (wp_sc (wp_sq (sq_v rfl (v_fieldAddr fd_32_0 ty_29 (by decide) rfl) rfl (sq_v rfl (v_loadNB 1 ty_29 rfl rfl rfl rfl) rfl (sq_v rfl (v_loadNB 0 ty_39 rfl rfl rfl rfl) rfl (sq_u rfl (x_callv rfl en_137 (fun w s => ct_s_TensorOk _ _ _ _ _ _ _ _ _ w (r1.mono (s.get 2 rfl)) (r2.mono (s.get 2 rfl)) (r3.mono (s.get 2 rfl)))) rfl (sq_v rfl (v_not rfl) rfl (sq_end (qs_n ?_))))))))))); refine wp_cn _ rfl (fun c30 => ?_) (fun c30 => ?_)
        · refine wp_sc (wp_sq (sq_v rfl (v_assign rfl) rfl (sq_end (qs_n (wp_rt (qs_r (qs_br (qs_r (qs_r (qs_br (qs_r ?_))))))))))); exact qs_ret1 rfl rfl (fin_q (i := 2) rfl (netB_no (fun h => tensorB_false.1 c30 (h.2.2.1 t (List.mem_of_getElem? ht)))))
        · refine wp_sk (qs_n (wp_sc (wp_sq (sq_v rfl (v_fieldAddr fd_39_0 ty_25 (by decide) rfl) rfl (sq_v rfl (v_loadB 0 ty_25 rfl rfl rfl) rfl (sq_v rfl (v_len Tryz.underlying25 rfl r1.sl) rfl (sq_v rfl (v_move rfl) rfl (sq_end (qs_n (wp_bl (wp_lp (fun j : Nat => [(1, .pointer (some ⟨b1, 0, none⟩)), (3, num i), (4, .pointer (some ⟨b4, 0, none⟩)), (19, vt), (20, num ts.length), (21, num i), (32, a), (33, num t.l.length), (34, num j)]) (fun _ => [box b4 [a, b, c] 39, box b1 [num k, num p, num n, vt, vo] 32, hp w]) (fun j => j ≤ t.l.length ∧ ∀ j', j' < j → consAt ts i j') (fun j => t.l.length - j) 0 ⟨by omega, fun j hj => by omega⟩ ⟨rfl, rfl, rfl, rfl, rfl, rfl, rfl, rfl, rfl, trivial⟩ (fun _ s => s) ?_))))))))))); rintro j ⟨hj, hcj⟩; have htl := tensorB_true.1 c30; have hax := tensor_axes htl; refine wp_sc (wp_sq (sq_v rfl (v_lss rfl rfl) rfl (sq_end (qs_n (wp_sc ?_))))); refine wp_cd rfl (fun c35 => ?_) (fun c35 => ?_)
          · refine wp_sk (qs_n (wp_sc (wp_bl (wp_sc (wp_sq (sq_v rfl (v_move rfl) rfl (sq_v rfl (v_idxI Tryz.underlying25 ty_3 rfl rfl r1 (by omega) (by omega)) rfl (sq_v rfl (v_loadI (k := j) 2 ty_3 rfl rfl r1 (by omega)) rfl (sq_v rfl (v_assign rfl) rfl (sq_v rfl (v_assign rfl) rfl (sq_end (qs_n (wp_sc (wp_sq (sq_v rfl (v_fieldAddr fd_32_1 ty_30 (by decide) rfl) rfl (sq_v rfl (v_loadB 1 ty_30 rfl rfl rfl) rfl (sq_v rfl (v_move rfl) rfl (sq_v rfl (v_sliceH Tryz.underlying30 ty_39 rfl rfl  rr (by omega) (by omega)) rfl (sq_v rfl (v_move rfl) rfl ?_))))))))))))))))))); refine sq_u rfl (x_callv rfl en_138 (fun w s => ct_s_l12Dim (ts.take i) _ _ w ((r.subH (by omega)).mono (s.get 2 rfl)) (take_at (fun j' hj' t' ht' => axes_ok (tensor_axes (hten j' hj' t' ht')))))) rfl (sq_v rfl (v_assign rfl) rfl (sq_end (qs_n (wp_sc (wp_sq (sq_v rfl (v_move rfl) rfl (sq_v rfl (v_gtr rfl rfl) rfl ?_))))))); refine sq_bd 46 rfl (fun c46 => ?_) (fun c46 => ?_)
            · refine sq_v rfl (v_move rfl) rfl (sq_v rfl (v_move rfl) rfl (sq_v rfl (v_fieldAddr fd_39_1 ty_25 (by decide) rfl) rfl (sq_v rfl (v_loadB 0 ty_25 rfl rfl rfl) rfl (sq_v rfl (v_move rfl) rfl ?_)))); have hdl := hax.2.1; refine sq_v rfl (v_idxI Tryz.underlying25 ty_3 rfl rfl r2 (by omega) (by omega)) rfl (sq_v rfl (v_loadI (k := j) 2 ty_3 rfl rfl r2 (by omega)) rfl (sq_v rfl (v_neq rfl rfl) rfl (sq_v rfl (v_pickt rfl rfl) rfl (sq_end (qs_n ?_))))); refine wp_cd rfl (fun c55 => ?_) (fun c55 => ?_)
              · refine wp_sc (wp_sq (sq_v rfl (v_assign rfl) rfl (sq_end (qs_n (wp_rt (qs_br (qs_r (qs_r (qs_br (qs_br (qs_r (qs_r (qs_br (qs_r ?_)))))))))))))); exact qs_ret1 rfl rfl (fin_q (i := 2) rfl (netB_no (fun h => by have := h.2.2.2.1 i (by omega) t ht j (by omega) t ht; omega)))
              · refine wp_sk (qs_bn (qs_n (wp_sq ?_))); refine sq_v rfl (v_add rfl rfl ((by unfold I64; omega))) rfl ?_; refine sq_v rfl (v_move rfl) rfl (sq_end ?_); exact qs_bk (j + 1) ⟨by omega, step_all hcj (one_at ht (by omega))⟩ (by omega) ⟨rfl, rfl, rfl, rfl, rfl, rfl, rfl, rfl, rfl, trivial⟩ (fun _ s => s)
            · refine sq_v rfl (v_move rfl) rfl (sq_s rfl rfl (sq_s rfl rfl (sq_s rfl rfl (sq_s rfl rfl (sq_s rfl rfl (sq_s rfl rfl (sq_s rfl rfl (sq_v rfl (v_pickf rfl rfl) rfl (sq_end (qs_n (wp_cf rfl (wp_sk (qs_bn (qs_n (wp_sq ?_))))))))))))))); refine sq_v rfl (v_add rfl rfl ((by unfold I64; omega))) rfl ?_; refine sq_v rfl (v_move rfl) rfl (sq_end ?_); have hdr := dimOf_range (ts := ts.take i) (take_at (fun j' hj' t' ht' => axes_ok (tensor_axes (hten j' hj' t' ht')))) (t.l.getD j 0); exact qs_bk (j + 1) ⟨by omega, step_all hcj (one_at ht (by omega))⟩ (by omega) ⟨rfl, rfl, rfl, rfl, rfl, rfl, rfl, rfl, rfl, trivial⟩ (fun _ s => s)
          · refine wp_ex (qs_x (qs_x (qs_bx (qs_bn (qs_n (wp_sq ?_)))))); refine sq_v rfl (v_add rfl rfl ((by unfold I64; omega))) rfl ?_; refine sq_v rfl (v_move rfl) rfl (sq_end ?_); exact qs_bk (i + 1) ⟨by omega, step_all hten (one_at ht (tensorB_true.1 c30)), step_all hcons (one_at ht (fun j' hj' => hcj j' (by omega)))⟩ (by omega) ⟨rfl, rfl, rfl, rfl, trivial⟩ (fun _ s => s.pick [1, 2] (by decide) rfl)
      · refine wp_ex (qs_x (qs_x (qs_bx (qs_n (wp_sc (wp_rj 11 [(0, true), (1, true), (2, true), (3, true), (4, true), (5, true), (6, false), (7, true), (8, false), (9, true), (10, true)] mixed_ok (by kernel_rfl) (rj_v rfl rfl (v_fieldAddr fd_32_2 ty_25 (by decide) rfl) rfl (rj_v rfl rfl (v_loadB 0 ty_25 rfl rfl rfl) rfl (rj_v rfl rfl (v_fieldAddr fd_32_1 ty_30 (by decide) rfl) rfl (rj_v rfl rfl (v_loadB 0 ty_30 rfl rfl rfl) rfl (rj_v rfl rfl (v_fieldAddr fd_32_2 ty_25 (by decide) rfl) rfl (rj_v rfl rfl (v_loadB 0 ty_25 rfl rfl rfl) rfl ?_)))))))))))); have hall := all_at (fun j hj => hten j (by omega)); refine rj_x rfl rfl (x_call rfl en_122 (fun w s => ct_s_l12Dims _ _ _ _ w (r.mono (s.get 1 rfl)) (r'.mono (s.get 1 rfl)) (fun t ht => axes_ok (tensor_axes (hall t ht))) hs)) rfl ?_; rintro v64 h64 r64; refine rj_v rfl rfl (v_build [vo, v64, .slice none 0 0] rfl (by obtain ⟨_, _, rfl⟩ := r'.sl; obtain ⟨_, _, rfl⟩ := r64.toR.sl; kernel_rfl)) rfl ?_; refine rj_u rfl rfl (x_callv rfl en_139 (fun w s => ct_s_TensorSize _ _ _ _ _ w (r'.mono (s.get 2 rfl)) (r64.toR.mono (s.get 0 rfl)))) rfl (rj_v rfl rfl (v_geq rfl rfl) rfl (rj_v rfl rfl (v_assign rfl) rfl (rj_end (qs_n (wp_rt ?_))))); exact qs_ret1 rfl rfl (fin_q (i := 2) rfl (netB_dec ⟨fun h => ⟨ringB_true.1 c10, by omega, hall, fun i' hi' => hcons i' (by omega), h⟩, fun h => h.2.2.2.2⟩))
  · refine sq_v rfl (v_not rfl) rfl (sq_v rfl (v_move rfl) rfl (sq_s rfl rfl (sq_s rfl rfl (sq_s rfl rfl (sq_s rfl rfl (sq_v rfl (v_pickt rfl rfl) rfl (sq_end (qs_n (wp_ct rfl (wp_sc (wp_sq (sq_v rfl (v_assign rfl) rfl (sq_end (qs_n (wp_rt (qs_r ?_)))))))))))))))); exact qs_ret1 rfl rfl (fin_q (i := 1) rfl (netB_no (fun h => ringB_false.1 c10 h.1)))
theorem arrOf_eq {ts : List Ten} {arr op : List Int} (ha : arrInv ts arr) (hop : ∀ x ∈ op, 0 ≤ x ∧ x ≤ 99) : arrOf arr op = dimsFor ts op := by
  unfold arrOf dimsFor
  exact List.map_congr_left (fun x hx => ha.2 x (hop x hx).1 (hop x hx).2)
theorem open_at {ts : List Ten} {op : List Int} (h : 0 ≤ sizeI op (dimsFor ts op)) {j : Nat} (hj : j < op.length) : (0 ≤ op.getD j 0 ∧ op.getD j 0 ≤ 99) ∧ 1 ≤ dimOf ts (op.getD j 0) := by
  have h1 := (sizeI_ge.1 h).1.2.2 j hj; refine ⟨h1.1, ?_⟩; have h2 := h1.2.1.1
  rwa [dimsFor, map_getD hj] at h2
set_option maxHeartbeats 1000000 in
theorem ct_i_NetworkOk (k p n : Int) (ts : List Ten) (op : List Int) (vt vo : Value) (w : World) (r : TensR ts vt (hp w)) (r' : IntsR op vo (hp w)) (hs : op.length ≤ 1048576) :
    Calls Tryz.prog 60 [netV k p n vt vo].toArray w (RetV w (.bool (netB k p n ts op))) := by
  have hx := r.le; obtain ⟨cells, rr, hc⟩ := r.at; refine calls_in Tryz.func60 rfl Tryz.ntmps60 rfl (Sat.start w) (wp_sc (wp_sq ?_)); refine sq_x rfl (x_box rfl rfl) rfl ?_; rintro _ _ ⟨b1, rfl, rfl⟩; refine sq_v rfl (v_assign rfl) rfl (sq_end (qs_n (wp_sc (wp_sc (wp_sq (sq_v rfl (v_fieldAddr fd_32_0 ty_29 (by decide) rfl) rfl (sq_v rfl (v_loadNB 0 ty_29 rfl rfl rfl rfl) rfl (sq_u rfl (x_callv rfl en_143 (fun w s => ct_i_RingOk _ _ _ w)) rfl ?_)))))))); refine sq_bb 11 rfl (fun c11 => ?_) (fun c11 => ?_)
  · refine sq_v rfl (v_not rfl) rfl (sq_v rfl (v_move rfl) rfl (sq_v rfl (v_fieldAddr fd_32_1 ty_30 (by decide) rfl) rfl (sq_v rfl (v_loadB 0 ty_30 rfl rfl rfl) rfl (sq_v rfl (v_len Tryz.underlying30 rfl r.sl) rfl (sq_v rfl (v_gtr rfl rfl) rfl (sq_v rfl (v_pickf rfl rfl) rfl ?_)))))); refine sq_bd 18 rfl (fun c18 => ?_) (fun c18 => ?_)
    · refine sq_v rfl (v_move rfl) rfl (sq_s rfl rfl (sq_s rfl rfl (sq_s rfl rfl (sq_s rfl rfl (sq_v rfl (v_pickt rfl rfl) rfl (sq_end (qs_n (wp_ct rfl (wp_sc (wp_sq (sq_v rfl (v_assign rfl) rfl (sq_end (qs_n (wp_rt (qs_r ?_))))))))))))))); exact qs_ret1 rfl rfl (fin_q (i := 1) rfl (netB_no (fun h => by have := h.2.1; omega)))
    · refine sq_v rfl (v_move rfl) rfl (sq_v rfl (v_fieldAddr fd_32_2 ty_25 (by decide) rfl) rfl (sq_v rfl (v_loadB 0 ty_25 rfl rfl rfl) rfl (sq_v rfl (v_len Tryz.underlying25 rfl r'.sl) rfl (sq_v rfl (v_gtr rfl rfl) rfl (sq_v rfl (v_pickf rfl rfl) rfl (sq_end (qs_n ?_))))))); refine wp_cd rfl (fun c24 => ?_) (fun c24 => ?_)
      · refine wp_sc (wp_sq (sq_v rfl (v_assign rfl) rfl (sq_end (qs_n (wp_rt (qs_r ?_)))))); exact qs_ret1 rfl rfl (fin_q (i := 1) rfl (netB_no (fun h => by have := (sizeI_ge.1 h.2.2.2.2).1.1; omega)))
      · refine wp_sk (qs_n (wp_sc (wp_sc (wp_sq (sq_v rfl (v_fieldAddr fd_32_1 ty_30 (by decide) rfl) rfl (sq_v rfl (v_loadB 0 ty_30 rfl rfl rfl) rfl (sq_v rfl (v_len Tryz.underlying30 rfl r.sl) rfl (sq_v rfl (v_move rfl) rfl (sq_end (qs_n (wp_bl (wp_lp (fun i : Nat => [(1, .pointer (some ⟨b1, 0, none⟩)), (26, vt), (27, num ts.length), (28, num i)]) (fun _ => [box b1 [num k, num p, num n, vt, vo] 32, hp w]) (fun i => i ≤ ts.length ∧ (∀ j, j < i → ∀ t, ts[j]? = some t → tensorL k p n t.l t.d t.x)) (fun i => ts.length - i) 0 ⟨by omega, fun j hj => by omega⟩ ⟨rfl, rfl, rfl, rfl, trivial⟩ (fun _ s => s) ?_)))))))))))); rintro i ⟨hi, hten⟩; refine wp_sc (wp_sq (sq_v rfl (v_lss rfl rfl) rfl (sq_end (qs_n (wp_sc ?_))))); refine wp_cd rfl (fun c29 => ?_) (fun c29 => ?_)
        · refine wp_sk (qs_n (wp_sc (wp_bl (wp_sc (wp_sq ?_))))); obtain ⟨t, a, b, c, ht, hcs, r1, r2, r3⟩ := hc i (by omega); refine sq_v rfl (v_indexAddr Tryz.underlying30 ty_39 rfl rfl rr (by decide) (by omega) (by omega)) rfl ?_; refine sq_v rfl (v_loadNE 1 ty_39 rfl rfl rr (by have := rr.1; omega) rfl hcs) rfl ?_; refine sq_x rfl (x_alloc ty_39 rfl) rfl ?_; rintro _ _ ⟨b4, rfl, rfl⟩; refine sq_m 0 rfl rfl (m_store 0 ty_39 rfl rfl rfl rfl (by simp [r1.sl.one, r2.sl.one, r3.sl.one]) rfl (Nat.le_of_ble_eq_true rfl)) rfl ?_; rintro _ _ ⟨rfl, rfl⟩; refine sq_end (qs_n (wp_sc (wp_sq (sq_v rfl (v_fieldAddr fd_32_0 ty_29 (by decide) rfl) rfl (sq_v rfl (v_loadNB 1 ty_29 rfl rfl rfl rfl) rfl (sq_v rfl (v_loadNB 0 ty_39 rfl rfl rfl rfl) rfl (sq_u rfl (x_callv rfl en_144 (fun w s => ct_i_TensorOk _ _ _ _ _ _ _ _ _ w (r1.mono (s.get 2 rfl)) (r2.mono (s.get 2 rfl)) (r3.mono (s.get 2 rfl)))) rfl (sq_v rfl (v_not rfl) rfl (sq_end (qs_n ?_)))))))))); refine wp_cn _ rfl (fun c36 => ?_) (fun c36 => ?_)
          · refine wp_sc (wp_sq (sq_v rfl (v_assign rfl) rfl (sq_end (qs_n (wp_rt (qs_br (qs_r (qs_r (qs_br (qs_r ?_)))))))))); exact qs_ret1 rfl rfl (fin_q (i := 2) rfl (netB_no (fun h => tensorB_false.1 c36 (h.2.2.1 t (List.mem_of_getElem? ht)))))
          · refine wp_sk (qs_bn (qs_n (wp_sq ?_))); refine sq_v rfl (v_add rfl rfl ((by unfold I64; omega))) rfl ?_; refine sq_v rfl (v_move rfl) rfl (sq_end ?_); exact qs_bk (i + 1) ⟨by omega, step_all hten (one_at ht (tensorB_true.1 c36))⟩ (by omega) ⟨rfl, rfl, rfl, rfl, trivial⟩ (fun _ s => s.pick [1, 2] (by decide) rfl)
        · refine wp_ex (qs_x (qs_x (qs_bx (qs_n (wp_sc (wp_sq (sq_v rfl (v_fieldAddr fd_32_1 ty_30 (by decide) rfl) rfl (sq_v rfl (v_loadB 0 ty_30 rfl rfl rfl) rfl ?_)))))))); have hall := all_at (fun j hj => hten j (by omega)); refine sq_x rfl (x_call rfl en_145 (fun w s => ct_i_dimsOf _ _ w (r.mono (s.get 1 rfl)) (fun t ht => tensor_axes (hall t ht)))) rfl ?_; rintro _ h41 ⟨arr, ok, rfl, hal, hok, hav⟩; refine sq_v rfl (v_move rfl) rfl (sq_v rfl (v_extract rfl rfl) rfl (sq_v rfl (v_extract rfl rfl) rfl ?_)); refine sq_x rfl (x_alloc ty_136 rfl) rfl ?_; rintro _ _ ⟨b5, rfl, rfl⟩; refine sq_m 0 rfl rfl (m_storeW 0 ty_136 rfl rfl rfl (by rw [ints_length]; exact hal) (ints_one arr) rfl (by simp)) rfl ?_; rintro _ _ ⟨rfl, rfl⟩; refine sq_v rfl (v_assign rfl) rfl (sq_end (qs_n (wp_sc (wp_sc (wp_sq (sq_v rfl (v_move rfl) rfl (sq_v rfl (v_not rfl) rfl (sq_end (qs_n ?_))))))))); refine wp_cn _ rfl (fun c45 => ?_) (fun c45 => ?_)
          · refine wp_sc (wp_sq (sq_v rfl (v_assign rfl) rfl (sq_end (qs_n (wp_rt (qs_r ?_)))))); exact qs_ret1 rfl rfl (fin_q (i := 3) rfl (netB_no (fun h => by have := hok.2 h.2.2.2.1; rw [c45] at this; cases this)))
          · refine wp_sk (qs_n (wp_sc (wp_sc (wp_sq (sq_v rfl (v_fieldAddr fd_32_2 ty_25 (by decide) rfl) rfl (sq_v rfl (v_loadB 2 ty_25 rfl rfl rfl) rfl (sq_v rfl (v_len Tryz.underlying25 rfl r'.sl) rfl (sq_v rfl (v_move rfl) rfl (sq_end (qs_n (wp_bl (wp_lp (fun j : Nat => [(1, .pointer (some ⟨b1, 0, none⟩)), (5, .pointer (some ⟨b5, 0, none⟩)), (47, vo), (48, num op.length), (49, num j)]) (fun _ => [box b5 (ints arr) 136, box b1 [num k, num p, num n, vt, vo] 32, hp w]) (fun j => j ≤ op.length ∧ ∀ j', j' < j → 0 ≤ op.getD j' 0 ∧ op.getD j' 0 ≤ 99) (fun j => op.length - j) 0 ⟨by omega, fun j hj => by omega⟩ ⟨rfl, rfl, rfl, rfl, rfl, trivial⟩ (fun _ s => s.pick [0, 2, 3] (by decide) rfl) ?_)))))))))))); rintro j ⟨hj, hjo⟩; have hinv := hav c45; have hxo := r'.le; refine wp_sc (wp_sq (sq_v rfl (v_lss rfl rfl) rfl (sq_end (qs_n (wp_sc ?_))))); refine wp_cd rfl (fun c50 => ?_) (fun c50 => ?_)
            · refine wp_sk (qs_n (wp_sc (wp_bl (wp_sc (wp_sq (sq_v rfl (v_idxI Tryz.underlying25 ty_3 rfl rfl r' (by omega) (by omega)) rfl (sq_v rfl (v_loadI (k := j) 2 ty_3 rfl rfl r' (by omega)) rfl (sq_v rfl (v_assign rfl) rfl (sq_end (qs_n (wp_sc (wp_sq (sq_v rfl (v_move rfl) rfl (sq_v rfl (v_lss rfl rfl) rfl ?_)))))))))))))); refine sq_bd 54 rfl (fun c54 => ?_) (fun c54 => ?_)
              · refine sq_v rfl (v_move rfl) rfl (sq_s rfl rfl (sq_s rfl rfl (sq_v rfl (v_pickt rfl rfl) rfl (sq_v rfl (v_move rfl) rfl (sq_s rfl rfl (sq_s rfl rfl (sq_s rfl rfl (sq_s rfl rfl (sq_v rfl (v_pickt rfl rfl) rfl (sq_end (qs_n ?_))))))))))); refine wp_ct rfl (wp_sc (wp_sq (sq_v rfl (v_assign rfl) rfl (sq_end (qs_n (wp_rt (qs_br (qs_r (qs_r (qs_br (qs_r ?_))))))))))); exact qs_ret1 rfl rfl (fin_q (i := 2) rfl (netB_no (fun h => by have := open_at h.2.2.2.2 (j := j) (by omega); omega)))
              · refine sq_v rfl (v_move rfl) rfl (sq_v rfl (v_move rfl) rfl (sq_v rfl (v_gtr rfl rfl) rfl (sq_v rfl (v_pickf rfl rfl) rfl ?_))); refine sq_bd 58 rfl (fun c58 => ?_) (fun c58 => ?_)
                · refine sq_v rfl (v_move rfl) rfl (sq_s rfl rfl (sq_s rfl rfl (sq_s rfl rfl (sq_s rfl rfl (sq_v rfl (v_pickt rfl rfl) rfl (sq_end (qs_n (wp_ct rfl (wp_sc (wp_sq (sq_v rfl (v_assign rfl) rfl (sq_end (qs_n (wp_rt (qs_br (qs_r (qs_r (qs_br (qs_r ?_))))))))))))))))))); exact qs_ret1 rfl rfl (fin_q (i := 2) rfl (netB_no (fun h => by have := open_at h.2.2.2.2 (j := j) (by omega); omega)))
                · refine sq_v rfl (v_move rfl) rfl (sq_v rfl (v_move rfl) rfl (sq_v rfl (v_indexAddrA Tryz.underlying136 ty_3 rfl rfl (by omega) (by omega)) rfl (sq_v rfl (v_loadB 0 ty_3 rfl rfl (aget (k := (op.getD j 0).toNat) (by omega) rfl)) rfl (sq_v rfl (v_eql rfl rfl) rfl (sq_v rfl (v_pickf rfl rfl) rfl (sq_end (qs_n ?_))))))); refine wp_cd rfl (fun c64 => ?_) (fun c64 => ?_)
                  · refine wp_sc (wp_sq (sq_v rfl (v_assign rfl) rfl (sq_end (qs_n (wp_rt (qs_br (qs_r (qs_r (qs_br (qs_r ?_)))))))))); exact qs_ret1 rfl rfl (fin_q (i := 2) rfl (netB_no (fun h => by have := open_at h.2.2.2.2 (j := j) (by omega); rw [hinv.2 _ (by omega) (by omega)] at c64; omega)))
                  · refine wp_sk (qs_bn (qs_n (wp_sq ?_))); refine sq_v rfl (v_add rfl rfl ((by unfold I64; omega))) rfl ?_; refine sq_v rfl (v_move rfl) rfl (sq_end ?_); exact qs_bk (j + 1) ⟨by omega, step_all hjo (by omega)⟩ (by omega) ⟨rfl, rfl, rfl, rfl, rfl, trivial⟩ (fun _ s => s)
            · refine wp_ex (qs_x (qs_x (qs_bx (qs_n (wp_sc (wp_sq ?_)))))); have hop : ∀ x ∈ op, 0 ≤ x ∧ x ≤ 99 := all_of (fun j' hj' => hjo j' (by omega)); refine sq_v rfl (v_loadNB 0 ty_136 rfl rfl (by rw [ints_length]; exact hal) (by rw [List.drop_zero, List.take_of_length_le]; rw [ints_length, hal]; omega)) rfl ?_; refine sq_v rfl (v_fieldAddr fd_32_2 ty_25 (by decide) rfl) rfl (sq_v rfl (v_loadB 1 ty_25 rfl rfl rfl) rfl ?_); refine sq_x rfl (x_call rfl en_147 (fun w s => ct_i_axesOf _ _ _ w (r'.mono (s.get 2 rfl)) hal hop hs)) rfl ?_; rintro _ h69 ⟨u1, u2, rfl, ru1, ru2⟩; refine sq_u rfl (x_callv rfl en_146 (fun w s => ct_i_TensorSize _ _ _ _ _ w (ru1.mono (s.get 0 rfl)) (ru2.mono (s.get 0 rfl)))) rfl (sq_v rfl (v_neq rfl rfl) rfl (sq_v rfl (v_assign rfl) rfl (sq_end (qs_n (wp_rt ?_))))); exact qs_ret1 rfl rfl (fin_q (i := 3) rfl (netB_dec (by rw [arrOf_eq hinv hop]; exact ⟨fun h => ⟨ringB_true.1 c11, by omega, all_at (fun j' hj' => hten j' (by omega)), hok.1 c45, by have := sizeI_range op (dimsFor ts op); omega⟩, fun h => by have := h.2.2.2.2; omega⟩)))
  · refine sq_v rfl (v_not rfl) rfl (sq_v rfl (v_move rfl) rfl (sq_s rfl rfl (sq_s rfl rfl (sq_s rfl rfl (sq_s rfl rfl (sq_v rfl (v_pickt rfl rfl) rfl (sq_v rfl (v_move rfl) rfl (sq_s rfl rfl (sq_s rfl rfl ?_))))))))); refine sq_s rfl rfl (sq_s rfl rfl (sq_v rfl (v_pickt rfl rfl) rfl (sq_end (qs_n (wp_ct rfl (wp_sc (wp_sq (sq_v rfl (v_assign rfl) rfl (sq_end (qs_n (wp_rt (qs_r ?_)))))))))))); exact qs_ret1 rfl rfl (fin_q (i := 1) rfl (netB_no (fun h => ringB_false.1 c11 h.1)))
end Go.Proofs.YtmddmahaikineaaGreat
namespace Go.Proofs.YtmddmahaikineaaGreat
open Go.RowKit

def joinP (l : List PH) : PH := l.foldr PUn emp
theorem PDj.join {h : PH} : ∀ {l : List PH}, (∀ x ∈ l, PDj h x) → PDj h (joinP l)
  | [], _ => PDj.symm (PDj.emp h)
  | x :: r, hl => PDj.symm (PDj.un (PDj.symm (hl x (by simp))) (PDj.symm (PDj.join (fun y hy => hl y (by simp [hy])))))
theorem PLe.join : ∀ {l : List PH}, sepL l → ∀ h ∈ l, PLe h (joinP l)
  | [], _, h, hm => by simp at hm
  | x :: r, hs, h, hm => by
    rcases List.mem_cons.1 hm with rfl | hm
    · exact PLe.un_l _ _
    · exact (PLe.join hs.2 h hm).trans (PLe.un_r (PDj.join hs.1))
theorem joinP_dom : ∀ {l : List PH} {k : Nat} {o : Obj}, joinP l k = some o → ∃ h ∈ l, h k = some o
  | [], k, o, e => by simp [joinP, emp] at e
  | x :: r, k, o, e => by
    have e' : PUn x (joinP r) k = some o := e
    unfold PUn at e'
    split at e'
    · rename_i y hy; cases e'; exact ⟨x, by simp, hy⟩
    · obtain ⟨h, hm, he⟩ := joinP_dom e'; exact ⟨h, by simp [hm], he⟩
/-- 'h' is made of the parts 'l'. -/
structure Made (h : PH) (l : List PH) : Prop where
  sep : sepL l
  le : ∀ x ∈ l, PLe x h
  dom : ∀ k o, h k = some o → ∃ x ∈ l, x k = some o
theorem Made.join {l : List PH} (h : sepL l) : Made (joinP l) l := ⟨h, PLe.join h, fun _ _ e => joinP_dom e⟩
theorem sepL_append : ∀ {a b : List PH}, sepL (a ++ b) ↔ sepL a ∧ sepL b ∧ ∀ x ∈ a, ∀ y ∈ b, PDj x y
  | [], b => by simp [sepL]
  | x :: r, b => by
    simp only [List.cons_append, sepL, sepL_append (a := r), List.mem_append, List.mem_cons]
    constructor
    · rintro ⟨h1, h2, h3, h4⟩; exact ⟨⟨fun y hy => h1 y (.inl hy), h2⟩, h3, fun y hy z hz => by
        rcases hy with rfl | hy
        · exact h1 z (.inr hz)
        · exact h4 y hy z hz⟩
    · rintro ⟨⟨h1, h2⟩, h3, h4⟩; exact ⟨fun y hy => hy.elim (h1 y) (h4 x (.inl rfl) y), h2, h3, fun y hy z hz => h4 y (.inr hy) z hz⟩
theorem sepL_comm {a b : List PH} (h : sepL (a ++ b)) : sepL (b ++ a) := by
  rw [sepL_append] at *; exact ⟨h.2.1, h.1, fun x hx y hy => (h.2.2 y hy x hx).symm⟩
section
variable {w0 w : World} {HS : List PH}
theorem Sat.comm {A B : List PH} (s : Sat w0 (A ++ B) w) : Sat w0 (B ++ A) w :=
  ⟨s.os, s.tape, s.output, s.size, sepL_comm s.sep, fun x hx => s.le x (by simp only [List.mem_append] at *; exact hx.symm)⟩
/-- A part made of many is parted; the many go to the end. -/
theorem Sat.open {h : PH} {l A : List PH} (m : Made h l) (s : Sat w0 (h :: A) w) : Sat w0 (A ++ l) w := by
  refine ⟨s.os, s.tape, s.output, s.size, sepL_append.2 ⟨s.sep.2, m.sep, fun x hx y hy => ?_⟩, fun x hx => ?_⟩
  · exact ((s.sep.1 x hx).mono (m.le y hy)).symm
  · rcases List.mem_append.1 hx with hx | hx
    · exact s.le x (by simp [hx])
    · exact (m.le x hx).trans (s.le h (by simp))
/-- The parts at the end made one. -/
theorem Sat.close {A l : List PH} (s : Sat w0 (A ++ l) w) : Sat w0 (joinP l :: A) w ∧ Made (joinP l) l := by
  have h := sepL_append.1 s.sep; refine ⟨⟨s.os, s.tape, s.output, s.size, ⟨fun x hx => ?_, h.1⟩, fun x hx => ?_⟩, Made.join h.2.1⟩
  · exact (PDj.join (fun y hy => h.2.2 x hx y hy)).symm
  · rcases List.mem_cons.1 hx with rfl | hx
    · intro k o e; obtain ⟨y, hy, e'⟩ := joinP_dom e; exact s.le y (by simp [hy]) k o e'
    · exact s.le x (by simp [hx])
/-- Some parts ahead of the list, chosen by their places. -/
theorem Sat.pickT {A A' hs : List PH} (s : Sat w0 (A ++ hs) w) (l : List Nat) (hl : l.Nodup) (h : l.map (A[·]?) = A'.map some) : Sat w0 (A' ++ hs) w := by
  have h0 := sepL_append.1 s.sep; have s1 : Sat w0 A w := ⟨s.os, s.tape, s.output, s.size, h0.1, fun x hx => s.le x (by simp [hx])⟩
  have s2 := s1.pick l hl h; refine ⟨s.os, s.tape, s.output, s.size, sepL_append.2 ⟨s2.sep, h0.2.1, fun x hx y hy => ?_⟩, fun x hx => ?_⟩
  · obtain ⟨j, hj⟩ := List.getElem?_of_mem hx; have h1 : (A'.map some)[j]? = some (some x) := by simp [hj]
    rw [← h] at h1; simp only [List.getElem?_map, Option.map_eq_some_iff] at h1; obtain ⟨i, _, h3⟩ := h1; exact h0.2.2 x (List.mem_of_getElem? h3) y hy
  · rcases List.mem_append.1 hx with hx | hx
    · exact s2.le x hx
    · exact s.le x (by simp [hx])
end
section
variable {P : Program} {n : Nat} {w0 : World} {K : Env} {Q : Exit → Act → World → Prop} {ops : Array Oper} {rest : List Oper}
/-- An operation turns a part inside the list at the end. -/
theorem sq_mT {A hs : List PH} {o : Oper} (i p : Nat) {h : PH} {T : Value → PH → Prop} (hp : p = A.length + i) (hw : wantK ops K o.guard = some true) (hi : hs[i]? = some h) (hx : (A ++ hs)[p]? = some h → StepX P n w0 K (A ++ hs) o h T) (hf : fitsK n o.dst = true)
    (k : ∀ v h', T v h' → SQ P n w0 ops rest Q (putK o.dst v K) (A ++ hs.set i h')) : SQ P n w0 ops (o :: rest) Q K (A ++ hs) := by
  subst hp; have h1 : (A ++ hs)[A.length + i]? = some h := by rw [List.getElem?_append_right (by omega), Nat.add_sub_cancel_left]; exact hi
  refine sq_m (A.length + i) hw h1 (hx h1) hf (fun v h' t => ?_); have h2 : (A ++ hs).set (A.length + i) h' = A ++ hs.set i h' := by
    rw [List.set_append_right _ _ (by omega), Nat.add_sub_cancel_left]
  rw [h2]; exact k v h' t
end
end Go.Proofs.YtmddmahaikineaaGreat
namespace Go.Proofs.YtmddmahaikineaaGreat
set_option maxRecDepth 100000
open Go.RowKit

theorem szV_add {l a b : Int} (h : ¬ szV l a < 0) : szV (szV l a) b = szV l (a + b) := by
  rw [(szV_ge h).1]
  unfold szV
  by_cases h1 : l - a - b < 0
  · rw [if_pos h1, if_pos (by omega)]
  · rw [if_neg h1, if_neg (by omega)]; omega
theorem szV_neg {l a b : Int} (h : szV l a < 0) (hb : 0 ≤ b) : szV l (a + b) = -1 := by
  have := szV_lt h
  unfold szV
  rw [if_pos (by omega)]
def tenSize (t : Ten) : Int := t.l.length + t.d.length + t.x.length
theorem tenSize_nn (t : Ten) : 0 ≤ tenSize t := by unfold tenSize; omega
def tensSize : List Ten → Int
  | [] => 0
  | t :: r => tenSize t + tensSize r
theorem tensSize_nn : ∀ ts, 0 ≤ tensSize ts
  | [] => by simp [tensSize]
  | t :: r => by have := tenSize_nn t; have := tensSize_nn r; simp only [tensSize]; omega
theorem tensSize_append : ∀ a b, tensSize (a ++ b) = tensSize a + tensSize b
  | [], b => by simp [tensSize]
  | t :: r, b => by simp only [List.cons_append, tensSize, tensSize_append r b]; omega
theorem tensSize_take (ts : List Ten) (i : Nat) : tensSize ts = tensSize (ts.take i) + tensSize (ts.drop i) := by
  rw [← tensSize_append, List.take_append_drop]
theorem take_ten {ts : List Ten} {i : Nat} {t : Ten} (h : ts[i]? = some t) : ts.take (i + 1) = ts.take i ++ [t] := by
  obtain ⟨hi, e⟩ := List.getElem?_eq_some_iff.1 h; rw [List.take_succ_eq_append_getElem hi, e]
theorem tensSize_step {ts : List Ten} {i : Nat} {t : Ten} (h : ts[i]? = some t) : tensSize (ts.take (i + 1)) = tensSize (ts.take i) + tenSize t := by
  rw [take_ten h, tensSize_append]
  simp [tensSize]
theorem ct_l_szTensor (t : Ten) (a b c : Value) (left : Int) (w : World) (r1 : IntsR t.l a (hp w)) (r2 : IntsR t.d b (hp w)) (r3 : IntsR t.x c (hp w)) (hl : 0 ≤ left ∧ left ≤ 1048576) :
    Calls Tryz.prog 32 [tenV a b c, num left].toArray w (RetV w (num (szV left (tenSize t)))) := by
  refine calls_in Tryz.func32 rfl Tryz.ntmps32 rfl (Sat.start w) (wp_sc (wp_sq ?_)); refine sq_x rfl (x_box rfl rfl) rfl ?_; rintro _ _ ⟨b2, rfl, rfl⟩; refine sq_v rfl (v_assign rfl) rfl (sq_end (qs_n (wp_sc (wp_sq (sq_v rfl (v_fieldAddr fd_58_0 ty_25 (by decide) rfl) rfl (sq_v rfl (v_loadB 0 ty_25 rfl rfl rfl) rfl (sq_v rfl (v_move rfl) rfl (sq_u rfl (x_callv rfl en_51 (fun w s => ct_l_szIntS _ _ _ w (r1.mono (s.get 1 rfl)) hl)) rfl (sq_v rfl (v_assign rfl) rfl (sq_end (qs_n (wp_sc (wp_sc (wp_sq (sq_v rfl (v_move rfl) rfl (sq_v rfl (v_lss rfl rfl) rfl (sq_end (qs_n ?_)))))))))))))))))); refine wp_cd rfl (fun c10 => ?_) (fun c10 => ?_)
  · refine wp_sc (wp_sq (sq_v rfl (v_assign rfl) rfl (sq_end (qs_n (wp_rt (qs_r ?_)))))); exact qs_ret1 rfl rfl (fin_q (i := 1) rfl (by rw [tenSize, Int.add_assoc, szV_neg c10 (by omega)]))
  · refine wp_sk (qs_n (wp_sc (wp_sq (sq_v rfl (v_fieldAddr fd_58_1 ty_25 (by decide) rfl) rfl (sq_v rfl (v_loadB 0 ty_25 rfl rfl rfl) rfl (sq_v rfl (v_move rfl) rfl ?_)))))); have h1 := szV_ge c10; refine sq_u rfl (x_callv rfl en_51 (fun w s => ct_l_szIntS _ _ _ w (r2.mono (s.get 1 rfl)) (by omega))) rfl (sq_v rfl (v_assign rfl) rfl (sq_end (qs_n (wp_sc (wp_sc (wp_sq (sq_v rfl (v_move rfl) rfl (sq_v rfl (v_lss rfl rfl) rfl (sq_end (qs_n ?_)))))))))); refine wp_cd rfl (fun c16 => ?_) (fun c16 => ?_)
    · refine wp_sc (wp_sq (sq_v rfl (v_assign rfl) rfl (sq_end (qs_n (wp_rt (qs_r ?_)))))); exact qs_ret1 rfl rfl (fin_q (i := 1) rfl (by rw [szV_add c10] at c16; rw [tenSize, szV_neg c16 (by omega)]))
    · refine wp_sk (qs_n (wp_sc (wp_sq (sq_v rfl (v_fieldAddr fd_58_2 ty_25 (by decide) rfl) rfl (sq_v rfl (v_loadB 0 ty_25 rfl rfl rfl) rfl (sq_v rfl (v_move rfl) rfl ?_)))))); have h2 := szV_ge c16; refine sq_u rfl (x_callv rfl en_51 (fun w s => ct_l_szIntS _ _ _ w (r3.mono (s.get 1 rfl)) (by omega))) rfl (sq_v rfl (v_assign rfl) rfl (sq_end (qs_n (wp_sc (wp_sc (wp_sq (sq_v rfl (v_move rfl) rfl (sq_v rfl (v_lss rfl rfl) rfl (sq_end (qs_n ?_)))))))))); refine wp_cd rfl (fun c22 => ?_) (fun c22 => ?_)
      · refine wp_sc (wp_sq (sq_v rfl (v_assign rfl) rfl (sq_end (qs_n (wp_rt (qs_r ?_)))))); exact qs_ret1 rfl rfl (fin_q (i := 1) rfl (by rw [szV_add c16, szV_add c10] at c22; rw [tenSize, Int.add_assoc]; have := szV_lt c22; rw [szV, if_pos this]))
      · refine wp_sk (qs_n (wp_sc (wp_sq (sq_v rfl (v_move rfl) rfl (sq_v rfl (v_assign rfl) rfl (sq_end (qs_n (wp_rt ?_)))))))); exact qs_ret1 rfl rfl (fin_q (i := 1) rfl (by rw [szV_add c16, szV_add c10, tenSize, Int.add_assoc]))
theorem ct_l_szTensorS (ts : List Ten) (v : Value) (left : Int) (w : World) (r : TensR ts v (hp w)) (hl : 0 ≤ left ∧ left ≤ 1048576) :
    Calls Tryz.prog 50 [v, num left].toArray w (RetV w (num (szV left (ts.length + tensSize ts)))) := by
  have hx := r.le; obtain ⟨cells, rr, hc⟩ := r.at; refine calls_in Tryz.func50 rfl Tryz.ntmps50 rfl (Sat.start w) (wp_sc (wp_sq (sq_v rfl (v_assign rfl) rfl (sq_end (qs_n (wp_sc (wp_sq (sq_v rfl (v_move rfl) rfl (sq_v rfl (v_move rfl) rfl (sq_v rfl (v_len Tryz.underlying24 rfl r.sl) rfl ?_)))))))))); refine sq_v rfl (v_sub rfl rfl ((by unfold I64; omega))) rfl ?_; refine sq_v rfl (v_assign rfl) rfl (sq_end (qs_n (wp_sc (wp_sc (wp_sq (sq_v rfl (v_move rfl) rfl (sq_v rfl (v_lss rfl rfl) rfl (sq_end (qs_n ?_))))))))); refine wp_cd rfl (fun c11 => ?_) (fun c11 => ?_)
  · refine wp_sc (wp_sq (sq_v rfl (v_assign rfl) rfl (sq_end (qs_n (wp_rt (qs_r ?_)))))); exact qs_ret1 rfl rfl (fin_q (i := 0) rfl (by have := tensSize_nn ts; rw [szV, if_pos (by omega)]))
  · refine wp_sk (qs_n (wp_sc (wp_sc (wp_sq (sq_v rfl (v_assign rfl) rfl (sq_end (qs_n (wp_bl ?_)))))))); refine wp_lp (fun s : Nat × Int => [(0, v), (1, num s.2), (5, num s.1)]) (fun _ => [hp w]) (fun s => s.1 ≤ ts.length ∧ s.2 = left - ts.length - tensSize (ts.take s.1) ∧ 0 ≤ s.2) (fun s => ts.length - s.1) (0, left - ts.length) ⟨by omega, by simp [tensSize], by simp only; omega⟩ ⟨rfl, rfl, rfl, trivial⟩ (fun _ s => s) ?_; rintro ⟨i, q⟩ ⟨hi, hq, hq0⟩; dsimp only at hi hq hq0 ⊢; refine wp_sc (wp_sc (wp_sq (sq_v rfl (v_move rfl) rfl (sq_v rfl (v_move rfl) rfl (sq_v rfl (v_len Tryz.underlying24 rfl r.sl) rfl (sq_v rfl (v_lss rfl rfl) rfl (sq_end (qs_n ?_)))))))); refine wp_cd rfl (fun c15 => ?_) (fun c15 => ?_)
    · refine wp_sk (qs_n (wp_sc (wp_bl (wp_sc (wp_sq (sq_v rfl (v_move rfl) rfl (sq_v rfl (v_move rfl) rfl ?_))))))); obtain ⟨t, a, b, c, ht, hcs, r1, r2, r3⟩ := hc i (by omega); have hst := tensSize_step ht; have hnn := tensSize_nn (ts.take i); have htk := tensSize_take ts (i + 1); have hnd := tensSize_nn (ts.drop (i + 1)); have htn := tenSize_nn t; refine sq_v rfl (v_indexAddr Tryz.underlying24 ty_58 rfl rfl rr (by decide) (by omega) (by omega)) rfl ?_; refine sq_v rfl (v_loadNE 0 ty_58 rfl rfl rr (by have := rr.1; omega) rfl hcs) rfl ?_; refine sq_v rfl (v_move rfl) rfl (sq_u rfl (x_callv rfl en_32 (fun w s => ct_l_szTensor t _ _ _ _ w (r1.mono (s.get 0 rfl)) (r2.mono (s.get 0 rfl)) (r3.mono (s.get 0 rfl)) (by omega))) rfl (sq_v rfl (v_assign rfl) rfl (sq_end (qs_n (wp_sc (wp_sq (sq_v rfl (v_move rfl) rfl (sq_v rfl (v_lss rfl rfl) rfl (sq_end (qs_n ?_)))))))))); refine wp_cd rfl (fun c25 => ?_) (fun c25 => ?_)
      · refine wp_sc (wp_sq (sq_v rfl (v_assign rfl) rfl (sq_end (qs_n (wp_rt (qs_br (qs_r (qs_r (qs_br (qs_r ?_)))))))))); exact qs_ret1 rfl rfl (fin_q (i := 0) rfl (by have := szV_lt c25; rw [szV, if_pos (by omega)]))
      · refine wp_sk (qs_bn (qs_n (wp_sq (sq_v rfl (v_move rfl) rfl ?_)))); refine sq_v rfl (v_add rfl rfl ((by unfold I64; omega))) rfl ?_; refine sq_v rfl (v_assign rfl) rfl (sq_end ?_); have hge := szV_ge c25; exact qs_bk (i + 1, szV q (tenSize t)) ⟨by simp only; omega, by simp only; omega, by simp only; omega⟩ (by simp only; omega) ⟨rfl, rfl, rfl, trivial⟩ (fun _ s => s)
    · refine wp_ex (qs_x (qs_x (qs_bx (qs_n (wp_sc (wp_sq (sq_v rfl (v_move rfl) rfl (sq_v rfl (v_assign rfl) rfl (sq_end (qs_n (wp_rt ?_))))))))))); exact qs_ret1 rfl rfl (fin_q (i := 0) rfl (by rw [List.take_of_length_le (by omega)] at hq; rw [szV, if_neg (by omega)]; congr 1; omega))
theorem ct_l_szNetwork (k p n : Int) (ts : List Ten) (op : List Int) (vt vo : Value) (left : Int) (w : World) (r : TensR ts vt (hp w)) (r' : IntsR op vo (hp w)) (hl : 0 ≤ left ∧ left ≤ 1048576) :
    Calls Tryz.prog 11 [netV k p n vt vo, num left].toArray w (RetV w (num (szV left (ts.length + tensSize ts + op.length)))) := by
  refine calls_in Tryz.func11 rfl Tryz.ntmps11 rfl (Sat.start w) (wp_sc (wp_sq ?_)); refine sq_x rfl (x_box rfl rfl) rfl ?_; rintro _ _ ⟨b2, rfl, rfl⟩; refine sq_v rfl (v_assign rfl) rfl (sq_end (qs_n (wp_sc (wp_sq (sq_v rfl (v_fieldAddr fd_27_1 ty_24 (by decide) rfl) rfl (sq_v rfl (v_loadB 0 ty_24 rfl rfl rfl) rfl (sq_v rfl (v_move rfl) rfl (sq_u rfl (x_callv rfl en_50 (fun w s => ct_l_szTensorS _ _ _ w (r.mono (s.get 1 rfl)) hl)) rfl (sq_v rfl (v_assign rfl) rfl (sq_end (qs_n (wp_sc (wp_sc (wp_sq (sq_v rfl (v_move rfl) rfl (sq_v rfl (v_lss rfl rfl) rfl (sq_end (qs_n ?_)))))))))))))))))); refine wp_cd rfl (fun c10 => ?_) (fun c10 => ?_)
  · refine wp_sc (wp_sq (sq_v rfl (v_assign rfl) rfl (sq_end (qs_n (wp_rt (qs_r ?_)))))); exact qs_ret1 rfl rfl (fin_q (i := 1) rfl (by rw [szV_neg c10 (by omega)]))
  · refine wp_sk (qs_n (wp_sc (wp_sq (sq_v rfl (v_fieldAddr fd_27_2 ty_25 (by decide) rfl) rfl (sq_v rfl (v_loadB 0 ty_25 rfl rfl rfl) rfl (sq_v rfl (v_move rfl) rfl ?_)))))); have h1 := szV_ge c10; have hnn := tensSize_nn ts; refine sq_u rfl (x_callv rfl en_51 (fun w s => ct_l_szIntS _ _ _ w (r'.mono (s.get 1 rfl)) (by omega))) rfl (sq_v rfl (v_assign rfl) rfl (sq_end (qs_n (wp_sc (wp_sc (wp_sq (sq_v rfl (v_move rfl) rfl (sq_v rfl (v_lss rfl rfl) rfl (sq_end (qs_n ?_)))))))))); refine wp_cd rfl (fun c16 => ?_) (fun c16 => ?_)
    · refine wp_sc (wp_sq (sq_v rfl (v_assign rfl) rfl (sq_end (qs_n (wp_rt (qs_r ?_)))))); exact qs_ret1 rfl rfl (fin_q (i := 1) rfl (by rw [szV_add c10] at c16; have := szV_lt c16; rw [szV, if_pos this]))
    · refine wp_sk (qs_n (wp_sc (wp_sq (sq_v rfl (v_move rfl) rfl (sq_v rfl (v_assign rfl) rfl (sq_end (qs_n (wp_rt ?_)))))))); exact qs_ret1 rfl rfl (fin_q (i := 1) rfl (by rw [szV_add c10]))
theorem ct_l_eqRing (k p n : Int) (w : World) : Calls Tryz.prog 66 [ringV k p n, ringV k p n].toArray w (RetV w (.bool true)) := by
  refine calls_in Tryz.func66 rfl Tryz.ntmps66 rfl (Sat.start w) (wp_sc (wp_sq ?_)); refine sq_x rfl (x_box rfl rfl) rfl ?_; rintro _ _ ⟨b2, rfl, rfl⟩; refine sq_x rfl (x_box rfl rfl) rfl ?_; rintro _ _ ⟨b3, rfl, rfl⟩; refine sq_v rfl (v_assign rfl) rfl (sq_end (qs_n (wp_sc (wp_sc (wp_sq (sq_v rfl (v_fieldAddr fd_29_0 ty_3 (by decide) rfl) rfl (sq_v rfl (v_loadB 1 ty_3 rfl rfl rfl) rfl (sq_v rfl (v_fieldAddr fd_29_0 ty_3 (by decide) rfl) rfl (sq_v rfl (v_loadB 0 ty_3 rfl rfl rfl) rfl (sq_v rfl (v_neq rfl rfl) rfl (sq_end (qs_n ?_)))))))))))); refine wp_cd rfl (fun c9 => ?_) (fun c9 => ?_)
  · refine wp_sc (wp_sq (sq_v rfl (v_assign rfl) rfl (sq_end (qs_n (wp_rt (qs_r ?_)))))); exact absurd rfl c9
  · refine wp_sk (qs_n (wp_sc (wp_sc (wp_sq (sq_v rfl (v_fieldAddr fd_29_1 ty_3 (by decide) rfl) rfl (sq_v rfl (v_loadB 1 ty_3 rfl rfl rfl) rfl (sq_v rfl (v_fieldAddr fd_29_1 ty_3 (by decide) rfl) rfl (sq_v rfl (v_loadB 0 ty_3 rfl rfl rfl) rfl (sq_v rfl (v_neq rfl rfl) rfl (sq_end (qs_n ?_))))))))))); refine wp_cd rfl (fun c14 => ?_) (fun c14 => ?_)
    · refine wp_sc (wp_sq (sq_v rfl (v_assign rfl) rfl (sq_end (qs_n (wp_rt (qs_r ?_)))))); exact absurd rfl c14
    · refine wp_sk (qs_n (wp_sc (wp_sc (wp_sq (sq_v rfl (v_fieldAddr fd_29_2 ty_3 (by decide) rfl) rfl (sq_v rfl (v_loadB 1 ty_3 rfl rfl rfl) rfl (sq_v rfl (v_fieldAddr fd_29_2 ty_3 (by decide) rfl) rfl (sq_v rfl (v_loadB 0 ty_3 rfl rfl rfl) rfl (sq_v rfl (v_neq rfl rfl) rfl (sq_end (qs_n ?_))))))))))); refine wp_cd rfl (fun c19 => ?_) (fun c19 => ?_)
      · refine wp_sc (wp_sq (sq_v rfl (v_assign rfl) rfl (sq_end (qs_n (wp_rt (qs_r ?_)))))); exact absurd rfl c19
      · refine wp_sk (qs_n (wp_sc (wp_sq (sq_v rfl (v_assign rfl) rfl (sq_end (qs_n (wp_rt ?_))))))); exact qs_ret1 rfl rfl (fin_q (i := 2) rfl rfl)
theorem ct_l_eqTensor (t : Ten) (a b c a' b' c' : Value) (w : World) (r1 : IntsR t.l a (hp w)) (r2 : IntsR t.d b (hp w)) (r3 : IntsR t.x c (hp w)) (r1' : IntsR t.l a' (hp w)) (r2' : IntsR t.d b' (hp w)) (r3' : IntsR t.x c' (hp w)) :
    Calls Tryz.prog 21 [tenV a b c, tenV a' b' c'].toArray w (RetV w (.bool true)) := by
  refine calls_in Tryz.func21 rfl Tryz.ntmps21 rfl (Sat.start w) (wp_sc (wp_sq ?_)); refine sq_x rfl (x_box rfl rfl) rfl ?_; rintro _ _ ⟨b2, rfl, rfl⟩; refine sq_x rfl (x_box rfl rfl) rfl ?_; rintro _ _ ⟨b3, rfl, rfl⟩; refine sq_v rfl (v_assign rfl) rfl (sq_end (qs_n (wp_sc (wp_sc (wp_sq (sq_v rfl (v_fieldAddr fd_39_0 ty_25 (by decide) rfl) rfl (sq_v rfl (v_loadB 1 ty_25 rfl rfl rfl) rfl (sq_v rfl (v_fieldAddr fd_39_0 ty_25 (by decide) rfl) rfl (sq_v rfl (v_loadB 0 ty_25 rfl rfl rfl) rfl (sq_u rfl (x_callv rfl en_22 (fun w s => ct_l_eqIntS _ _ _ _ w (r1.mono (s.get 2 rfl)) (r1'.mono (s.get 2 rfl)) rfl)) rfl (sq_v rfl (v_not rfl) rfl (sq_end (qs_n ?_))))))))))))); refine wp_cn _ rfl (fun c10 => ?_) (fun c10 => ?_)
  · refine wp_sc (wp_sq (sq_v rfl (v_assign rfl) rfl (sq_end (qs_n (wp_rt (qs_r ?_))))))
    cases c10
  · refine wp_sk (qs_n (wp_sc (wp_sc (wp_sq (sq_v rfl (v_fieldAddr fd_39_1 ty_25 (by decide) rfl) rfl (sq_v rfl (v_loadB 1 ty_25 rfl rfl rfl) rfl (sq_v rfl (v_fieldAddr fd_39_1 ty_25 (by decide) rfl) rfl (sq_v rfl (v_loadB 0 ty_25 rfl rfl rfl) rfl (sq_u rfl (x_callv rfl en_22 (fun w s => ct_l_eqIntS _ _ _ _ w (r2.mono (s.get 2 rfl)) (r2'.mono (s.get 2 rfl)) rfl)) rfl (sq_v rfl (v_not rfl) rfl (sq_end (qs_n ?_)))))))))))); refine wp_cn _ rfl (fun c16 => ?_) (fun c16 => ?_)
    · refine wp_sc (wp_sq (sq_v rfl (v_assign rfl) rfl (sq_end (qs_n (wp_rt (qs_r ?_))))))
      cases c16
    · refine wp_sk (qs_n (wp_sc (wp_sc (wp_sq (sq_v rfl (v_fieldAddr fd_39_2 ty_25 (by decide) rfl) rfl (sq_v rfl (v_loadB 1 ty_25 rfl rfl rfl) rfl (sq_v rfl (v_fieldAddr fd_39_2 ty_25 (by decide) rfl) rfl (sq_v rfl (v_loadB 0 ty_25 rfl rfl rfl) rfl (sq_u rfl (x_callv rfl en_22 (fun w s => ct_l_eqIntS _ _ _ _ w (r3.mono (s.get 2 rfl)) (r3'.mono (s.get 2 rfl)) rfl)) rfl (sq_v rfl (v_not rfl) rfl (sq_end (qs_n ?_)))))))))))); refine wp_cn _ rfl (fun c22 => ?_) (fun c22 => ?_)
      · refine wp_sc (wp_sq (sq_v rfl (v_assign rfl) rfl (sq_end (qs_n (wp_rt (qs_r ?_))))))
        cases c22
      · refine wp_sk (qs_n (wp_sc (wp_sq (sq_v rfl (v_assign rfl) rfl (sq_end (qs_n (wp_rt ?_))))))); exact qs_ret1 rfl rfl (fin_q (i := 2) rfl rfl)
theorem ct_l_eqTensorS (ts : List Ten) (v u : Value) (w : World) (r : TensR ts v (hp w)) (r' : TensR ts u (hp w)) : Calls Tryz.prog 67 [v, u].toArray w (RetV w (.bool true)) := by
  have hx := r.le; obtain ⟨cells, rr, hc⟩ := r.at; obtain ⟨cells', rr', hc'⟩ := r'.at; refine calls_in Tryz.func67 rfl Tryz.ntmps67 rfl (Sat.start w) (wp_sc (wp_sq (sq_v rfl (v_assign rfl) rfl (sq_end (qs_n (wp_sc (wp_sc (wp_sq (sq_v rfl (v_move rfl) rfl (sq_v rfl (v_len Tryz.underlying30 rfl r.sl) rfl (sq_v rfl (v_move rfl) rfl (sq_v rfl (v_len Tryz.underlying30 rfl r'.sl) rfl (sq_v rfl (v_neq rfl rfl) rfl (sq_end (qs_n ?_))))))))))))))); refine wp_cd rfl (fun c10 => ?_) (fun c10 => ?_)
  · refine wp_sc (wp_sq (sq_v rfl (v_assign rfl) rfl (sq_end (qs_n (wp_rt (qs_r ?_)))))); exact absurd rfl c10
  · refine wp_sk (qs_n (wp_sc (wp_sc (wp_sq (sq_v rfl (v_assign rfl) rfl (sq_end (qs_n (wp_bl (wp_lp (fun i : Nat => [(0, v), (1, u), (5, num i)]) (fun _ => [hp w]) (fun i => i ≤ ts.length) (fun i => ts.length - i) 0 (by omega) ⟨rfl, rfl, rfl, trivial⟩ (fun _ s => s) ?_))))))))); intro i hi; refine wp_sc (wp_sc (wp_sq (sq_v rfl (v_move rfl) rfl (sq_v rfl (v_move rfl) rfl (sq_v rfl (v_len Tryz.underlying30 rfl r.sl) rfl (sq_v rfl (v_lss rfl rfl) rfl (sq_end (qs_n ?_)))))))); refine wp_cd rfl (fun c14 => ?_) (fun c14 => ?_)
    · refine wp_sk (qs_n (wp_sc (wp_bl (wp_sc (wp_rj 10 [(0, true), (1, true), (2, true), (3, true), (4, true), (5, true), (6, true), (7, true), (8, false), (9, true)] mixed_ok (by kernel_rfl) (rj_v rfl rfl (v_move rfl) rfl (rj_v rfl rfl (v_move rfl) rfl ?_))))))); obtain ⟨t, a, b, c, ht, hcs, r1, r2, r3⟩ := hc i (by omega); obtain ⟨t', a', b', c', ht', hcs', r1', r2', r3'⟩ := hc' i (by omega); obtain rfl : t = t' := (by rw [ht] at ht'; exact Option.some.inj ht')
      refine rj_v rfl rfl (v_indexAddr Tryz.underlying30 ty_39 rfl rfl rr (by decide) (by omega) (by omega)) rfl ?_; refine rj_v rfl rfl (v_loadNE 0 ty_39 rfl rfl rr (by have := rr.1; omega) rfl hcs) rfl ?_; refine rj_v rfl rfl (v_move rfl) rfl (rj_v rfl rfl (v_move rfl) rfl (rj_v rfl rfl (v_indexAddr Tryz.underlying30 ty_39 rfl rfl rr' (by decide) (by omega) (by omega)) rfl ?_)); refine rj_v rfl rfl (v_loadNE 0 ty_39 rfl rfl rr' (by have := rr'.1; omega) rfl hcs') rfl ?_; refine rj_u rfl rfl (x_callv rfl en_21 (fun w s => ct_l_eqTensor _ _ _ _ _ _ _ w (r1.mono (s.get 0 rfl)) (r2.mono (s.get 0 rfl)) (r3.mono (s.get 0 rfl)) (r1'.mono (s.get 0 rfl)) (r2'.mono (s.get 0 rfl)) (r3'.mono (s.get 0 rfl)))) rfl (rj_v rfl rfl (v_not rfl) rfl (rj_end (qs_n ?_))); refine wp_cn _ rfl (fun c26 => ?_) (fun c26 => ?_)
      · refine wp_sc (wp_sq (sq_v rfl (v_assign rfl) rfl (sq_end (qs_n (wp_rt (qs_br (qs_r (qs_r (qs_br (qs_r ?_))))))))))
        cases c26
      · refine wp_sk (qs_bn (qs_n (wp_sq (sq_v rfl (v_move rfl) rfl ?_)))); refine sq_v rfl (v_add rfl rfl ((by unfold I64; omega))) rfl ?_; refine sq_v rfl (v_assign rfl) rfl (sq_end ?_); exact qs_bk (i + 1) (by omega) (by omega) ⟨rfl, rfl, rfl, trivial⟩ (fun _ s => s)
    · refine wp_ex (qs_x (qs_x (qs_bx (qs_n (wp_sc (wp_sq (sq_v rfl (v_assign rfl) rfl (sq_end (qs_n (wp_rt ?_)))))))))); exact qs_ret1 rfl rfl (fin_q (i := 0) rfl rfl)
theorem ct_l_eqNetwork (k p n : Int) (ts : List Ten) (op : List Int) (vt vo ut uo : Value) (w : World) (r : TensR ts vt (hp w)) (ro : IntsR op vo (hp w)) (r' : TensR ts ut (hp w)) (ro' : IntsR op uo (hp w)) :
    Calls Tryz.prog 15 [netV k p n vt vo, netV k p n ut uo].toArray w (RetV w (.bool true)) := by
  refine calls_in Tryz.func15 rfl Tryz.ntmps15 rfl (Sat.start w) (wp_sc (wp_sq ?_)); refine sq_x rfl (x_box rfl rfl) rfl ?_; rintro _ _ ⟨b2, rfl, rfl⟩; refine sq_x rfl (x_box rfl rfl) rfl ?_; rintro _ _ ⟨b3, rfl, rfl⟩; refine sq_v rfl (v_assign rfl) rfl (sq_end (qs_n (wp_sc (wp_sc (wp_sq (sq_v rfl (v_fieldAddr fd_32_0 ty_29 (by decide) rfl) rfl (sq_v rfl (v_loadNB 1 ty_29 rfl rfl rfl rfl) rfl (sq_v rfl (v_fieldAddr fd_32_0 ty_29 (by decide) rfl) rfl (sq_v rfl (v_loadNB 0 ty_29 rfl rfl rfl rfl) rfl (sq_u rfl (x_callv rfl en_66 (fun w s => ct_l_eqRing _ _ _ w)) rfl (sq_v rfl (v_not rfl) rfl (sq_end (qs_n ?_))))))))))))); refine wp_cn _ rfl (fun c10 => ?_) (fun c10 => ?_)
  · refine wp_sc (wp_sq (sq_v rfl (v_assign rfl) rfl (sq_end (qs_n (wp_rt (qs_r ?_))))))
    cases c10
  · refine wp_sk (qs_n (wp_sc (wp_sc (wp_sq (sq_v rfl (v_fieldAddr fd_32_1 ty_30 (by decide) rfl) rfl (sq_v rfl (v_loadB 1 ty_30 rfl rfl rfl) rfl (sq_v rfl (v_fieldAddr fd_32_1 ty_30 (by decide) rfl) rfl (sq_v rfl (v_loadB 0 ty_30 rfl rfl rfl) rfl (sq_u rfl (x_callv rfl en_67 (fun w s => ct_l_eqTensorS _ _ _ w (r.mono (s.get 2 rfl)) (r'.mono (s.get 2 rfl)))) rfl (sq_v rfl (v_not rfl) rfl (sq_end (qs_n ?_)))))))))))); refine wp_cn _ rfl (fun c16 => ?_) (fun c16 => ?_)
    · refine wp_sc (wp_sq (sq_v rfl (v_assign rfl) rfl (sq_end (qs_n (wp_rt (qs_r ?_))))))
      cases c16
    · refine wp_sk (qs_n (wp_sc (wp_sc (wp_sq (sq_v rfl (v_fieldAddr fd_32_2 ty_25 (by decide) rfl) rfl (sq_v rfl (v_loadB 1 ty_25 rfl rfl rfl) rfl (sq_v rfl (v_fieldAddr fd_32_2 ty_25 (by decide) rfl) rfl (sq_v rfl (v_loadB 0 ty_25 rfl rfl rfl) rfl (sq_u rfl (x_callv rfl en_22 (fun w s => ct_l_eqIntS _ _ _ _ w (ro.mono (s.get 2 rfl)) (ro'.mono (s.get 2 rfl)) rfl)) rfl (sq_v rfl (v_not rfl) rfl (sq_end (qs_n ?_)))))))))))); refine wp_cn _ rfl (fun c22 => ?_) (fun c22 => ?_)
      · refine wp_sc (wp_sq (sq_v rfl (v_assign rfl) rfl (sq_end (qs_n (wp_rt (qs_r ?_))))))
        cases c22
      · refine wp_sk (qs_n (wp_sc (wp_sq (sq_v rfl (v_assign rfl) rfl (sq_end (qs_n (wp_rt ?_))))))); exact qs_ret1 rfl rfl (fin_q (i := 2) rfl rfl)
def iota (k : Int) (m : Nat) : List Int := (List.range m).map fun (j : Nat) => k + j
theorem iota_len (k : Int) (m : Nat) : (iota k m).length = m := by simp [iota]
theorem iota_get {k : Int} {m j : Nat} (h : j < m) : (iota k m).getD j 0 = k + j := by simp [iota, List.getD, h]
theorem iota_step (k : Int) (m : Nat) : iota k (m + 1) = iota k m ++ [k + m] := by simp [iota, List.range_succ]
theorem iota_set {k : Int} {xs : List Int} {i : Nat} (h : i < xs.length) : (iota k i ++ xs.drop i).set i (k + i) = iota k (i + 1) ++ xs.drop (i + 1) := by
  rw [List.set_append_right _ _ (by rw [iota_len]; exact Nat.le_refl _), iota_len, Nat.sub_self, iota_step, List.drop_eq_getElem_cons h, List.append_assoc]
  rfl
theorem ct_l_markIntS (xs : List Int) (v : Value) (k : Int) (w : World) (h : PH) (hle : PLe h (hp w)) (r : IntsO xs v h) (hk : 0 ≤ k ∧ k + xs.length ≤ 4611686018427387904) :
    Calls Tryz.prog 23 [v, num k].toArray w (Ret w h (fun u h' => u = num (k + xs.length) ∧ IntsO (iota k xs.length) v h')) := by
  refine calls_in Tryz.func23 rfl Tryz.ntmps23 rfl (Sat.start2 hle) (wp_sc (wp_sq (sq_v rfl (v_assign rfl) rfl (sq_end (qs_n (wp_sc (wp_sc (wp_sq (sq_v rfl (v_assign rfl) rfl (sq_end (qs_n (wp_bl ?_)))))))))))); refine wp_lp (fun s : Nat × PH => [(0, v), (1, num (k + s.1)), (5, num s.1)]) (fun s => [s.2, restP w h]) (fun s => s.1 ≤ xs.length ∧ IntsO (iota k s.1 ++ xs.drop s.1) v s.2) (fun s => xs.length - s.1) (0, h) ⟨by omega, by simpa [iota] using r⟩ ⟨rfl, by show _ = some (num (k + ((0 : Nat) : Int))); rw [show k + ((0 : Nat) : Int) = k by omega]; rfl, rfl, trivial⟩ (fun _ s => s) ?_; rintro ⟨i, hh⟩ ⟨hi, ro⟩; dsimp only at hi ro ⊢; have hl : (iota k i ++ xs.drop i).length = xs.length := by rw [List.length_append, iota_len, List.length_drop]; omega
  refine wp_sc (wp_sc (wp_sq (sq_v rfl (v_move rfl) rfl (sq_v rfl (v_move rfl) rfl ?_)))); refine sq_v rfl (v_len Tryz.underlying25 rfl (by have := ro.toR.sl; rwa [hl] at this)) rfl ?_; refine sq_v rfl (v_lss rfl rfl) rfl (sq_end (qs_n ?_)); refine wp_cd rfl (fun c9 => ?_) (fun c9 => ?_)
  · refine wp_sk (qs_n (wp_sc (wp_bl (wp_sc (wp_sq (sq_v rfl (v_move rfl) rfl (sq_v rfl (v_move rfl) rfl (sq_v rfl (v_move rfl) rfl (sq_v rfl (v_idxI Tryz.underlying25 ty_3 rfl rfl ro.toR (by omega) (by omega)) rfl ?_))))))))); refine sq_m 0 rfl rfl (m_storeI 0 ty_3 rfl rfl rfl ro (by omega)) rfl ?_; rintro _ h_ro8 ⟨rfl, ro8⟩; refine sq_end (qs_n (wp_sq (sq_v rfl (v_move rfl) rfl ?_))); refine sq_v rfl (v_add rfl rfl ((by unfold I64; omega))) rfl ?_; refine sq_v rfl (v_assign rfl) rfl (sq_end (qs_bn (qs_n (wp_sq (sq_v rfl (v_move rfl) rfl ?_))))); refine sq_v rfl (v_add rfl rfl ((by unfold I64; omega))) rfl ?_; refine sq_v rfl (v_assign rfl) rfl (sq_end ?_); exact qs_bk (i + 1, h_ro8) ⟨by simp only; omega, by simp only; rw [← iota_set (by omega)]; exact ro8⟩ (by simp only; omega) ⟨rfl, by simp only [Int.natCast_add, Int.natCast_one, ← Int.add_assoc]; rfl, rfl, trivial⟩ (fun _ s => s)
  · refine wp_ex (qs_x (qs_x (qs_bx (qs_n (wp_sc (wp_sq (sq_v rfl (v_move rfl) rfl (sq_v rfl (v_assign rfl) rfl (sq_end (qs_n (wp_rt ?_))))))))))); refine qs_ret1 rfl rfl (fin_m (i := 1) 0 rfl rfl rfl ?_); have e : i = xs.length := by omega
    subst e; rw [List.drop_length, List.append_nil] at ro; exact ⟨rfl, ro⟩
theorem ct_l_heldIntS (xs : List Int) (v : Value) (k : Int) (w : World) (r : IntsR xs v (hp w)) (he : xs = iota k xs.length) (hk : 0 ≤ k ∧ k + xs.length ≤ 4611686018427387904) :
    Calls Tryz.prog 40 [v, num k].toArray w (RetV w (num (k + xs.length))) := by
  refine calls_in Tryz.func40 rfl Tryz.ntmps40 rfl (Sat.start w) (wp_sc (wp_sq (sq_v rfl (v_assign rfl) rfl (sq_end (qs_n (wp_sc (wp_sc (wp_sq (sq_v rfl (v_assign rfl) rfl (sq_end (qs_n (wp_bl ?_)))))))))))); refine wp_lp (fun i : Nat => [(0, v), (1, num (k + i)), (5, num i)]) (fun _ => [hp w]) (fun i => i ≤ xs.length) (fun i => xs.length - i) 0 (by omega) ⟨rfl, by show _ = some (num (k + ((0 : Nat) : Int))); rw [show k + ((0 : Nat) : Int) = k by omega]; rfl, rfl, trivial⟩ (fun _ s => s) ?_; intro i hi; refine wp_sc (wp_sc (wp_sq (sq_v rfl (v_move rfl) rfl (sq_v rfl (v_move rfl) rfl (sq_v rfl (v_len Tryz.underlying25 rfl r.sl) rfl (sq_v rfl (v_lss rfl rfl) rfl (sq_end (qs_n ?_)))))))); refine wp_cd rfl (fun c9 => ?_) (fun c9 => ?_)
  · refine wp_sk (qs_n (wp_sc (wp_bl (wp_sc (wp_sc (wp_sq (sq_v rfl (v_move rfl) rfl (sq_v rfl (v_move rfl) rfl (sq_v rfl (v_idxI Tryz.underlying25 ty_3 rfl rfl r (by omega) (by omega)) rfl (sq_v rfl (v_loadI (k := i) 0 ty_3 rfl rfl r (by omega)) rfl (sq_v rfl (v_move rfl) rfl (sq_v rfl (v_neq rfl rfl) rfl (sq_end (qs_n ?_)))))))))))))); refine wp_cd rfl (fun c17 => ?_) (fun c17 => ?_)
    · refine wp_sc (wp_sq (sq_v rfl (v_assign rfl) rfl (sq_end (qs_n (wp_rt (qs_r (qs_br (qs_r (qs_r (qs_br (qs_r ?_))))))))))); exact absurd (by rw [he]; exact iota_get (by omega)) c17
    · refine wp_sk (qs_n (wp_sq (sq_v rfl (v_move rfl) rfl ?_))); refine sq_v rfl (v_add rfl rfl ((by unfold I64; omega))) rfl ?_; refine sq_v rfl (v_assign rfl) rfl (sq_end (qs_bn (qs_n (wp_sq (sq_v rfl (v_move rfl) rfl ?_))))); refine sq_v rfl (v_add rfl rfl ((by unfold I64; omega))) rfl ?_; refine sq_v rfl (v_assign rfl) rfl (sq_end ?_); exact qs_bk (i + 1) (by omega) (by omega) ⟨rfl, by simp only [Int.natCast_add, Int.natCast_one, ← Int.add_assoc]; rfl, rfl, trivial⟩ (fun _ s => s)
  · refine wp_ex (qs_x (qs_x (qs_bx (qs_n (wp_sc (wp_sq (sq_v rfl (v_move rfl) rfl (sq_v rfl (v_assign rfl) rfl (sq_end (qs_n (wp_rt ?_))))))))))); exact qs_ret1 rfl rfl (fin_q (i := 0) rfl (by congr 1; omega))
end Go.Proofs.YtmddmahaikineaaGreat
namespace Go.Proofs.YtmddmahaikineaaGreat
set_option maxRecDepth 100000
open Go.RowKit

theorem qs_close {n : Nat} {w0 : World} {K : Env} {HS : List PH} {Q : Exit → Act → World → Prop} {e : Exit} (A l : List PH) (hs : ∀ w, Sat w0 HS w → Sat w0 (A ++ l) w) (k : Made (joinP l) l → QS n w0 Q e K (joinP l :: A)) : QS n w0 Q e K HS :=
  fun a w en s => k (hs w s).close.2 a w en (hs w s).close.1
structure OwnL (xss : List (List Int)) (vs : List Value) (hs : List PH) : Prop where
  l1 : vs.length = xss.length
  l2 : hs.length = xss.length
  own : ∀ (i : Nat) (xs : List Int), xss[i]? = some xs → ∃ v h, vs[i]? = some v ∧ hs[i]? = some h ∧ IntsO xs v h
theorem OwnL.nil : OwnL [] [] [] := ⟨rfl, rfl, fun i xs h => by simp at h⟩
theorem OwnL.append {xss yss : List (List Int)} {vs us : List Value} {hs gs : List PH} (a : OwnL xss vs hs) (b : OwnL yss us gs) : OwnL (xss ++ yss) (vs ++ us) (hs ++ gs) := by
  refine ⟨by simp [a.l1, b.l1], by simp [a.l2, b.l2], fun i xs h => ?_⟩
  by_cases hi : i < xss.length
  · rw [List.getElem?_append_left hi] at h; rw [List.getElem?_append_left (by rw [a.l1]; exact hi), List.getElem?_append_left (by rw [a.l2]; exact hi)]; exact a.own i xs h
  · rw [List.getElem?_append_right (by omega)] at h; rw [List.getElem?_append_right (by rw [a.l1]; omega), List.getElem?_append_right (by rw [a.l2]; omega), a.l1, a.l2]; exact b.own _ xs h
theorem OwnL.three {l d x : List Int} {a b c : Value} {h1 h2 h3 : PH} (r1 : IntsO l a h1) (r2 : IntsO d b h2) (r3 : IntsO x c h3) : OwnL [l, d, x] [a, b, c] [h1, h2, h3] := by
  refine ⟨rfl, rfl, fun i xs h => ?_⟩
  match i, h with
  | 0, h => cases h; exact ⟨a, h1, rfl, rfl, r1⟩
  | 1, h => cases h; exact ⟨b, h2, rfl, rfl, r2⟩
  | 2, h => cases h; exact ⟨c, h3, rfl, rfl, r3⟩
  | i + 3, h => simp at h
theorem OwnL.set {xss : List (List Int)} {vs : List Value} {hs : List PH} (a : OwnL xss vs hs) {i : Nat} {v : Value} {ys : List Int} {h' : PH} (hv : vs[i]? = some v) (r : IntsO ys v h') : OwnL (xss.set i ys) vs (hs.set i h') := by
  have hi : i < vs.length := (List.getElem?_eq_some_iff.1 hv).1; refine ⟨by simp [a.l1], by simp [a.l2], fun j xs h => ?_⟩
  by_cases e : j = i
  · subst e; rw [List.getElem?_set_self (by rw [← a.l1]; exact hi)] at h
    cases h
    exact ⟨v, h', hv, List.getElem?_set_self (by rw [a.l2, ← a.l1]; exact hi), r⟩
  · rw [List.getElem?_set_ne (Ne.symm e)] at h; rw [List.getElem?_set_ne (Ne.symm e)]; exact a.own j xs h
def flat (ts : List Ten) : List (List Int) := ts.flatMap fun t => [t.l, t.d, t.x]
theorem flat_append (a b : List Ten) : flat (a ++ b) = flat a ++ flat b := by simp [flat]
theorem flat_len : ∀ ts : List Ten, (flat ts).length = ts.length * 3
  | [] => rfl
  | t :: r => by
    have := flat_len r; simp only [flat, List.flatMap_cons, List.length_append, List.length_cons, List.length_nil] at *
    omega
theorem tens_get : ∀ {ts : List Ten} {i : Nat} {t : Ten}, ts[i]? = some t → (flat ts)[i * 3]? = some t.l ∧ (flat ts)[i * 3 + 1]? = some t.d ∧ (flat ts)[i * 3 + 2]? = some t.x
  | [], i, t, h => by simp at h
  | u :: r, 0, t, h => by cases h; exact ⟨rfl, rfl, rfl⟩
  | u :: r, i + 1, t, h => by
    have := tens_get (ts := r) (i := i) (t := t) (by simpa using h); have e : ∀ j, (flat (u :: r))[(i + 1) * 3 + j]? = (flat r)[i * 3 + j]? := fun j => by
      show (u.l :: u.d :: u.x :: flat r)[(i + 1) * 3 + j]? = _
      rw [show (i + 1) * 3 + j = i * 3 + j + 1 + 1 + 1 by omega]
      simp
    exact ⟨by have := e 0; simp only [Nat.add_zero] at this; rw [this]; simp_all, by rw [e 1]; exact this.2.1, by rw [e 2]; exact this.2.2⟩
/-- Tensors that own their parts. -/
def TensO (ts : List Ten) (v : Value) (h : PH) : Prop := ∃ vs h0 hs, RowO 39 vs ts.length 3 v h0 ∧ OwnL (flat ts) vs hs ∧ Made h (h0 :: hs)
theorem three_at {vs : List Value} {i : Nat} {a b c : Value} (h0 : vs[i * 3]? = some a) (h1 : vs[i * 3 + 1]? = some b) (h2 : vs[i * 3 + 2]? = some c) : (vs.drop (i * 3)).take 3 = [a, b, c] := by
  apply List.ext_getElem?
  intro j; rw [List.getElem?_take]
  match j with
  | 0 => simpa using h0
  | 1 => simpa using h1
  | 2 => simpa using h2
  | j + 3 => rw [if_neg (by omega)]; simp
theorem OwnL.tens {ts : List Ten} {vs : List Value} {v : Value} {h : PH} {hs : List PH} (r0 : RowR vs ts.length 3 v h) (o : OwnL (flat ts) vs hs) (hle : ∀ x ∈ hs, PLe x h) : TensR ts v h := by
  refine ⟨vs, r0, fun i t ht => ?_⟩; obtain ⟨f1, f2, f3⟩ := tens_get ht; obtain ⟨a, h1, e1, g1, r1⟩ := o.own _ _ f1; obtain ⟨b, h2, e2, g2, r2⟩ := o.own _ _ f2; obtain ⟨c, h3, e3, g3, r3⟩ := o.own _ _ f3; exact ⟨a, b, c, three_at e1 e2 e3, r1.toR.mono (hle _ (List.mem_of_getElem? g1)), r2.toR.mono (hle _ (List.mem_of_getElem? g2)), r3.toR.mono (hle _ (List.mem_of_getElem? g3))⟩
theorem TensO.toR {ts : List Ten} {v : Value} {h : PH} (r : TensO ts v h) : TensR ts v h := by
  obtain ⟨vs, h0, hs, r0, o, m⟩ := r; exact OwnL.tens (r0.toR.mono (m.le h0 (by simp))) o (fun x hx => m.le x (by simp [hx]))
/-- A network that owns its parts. -/
def NetO (ts : List Ten) (op : List Int) (vt vo : Value) (h : PH) : Prop := ∃ vs h0 ho hs, RowO 39 vs ts.length 3 vt h0 ∧ IntsO op vo ho ∧ OwnL (flat ts) vs hs ∧ Made h (h0 :: ho :: hs)
theorem NetO.toR {ts : List Ten} {op : List Int} {vt vo : Value} {h : PH} (r : NetO ts op vt vo h) : TensR ts vt h ∧ IntsR op vo h := by
  obtain ⟨vs, h0, ho, hs, r0, r1, o, m⟩ := r; exact ⟨OwnL.tens (r0.toR.mono (m.le h0 (by simp))) o (fun x hx => m.le x (by simp [hx])), r1.toR.mono (m.le ho (by simp))⟩
def TenO (t : Ten) (u : Value) (h : PH) : Prop := ∃ a b c h1 h2 h3, u = tenV a b c ∧ IntsO t.l a h1 ∧ IntsO t.d b h2 ∧ IntsO t.x c h3 ∧ Made h [h1, h2, h3]
theorem ct_l_toTensor (t : Ten) (a b c : Value) (w : World) (r1 : IntsR t.l a (hp w)) (r2 : IntsR t.d b (hp w)) (r3 : IntsR t.x c (hp w)) (hs : tenSize t ≤ 1048576) :
    Calls Tryz.prog 34 [tenV a b c].toArray w (Ret w emp (TenO t)) := by
  unfold tenSize at hs
  refine calls_in Tryz.func34 rfl Tryz.ntmps34 rfl (Sat.start w) (wp_sc (wp_sq ?_)); refine sq_x rfl (x_box rfl rfl) rfl ?_; rintro _ _ ⟨b1, rfl, rfl⟩; refine sq_x rfl (x_alloc ty_39 rfl) rfl ?_; rintro _ _ ⟨b2, rfl, rfl⟩; refine sq_end (qs_n (wp_sc (wp_sq ?_))); refine sq_x rfl (x_alloc ty_39 rfl) rfl ?_; rintro _ _ ⟨b3, rfl, rfl⟩; refine sq_end (qs_n (wp_sc (wp_sq (sq_v rfl (v_fieldAddr fd_58_0 ty_25 (by decide) rfl) rfl (sq_v rfl (v_loadB 2 ty_25 rfl rfl rfl) rfl ?_))))); refine sq_x rfl (x_call rfl en_19 (fun w s => ct_l_toIntS _ _ w (r1.mono (s.get 3 rfl)) (by omega))) rfl ?_; rintro v6 h6 r6; refine sq_v rfl (v_fieldAddr fd_39_0 ty_25 (by decide) rfl) rfl ?_; refine sq_m 1 rfl rfl (m_store1 1 ty_25 rfl rfl r6.toR.sl.one rfl (Nat.le_of_ble_eq_true rfl)) rfl ?_; rintro _ _ ⟨rfl, rfl⟩; refine sq_end (qs_n (wp_sc (wp_sq (sq_v rfl (v_fieldAddr fd_58_1 ty_25 (by decide) rfl) rfl (sq_v rfl (v_loadB 3 ty_25 rfl rfl rfl) rfl ?_))))); refine sq_x rfl (x_call rfl en_19 (fun w s => ct_l_toIntS _ _ w (r2.mono (s.get 4 rfl)) (by omega))) rfl ?_; rintro v10 h10 r10; refine sq_v rfl (v_fieldAddr fd_39_1 ty_25 (by decide) rfl) rfl ?_; refine sq_m 2 rfl rfl (m_store1 2 ty_25 rfl rfl r10.toR.sl.one rfl (Nat.le_of_ble_eq_true rfl)) rfl ?_; rintro _ _ ⟨rfl, rfl⟩; refine sq_end (qs_n (wp_sc (wp_sq (sq_v rfl (v_fieldAddr fd_58_2 ty_25 (by decide) rfl) rfl (sq_v rfl (v_loadB 4 ty_25 rfl rfl rfl) rfl ?_))))); refine sq_x rfl (x_call rfl en_19 (fun w s => ct_l_toIntS _ _ w (r3.mono (s.get 5 rfl)) (by omega))) rfl ?_; rintro v14 h14 r14; refine sq_v rfl (v_fieldAddr fd_39_2 ty_25 (by decide) rfl) rfl ?_; refine sq_m 3 rfl rfl (m_store1 3 ty_25 rfl rfl r14.toR.sl.one rfl (Nat.le_of_ble_eq_true rfl)) rfl ?_; rintro _ _ ⟨rfl, rfl⟩; refine sq_end (qs_n (wp_sc (wp_sq (sq_v rfl (v_loadNB 3 ty_39 rfl rfl rfl rfl) rfl ?_)))); refine sq_m 4 rfl rfl (m_store 4 ty_39 rfl rfl rfl rfl (by simp [r6.toR.sl.one, r10.toR.sl.one, r14.toR.sl.one]) rfl (Nat.le_of_ble_eq_true rfl)) rfl ?_; rintro _ _ ⟨rfl, rfl⟩; refine sq_end (qs_n (wp_rt ?_)); refine qs_close [box b2 _ _, hp w] [h6, h10, h14] (fun _ s => s.pick [4, 6, 2, 1, 0] (by decide) rfl) (fun md => ?_); exact qs_retc 1 rfl ty_39 rfl rfl rfl (fin_t 0 (i := 2) rfl rfl rfl ⟨v6, v10, v14, h6, h10, h14, rfl, r6, r10, r14, md⟩)
def nil3 : List Value := [.slice none 0 0, .slice none 0 0, .slice none 0 0]
theorem row_step {vs : List Value} {i m : Nat} {a b c : Value} (hv : vs.length = i * 3) : (vs ++ (List.replicate (m + 1) nil3).flatten).take (i * 3) ++ [a, b, c] ++ (vs ++ (List.replicate (m + 1) nil3).flatten).drop (i * 3 + 3) = (vs ++ [a, b, c]) ++ (List.replicate m nil3).flatten := by
  rw [← hv, List.take_left, List.drop_append, List.drop_of_length_le (by omega), List.nil_append, List.replicate_succ, List.flatten_cons]; have : vs.length + 3 - vs.length = nil3.length := by simp [nil3]
  rw [this, List.drop_left]
theorem ct_l_toTensorS (ts : List Ten) (v : Value) (w : World) (r : TensR ts v (hp w)) (hs : ts.length + tensSize ts ≤ 1048576) :
    Calls Tryz.prog 59 [v].toArray w (Ret w emp (TensO ts)) := by
  have hx := r.le; have hn := tensSize_nn ts; obtain ⟨cells, rr, hc⟩ := r.at; refine calls_in Tryz.func59 rfl Tryz.ntmps59 rfl (Sat.start w) (wp_sc (wp_sq (sq_v rfl (v_assign rfl) rfl (sq_end (qs_n (wp_sc (wp_sq (sq_v rfl (v_move rfl) rfl (sq_v rfl (v_len Tryz.underlying24 rfl r.sl) rfl ?_))))))))); refine sq_x rfl (x_make Tryz.underlying30 ty_39 rfl rfl rfl rfl (by omega) (by omega) (by omega)) rfl ?_; intro v7 h7 r7; refine sq_v rfl (v_assign rfl) rfl (sq_end (qs_n (wp_sc (wp_sc (wp_sq (sq_v rfl (v_assign rfl) rfl (sq_end (qs_n (wp_bl (wp_lp (fun s : Nat × PH × List Value × List PH => [(0, v), (3, v7), (4, num s.1)]) (fun s => s.2.1 :: hp w :: s.2.2.2) (fun s => s.1 ≤ ts.length ∧ RowO 39 (s.2.2.1 ++ (List.replicate (ts.length - s.1) nil3).flatten) ts.length 3 v7 s.2.1 ∧ OwnL (flat (ts.take s.1)) s.2.2.1 s.2.2.2) (fun s => ts.length - s.1) (0, h7, [], []) ⟨by omega, by simpa [nil3] using r7, OwnL.nil⟩ ⟨rfl, rfl, rfl, trivial⟩ (fun _ s => s) ?_)))))))))); rintro ⟨i, h0, vs, hs'⟩ ⟨hi, r0, ow⟩; dsimp only at hi r0 ow ⊢; have hvl : vs.length = i * 3 := by rw [ow.l1, flat_len, List.length_take, Nat.min_eq_left hi]
  refine wp_sc (wp_sc (wp_sq (sq_v rfl (v_move rfl) rfl (sq_v rfl (v_move rfl) rfl (sq_v rfl (v_len Tryz.underlying24 rfl r.sl) rfl (sq_v rfl (v_lss rfl rfl) rfl (sq_end (qs_n ?_)))))))); refine wp_cd rfl (fun c11 => ?_) (fun c11 => ?_)
  · refine wp_sk (qs_n (wp_sc (wp_bl (wp_sq (sq_v rfl (v_move rfl) rfl (sq_v rfl (v_move rfl) rfl (sq_v rfl (v_move rfl) rfl (sq_v rfl (v_move rfl) rfl ?_)))))))); obtain ⟨t, a, b, c, ht, hcs, r1, r2, r3⟩ := hc i (by omega); have hst := tensSize_step ht; have htk := tensSize_take ts (i + 1); have hnd := tensSize_nn (ts.drop (i + 1)); have hnn := tensSize_nn (ts.take i); refine sq_v rfl (v_indexAddr Tryz.underlying24 ty_58 rfl rfl rr (by decide) (by omega) (by omega)) rfl ?_; refine sq_v rfl (v_loadNE 1 ty_58 rfl rfl rr (by have := rr.1; omega) rfl hcs) rfl ?_; refine sq_x rfl (x_call rfl en_34 (fun w s => ct_l_toTensor t _ _ _ w (r1.mono (s.get 1 rfl)) (r2.mono (s.get 1 rfl)) (r3.mono (s.get 1 rfl)) (by omega))) rfl ?_; rintro _ h20 ⟨a', b', c', h1, h2, h3, rfl, o1, o2, o3, md⟩; refine sq_v rfl (v_indexAddr Tryz.underlying30 ty_39 rfl rfl r0.toR (by decide) (by omega) (by omega)) rfl ?_; refine sq_m 1 rfl rfl (m_storeE 1 ty_39 rfl rfl (us := [a', b', c']) rfl rfl (by simp [o1.toR.sl.one, o2.toR.sl.one, o3.toR.sl.one]) rfl r0 (by decide) (by have := r0.1; simp only [Int.toNat_natCast]; omega)) rfl ?_; rintro _ h8 ⟨rfl, r8⟩; refine sq_end (qs_bn (qs_n (wp_sq (sq_v rfl (v_move rfl) rfl ?_)))); refine sq_v rfl (v_add rfl rfl ((by unfold I64; omega))) rfl ?_; refine sq_v rfl (v_assign rfl) rfl (sq_end ?_); obtain ⟨m, hm⟩ : ∃ m, ts.length - i = m + 1 := ⟨ts.length - i - 1, by omega⟩
    have hm' : ts.length - (i + 1) = m := by omega
    simp only [Int.toNat_natCast] at r8; rw [hm, row_step hvl] at r8; exact qs_bk (i + 1, h8, vs ++ [a', b', c'], hs' ++ [h1, h2, h3]) ⟨by simp only; omega, by simp only [hm']; exact r8, by simp only; rw [take_ten ht, flat_append]; exact ow.append (OwnL.three o1 o2 o3)⟩ (by simp only; omega) ⟨rfl, rfl, rfl, trivial⟩ (fun _ s => Sat.open md s)
  · refine wp_ex (qs_x (qs_x (qs_bx (qs_n (wp_sc (wp_sq (sq_v rfl (v_move rfl) rfl (sq_v rfl (v_assign rfl) rfl (sq_end (qs_n (wp_rt ?_))))))))))); have e : i = ts.length := by omega
    subst e; rw [Nat.sub_self, List.replicate_zero, List.flatten_nil, List.append_nil] at r0; rw [List.take_length] at ow; refine qs_close [hp w] (h0 :: hs') (fun _ s => Sat.pickT (A := [h0, hp w]) (A' := [hp w, h0]) s [1, 0] (by decide) rfl) (fun md => ?_); exact qs_ret1 rfl rfl (fin_t 0 (i := 1) rfl rfl rfl ⟨vs, h0, hs', r0, ow, md⟩)
theorem ct_l_toNetwork (k p n : Int) (ts : List Ten) (op : List Int) (vt vo : Value) (w : World) (r : TensR ts vt (hp w)) (r' : IntsR op vo (hp w)) (hs : ts.length + tensSize ts + op.length ≤ 1048576) :
    Calls Tryz.prog 13 [netV k p n vt vo].toArray w (Ret w emp (fun u h => ∃ vt' vo', u = netV k p n vt' vo' ∧ NetO ts op vt' vo' h)) := by
  have hn := tensSize_nn ts; refine calls_in Tryz.func13 rfl Tryz.ntmps13 rfl (Sat.start w) (wp_sc (wp_sq ?_)); refine sq_x rfl (x_box rfl rfl) rfl ?_; rintro _ _ ⟨b1, rfl, rfl⟩; refine sq_x rfl (x_alloc ty_32 rfl) rfl ?_; rintro _ _ ⟨b2, rfl, rfl⟩; refine sq_end (qs_n (wp_sc (wp_sq ?_))); refine sq_x rfl (x_alloc ty_32 rfl) rfl ?_; rintro _ _ ⟨b3, rfl, rfl⟩; refine sq_end (qs_n (wp_sc (wp_sq (sq_v rfl (v_fieldAddr fd_27_0 ty_23 (by decide) rfl) rfl (sq_v rfl (v_loadNB 2 ty_23 rfl rfl rfl rfl) rfl (sq_u rfl (x_callv rfl en_58 (fun w s => ct_l_toRing _ _ _ w)) rfl (sq_v rfl (v_fieldAddr fd_32_0 ty_29 (by decide) rfl) rfl ?_))))))); refine sq_m 0 rfl rfl (m_store 0 ty_29 rfl rfl rfl rfl (by simp [Value.oneCell']) rfl (Nat.le_of_ble_eq_true rfl)) rfl ?_; rintro _ _ ⟨rfl, rfl⟩; refine sq_end (qs_n (wp_sc (wp_sq (sq_v rfl (v_fieldAddr fd_27_1 ty_24 (by decide) rfl) rfl (sq_v rfl (v_loadB 2 ty_24 rfl rfl rfl) rfl ?_))))); refine sq_x rfl (x_call rfl en_59 (fun w s => ct_l_toTensorS _ _ w (r.mono (s.get 3 rfl)) (by omega))) rfl ?_; rintro v10 h10 r10; refine sq_v rfl (v_fieldAddr fd_32_1 ty_30 (by decide) rfl) rfl ?_; refine sq_m 1 rfl rfl (m_store1 1 ty_30 rfl rfl r10.toR.sl.one rfl (Nat.le_of_ble_eq_true rfl)) rfl ?_; rintro _ _ ⟨rfl, rfl⟩; refine sq_end (qs_n (wp_sc (wp_sq (sq_v rfl (v_fieldAddr fd_27_2 ty_25 (by decide) rfl) rfl (sq_v rfl (v_loadB 3 ty_25 rfl rfl rfl) rfl ?_))))); refine sq_x rfl (x_call rfl en_19 (fun w s => ct_l_toIntS _ _ w (r'.mono (s.get 4 rfl)) (by omega))) rfl ?_; rintro v14 h14 r14; refine sq_v rfl (v_fieldAddr fd_32_2 ty_25 (by decide) rfl) rfl ?_; refine sq_m 2 rfl rfl (m_store1 2 ty_25 rfl rfl r14.toR.sl.one rfl (Nat.le_of_ble_eq_true rfl)) rfl ?_; rintro _ _ ⟨rfl, rfl⟩; refine sq_end (qs_n (wp_sc (wp_sq (sq_v rfl (v_loadNB 2 ty_32 rfl rfl rfl rfl) rfl ?_)))); refine sq_m 3 rfl rfl (m_store 3 ty_32 rfl rfl rfl rfl (by simp [one_int, r10.toR.sl.one, r14.toR.sl.one]) rfl (Nat.le_of_ble_eq_true rfl)) rfl ?_; rintro _ _ ⟨rfl, rfl⟩; refine sq_end (qs_n (wp_rt ?_)); obtain ⟨vs, h0, hs', r0, ow, md0⟩ := id r10; refine qs_close [box b2 _ _, hp w] (h0 :: h14 :: hs') (fun _ s => Sat.pickT (A := [h14, box b2 _ _, hp w, h0]) (A' := [box b2 _ _, hp w, h0, h14]) (Sat.open (A := [h14, box b2 _ _, hp w]) md0 (s.pick [1, 0, 3, 5] (by decide) rfl)) [1, 2, 3, 0] (by decide) rfl) (fun md => ?_); exact qs_retc 1 rfl ty_32 rfl rfl rfl (fin_t 0 (i := 2) rfl rfl rfl ⟨_, _, rfl, vs, h0, h14, hs', r0, r14, ow, md⟩)
end Go.Proofs.YtmddmahaikineaaGreat
namespace Go.Proofs.YtmddmahaikineaaGreat
set_option maxRecDepth 100000
open Go.RowKit

/-- From k on, each number of the lists is one more than the number before it; the next would be k'. -/
def HeldL : Int → List (List Int) → Int → Prop
  | k, [], k' => k = k'
  | k, xs :: r, k' => xs = iota k xs.length ∧ HeldL (k + xs.length) r k'
theorem HeldL.le : ∀ {xss : List (List Int)} {k k' : Int}, HeldL k xss k' → k ≤ k'
  | [], k, k', h => by have : k = k' := h; omega
  | xs :: r, k, k', h => by have := HeldL.le h.2; omega
theorem HeldL.append : ∀ {xss yss : List (List Int)} {k k1 k' : Int}, HeldL k xss k1 → HeldL k1 yss k' → HeldL k (xss ++ yss) k'
  | [], yss, k, k1, k', h, g => by have : k = k1 := h; subst this; exact g
  | xs :: r, yss, k, k1, k', h, g => ⟨h.1, HeldL.append h.2 g⟩
theorem iota_held (k : Int) (m : Nat) : iota k m = iota k (iota k m).length := by rw [iota_len]
theorem held_three (q : Int) (m1 m2 m3 : Nat) {e : Int} (he : e = q + m1 + m2 + m3) : HeldL q [iota q m1, iota (q + m1) m2, iota (q + m1 + m2) m3] e := by
  refine ⟨iota_held _ _, by simp only [iota_len], by simp only [iota_len], ?_⟩; simp only [iota_len]
  show _ = _
  exact he.symm
theorem flat_cons (t : Ten) (r : List Ten) : flat (t :: r) = t.l :: t.d :: t.x :: flat r := rfl
theorem flat_set3 {A B : List Ten} {t : Ten} {i : Nat} (hA : A.length = i) (l d x : List Int) : (((flat (A ++ t :: B)).set (i * 3) l).set (i * 3 + 1) d).set (i * 3 + 2) x = flat (A ++ ⟨l, d, x⟩ :: B) := by
  have hl : (flat A).length = i * 3 := by rw [flat_len, hA]
  rw [flat_append, flat_append, flat_cons, flat_cons, List.set_append_right _ _ (by omega), List.set_append_right _ _ (by omega), List.set_append_right _ _ (by omega), hl]; have e1 : i * 3 - i * 3 = 0 := by omega
  have e2 : i * 3 + 1 - i * 3 = 1 := by omega
  have e3 : i * 3 + 2 - i * 3 = 2 := by omega
  rw [e1, e2, e3]
  rfl
theorem ct_l_markTensorS (ts : List Ten) (v : Value) (k : Int) (w : World) (h : PH) (hle : PLe h (hp w)) (r : TensO ts v h) (hk : 0 ≤ k ∧ k + tensSize ts ≤ 4611686018427387904) :
    Calls Tryz.prog 68 [v, num k].toArray w (Ret w h (fun u h' => u = num (k + tensSize ts) ∧ ∃ ts', TensO ts' v h' ∧ HeldL k (flat ts') (k + tensSize ts))) := by
  obtain ⟨vs, h0, hs, r0, ow, md⟩ := r; have hx : (ts.length : Int) ≤ 9223372036854775807 := by obtain ⟨_, _, _, _, ⟨h, _⟩, _⟩ := r0.toR; unfold maxLen at h; omega
  refine calls_in Tryz.func68 rfl Tryz.ntmps68 rfl (Sat.start2 hle) (wp_sc (wp_sq (sq_v rfl (v_assign rfl) rfl (sq_end (qs_n (wp_sc (wp_sc (wp_sq (sq_v rfl (v_assign rfl) rfl (sq_end (qs_n (wp_bl ?_)))))))))))); refine wp_lp (fun s : Nat × List Ten × List PH => [(0, v), (1, num (k + tensSize (ts.take s.1))), (5, num s.1)]) (fun s => restP w h :: h0 :: s.2.2) (fun s => s.1 ≤ ts.length ∧ s.2.1.length = s.1 ∧ OwnL (flat (s.2.1 ++ ts.drop s.1)) vs s.2.2 ∧ HeldL k (flat s.2.1) (k + tensSize (ts.take s.1))) (fun s => ts.length - s.1) (0, [], hs) ⟨by omega, rfl, ow, by simp [flat, HeldL, tensSize]⟩ ⟨rfl, by show _ = some (num (k + 0)); rw [Int.add_zero]; rfl, rfl, trivial⟩ (fun _ s => Sat.open (A := [restP w h]) md s) ?_; rintro ⟨i, A, hs'⟩ ⟨hi, hA, ow', hh⟩; dsimp only at hi hA ow' hh ⊢; refine wp_sc (wp_sc (wp_sq (sq_v rfl (v_move rfl) rfl (sq_v rfl (v_move rfl) rfl (sq_v rfl (v_len Tryz.underlying30 rfl r0.toR.sl) rfl (sq_v rfl (v_lss rfl rfl) rfl (sq_end (qs_n ?_)))))))); refine wp_cd rfl (fun c9 => ?_) (fun c9 => ?_)
  · refine wp_sk (qs_n (wp_sc (wp_bl (wp_sc (wp_sq (sq_v rfl (v_move rfl) rfl (sq_v rfl (v_move rfl) rfl ?_))))))); obtain ⟨t, ht⟩ : ∃ t, ts[i]? = some t := ⟨_, List.getElem?_eq_getElem (by omega)⟩; rw [drop_at ht] at ow'; obtain ⟨f1, f2, f3⟩ := tens_get (ts := A ++ t :: ts.drop (i + 1)) (i := i) (t := t) (by rw [← hA]; simp); obtain ⟨a, h1, e1, g1, o1⟩ := ow'.own _ _ f1; obtain ⟨b, h2, e2, g2, o2⟩ := ow'.own _ _ f2; obtain ⟨c, h3, e3, g3, o3⟩ := ow'.own _ _ f3; have hst := tensSize_step ht; have htk := tensSize_take ts (i + 1); have hnd := tensSize_nn (ts.drop (i + 1)); have hnn := tensSize_nn (ts.take i); have hts : tenSize t = t.l.length + t.d.length + t.x.length := rfl; have hvl := r0.1; refine sq_v rfl (v_indexAddr Tryz.underlying30 ty_39 rfl rfl r0.toR (by decide) (by omega) (by omega)) rfl ?_; refine sq_v rfl (v_fieldAddrE fd_39_0 ty_25 (by decide) rfl r0.toR (by simp only [Int.toNat_natCast]; omega)) rfl ?_; refine sq_v rfl (v_loadE 1 ty_25 rfl rfl r0.toR e1) rfl (sq_v rfl (v_move rfl) rfl ?_); refine sq_mT (A := [restP w h, h0]) (i * 3) (2 + i * 3) rfl rfl g1 (fun hp' => x_call rfl en_23 (fun w' s => ct_l_markIntS _ _ _ w' _ (s.get _ hp') o1 (by omega))) rfl ?_; rintro _ h18 ⟨rfl, o18⟩; refine sq_v rfl (v_assign rfl) rfl (sq_end (qs_n (wp_sc (wp_sq (sq_v rfl (v_move rfl) rfl (sq_v rfl (v_move rfl) rfl (sq_v rfl (v_indexAddr Tryz.underlying30 ty_39 rfl rfl r0.toR (by decide) (by omega) (by omega)) rfl ?_))))))); refine sq_v rfl (v_fieldAddrE fd_39_1 ty_25 (by decide) rfl r0.toR (by simp only [Int.toNat_natCast]; omega)) rfl ?_; refine sq_v rfl (v_loadE 1 ty_25 rfl rfl r0.toR e2) rfl (sq_v rfl (v_move rfl) rfl ?_); refine sq_mT (A := [restP w h, h0]) (i * 3 + 1) (2 + (i * 3 + 1)) rfl rfl (by rw [List.getElem?_set_ne (by omega)]; exact g2) (fun hp' => x_call rfl en_23 (fun w' s => ct_l_markIntS _ _ _ w' _ (s.get _ hp') o2 (by omega))) rfl ?_; rintro _ h25 ⟨rfl, o25⟩; refine sq_v rfl (v_assign rfl) rfl (sq_end (qs_n (wp_sq (sq_v rfl (v_move rfl) rfl (sq_v rfl (v_move rfl) rfl (sq_v rfl (v_indexAddr Tryz.underlying30 ty_39 rfl rfl r0.toR (by decide) (by omega) (by omega)) rfl ?_)))))); refine sq_v rfl (v_fieldAddrE fd_39_2 ty_25 (by decide) rfl r0.toR (by simp only [Int.toNat_natCast]; omega)) rfl ?_; refine sq_v rfl (v_loadE 1 ty_25 rfl rfl r0.toR e3) rfl (sq_v rfl (v_move rfl) rfl ?_); refine sq_mT (A := [restP w h, h0]) (i * 3 + 2) (2 + (i * 3 + 2)) rfl rfl (by rw [List.getElem?_set_ne (by omega), List.getElem?_set_ne (by omega)]; exact g3) (fun hp' => x_call rfl en_23 (fun w' s => ct_l_markIntS _ _ _ w' _ (s.get _ hp') o3 (by omega))) rfl ?_; rintro _ h32 ⟨rfl, o32⟩; refine sq_v rfl (v_assign rfl) rfl (sq_end (qs_bn (qs_n (wp_sq (sq_v rfl (v_move rfl) rfl ?_))))); refine sq_v rfl (v_add rfl rfl ((by unfold I64; omega))) rfl ?_; refine sq_v rfl (v_assign rfl) rfl (sq_end ?_); have ow3 := ((ow'.set e1 o18).set e2 o25).set e3 o32; rw [flat_set3 hA] at ow3; refine qs_bk (i + 1, A ++ [_], ((hs'.set (i * 3) h18).set (i * 3 + 1) h25).set (i * 3 + 2) h32) ⟨by simp only; omega, by simp [hA], by simp only; rw [List.append_assoc]; exact ow3, ?_⟩ (by simp only; omega) ⟨rfl, by rw [hst, hts, ← Int.add_assoc, ← Int.add_assoc, ← Int.add_assoc]; rfl, rfl, trivial⟩ (fun _ s => s)
    simp only
    rw [flat_append, hst, hts]; exact hh.append (held_three _ _ _ _ (by omega))
  · refine wp_ex (qs_x (qs_x (qs_bx (qs_n (wp_sc (wp_sq (sq_v rfl (v_move rfl) rfl (sq_v rfl (v_assign rfl) rfl (sq_end (qs_n (wp_rt ?_))))))))))); have e : i = ts.length := by omega
    subst e; rw [List.drop_length, List.append_nil] at ow'; rw [List.take_length] at hh; refine qs_close [restP w h] (h0 :: hs') (fun _ s => s) (fun md' => ?_); exact qs_ret1 rfl rfl (fin_m (i := 1) 0 rfl rfl rfl ⟨by rw [List.take_length], A, ⟨vs, h0, hs', by rw [hA]; exact r0, ow', md'⟩, hh⟩)
theorem ct_l_markNetwork (kd p n : Int) (ts : List Ten) (op : List Int) (vt vo : Value) (k : Int) (w : World) (h : PH) (hle : PLe h (hp w)) (r : NetO ts op vt vo h) (hk : 0 ≤ k ∧ k + tensSize ts + op.length ≤ 4611686018427387904) :
    Calls Tryz.prog 16 [netV kd p n vt vo, num k].toArray w (Ret w h (fun u h' => u = num (k + tensSize ts + op.length) ∧ ∃ ts' op', NetO ts' op' vt vo h' ∧ HeldL k (flat ts' ++ [op']) (k + tensSize ts + op.length))) := by
  obtain ⟨vs, h0, ho, hs, r0, r1, ow, md⟩ := r; have hnn := tensSize_nn ts; have md0 : Made (joinP (h0 :: hs)) (h0 :: hs) := Made.join ⟨fun x hx => md.sep.1 x (by simp [hx]), md.sep.2.2⟩; have hent : Sat w [joinP (h0 :: hs), ho, restP w h] w := by
    have s1 := Sat.open (A := [restP w h]) md (Sat.start2 hle); have s2 := Sat.pickT (A := [restP w h, h0, ho]) (A' := [ho, restP w h, h0]) s1 [2, 0, 1] (by decide) rfl; exact (Sat.close (A := [ho, restP w h]) (l := h0 :: hs) s2).1
  refine calls_in Tryz.func16 rfl Tryz.ntmps16 rfl hent (wp_sc (wp_sq ?_)); refine sq_x rfl (x_box rfl rfl) rfl ?_; rintro _ _ ⟨b2, rfl, rfl⟩; refine sq_v rfl (v_assign rfl) rfl (sq_end (qs_n (wp_sc (wp_sq (sq_v rfl (v_fieldAddr fd_32_1 ty_30 (by decide) rfl) rfl (sq_v rfl (v_loadB 0 ty_30 rfl rfl rfl) rfl (sq_v rfl (v_move rfl) rfl ?_))))))); refine sq_m 1 rfl rfl (x_call rfl en_68 (fun w s => ct_l_markTensorS ts _ _ w _ (s.get 1 rfl) ⟨vs, h0, hs, r0, ow, md0⟩ (by omega))) rfl ?_; rintro _ h8 ⟨rfl, ts', r8, hl8⟩; refine sq_v rfl (v_assign rfl) rfl (sq_end (qs_n (wp_sc (wp_sq (sq_v rfl (v_fieldAddr fd_32_2 ty_25 (by decide) rfl) rfl (sq_v rfl (v_loadB 0 ty_25 rfl rfl rfl) rfl (sq_v rfl (v_move rfl) rfl ?_))))))); refine sq_m 2 rfl rfl (x_call rfl en_23 (fun w s => ct_l_markIntS op _ _ w _ (s.get 2 rfl) r1 (by omega))) rfl ?_; rintro _ h12 ⟨rfl, r12⟩; refine sq_v rfl (v_assign rfl) rfl (sq_end (qs_n (wp_sc (wp_sq (sq_v rfl (v_move rfl) rfl (sq_v rfl (v_assign rfl) rfl (sq_end (qs_n (wp_rt ?_))))))))); obtain ⟨vs', g0, gs, q0, ow8, md8⟩ := id r8; refine qs_close [box b2 _ _, restP w h] (g0 :: h12 :: gs) (fun _ s => Sat.pickT (A := [box b2 _ _, h12, restP w h, g0]) (A' := [box b2 _ _, restP w h, g0, h12]) (Sat.open (A := [box b2 _ _, h12, restP w h]) md8 (s.pick [1, 0, 2, 3] (by decide) rfl)) [0, 2, 3, 1] (by decide) rfl) (fun md' => ?_); exact qs_ret1 rfl rfl (fin_m (i := 2) 0 rfl rfl rfl ⟨rfl, ts', _, ⟨vs', g0, h12, gs, q0, r12, ow8, md'⟩, hl8.append ⟨iota_held _ _, by rw [iota_len]; exact rfl⟩⟩)
theorem HeldL.part : ∀ {xss yss : List (List Int)} {k k' : Int}, HeldL k (xss ++ yss) k' → ∃ k1, HeldL k xss k1 ∧ HeldL k1 yss k'
  | [], yss, k, k', h => ⟨k, rfl, h⟩
  | xs :: r, yss, k, k', h => by
    obtain ⟨k1, h1, h2⟩ := HeldL.part (xss := r) (yss := yss) h.2; exact ⟨k1, ⟨h.1, h1⟩, h2⟩
end Go.Proofs.YtmddmahaikineaaGreat
namespace Go.Proofs.YtmddmahaikineaaGreat
set_option maxRecDepth 100000
open Go.RowKit
theorem sub_get {cs us : List Value} {k n : Nat} (h : (cs.drop k).take n = us) {j : Nat} {u : Value} (hj : us[j]? = some u) : cs[k + j]? = some u := by
  rw [← h, List.getElem?_take] at hj
  split at hj
  · rwa [List.getElem?_drop] at hj
  · cases hj
theorem eltP_sub {cs : List Value} {m : Nat} {v : Value} {h : PH} (r : RowR cs m 1 v h) {lo hi k : Nat} (h1 : lo + k < hi) (h2 : hi ≤ m) : eltP (subV v lo hi 1) k = eltP v (lo + k) := by
  obtain ⟨hl, a, c, rfl, ⟨_, h3⟩, h4⟩ := r; obtain ⟨b, o, rfl, _⟩ := h4 (by omega); have e : ¬ c = lo := by omega
  simp [subV, sliced, e, eltP, add_at, Nat.add_assoc]
section
variable {P : Program} {n : Nat} {w0 : World} {K : Env} {HS : List PH} {d : Option Tmp} {ty : TypeId} {ps : String} {af : Array Edge} {g : Option (Nat × Bool)}
/-- A store of an integer into a part of a slice of the call's own. -/
theorem m_storeSub {t : TypeId} {x y : Operand} {z : Value} {bytes : Nat} {agg : Bool} {lo hi k : Nat} {sv : Value} {a : Int} {xs : List Int} {h : PH} (p : Nat) (ht : TyF P t z 1 bytes agg) (hx : ev K x = some (eltP (subV sv lo hi 1) k)) (hy : ev K y = some (num a))
    (hp' : HS[p]? = some h) (r : IntsO xs sv h) (h1 : lo + k < hi) (h2 : hi ≤ xs.length) :
    StepX P n w0 K HS ⟨d, .store t x y, ty, ps, af, g⟩ h (fun v' h' => v' = undef ∧ IntsO (xs.set (lo + k) a) sv h') :=
  m_storeI p ht (by rw [hx, eltP_sub r.toR h1 h2]) hy hp' r (by omega)
/-- 'clear(s)' on a slice of integers of the call's own. -/
theorem m_clearI {t : TypeId} {x : Operand} {xs : List Int} {bytes : Nat} {v : Value} {h : PH} (p : Nat) (ht : P.underlying t = some (.slice 3)) (he : TyF P 3 (num 0) 1 bytes false) (hx : ev K x = some v) (hp' : HS[p]? = some h) (r : IntsO xs v h) :
    StepX P n w0 K HS ⟨d, .call ⟨.builtin .clear, #[x], #[t]⟩, ty, ps, af, g⟩ h (fun _ h' => IntsO (List.replicate xs.length 0) v h') :=
  stepx_run fun a w e s => by
    obtain ⟨i, hi, hz', hsz, hb⟩ := he.get; have hle := s.get p hp'; obtain ⟨hcl, hr⟩ := r; have ex : ∀ v' w', (Builtin.clear_ #[t] ty #[v]).run P w = .ok v' w' → (execOp a.eval ⟨d, .call ⟨.builtin .clear, #[x], #[t]⟩, ty, ps, af, g⟩).run P w = .ok (.value v') w' := fun v' w' hr => by
      simp [execOp, resolve, invoke, builtin, e.ev hx, hr]
    rcases hr with ⟨rfl, h0, rfl⟩ | ⟨gb, cap, cur, rfl, rfl, h3, h4, h5, h6⟩
    · have hx0 : xs = [] := List.eq_nil_of_length_eq_zero (by simpa using h0); subst hx0; exact ⟨.tuple #[], w, emp, ex _ _ (by simp [Builtin.clear_, run_underlying ht]), Upd.refl w, IntsO.nil⟩
    · by_cases h0 : xs.length = 0
      · have hx0 : xs = [] := List.eq_nil_of_length_eq_zero h0; subst hx0; exact ⟨.tuple #[], w, _, ex _ _ (by simp [Builtin.clear_, run_underlying ht]), ⟨rfl, rfl, rfl, Nat.le_refl _, fun _ _ _ => rfl, hle, fun j o ho => .inl (by rw [ho]; simp)⟩, rfl, .inr ⟨gb, cap, cur, rfl, rfl, h3, h4, h5, h6⟩⟩
      · have hgb : w.heap[gb]? = some (.cells cur.toArray 3 (0, 0)) := hle gb _ (by simp [box]); have hz : (Builtin.zeroCells (num 0).cells xs.length).toList = ints (List.replicate xs.length 0) := by
          have := madeCells_toList [num 0] xs.length; have e1 : (List.replicate xs.length [num 0]).flatten = ints (List.replicate xs.length 0) := by
            rw [List.flatten_replicate_singleton]; simp [ints]
          rw [← e1, ← this]
          rfl
        have hst := run_storeCells_at P gb 0 3 (ints (List.replicate xs.length 0)) 0 cur.toArray w hgb (by simp [ints]; omega) (ints_one _); simp only [Nat.add_zero] at hst; refine ⟨.tuple #[], w.setRow gb (cur.take 0 ++ ints (List.replicate xs.length 0) ++ cur.drop (0 + (ints (List.replicate xs.length 0)).length)).toArray, _, ex _ _ ?_, upd_setRow hle _, by simp [ints], .inr ⟨gb, cap, _, by rw [List.length_replicate], rfl, by simpa using h3, h4, ?_, ?_⟩⟩
        · rw [show Builtin.clear_ #[t] ty #[.slice (some ⟨gb, 0, none⟩) xs.length cap] = (do
              match ← underlying t, (Value.slice (some ⟨gb, 0, none⟩) xs.length cap) with
              | _, .map none | _, .slice none _ _ | _, .slice _ 0 _ => pure ()
              | _, .map (some r) =>
                let .map _ clock ← getObj r | stuck "clear: map expected"
                setObj r (.map #[] clock)
              | .slice elem, .slice (some a) n _ => storeCells a (Builtin.zeroCells (← zeroValue elem).cells n).toList
              | _, _ => stuck "clear: map or slice expected"
              pure (.tuple #[])) from rfl]
          obtain ⟨m, hm⟩ : ∃ m, xs.length = m + 1 := ⟨xs.length - 1, by omega⟩
          rw [hm] at hz hst ⊢; simp only [Sem.run_bind, run_underlying ht, Result.andThen_ok, run_zero he, hz, hst, Sem.run_pure]
        · simp only [ints_length, List.length_replicate, List.length_append, List.length_take, List.length_drop]; omega
        · simp only [ints_length, List.length_replicate, Nat.mul_one, List.take_zero, List.nil_append]; rw [List.take_append_of_le_length (by simp [ints])]; exact List.take_of_length_le (by simp [ints])
end
theorem ksub {K : Env} {t : Nat} {a b : Int} (h : K.lookup t = some (num a)) (e : a = b) : K.lookup t = some (num b) := e ▸ h
/-- A part beside another. -/
theorem Sat.getR {w0 w : World} {HS : List PH} (s : Sat w0 HS w) (i j : Nat) {h q : PH} (hi : HS[i]? = some h) (hj : HS[j]? = some q) (hne : decide (i ≠ j) = true) : PLe q (restP w h) := fun k o e => by
  have h1 := s.get j hj k o e
  rcases sepL_get s.sep hi hj (of_decide_eq_true hne) k with h2 | h2
  · simp only [restP, h2]; exact h1
  · rw [h2] at e; cases e
def bools (xs : List Bool) : List Value := xs.map Value.bool
theorem bools_length (xs : List Bool) : (bools xs).length = xs.length := by simp [bools]
theorem bools_get {xs : List Bool} {k : Nat} (h : k < xs.length) : (bools xs)[k]? = some (.bool (xs.getD k false)) := by
  simp [bools, List.getD, h]
theorem bools_one (xs : List Bool) : ∀ a ∈ bools xs, a.oneCell' = true := by
  intro a ha; simp only [bools, List.mem_map] at ha; obtain ⟨x, _, rfl⟩ := ha
  rfl
theorem bools_append (xs ys : List Bool) : bools (xs ++ ys) = bools xs ++ bools ys := by simp [bools]
theorem bools_set (xs : List Bool) (k : Nat) (x : Bool) : (bools xs).set k (.bool x) = bools (xs.set k x) := by simp [bools, List.map_set]
def BoolsR (xs : List Bool) (v : Value) (h : PH) : Prop := RowR (bools xs) xs.length 1 v h
def BoolsO (xs : List Bool) (v : Value) (h : PH) : Prop := RowO 4 (bools xs) xs.length 1 v h
theorem BoolsR.mono {xs : List Bool} {v : Value} {h h' : PH} (r : BoolsR xs v h) (l : PLe h h') : BoolsR xs v h' := RowR.mono r l
theorem BoolsO.toR {xs : List Bool} {v : Value} {h : PH} (r : BoolsO xs v h) : BoolsR xs v h := RowO.toR r
theorem BoolsR.sl {xs : List Bool} {v : Value} {h : PH} (r : BoolsR xs v h) : SlL v xs.length := RowR.sl r
theorem BoolsR.le {xs : List Bool} {v : Value} {h : PH} (r : BoolsR xs v h) : (xs.length : Int) ≤ 9223372036854775807 := by
  obtain ⟨_, a, c, _, ⟨h, _⟩, _⟩ := r
  unfold maxLen at h
  omega
theorem BoolsO.nil : BoolsO [] (.slice none 0 0) emp := ⟨rfl, .inl ⟨rfl, rfl, rfl⟩⟩
section
variable {P : Program} {n : Nat} {w0 : World} {K : Env} {HS : List PH} {d : Option Tmp} {ty : TypeId} {ps : String} {af : Array Edge} {g : Option (Nat × Bool)}
theorem v_idxB {t e' : TypeId} {x ix : Operand} {z : Value} {bytes : Nat} {agg : Bool} {v : Value} {k : IntKind} {i : Int} {xs : List Bool} {h : PH} (ht : P.underlying t = some (.slice e')) (he : TyF P e' z 1 bytes agg)
    (hx : ev K x = some v) (hi : ev K ix = some (.int k i)) (r : BoolsR xs v h) (h0 : 0 ≤ i) (h1 : i < xs.length) : StepV P n w0 K HS ⟨d, .indexAddr t x ix, ty, ps, af, g⟩ (eltP v i.toNat) := by
  have := v_indexAddr (P := P) (n := n) (w0 := w0) (HS := HS) (d := d) (ty := ty) (ps := ps) (af := af) (g := g) ht he hx hi r (by decide) h0 h1
  rwa [Nat.mul_one] at this
theorem v_loadBl {t : TypeId} {z : Value} {bytes k : Nat} {x : Operand} {v : Value} {xs : List Bool} {h : PH} (p : Nat) (ht : TyF P t z 1 bytes false) (hx : ev K x = some (eltP v k)) (hp : HS[p]? = some h) (r : BoolsR xs v h) (hk : k < xs.length) :
    StepV P n w0 K HS ⟨d, .load t x, ty, ps, af, g⟩ (.bool (xs.getD k false)) := v_loadE p ht hx hp r (bools_get hk)
theorem m_storeBl {t : TypeId} {x y : Operand} {z : Value} {bytes : Nat} {agg : Bool} {k : Nat} {sv : Value} {a : Bool} {xs : List Bool} {h : PH} (p : Nat) (ht : TyF P t z 1 bytes agg) (hx : ev K x = some (eltP sv k)) (hy : ev K y = some (.bool a))
    (hp' : HS[p]? = some h) (r : BoolsO xs sv h) (hk : k < xs.length) :
    StepX P n w0 K HS ⟨d, .store t x y, ty, ps, af, g⟩ h (fun v' h' => v' = undef ∧ BoolsO (xs.set k a) sv h') := by
  have hk' : k < (bools xs).length := by rw [bools_length]; exact hk
  have := m_storeE (P := P) (n := n) (w0 := w0) (d := d) (ty := ty) (ps := ps) (af := af) (g := g) p ht hx hy (us := [.bool a]) rfl rfl (by simp [Value.oneCell']) hp' r (by decide) (by omega); rw [set_eq_parts hk', bools_set] at this
  unfold BoolsO
  rw [List.length_set]; exact this
theorem x_makeBl {t : TypeId} {x y : Operand} {bytes : Nat} {m : Int} (ht : P.underlying t = some (.slice 4)) (he : TyF P 4 (.bool false) 1 bytes false)
    (hx : ev K x = some (.int .i64 m)) (hy : ev K y = some (.int .i64 m)) (h0 : 0 ≤ m) (h1 : bytes * m ≤ 281474976710656) (h2 : m ≤ 9223372036854775807) :
    StepX P n w0 K HS ⟨d, .makeSlice t x y, ty, ps, af, g⟩ emp (BoolsO (List.replicate m.toNat false)) := by
  have := x_make (P := P) (n := n) (w0 := w0) (HS := HS) (d := d) (ty := ty) (ps := ps) (af := af) (g := g) ht he (zs := [.bool false]) rfl rfl hx hy h0 h1 h2; have e1 : (List.replicate m.toNat [Value.bool false]).flatten = bools (List.replicate m.toNat false) := by
    rw [List.flatten_replicate_singleton]; simp [bools]
  rw [e1] at this
  unfold BoolsO
  rw [List.length_replicate]; exact this
theorem x_make0I {t : TypeId} {x y : Operand} {bytes : Nat} {m : Int} (ht : P.underlying t = some (.slice 3)) (he : TyF P 3 (num 0) 1 bytes false)
    (hx : ev K x = some (.int .i64 0)) (hy : ev K y = some (.int .i64 m)) (h0 : 0 ≤ m) (h1 : bytes * m ≤ 281474976710656) (h2 : m ≤ 9223372036854775807) :
    StepX P n w0 K HS ⟨d, .makeSlice t x y, ty, ps, af, g⟩ emp (IntsO []) :=
  x_make0 ht he (zs := [num 0]) rfl rfl hx hy h0 h1 h2
theorem m_appBl {t : TypeId} {x y : Operand} {xs ys : List Bool} {bytes : Nat} {v u : Value} {h hy' : PH} (p q : Nat) (ht : P.underlying t = some (.slice 4)) (he : TyF P 4 (.bool false) 1 bytes false) (hb : bytes = 1)
    (hx : ev K x = some v) (hy : ev K y = some u) (hp' : HS[p]? = some h) (r : BoolsO xs v h) (hq : HS[q]? = some hy') (ru : BoolsR ys u hy')
    (h47 : xs.length + ys.length ≤ 17592186044416) :
    StepX P n w0 K HS ⟨d, .call ⟨.builtin .append, #[x, y], #[t, t]⟩, ty, ps, af, g⟩ h (BoolsO (xs ++ ys)) := by
  subst hb; have := m_append (P := P) (n := n) (w0 := w0) (HS := HS) (d := d) (ty := ty) (ps := ps) (af := af) (g := g) p q ht he (zs := [.bool false]) rfl rfl (by decide) hx hy hp' r hq ru (bools_one ys) (by unfold maxLen; omega) (by omega)
  unfold BoolsO
  rw [List.length_append, bools_append]; exact this
end
section
variable {P : Program} {n : Nat} {w0 : World} {K : Env} {HS : List PH} {Q : Exit → Act → World → Prop}
end
end Go.Proofs.YtmddmahaikineaaGreat
namespace Go.Proofs.YtmddmahaikineaaGreat
set_option maxRecDepth 100000
open Go.RowKit
section
variable {P : Program} {n : Nat} {w0 : World} {K : Env} {HS : List PH} {d : Option Tmp} {ty : TypeId} {ps : String} {af : Array Edge} {g : Option (Nat × Bool)}
theorem v_neqs {t t' : TypeId} {x y : Operand} {k : IntKind} {a : Int} (hx : ev K x = some (.int k a)) (hy : ev K y = some (.int k a)) : StepV P n w0 K HS ⟨d, .binOp .neq t x y t', ty, ps, af, g⟩ (.bool false) := by
  have := v_neq (P := P) (n := n) (w0 := w0) (HS := HS) (d := d) (t := t) (t' := t') (ty := ty) (ps := ps) (af := af) (g := g) hx hy
  simpa using this
theorem v_neqsb {t t' : TypeId} {x y : Operand} {a : Bool} (ht : P.underlying t = some .bool) (hx : ev K x = some (.bool a)) (hy : ev K y = some (.bool a)) : StepV P n w0 K HS ⟨d, .binOp .neq t x y t', ty, ps, af, g⟩ (.bool false) := by
  have := v_neqb (P := P) (n := n) (w0 := w0) (HS := HS) (d := d) (t := t) (t' := t') (ty := ty) (ps := ps) (af := af) (g := g) ht hx hy
  simpa using this
end
/-- A network that owns its parts, as a call returns it. -/
def NetT (k p n : Int) (ts : List Ten) (op : List Int) (u : Value) (h : PH) : Prop := ∃ vt vo, u = netV k p n vt vo ∧ NetO ts op vt vo h
theorem ct_L_toNetwork (k p n : Int) (ts : List Ten) (op : List Int) (vt vo : Value) (w : World) (r : TensR ts vt (hp w)) (r' : IntsR op vo (hp w)) (hs : ts.length + tensSize ts + op.length ≤ 1048576) :
    Calls Tryz.prog 13 [netV k p n vt vo].toArray w (Ret w emp (NetT k p n ts op)) := ct_l_toNetwork k p n ts op vt vo w r r' hs
/-- The marks of a network. -/
def NetM (vt vo : Value) (k e : Int) (u : Value) (h : PH) : Prop := u = num e ∧ ∃ ts op, NetO ts op vt vo h ∧ HeldL k (flat ts ++ [op]) e
theorem ct_L_markNetwork (kd p n : Int) (ts : List Ten) (op : List Int) (vt vo : Value) (k : Int) (w : World) (h : PH) (hle : PLe h (hp w)) (r : NetO ts op vt vo h) (hk : 0 ≤ k ∧ k + tensSize ts + op.length ≤ 4611686018427387904) :
    Calls Tryz.prog 16 [netV kd p n vt vo, num k].toArray w (Ret w h (NetM vt vo k (k + tensSize ts + op.length))) := ct_l_markNetwork kd p n ts op vt vo k w h hle r hk
def TriO (t : Ten) (a b c : Value) (h : PH) : Prop := ∃ h1 h2 h3, IntsO t.l a h1 ∧ IntsO t.d b h2 ∧ IntsO t.x c h3 ∧ Made h [h1, h2, h3]
theorem TriO.toR {t : Ten} {a b c : Value} {h : PH} (r : TriO t a b c h) : IntsR t.l a h ∧ IntsR t.d b h ∧ IntsR t.x c h := by
  obtain ⟨h1, h2, h3, r1, r2, r3, m⟩ := r; exact ⟨r1.toR.mono (m.le h1 (by simp)), r2.toR.mono (m.le h2 (by simp)), r3.toR.mono (m.le h3 (by simp))⟩
def TenT (t : Ten) (u : Value) (h : PH) : Prop := ∃ a b c, u = tenV a b c ∧ TriO t a b c h
theorem TenO.tenT {t : Ten} {u : Value} {h : PH} (r : TenO t u h) : TenT t u h := by
  obtain ⟨a, b, c, h1, h2, h3, e, r1, r2, r3, m⟩ := r; exact ⟨a, b, c, e, h1, h2, h3, r1, r2, r3, m⟩
theorem ct_L_toTensor (t : Ten) (a b c : Value) (w : World) (r1 : IntsR t.l a (hp w)) (r2 : IntsR t.d b (hp w)) (r3 : IntsR t.x c (hp w)) (hs : tenSize t ≤ 1048576) :
    Calls Tryz.prog 34 [tenV a b c].toArray w (Ret w emp (TenT t)) := (ct_l_toTensor t a b c w r1 r2 r3 hs).mono fun _ _ h => let ⟨v, h', h1, h2, h3⟩ := h; ⟨v, h', h1, h2, h3.tenT⟩
def TenM (a b c : Value) (k e : Int) (u : Value) (h : PH) : Prop := u = num e ∧ ∃ t, TriO t a b c h ∧ HeldL k [t.l, t.d, t.x] e
end Go.Proofs.YtmddmahaikineaaGreat
