/-
  NetworkOk, in the program and in the reference, answers the same.
  Conditions: none.
-/
import Derived.Test.YtikeobneipjfnaaNetOk
namespace Go.Proofs.Ytikeobneipjfnaa
set_option maxRecDepth 100000
open Go.RowKit

abbrev netV (k p n : Int) (vt vo : Value) : Value := .agg [num k, num p, num n, vt, vo].toArray
def netL (k p n : Int) (ts : List Ten) (op : List Int) : Prop := ringL k p n ∧ ts.length ≤ 12 ∧ (∀ t ∈ ts, tensorL k p n t.l t.d t.x) ∧ consL ts ∧ 0 ≤ sizeI op (dimsFor ts op)
open Classical in
noncomputable def netB (k p n : Int) (ts : List Ten) (op : List Int) : Bool := decide (netL k p n ts op)
theorem netB_no {k p n : Int} {ts : List Ten} {op : List Int} (h : ¬ netL k p n ts op) : Value.bool false = .bool (netB k p n ts op) := by simp [netB, h]
theorem netB_dec {k p n : Int} {ts : List Ten} {op : List Int} {q : Prop} [Decidable q] (h : q ↔ netL k p n ts op) : Value.bool (decide q) = .bool (netB k p n ts op) := by
  congr 1
  unfold netB
  congr 1
  exact eq_iff_iff.2 h
theorem tensor_axes {k p n : Int} {t : Ten} (h : tensorL k p n t.l t.d t.x) : axesL t.l t.d := (sizeI_ge.1 h.2.1).1
theorem tensorB_true {k p n : Int} {ls ds xs : List Int} : tensorB k p n ls ds xs = true ↔ tensorL k p n ls ds xs := by simp [tensorB]
theorem tensorB_false {k p n : Int} {ls ds xs : List Int} : tensorB k p n ls ds xs = false ↔ ¬ tensorL k p n ls ds xs := by simp [tensorB]
theorem all_at {ts : List Ten} {p : Ten → Prop} (h : ∀ i, i < ts.length → ∀ t, ts[i]? = some t → p t) : ∀ t ∈ ts, p t := fun t ht => by
  obtain ⟨i, hi⟩ := List.getElem?_of_mem ht
  exact h i (List.getElem?_eq_some_iff.1 hi).1 t hi
theorem take_at {ts : List Ten} {i : Nat} {p : Ten → Prop} (h : ∀ j, j < i → ∀ t, ts[j]? = some t → p t) : ∀ t ∈ ts.take i, p t := fun t ht => by
  obtain ⟨j, hj⟩ := List.getElem?_of_mem ht
  rw [List.getElem?_take] at hj
  split at hj
  · rename_i hlt; exact h j hlt t hj
  · cases hj
theorem one_at {ts : List Ten} {i : Nat} {t : Ten} {p : Ten → Prop} (ht : ts[i]? = some t) (h : p t) : ∀ t', ts[i]? = some t' → p t' := fun t' h' => by
  rw [ht] at h'; cases h'; exact h

set_option maxHeartbeats 1000000 in
theorem ct_s_NetworkOk (k p n : Int) (ts : List Ten) (op : List Int) (vt vo : Value) (w : World) (r : TensR ts vt (hp w)) (r' : IntsR op vo (hp w)) (hs : op.length ≤ 1048576) :
    Calls Try.prog 86 [netV k p n vt vo].toArray w (RetV w (.bool (netB k p n ts op))) := by
  have hx := r.le
  obtain ⟨cells, rr, hc⟩ := r.at
  refine calls_in Try.func86 rfl Try.ntmps86 rfl (Sat.start w) ?_
  refine wp_sc ?_
  refine wp_sq ?_
  refine sq_x rfl (x_box rfl rfl) rfl ?_; rintro _ _ ⟨b1, rfl, rfl⟩
  refine sq_v rfl (v_assign rfl) rfl ?_
  refine sq_end ?_
  refine qs_n ?_
  refine wp_sc ?_
  refine wp_sc ?_
  refine wp_sq ?_
  refine sq_v rfl (v_fieldAddr fd_48_0 ty_30 (by decide) rfl) rfl ?_
  refine sq_v rfl (v_loadNB 0 ty_30 rfl rfl rfl rfl) rfl ?_
  refine sq_u rfl (x_callv rfl en_169 (fun w s => ct_s_RingOk _ _ _ w)) rfl ?_
  refine sq_bb 10 rfl (fun c10 => ?_) (fun c10 => ?_)
  · refine sq_v rfl (v_not rfl) rfl ?_
    refine sq_v rfl (v_move rfl) rfl ?_
    refine sq_v rfl (v_fieldAddr fd_48_1 ty_46 (by decide) rfl) rfl ?_
    refine sq_v rfl (v_loadB 0 ty_46 rfl rfl rfl) rfl ?_
    refine sq_v rfl (v_len Try.underlying46 rfl r.sl) rfl ?_
    refine sq_v rfl (v_gtr rfl rfl) rfl ?_
    refine sq_v rfl (v_pickf rfl rfl) rfl ?_
    refine sq_end ?_
    refine qs_n ?_
    refine wp_cd rfl (fun c17 => ?_) (fun c17 => ?_)
    · refine wp_sc ?_
      refine wp_sq ?_
      refine sq_v rfl (v_assign rfl) rfl ?_
      refine sq_end ?_
      refine qs_n ?_
      refine wp_rt ?_
      refine qs_r ?_
      exact qs_ret1 rfl rfl (fin_q (i := 1) rfl (netB_no (fun h => by have := h.2.1; omega)))
    · refine wp_sk ?_
      refine qs_n ?_
      refine wp_sc ?_
      refine wp_sc ?_
      refine wp_sq ?_
      refine sq_v rfl (v_fieldAddr fd_48_1 ty_46 (by decide) rfl) rfl ?_
      refine sq_v rfl (v_loadB 0 ty_46 rfl rfl rfl) rfl ?_
      refine sq_v rfl (v_len Try.underlying46 rfl r.sl) rfl ?_
      refine sq_v rfl (v_move rfl) rfl ?_
      refine sq_end ?_
      refine qs_n ?_
      refine wp_bl ?_
      refine wp_lp (fun i : Nat => [(1, .pointer (some ⟨b1, 0, none⟩)), (19, vt), (20, num ts.length), (21, num i)]) (fun _ => [box b1 [num k, num p, num n, vt, vo] 48, hp w]) (fun i => i ≤ ts.length ∧ (∀ j, j < i → ∀ t, ts[j]? = some t → tensorL k p n t.l t.d t.x) ∧ ∀ i', i' < i → ∀ t, ts[i']? = some t → ∀ j, j < t.l.length → consAt ts i' j) (fun i => ts.length - i) 0 ⟨by omega, fun j hj => by omega, fun j hj => by omega⟩ ⟨rfl, rfl, rfl, rfl, trivial⟩ (fun _ s => s) ?_
      rintro i ⟨hi, hten, hcons⟩
      refine wp_sc ?_
      refine wp_sq ?_
      refine sq_v rfl (v_lss rfl rfl) rfl ?_
      refine sq_end ?_
      refine qs_n ?_
      refine wp_sc ?_
      refine wp_cd rfl (fun c22 => ?_) (fun c22 => ?_)
      · refine wp_sk ?_
        refine qs_n ?_
        refine wp_sc ?_
        refine wp_bl ?_
        refine wp_sc ?_
        refine wp_sq ?_
        refine sq_v rfl (v_move rfl) rfl ?_
        obtain ⟨t, a, b, c, ht, hcs, r1, r2, r3⟩ := hc i (by omega); have hxl := r1.le
        refine sq_v rfl (v_indexAddr Try.underlying46 ty_28 rfl rfl rr (by decide) (by omega) (by omega)) rfl ?_
        refine sq_v rfl (v_loadNE 1 ty_28 rfl rfl rr (by have := rr.1; omega) rfl hcs) rfl ?_
        refine sq_x rfl (x_alloc ty_28 rfl) rfl ?_; rintro _ _ ⟨b4, rfl, rfl⟩
        refine sq_v rfl (v_assign rfl) rfl ?_
        refine sq_m 0 rfl rfl (m_store 0 ty_28 rfl rfl rfl rfl (by simp [r1.sl.one, r2.sl.one, r3.sl.one]) rfl (Nat.le_of_ble_eq_true rfl)) rfl ?_; rintro _ _ ⟨rfl, rfl⟩
        refine sq_end ?_
        refine qs_n ?_
        refine wp_sc ?_
        refine wp_sc ?_
        refine wp_sq ?_
        refine sq_v rfl (v_fieldAddr fd_48_0 ty_30 (by decide) rfl) rfl ?_
        refine sq_v rfl (v_loadNB 1 ty_30 rfl rfl rfl rfl) rfl ?_
        refine sq_v rfl (v_loadNB 0 ty_28 rfl rfl rfl rfl) rfl ?_
        refine sq_u rfl (x_callv rfl en_69 (fun w s => ct_s_TensorOk _ _ _ _ _ _ _ _ _ w (r1.mono (s.get 2 rfl)) (r2.mono (s.get 2 rfl)) (r3.mono (s.get 2 rfl)))) rfl ?_
        refine sq_v rfl (v_not rfl) rfl ?_
        refine sq_end ?_
        refine qs_n ?_
        refine wp_cn _ rfl (fun c30 => ?_) (fun c30 => ?_)
        · refine wp_sc ?_
          refine wp_sq ?_
          refine sq_v rfl (v_assign rfl) rfl ?_
          refine sq_end ?_
          refine qs_n ?_
          refine wp_rt ?_
          refine qs_r ?_
          refine qs_br ?_
          refine qs_r ?_
          refine qs_r ?_
          refine qs_br ?_
          refine qs_r ?_
          exact qs_ret1 rfl rfl (fin_q (i := 2) rfl (netB_no (fun h => tensorB_false.1 c30 (h.2.2.1 t (List.mem_of_getElem? ht)))))
        · refine wp_sk ?_
          refine qs_n ?_
          refine wp_sc ?_
          refine wp_sq ?_
          refine sq_v rfl (v_fieldAddr fd_28_0 ty_24 (by decide) rfl) rfl ?_
          refine sq_v rfl (v_loadB 0 ty_24 rfl rfl rfl) rfl ?_
          refine sq_v rfl (v_len Try.underlying24 rfl r1.sl) rfl ?_
          refine sq_v rfl (v_move rfl) rfl ?_
          refine sq_end ?_
          refine qs_n ?_
          refine wp_bl ?_
          refine wp_lp (fun j : Nat => [(1, .pointer (some ⟨b1, 0, none⟩)), (3, num i), (4, .pointer (some ⟨b4, 0, none⟩)), (19, vt), (20, num ts.length), (21, num i), (32, a), (33, num t.l.length), (34, num j)]) (fun _ => [box b4 [a, b, c] 28, box b1 [num k, num p, num n, vt, vo] 48, hp w]) (fun j => j ≤ t.l.length ∧ ∀ j', j' < j → consAt ts i j') (fun j => t.l.length - j) 0 ⟨by omega, fun j hj => by omega⟩ ⟨rfl, rfl, rfl, rfl, rfl, rfl, rfl, rfl, rfl, trivial⟩ (fun _ s => s) ?_
          rintro j ⟨hj, hcj⟩
          have htl := tensorB_true.1 c30
          have hax := tensor_axes htl
          refine wp_sc ?_
          refine wp_sq ?_
          refine sq_v rfl (v_lss rfl rfl) rfl ?_
          refine sq_end ?_
          refine qs_n ?_
          refine wp_sc ?_
          refine wp_cd rfl (fun c35 => ?_) (fun c35 => ?_)
          · refine wp_sk ?_
            refine qs_n ?_
            refine wp_sc ?_
            refine wp_bl ?_
            refine wp_sc ?_
            refine wp_sq ?_
            refine sq_v rfl (v_move rfl) rfl ?_
            refine sq_v rfl (v_idxI Try.underlying24 ty_3 rfl rfl r1 (by omega) (by omega)) rfl ?_
            refine sq_v rfl (v_loadI (k := j) 2 ty_3 rfl rfl r1 (by omega)) rfl ?_
            refine sq_v rfl (v_assign rfl) rfl ?_
            refine sq_v rfl (v_assign rfl) rfl ?_
            refine sq_end ?_
            refine qs_n ?_
            refine wp_sc ?_
            refine wp_sq ?_
            refine sq_v rfl (v_fieldAddr fd_48_1 ty_46 (by decide) rfl) rfl ?_
            refine sq_v rfl (v_loadB 1 ty_46 rfl rfl rfl) rfl ?_
            refine sq_v rfl (v_move rfl) rfl ?_
            refine sq_v rfl (v_sliceH Try.underlying46 ty_28 rfl rfl  rr (by omega) (by omega)) rfl ?_
            refine sq_v rfl (v_move rfl) rfl ?_
            refine sq_u rfl (x_callv rfl en_184 (fun w s => ct_s_l12Dim (ts.take i) _ _ w ((r.subH (by omega)).mono (s.get 2 rfl)) (take_at (fun j' hj' t' ht' => axes_ok (tensor_axes (hten j' hj' t' ht')))))) rfl ?_
            refine sq_v rfl (v_assign rfl) rfl ?_
            refine sq_end ?_
            refine qs_n ?_
            refine wp_sc ?_
            refine wp_sq ?_
            refine sq_v rfl (v_move rfl) rfl ?_
            refine sq_v rfl (v_gtr rfl rfl) rfl ?_
            refine sq_bd 46 rfl (fun c46 => ?_) (fun c46 => ?_)
            · refine sq_v rfl (v_move rfl) rfl ?_
              refine sq_v rfl (v_move rfl) rfl ?_
              refine sq_v rfl (v_fieldAddr fd_28_1 ty_24 (by decide) rfl) rfl ?_
              refine sq_v rfl (v_loadB 0 ty_24 rfl rfl rfl) rfl ?_
              refine sq_v rfl (v_move rfl) rfl ?_
              have hdl := hax.2.1
              refine sq_v rfl (v_idxI Try.underlying24 ty_3 rfl rfl r2 (by omega) (by omega)) rfl ?_
              refine sq_v rfl (v_loadI (k := j) 2 ty_3 rfl rfl r2 (by omega)) rfl ?_
              refine sq_v rfl (v_neq rfl rfl) rfl ?_
              refine sq_v rfl (v_pickt rfl rfl) rfl ?_
              refine sq_end ?_
              refine qs_n ?_
              refine wp_cd rfl (fun c55 => ?_) (fun c55 => ?_)
              · refine wp_sc ?_
                refine wp_sq ?_
                refine sq_v rfl (v_assign rfl) rfl ?_
                refine sq_end ?_
                refine qs_n ?_
                refine wp_rt ?_
                refine qs_br ?_
                refine qs_r ?_
                refine qs_r ?_
                refine qs_br ?_
                refine qs_br ?_
                refine qs_r ?_
                refine qs_r ?_
                refine qs_br ?_
                refine qs_r ?_
                exact qs_ret1 rfl rfl (fin_q (i := 2) rfl (netB_no (fun h => by have := h.2.2.2.1 i (by omega) t ht j (by omega) t ht; omega)))
              · refine wp_sk ?_
                refine qs_bn ?_
                refine qs_n ?_
                refine wp_sq ?_
                refine sq_v rfl (v_add rfl rfl ((by unfold I64; omega))) rfl ?_
                refine sq_v rfl (v_move rfl) rfl ?_
                refine sq_end ?_
                exact qs_bk (j + 1) ⟨by omega, step_all hcj (one_at ht (by omega))⟩ (by omega) ⟨rfl, rfl, rfl, rfl, rfl, rfl, rfl, rfl, rfl, trivial⟩ (fun _ s => s)
            · refine sq_v rfl (v_move rfl) rfl ?_
              refine sq_s rfl rfl ?_
              refine sq_s rfl rfl ?_
              refine sq_s rfl rfl ?_
              refine sq_s rfl rfl ?_
              refine sq_s rfl rfl ?_
              refine sq_s rfl rfl ?_
              refine sq_s rfl rfl ?_
              refine sq_v rfl (v_pickf rfl rfl) rfl ?_
              refine sq_end ?_
              refine qs_n ?_
              refine wp_cf rfl ?_
              refine wp_sk ?_
              refine qs_bn ?_
              refine qs_n ?_
              refine wp_sq ?_
              refine sq_v rfl (v_add rfl rfl ((by unfold I64; omega))) rfl ?_
              refine sq_v rfl (v_move rfl) rfl ?_
              refine sq_end ?_
              have hdr := dimOf_range (ts := ts.take i) (take_at (fun j' hj' t' ht' => axes_ok (tensor_axes (hten j' hj' t' ht')))) (t.l.getD j 0)
              exact qs_bk (j + 1) ⟨by omega, step_all hcj (one_at ht (by omega))⟩ (by omega) ⟨rfl, rfl, rfl, rfl, rfl, rfl, rfl, rfl, rfl, trivial⟩ (fun _ s => s)
          · refine wp_ex ?_
            refine qs_x ?_
            refine qs_x ?_
            refine qs_bx ?_
            refine qs_bn ?_
            refine qs_n ?_
            refine wp_sq ?_
            refine sq_v rfl (v_add rfl rfl ((by unfold I64; omega))) rfl ?_
            refine sq_v rfl (v_move rfl) rfl ?_
            refine sq_end ?_
            exact qs_bk (i + 1) ⟨by omega, step_all hten (one_at ht (tensorB_true.1 c30)), step_all hcons (one_at ht (fun j' hj' => hcj j' (by omega)))⟩ (by omega) ⟨rfl, rfl, rfl, rfl, trivial⟩ (fun _ s => s.pick [1, 2] (by decide) rfl)
      · refine wp_ex ?_
        refine qs_x ?_
        refine qs_x ?_
        refine qs_bx ?_
        refine qs_n ?_
        refine wp_sc ?_
        refine wp_rj 11 [(0, true), (1, true), (2, true), (3, true), (4, true), (5, true), (6, false), (7, true), (8, false), (9, true), (10, true)] mixed_ok (by kernel_rfl) ?_
        refine rj_v rfl rfl (v_fieldAddr fd_48_2 ty_24 (by decide) rfl) rfl ?_
        refine rj_v rfl rfl (v_loadB 0 ty_24 rfl rfl rfl) rfl ?_
        refine rj_v rfl rfl (v_fieldAddr fd_48_1 ty_46 (by decide) rfl) rfl ?_
        refine rj_v rfl rfl (v_loadB 0 ty_46 rfl rfl rfl) rfl ?_
        refine rj_v rfl rfl (v_fieldAddr fd_48_2 ty_24 (by decide) rfl) rfl ?_
        refine rj_v rfl rfl (v_loadB 0 ty_24 rfl rfl rfl) rfl ?_
        have hall := all_at (fun j hj => hten j (by omega))
        refine rj_x rfl rfl (x_call rfl en_119 (fun w s => ct_s_l12Dims _ _ _ _ w (r.mono (s.get 1 rfl)) (r'.mono (s.get 1 rfl)) (fun t ht => axes_ok (tensor_axes (hall t ht))) hs)) rfl ?_; rintro v64 h64 r64
        refine rj_v rfl rfl (v_build [vo, v64, .slice none 0 0] rfl (by obtain ⟨_, _, rfl⟩ := r'.sl; obtain ⟨_, _, rfl⟩ := r64.toR.sl; kernel_rfl)) rfl ?_
        refine rj_u rfl rfl (x_callv rfl en_157 (fun w s => ct_s_TensorSize _ _ _ _ _ w (r'.mono (s.get 2 rfl)) (r64.toR.mono (s.get 0 rfl)))) rfl ?_
        refine rj_v rfl rfl (v_geq rfl rfl) rfl ?_
        refine rj_v rfl rfl (v_assign rfl) rfl ?_
        refine rj_end ?_
        refine qs_n ?_
        refine wp_rt ?_
        exact qs_ret1 rfl rfl (fin_q (i := 2) rfl (netB_dec ⟨fun h => ⟨ringB_true.1 c10, by omega, hall, fun i' hi' => hcons i' (by omega), h⟩, fun h => h.2.2.2.2⟩))
  · refine sq_v rfl (v_not rfl) rfl ?_
    refine sq_v rfl (v_move rfl) rfl ?_
    refine sq_s rfl rfl ?_
    refine sq_s rfl rfl ?_
    refine sq_s rfl rfl ?_
    refine sq_s rfl rfl ?_
    refine sq_v rfl (v_pickt rfl rfl) rfl ?_
    refine sq_end ?_
    refine qs_n ?_
    refine wp_ct rfl ?_
    refine wp_sc ?_
    refine wp_sq ?_
    refine sq_v rfl (v_assign rfl) rfl ?_
    refine sq_end ?_
    refine qs_n ?_
    refine wp_rt ?_
    refine qs_r ?_
    exact qs_ret1 rfl rfl (fin_q (i := 1) rfl (netB_no (fun h => ringB_false.1 c10 h.1)))
theorem arrOf_eq {ts : List Ten} {arr op : List Int} (ha : arrInv ts arr) (hop : ∀ x ∈ op, 0 ≤ x ∧ x ≤ 99) : arrOf arr op = dimsFor ts op := by
  unfold arrOf dimsFor
  exact List.map_congr_left (fun x hx => ha.2 x (hop x hx).1 (hop x hx).2)
theorem open_at {ts : List Ten} {op : List Int} (h : 0 ≤ sizeI op (dimsFor ts op)) {j : Nat} (hj : j < op.length) : (0 ≤ op.getD j 0 ∧ op.getD j 0 ≤ 99) ∧ 1 ≤ dimOf ts (op.getD j 0) := by
  have h1 := (sizeI_ge.1 h).1.2.2 j hj
  refine ⟨h1.1, ?_⟩
  have h2 := h1.2.1.1
  rwa [dimsFor, map_getD hj] at h2
set_option maxHeartbeats 1000000 in
theorem ct_i_NetworkOk (k p n : Int) (ts : List Ten) (op : List Int) (vt vo : Value) (w : World) (r : TensR ts vt (hp w)) (r' : IntsR op vo (hp w)) (hs : op.length ≤ 1048576) :
    Calls Try.prog 79 [netV k p n vt vo].toArray w (RetV w (.bool (netB k p n ts op))) := by
  have hx := r.le
  obtain ⟨cells, rr, hc⟩ := r.at
  refine calls_in Try.func79 rfl Try.ntmps79 rfl (Sat.start w) ?_
  refine wp_sc ?_
  refine wp_sq ?_
  refine sq_x rfl (x_box rfl rfl) rfl ?_; rintro _ _ ⟨b1, rfl, rfl⟩
  refine sq_v rfl (v_assign rfl) rfl ?_
  refine sq_end ?_
  refine qs_n ?_
  refine wp_sc ?_
  refine wp_sc ?_
  refine wp_sq ?_
  refine sq_v rfl (v_fieldAddr fd_48_0 ty_30 (by decide) rfl) rfl ?_
  refine sq_v rfl (v_loadNB 0 ty_30 rfl rfl rfl rfl) rfl ?_
  refine sq_u rfl (x_callv rfl en_174 (fun w s => ct_i_RingOk _ _ _ w)) rfl ?_
  refine sq_bb 11 rfl (fun c11 => ?_) (fun c11 => ?_)
  · refine sq_v rfl (v_not rfl) rfl ?_
    refine sq_v rfl (v_move rfl) rfl ?_
    refine sq_v rfl (v_fieldAddr fd_48_1 ty_46 (by decide) rfl) rfl ?_
    refine sq_v rfl (v_loadB 0 ty_46 rfl rfl rfl) rfl ?_
    refine sq_v rfl (v_len Try.underlying46 rfl r.sl) rfl ?_
    refine sq_v rfl (v_gtr rfl rfl) rfl ?_
    refine sq_v rfl (v_pickf rfl rfl) rfl ?_
    refine sq_bd 18 rfl (fun c18 => ?_) (fun c18 => ?_)
    · refine sq_v rfl (v_move rfl) rfl ?_
      refine sq_s rfl rfl ?_
      refine sq_s rfl rfl ?_
      refine sq_s rfl rfl ?_
      refine sq_s rfl rfl ?_
      refine sq_v rfl (v_pickt rfl rfl) rfl ?_
      refine sq_end ?_
      refine qs_n ?_
      refine wp_ct rfl ?_
      refine wp_sc ?_
      refine wp_sq ?_
      refine sq_v rfl (v_assign rfl) rfl ?_
      refine sq_end ?_
      refine qs_n ?_
      refine wp_rt ?_
      refine qs_r ?_
      exact qs_ret1 rfl rfl (fin_q (i := 1) rfl (netB_no (fun h => by have := h.2.1; omega)))
    · refine sq_v rfl (v_move rfl) rfl ?_
      refine sq_v rfl (v_fieldAddr fd_48_2 ty_24 (by decide) rfl) rfl ?_
      refine sq_v rfl (v_loadB 0 ty_24 rfl rfl rfl) rfl ?_
      refine sq_v rfl (v_len Try.underlying24 rfl r'.sl) rfl ?_
      refine sq_v rfl (v_gtr rfl rfl) rfl ?_
      refine sq_v rfl (v_pickf rfl rfl) rfl ?_
      refine sq_end ?_
      refine qs_n ?_
      refine wp_cd rfl (fun c24 => ?_) (fun c24 => ?_)
      · refine wp_sc ?_
        refine wp_sq ?_
        refine sq_v rfl (v_assign rfl) rfl ?_
        refine sq_end ?_
        refine qs_n ?_
        refine wp_rt ?_
        refine qs_r ?_
        exact qs_ret1 rfl rfl (fin_q (i := 1) rfl (netB_no (fun h => by have := (sizeI_ge.1 h.2.2.2.2).1.1; omega)))
      · refine wp_sk ?_
        refine qs_n ?_
        refine wp_sc ?_
        refine wp_sc ?_
        refine wp_sq ?_
        refine sq_v rfl (v_fieldAddr fd_48_1 ty_46 (by decide) rfl) rfl ?_
        refine sq_v rfl (v_loadB 0 ty_46 rfl rfl rfl) rfl ?_
        refine sq_v rfl (v_len Try.underlying46 rfl r.sl) rfl ?_
        refine sq_v rfl (v_move rfl) rfl ?_
        refine sq_end ?_
        refine qs_n ?_
        refine wp_bl ?_
        refine wp_lp (fun i : Nat => [(1, .pointer (some ⟨b1, 0, none⟩)), (26, vt), (27, num ts.length), (28, num i)]) (fun _ => [box b1 [num k, num p, num n, vt, vo] 48, hp w]) (fun i => i ≤ ts.length ∧ (∀ j, j < i → ∀ t, ts[j]? = some t → tensorL k p n t.l t.d t.x)) (fun i => ts.length - i) 0 ⟨by omega, fun j hj => by omega⟩ ⟨rfl, rfl, rfl, rfl, trivial⟩ (fun _ s => s) ?_
        rintro i ⟨hi, hten⟩
        refine wp_sc ?_
        refine wp_sq ?_
        refine sq_v rfl (v_lss rfl rfl) rfl ?_
        refine sq_end ?_
        refine qs_n ?_
        refine wp_sc ?_
        refine wp_cd rfl (fun c29 => ?_) (fun c29 => ?_)
        · refine wp_sk ?_
          refine qs_n ?_
          refine wp_sc ?_
          refine wp_bl ?_
          refine wp_sc ?_
          refine wp_sq ?_
          obtain ⟨t, a, b, c, ht, hcs, r1, r2, r3⟩ := hc i (by omega)
          refine sq_v rfl (v_indexAddr Try.underlying46 ty_28 rfl rfl rr (by decide) (by omega) (by omega)) rfl ?_
          refine sq_v rfl (v_loadNE 1 ty_28 rfl rfl rr (by have := rr.1; omega) rfl hcs) rfl ?_
          refine sq_x rfl (x_alloc ty_28 rfl) rfl ?_; rintro _ _ ⟨b4, rfl, rfl⟩
          refine sq_m 0 rfl rfl (m_store 0 ty_28 rfl rfl rfl rfl (by simp [r1.sl.one, r2.sl.one, r3.sl.one]) rfl (Nat.le_of_ble_eq_true rfl)) rfl ?_; rintro _ _ ⟨rfl, rfl⟩
          refine sq_end ?_
          refine qs_n ?_
          refine wp_sc ?_
          refine wp_sq ?_
          refine sq_v rfl (v_fieldAddr fd_48_0 ty_30 (by decide) rfl) rfl ?_
          refine sq_v rfl (v_loadNB 1 ty_30 rfl rfl rfl rfl) rfl ?_
          refine sq_v rfl (v_loadNB 0 ty_28 rfl rfl rfl rfl) rfl ?_
          refine sq_u rfl (x_callv rfl en_71 (fun w s => ct_i_TensorOk _ _ _ _ _ _ _ _ _ w (r1.mono (s.get 2 rfl)) (r2.mono (s.get 2 rfl)) (r3.mono (s.get 2 rfl)))) rfl ?_
          refine sq_v rfl (v_not rfl) rfl ?_
          refine sq_end ?_
          refine qs_n ?_
          refine wp_cn _ rfl (fun c36 => ?_) (fun c36 => ?_)
          · refine wp_sc ?_
            refine wp_sq ?_
            refine sq_v rfl (v_assign rfl) rfl ?_
            refine sq_end ?_
            refine qs_n ?_
            refine wp_rt ?_
            refine qs_br ?_
            refine qs_r ?_
            refine qs_r ?_
            refine qs_br ?_
            refine qs_r ?_
            exact qs_ret1 rfl rfl (fin_q (i := 2) rfl (netB_no (fun h => tensorB_false.1 c36 (h.2.2.1 t (List.mem_of_getElem? ht)))))
          · refine wp_sk ?_
            refine qs_bn ?_
            refine qs_n ?_
            refine wp_sq ?_
            refine sq_v rfl (v_add rfl rfl ((by unfold I64; omega))) rfl ?_
            refine sq_v rfl (v_move rfl) rfl ?_
            refine sq_end ?_
            exact qs_bk (i + 1) ⟨by omega, step_all hten (one_at ht (tensorB_true.1 c36))⟩ (by omega) ⟨rfl, rfl, rfl, rfl, trivial⟩ (fun _ s => s.pick [1, 2] (by decide) rfl)
        · refine wp_ex ?_
          refine qs_x ?_
          refine qs_x ?_
          refine qs_bx ?_
          refine qs_n ?_
          refine wp_sc ?_
          refine wp_sq ?_
          refine sq_v rfl (v_fieldAddr fd_48_1 ty_46 (by decide) rfl) rfl ?_
          refine sq_v rfl (v_loadB 0 ty_46 rfl rfl rfl) rfl ?_
          have hall := all_at (fun j hj => hten j (by omega))
          refine sq_x rfl (x_call rfl en_129 (fun w s => ct_i_dimsOf _ _ w (r.mono (s.get 1 rfl)) (fun t ht => tensor_axes (hall t ht)))) rfl ?_; rintro _ h41 ⟨arr, ok, rfl, hal, hok, hav⟩
          refine sq_v rfl (v_move rfl) rfl ?_
          refine sq_v rfl (v_extract rfl rfl) rfl ?_
          refine sq_v rfl (v_extract rfl rfl) rfl ?_
          refine sq_x rfl (x_alloc ty_155 rfl) rfl ?_; rintro _ _ ⟨b5, rfl, rfl⟩
          refine sq_m 0 rfl rfl (m_storeW 0 ty_155 rfl rfl rfl (by rw [ints_length]; exact hal) (ints_one arr) rfl (by simp)) rfl ?_; rintro _ _ ⟨rfl, rfl⟩
          refine sq_v rfl (v_assign rfl) rfl ?_
          refine sq_end ?_
          refine qs_n ?_
          refine wp_sc ?_
          refine wp_sc ?_
          refine wp_sq ?_
          refine sq_v rfl (v_move rfl) rfl ?_
          refine sq_v rfl (v_not rfl) rfl ?_
          refine sq_end ?_
          refine qs_n ?_
          refine wp_cn _ rfl (fun c45 => ?_) (fun c45 => ?_)
          · refine wp_sc ?_
            refine wp_sq ?_
            refine sq_v rfl (v_assign rfl) rfl ?_
            refine sq_end ?_
            refine qs_n ?_
            refine wp_rt ?_
            refine qs_r ?_
            exact qs_ret1 rfl rfl (fin_q (i := 3) rfl (netB_no (fun h => by have := hok.2 h.2.2.2.1; rw [c45] at this; cases this)))
          · refine wp_sk ?_
            refine qs_n ?_
            refine wp_sc ?_
            refine wp_sc ?_
            refine wp_sq ?_
            refine sq_v rfl (v_fieldAddr fd_48_2 ty_24 (by decide) rfl) rfl ?_
            refine sq_v rfl (v_loadB 2 ty_24 rfl rfl rfl) rfl ?_
            refine sq_v rfl (v_len Try.underlying24 rfl r'.sl) rfl ?_
            refine sq_v rfl (v_move rfl) rfl ?_
            refine sq_end ?_
            refine qs_n ?_
            refine wp_bl ?_
            refine wp_lp (fun j : Nat => [(1, .pointer (some ⟨b1, 0, none⟩)), (5, .pointer (some ⟨b5, 0, none⟩)), (47, vo), (48, num op.length), (49, num j)]) (fun _ => [box b5 (ints arr) 155, box b1 [num k, num p, num n, vt, vo] 48, hp w]) (fun j => j ≤ op.length ∧ ∀ j', j' < j → 0 ≤ op.getD j' 0 ∧ op.getD j' 0 ≤ 99) (fun j => op.length - j) 0 ⟨by omega, fun j hj => by omega⟩ ⟨rfl, rfl, rfl, rfl, rfl, trivial⟩ (fun _ s => s.pick [0, 2, 3] (by decide) rfl) ?_
            rintro j ⟨hj, hjo⟩
            have hinv := hav c45
            have hxo := r'.le
            refine wp_sc ?_
            refine wp_sq ?_
            refine sq_v rfl (v_lss rfl rfl) rfl ?_
            refine sq_end ?_
            refine qs_n ?_
            refine wp_sc ?_
            refine wp_cd rfl (fun c50 => ?_) (fun c50 => ?_)
            · refine wp_sk ?_
              refine qs_n ?_
              refine wp_sc ?_
              refine wp_bl ?_
              refine wp_sc ?_
              refine wp_sq ?_
              refine sq_v rfl (v_idxI Try.underlying24 ty_3 rfl rfl r' (by omega) (by omega)) rfl ?_
              refine sq_v rfl (v_loadI (k := j) 2 ty_3 rfl rfl r' (by omega)) rfl ?_
              refine sq_v rfl (v_assign rfl) rfl ?_
              refine sq_end ?_
              refine qs_n ?_
              refine wp_sc ?_
              refine wp_sq ?_
              refine sq_v rfl (v_move rfl) rfl ?_
              refine sq_v rfl (v_lss rfl rfl) rfl ?_
              refine sq_bd 54 rfl (fun c54 => ?_) (fun c54 => ?_)
              · refine sq_v rfl (v_move rfl) rfl ?_
                refine sq_s rfl rfl ?_
                refine sq_s rfl rfl ?_
                refine sq_v rfl (v_pickt rfl rfl) rfl ?_
                refine sq_v rfl (v_move rfl) rfl ?_
                refine sq_s rfl rfl ?_
                refine sq_s rfl rfl ?_
                refine sq_s rfl rfl ?_
                refine sq_s rfl rfl ?_
                refine sq_v rfl (v_pickt rfl rfl) rfl ?_
                refine sq_end ?_
                refine qs_n ?_
                refine wp_ct rfl ?_
                refine wp_sc ?_
                refine wp_sq ?_
                refine sq_v rfl (v_assign rfl) rfl ?_
                refine sq_end ?_
                refine qs_n ?_
                refine wp_rt ?_
                refine qs_br ?_
                refine qs_r ?_
                refine qs_r ?_
                refine qs_br ?_
                refine qs_r ?_
                exact qs_ret1 rfl rfl (fin_q (i := 2) rfl (netB_no (fun h => by have := open_at h.2.2.2.2 (j := j) (by omega); omega)))
              · refine sq_v rfl (v_move rfl) rfl ?_
                refine sq_v rfl (v_move rfl) rfl ?_
                refine sq_v rfl (v_gtr rfl rfl) rfl ?_
                refine sq_v rfl (v_pickf rfl rfl) rfl ?_
                refine sq_bd 58 rfl (fun c58 => ?_) (fun c58 => ?_)
                · refine sq_v rfl (v_move rfl) rfl ?_
                  refine sq_s rfl rfl ?_
                  refine sq_s rfl rfl ?_
                  refine sq_s rfl rfl ?_
                  refine sq_s rfl rfl ?_
                  refine sq_v rfl (v_pickt rfl rfl) rfl ?_
                  refine sq_end ?_
                  refine qs_n ?_
                  refine wp_ct rfl ?_
                  refine wp_sc ?_
                  refine wp_sq ?_
                  refine sq_v rfl (v_assign rfl) rfl ?_
                  refine sq_end ?_
                  refine qs_n ?_
                  refine wp_rt ?_
                  refine qs_br ?_
                  refine qs_r ?_
                  refine qs_r ?_
                  refine qs_br ?_
                  refine qs_r ?_
                  exact qs_ret1 rfl rfl (fin_q (i := 2) rfl (netB_no (fun h => by have := open_at h.2.2.2.2 (j := j) (by omega); omega)))
                · refine sq_v rfl (v_move rfl) rfl ?_
                  refine sq_v rfl (v_move rfl) rfl ?_
                  refine sq_v rfl (v_indexAddrA Try.underlying155 ty_3 rfl rfl (by omega) (by omega)) rfl ?_
                  refine sq_v rfl (v_loadB 0 ty_3 rfl rfl (aget (k := (op.getD j 0).toNat) (by omega) rfl)) rfl ?_
                  refine sq_v rfl (v_eql rfl rfl) rfl ?_
                  refine sq_v rfl (v_pickf rfl rfl) rfl ?_
                  refine sq_end ?_
                  refine qs_n ?_
                  refine wp_cd rfl (fun c64 => ?_) (fun c64 => ?_)
                  · refine wp_sc ?_
                    refine wp_sq ?_
                    refine sq_v rfl (v_assign rfl) rfl ?_
                    refine sq_end ?_
                    refine qs_n ?_
                    refine wp_rt ?_
                    refine qs_br ?_
                    refine qs_r ?_
                    refine qs_r ?_
                    refine qs_br ?_
                    refine qs_r ?_
                    exact qs_ret1 rfl rfl (fin_q (i := 2) rfl (netB_no (fun h => by have := open_at h.2.2.2.2 (j := j) (by omega); rw [hinv.2 _ (by omega) (by omega)] at c64; omega)))
                  · refine wp_sk ?_
                    refine qs_bn ?_
                    refine qs_n ?_
                    refine wp_sq ?_
                    refine sq_v rfl (v_add rfl rfl ((by unfold I64; omega))) rfl ?_
                    refine sq_v rfl (v_move rfl) rfl ?_
                    refine sq_end ?_
                    exact qs_bk (j + 1) ⟨by omega, step_all hjo (by omega)⟩ (by omega) ⟨rfl, rfl, rfl, rfl, rfl, trivial⟩ (fun _ s => s)
            · refine wp_ex ?_
              refine qs_x ?_
              refine qs_x ?_
              refine qs_bx ?_
              refine qs_n ?_
              refine wp_sc ?_
              refine wp_sq ?_
              have hop : ∀ x ∈ op, 0 ≤ x ∧ x ≤ 99 := all_of (fun j' hj' => hjo j' (by omega))
              refine sq_v rfl (v_loadNB 0 ty_155 rfl rfl (by rw [ints_length]; exact hal) (by rw [List.drop_zero, List.take_of_length_le]; rw [ints_length, hal]; omega)) rfl ?_
              refine sq_v rfl (v_fieldAddr fd_48_2 ty_24 (by decide) rfl) rfl ?_
              refine sq_v rfl (v_loadB 1 ty_24 rfl rfl rfl) rfl ?_
              refine sq_x rfl (x_call rfl en_130 (fun w s => ct_i_axesOf _ _ _ w (r'.mono (s.get 2 rfl)) hal hop hs)) rfl ?_; rintro _ h69 ⟨u1, u2, rfl, ru1, ru2⟩
              refine sq_u rfl (x_callv rfl en_160 (fun w s => ct_i_TensorSize _ _ _ _ _ w (ru1.mono (s.get 0 rfl)) (ru2.mono (s.get 0 rfl)))) rfl ?_
              refine sq_v rfl (v_neq rfl rfl) rfl ?_
              refine sq_v rfl (v_assign rfl) rfl ?_
              refine sq_end ?_
              refine qs_n ?_
              refine wp_rt ?_
              exact qs_ret1 rfl rfl (fin_q (i := 3) rfl (netB_dec (by rw [arrOf_eq hinv hop]; exact ⟨fun h => ⟨ringB_true.1 c11, by omega, all_at (fun j' hj' => hten j' (by omega)), hok.1 c45, by have := sizeI_range op (dimsFor ts op); omega⟩, fun h => by have := h.2.2.2.2; omega⟩)))
  · refine sq_v rfl (v_not rfl) rfl ?_
    refine sq_v rfl (v_move rfl) rfl ?_
    refine sq_s rfl rfl ?_
    refine sq_s rfl rfl ?_
    refine sq_s rfl rfl ?_
    refine sq_s rfl rfl ?_
    refine sq_v rfl (v_pickt rfl rfl) rfl ?_
    refine sq_v rfl (v_move rfl) rfl ?_
    refine sq_s rfl rfl ?_
    refine sq_s rfl rfl ?_
    refine sq_s rfl rfl ?_
    refine sq_s rfl rfl ?_
    refine sq_v rfl (v_pickt rfl rfl) rfl ?_
    refine sq_end ?_
    refine qs_n ?_
    refine wp_ct rfl ?_
    refine wp_sc ?_
    refine wp_sq ?_
    refine sq_v rfl (v_assign rfl) rfl ?_
    refine sq_end ?_
    refine qs_n ?_
    refine wp_rt ?_
    refine qs_r ?_
    exact qs_ret1 rfl rfl (fin_q (i := 1) rfl (netB_no (fun h => ringB_false.1 c11 h.1)))
end Go.Proofs.Ytikeobneipjfnaa
