/-
  Parts of the proof of FnExactForestMarginals: laws of heaps, contracts of functions.
  Conditions: none.
-/
import Derived.Test.YtdkgaejmgnojhaaQForestMarginals6
namespace Go.Proofs.Ytdkgaejmgnojhaa
set_option maxRecDepth 100000
open Go.RowKit
open Classical in
noncomputable def forB (k p n : Int) (ts : List Ten) (op : List Int) : Bool := decide (netL k p n ts op ∧ forL ts)
theorem forB_no {k p n : Int} {ts : List Ten} {op : List Int} (h : ¬ (netL k p n ts op ∧ forL ts)) : Value.bool false = .bool (forB k p n ts op) := by simp [forB, h]
theorem forB_yes {k p n : Int} {ts : List Ten} {op : List Int} (h : netL k p n ts op ∧ forL ts) : Value.bool true = .bool (forB k p n ts op) := by simp [forB, h]
theorem forB_true {k p n : Int} {ts : List Ten} {op : List Int} : forB k p n ts op = true ↔ netL k p n ts op ∧ forL ts := by simp [forB]
theorem edg_few {k p n : Int} {ts : List Ten} {op : List Int} (h : netL k p n ts op) : ∀ i, i ≤ ts.length → (edgTo ts i).length ≤ 12 * i
  | 0, _ => by simp [edgTo]
  | i + 1, hi => by
    have ih := edg_few h i (by omega); have ht : ts.getD i noTen ∈ ts := by simp [List.getD, show i < ts.length by omega]
    have := (net_axes h _ ht).1; rw [edgTo_len]; omega
theorem for_dec {k p n : Int} {ts : List Ten} {op : List Int} (h : netL k p n ts op) (e : Nat) (he : e = (edgTo ts ts.length).length) : Value.bool (decide ((e : Int) = (ts.length : Int) + (labelsL ts).length - (partsL ts).length)) = .bool (forB k p n ts op) := by
  subst he
  unfold forB
  congr 1
  refine decide_eq_decide.2 ⟨fun hq => ⟨h, (for_iff h).2 (by omega)⟩, fun hq => ?_⟩; have := (for_iff h).1 hq.2
  omega
set_option maxHeartbeats 1000000 in
theorem ct_s_IsForest (k p n : Int) (ts : List Ten) (op : List Int) (vt vo : Value) (w : World) (r : TensR ts vt (hp w)) (r' : IntsR op vo (hp w)) (hs : op.length ≤ 1048576) :
    Calls Try.prog 15 [netV k p n vt vo].toArray w (RetV w (.bool (forB k p n ts op))) := by
  have hll := labels_len ts 100; have hll2 : (labelsL ts).length ≤ 100 := hll; have hpl : (partsL ts).length ≤ ts.length := partsTo_len ts ts.length; refine calls_in Try.func15 rfl Try.ntmps15 rfl (Sat.start w) ?_; have hle0 := r.le; obtain ⟨cs_r, rr_r, hc_r⟩ := r.at; have hle1 := r'.le; refine wp_sc (wp_sq ?_); refine sq_x rfl (x_box rfl rfl) rfl ?_; rintro _ _ ⟨b1, rfl, rfl⟩; refine sq_v rfl (v_assign rfl) rfl (sq_end (qs_n (wp_sc (wp_sc (wp_sq (sq_v rfl (v_loadNB 0 ty_34 rfl rfl rfl rfl) rfl (sq_u rfl (x_callv rfl en_42 (fun w s => ct_s_NetworkOk _ _ _ _ _ _ _ w (r.mono (s.get 1 rfl)) (r'.mono (s.get 1 rfl)) (by first | assumption | omega))) rfl (sq_v rfl (v_not rfl) rfl (sq_end (qs_n ?_)))))))))); refine wp_cn _ rfl (fun c8 => ?_) (fun c8 => ?_)
  · refine wp_sc (wp_sq (sq_v rfl (v_assign rfl) rfl (sq_end (qs_n (wp_rt (qs_r ?_)))))); exact qs_ret1 rfl rfl (fin_q (i := 1) rfl (forB_no fun h => by rw [netB_true.2 h.1] at c8; cases c8))
  · refine wp_sk (qs_n (wp_sc (wp_sq ?_))); have hnet := netB_true.1 c8; have h12 := hnet.2.1; refine sq_v rfl (v_assign rfl) rfl (sq_end (qs_n (wp_sc (wp_sc (wp_sq (sq_v rfl (v_fieldAddr fd_34_1 ty_29 (by decide) rfl) rfl (sq_v rfl (v_loadB 0 ty_29 rfl rfl rfl) rfl (sq_v rfl (v_len Try.underlying29 rfl r.sl) rfl (sq_v rfl (v_move rfl) rfl (sq_end (qs_n (wp_bl ?_)))))))))))); refine wp_lp (σ := Nat) (fun z_ => [(1, .pointer (some ⟨b1, 0, none⟩)), (2, .bool false), (3, num (edgTo ts z_).length), (10, vt), (11, num ts.length), (12, num z_)]) (fun z_ => [box b1 [num k, num p, num n, vt, vo] 34, hp w]) (fun z_ => z_ ≤ ts.length) (fun z_ => ts.length - z_) 0 (by omega) ⟨rfl, rfl, (by first | rfl | exact ksub rfl (by first | omega | (simp; done) | (simp; omega))), rfl, rfl, (by first | rfl | exact ksub rfl (by first | omega | (simp; done) | (simp; omega))), trivial⟩ (fun _ s => s) ?_; rintro i hi; have hfw := edg_few hnet i hi; refine wp_sc (wp_sq (sq_v rfl (v_lss rfl rfl) rfl (sq_end (qs_n (wp_sc ?_))))); refine wp_cd rfl (fun c13 => ?_) (fun c13 => ?_)
    · refine wp_sk (qs_n (wp_sc (wp_bl (wp_sc (wp_sq ?_))))); obtain ⟨t14, a14, b14, c14, ht14, hcs14, rl14, rd14, rx14⟩ := hc_r (i) (by first | omega | (rw [List.length_set]; omega)); refine sq_v rfl (v_indexAddr Try.underlying29 ty_48 rfl rfl rr_r (by decide) (by omega) (by omega)) rfl ?_; refine sq_v rfl (v_loadNE 1 ty_48 rfl rfl rr_r (by have := rr_r.1; omega) rfl hcs14) rfl ?_; refine sq_x rfl (x_alloc ty_48 rfl) rfl ?_; rintro _ _ ⟨b5, rfl, rfl⟩; refine sq_m 0 rfl rfl (m_store 0 ty_48 rfl rfl rfl rfl (by simp [rl14.sl.one, rd14.sl.one, rx14.sl.one]) rfl (Nat.le_of_ble_eq_true rfl)) rfl ?_; rintro _ _ ⟨rfl, rfl⟩; refine sq_end ?_; have e15 : ts.getD i noTen = t14 := getD_ten ht14; have hst : (edgTo ts (i + 1)).length = (edgTo ts i).length + t14.l.length := by rw [edgTo_len, e15]
      have ht12 := (net_axes hnet _ (List.mem_of_getElem? ht14)).1; refine qs_n (wp_sq (sq_v rfl (v_move rfl) rfl (sq_v rfl (v_fieldAddr fd_48_0 ty_25 (by decide) rfl) rfl (sq_v rfl (v_loadB 0 ty_25 rfl rfl rfl) rfl (sq_v rfl (v_len Try.underlying25 rfl rl14.sl) rfl ?_))))); refine sq_v rfl (v_add rfl rfl ((by unfold I64; omega))) rfl ?_; refine sq_v rfl (v_assign rfl) rfl (sq_end (qs_bn (qs_n (wp_sq ?_)))); refine sq_v rfl (v_add rfl rfl ((by unfold I64; omega))) rfl ?_; refine sq_v rfl (v_move rfl) rfl (sq_end ?_); exact qs_bk (i + 1) (by omega) (by omega) ⟨rfl, rfl, (by first | rfl | exact ksub rfl (by first | omega | (simp; done) | (simp; omega))), rfl, rfl, (by first | rfl | exact ksub rfl (by first | omega | (simp; done) | (simp; omega))), trivial⟩ (fun _ s => s.pick [1, 2] (by decide) rfl)
    · refine wp_ex (qs_x (qs_x (qs_bx (qs_n (wp_sc (wp_rj 15 [(0, true), (1, true), (2, true), (3, true), (4, true), (5, true), (9, true), (6, false), (7, true), (8, true), (10, false), (11, true), (12, true), (13, true), (14, true)] mixed_ok (by kernel_rfl) (rj_v rfl rfl (v_move rfl) rfl (rj_v rfl rfl (v_fieldAddr fd_34_1 ty_29 (by decide) rfl) rfl (rj_v rfl rfl (v_loadB 0 ty_29 rfl rfl rfl) rfl (rj_v rfl rfl (v_len Try.underlying29 rfl r.sl) rfl (rj_v rfl rfl (v_fieldAddr fd_34_1 ty_29 (by decide) rfl) rfl (rj_v rfl rfl (v_loadB 0 ty_29 rfl rfl rfl) rfl (rj_v rfl rfl (v_loadNB 0 ty_34 rfl rfl rfl rfl) rfl ?_))))))))))))); refine rj_x rfl rfl (x_call rfl en_17 (fun w s => ct_s_l12Labels _ _ w (r.mono (s.get 1 rfl)) (net_ax hnet))) rfl ?_; rintro v28 h28 r28; refine rj_v rfl rfl (v_len Try.underlying25 rfl r28.toR.sl) rfl ?_; refine rj_v rfl rfl (v_add rfl rfl ((by unfold I64; omega))) rfl ?_; refine rj_x rfl rfl (x_call rfl en_16 (fun w s => ct_s_PartsOf _ _ _ _ _ _ _ w (r.mono (s.get 2 rfl)) (r'.mono (s.get 2 rfl)) (by first | assumption | omega) (by first | assumption | omega))) rfl ?_; rintro v32 h32 r32; obtain ⟨cs_L_32, rr_L_32, hc_L_32⟩ := r32.toR.at; refine rj_v rfl rfl (v_len Try.underlying44 rfl r32.toR.sl) rfl ?_; refine rj_v rfl rfl (v_sub rfl rfl ((by unfold I64; omega))) rfl ?_; refine rj_v rfl rfl (v_eql rfl rfl) rfl (rj_v rfl rfl (v_assign rfl) rfl (rj_end (qs_n (wp_rt ?_)))); exact qs_ret1 rfl rfl (fin_q (i := 3) rfl (for_dec hnet _ (by rw [show i = ts.length by omega])))
def rpX (a b x : Int) : Int := if x = b then a else x
def rpI (P : List Int) (a b : Int) (m : Nat) : List Int := (P.take m).map (rpX a b) ++ P.drop m
theorem rpI_zero (P : List Int) (a b : Int) : rpI P a b 0 = P := by simp [rpI]
theorem rpI_len (P : List Int) (a b : Int) (m : Nat) : (rpI P a b m).length = P.length := by simp [rpI]; omega
theorem rpI_at {P : List Int} {a b : Int} {m : Nat} (h : m < P.length) : (rpI P a b m).getD m 0 = P.getD m 0 := by
  have hl : ((P.take m).map (rpX a b)).length = m := by simp; omega
  unfold rpI
  simp only [List.getD]; rw [List.getElem?_append_right (by omega), hl, Nat.sub_self, List.getElem?_drop, Nat.add_zero]
theorem rpI_step {P : List Int} {a b : Int} {m : Nat} (h : m < P.length) : rpI P a b (m + 1) = (rpI P a b m).set m (rpX a b (P.getD m 0)) := by
  have hl : ((P.take m).map (rpX a b)).length = m := by simp; omega
  unfold rpI
  rw [List.set_append_right _ _ (by omega), hl, Nat.sub_self, List.drop_eq_getElem_cons h, List.set_cons_zero, List.take_succ_eq_append_getElem h, List.map_append, List.append_assoc]
  congr 1
  simp [List.getD, h]
theorem rpI_yes {P : List Int} {a b : Int} {m : Nat} (h : m < P.length) (e : (rpI P a b m).getD m 0 = b) : rpI P a b (m + 1) = (rpI P a b m).set m a := by
  rw [rpI_at h] at e; rw [rpI_step h, rpX, if_pos e]
theorem rpI_no {P : List Int} {a b : Int} {m : Nat} (h : m < P.length) (e : (rpI P a b m).getD m 0 ≠ b) : rpI P a b (m + 1) = rpI P a b m := by
  rw [rpI_at h] at e; rw [rpI_step h, rpX, if_neg e, ← rpI_at (a := a) (b := b) h]; exact set_same (by rw [rpI_len]; exact h)
theorem rpI_full {P : List Int} {e : Nat × Nat} : rpI P (P.getD e.1 0) (P.getD e.2 0) P.length = mrgE P e := by
  unfold rpI mrgE
  rw [List.take_length, List.drop_length, List.append_nil]
  rfl
def ufT (ts : List Ten) (i j : Nat) : List Int := ufF (nodesR (ts.length + 100)) (edgTo ts i ++ edg ts i j)
theorem ufT_len (ts : List Ten) (i j : Nat) : (ufT ts i j).length = ts.length + 100 := by rw [ufT, ufF_len, nodesR_len]
theorem ufT_step {ts : List Ten} {i j : Nat} (h : j < (ts.getD i noTen).l.length) : ufT ts i (j + 1) = mrgE (ufT ts i j) (i, ts.length + ((ts.getD i noTen).l.getD j 0).toNat) := by
  unfold ufT
  rw [edg_step h, ← List.append_assoc, ufF_snoc]
theorem ufT_next {ts : List Ten} {i : Nat} : ufT ts i (ts.getD i noTen).l.length = ufT ts (i + 1) 0 := by
  unfold ufT
  rw [edg_zero, List.append_nil, edgTo_step]
def okT (ts : List Ten) (i j : Nat) : Prop := okE (nodesR (ts.length + 100)) (edgTo ts i ++ edg ts i j)
theorem okT_step {ts : List Ten} {i j : Nat} (h : j < (ts.getD i noTen).l.length) : okT ts i (j + 1) ↔ okT ts i j ∧ (ufT ts i j).getD i 0 ≠ (ufT ts i j).getD (ts.length + ((ts.getD i noTen).l.getD j 0).toNat) 0 := by
  unfold okT ufT
  rw [edg_step h, ← List.append_assoc, okE_snoc]
theorem okT_next {ts : List Ten} {i : Nat} : okT ts i (ts.getD i noTen).l.length ↔ okT ts (i + 1) 0 := by
  unfold okT
  rw [edg_zero, List.append_nil, edgTo_step]
theorem okE_front : ∀ (a b : List (Nat × Nat)) (R : List Int), okE R (a ++ b) → okE R a
  | [], _, _, _ => trivial
  | _ :: a, b, _, h => ⟨h.1, okE_front a b _ h.2⟩
theorem okT_all {ts : List Ten} (h : forL ts) {i j : Nat} (hi : i < ts.length) (hj : j ≤ (ts.getD i noTen).l.length) : okT ts i j := by
  have h1 : ∀ m, i + 1 + m = ts.length → okE (nodesR (ts.length + 100)) (edgTo ts (i + 1)) := fun m hm => by
    have e : ∃ r, edgTo ts (i + 1 + m) = edgTo ts (i + 1) ++ r := by
      clear hm
      induction m with
      | zero => exact ⟨[], by simp⟩
      | succ m ih =>
        obtain ⟨r, hr⟩ := ih; exact ⟨r ++ edg ts (i + 1 + m) (ts.getD (i + 1 + m) noTen).l.length, by rw [← Nat.add_assoc, edgTo_step, hr, List.append_assoc]⟩
    obtain ⟨r, hr⟩ := e; have h2 : okE (nodesR (ts.length + 100)) (edgTo ts ts.length) := h; rw [← hm, hr] at h2; rw [hm] at h2; exact okE_front _ _ _ h2
  have h2 := h1 (ts.length - (i + 1)) (by omega); rw [edgTo_step] at h2; have e : ∃ r, edg ts i (ts.getD i noTen).l.length = edg ts i j ++ r := ⟨((ts.getD i noTen).l.drop j).map fun x => (i, ts.length + x.toNat), by
    unfold edg
    rw [List.take_length, ← List.map_append, List.take_append_drop]⟩
  obtain ⟨r, hr⟩ := e; rw [hr, ← List.append_assoc] at h2; exact okE_front _ _ _ h2
theorem fill_nodes {N i : Nat} (h : i < N) : (nodesR i ++ List.replicate (N - i) 0).set i (i : Int) = nodesR (i + 1) ++ List.replicate (N - (i + 1)) 0 := by
  rw [List.set_append_right _ _ (by rw [nodesR_len]; omega), nodesR_len, Nat.sub_self, show N - i = (N - (i + 1)) + 1 by omega, List.replicate_succ, List.set_cons_zero]
  simp [nodesR, List.range_succ]
set_option maxHeartbeats 2000000 in
theorem ct_i_IsForest (k p n : Int) (ts : List Ten) (op : List Int) (vt vo : Value) (w : World) (r : TensR ts vt (hp w)) (r' : IntsR op vo (hp w)) (hs : op.length ≤ 1048576) :
    Calls Try.prog 26 [netV k p n vt vo].toArray w (RetV w (.bool (forB k p n ts op))) := by
  refine calls_in Try.func26 rfl Try.ntmps26 rfl (Sat.start w) ?_; have hle0 := r.le; obtain ⟨cs_r, rr_r, hc_r⟩ := r.at; have hle1 := r'.le; refine wp_sc (wp_sq ?_); refine sq_x rfl (x_box rfl rfl) rfl ?_; rintro _ _ ⟨b1, rfl, rfl⟩; refine sq_v rfl (v_assign rfl) rfl (sq_end (qs_n (wp_sc (wp_sc (wp_sq (sq_v rfl (v_loadNB 0 ty_34 rfl rfl rfl rfl) rfl (sq_u rfl (x_callv rfl en_58 (fun w s => ct_i_NetworkOk _ _ _ _ _ _ _ w (r.mono (s.get 1 rfl)) (r'.mono (s.get 1 rfl)) (by first | assumption | omega))) rfl (sq_v rfl (v_not rfl) rfl (sq_end (qs_n ?_)))))))))); refine wp_cn _ rfl (fun c14 => ?_) (fun c14 => ?_)
  · refine wp_sc (wp_sq (sq_v rfl (v_assign rfl) rfl (sq_end (qs_n (wp_rt (qs_r ?_)))))); exact qs_ret1 rfl rfl (fin_q (i := 1) rfl (forB_no fun h => by rw [netB_true.2 h.1] at c14; cases c14))
  · refine wp_sk (qs_n (wp_sc (wp_sq ?_))); have hnet := netB_true.1 c14; have h12 := hnet.2.1; refine sq_v rfl (v_fieldAddr fd_34_1 ty_29 (by decide) rfl) rfl (sq_v rfl (v_loadB 0 ty_29 rfl rfl rfl) rfl (sq_v rfl (v_len Try.underlying29 rfl r.sl) rfl ?_)); refine sq_v rfl (v_add rfl rfl ((by unfold I64; omega))) rfl ?_; refine sq_x rfl (x_makeI Try.underlying25 ty_3 rfl rfl (by first | omega | (simp; omega) | (simp only [List.length_append, List.length_cons, List.length_nil]; omega) | (rw [List.length_set]; omega)) (by first | omega | (simp; omega) | (simp only [List.length_append, List.length_cons, List.length_nil]; omega) | (rw [List.length_set]; omega)) (by first | omega | (simp; omega) | (simp only [List.length_append, List.length_cons, List.length_nil]; omega) | (rw [List.length_set]; omega))) rfl ?_; intro v19 h19 r19; refine sq_v rfl (v_assign rfl) rfl (sq_end ?_); have e18 : ((ts.length : Int) + 100).toNat = ts.length + 100 := by omega
    rw [e18] at r19; have hrl : (List.replicate (ts.length + 100) (0 : Int)).length = ts.length + 100 := List.length_replicate
    skip
    refine qs_n (wp_sc (wp_sc (wp_sq (sq_v rfl (v_move rfl) rfl (sq_v rfl (v_len Try.underlying25 rfl r19.toR.sl) rfl (sq_v rfl (v_move rfl) rfl (sq_end (qs_n (wp_bl ?_))))))))); refine wp_lp (σ := Nat × PH) (fun z_ => [(1, .pointer (some ⟨b1, 0, none⟩)), (2, .bool false), (3, v19), (21, num (List.replicate (ts.length + 100) 0).length), (22, num z_.1)]) (fun z_ => [z_.2, box b1 [num k, num p, num n, vt, vo] 34, hp w]) (fun z_ => z_.1 ≤ ts.length + 100 ∧ IntsO (nodesR z_.1 ++ List.replicate (ts.length + 100 - z_.1) 0) v19 z_.2) (fun z_ => ts.length + 100 - z_.1) (0, h19) (⟨by (try dsimp only); omega, by (try dsimp only); simpa [nodesR] using r19⟩) ⟨rfl, rfl, rfl, rfl, (by first | rfl | exact ksub rfl (by first | omega | (simp; done) | (simp; omega))), trivial⟩ (fun _ s => s) ?_; rintro ⟨i, hx⟩ ⟨hi, q⟩; dsimp only at hi q ⊢; have hle_q := q.toR.le; have hnl : (nodesR i ++ List.replicate (ts.length + 100 - i) 0).length = ts.length + 100 := by rw [List.length_append, nodesR_len, List.length_replicate]; omega
    refine wp_sc (wp_sq (sq_v rfl (v_lss rfl rfl) rfl (sq_end (qs_n (wp_sc ?_))))); refine wp_cd rfl (fun c23 => ?_) (fun c23 => ?_)
    · refine wp_sk (qs_n (wp_sc (wp_bl (wp_sc (wp_sq (sq_v rfl (v_move rfl) rfl (sq_v rfl (v_assign rfl) rfl (sq_end (qs_n (wp_sq (sq_v rfl (v_move rfl) rfl (sq_v rfl (v_move rfl) rfl (sq_v rfl (v_move rfl) rfl ?_))))))))))))); refine sq_v rfl (v_idxI Try.underlying25 ty_3 rfl rfl q.toR (by first | omega | (simp; omega) | (simp only [List.length_append, List.length_cons, List.length_nil]; omega) | (rw [List.length_set]; omega)) (by first | omega | (simp; omega) | (simp only [List.length_append, List.length_cons, List.length_nil]; omega) | (rw [List.length_set]; omega))) rfl ?_; refine sq_m 0 rfl rfl (m_storeI (k := i) 0 ty_3 rfl rfl rfl q (by first | omega | (simp; omega) | (simp only [List.length_append, List.length_cons, List.length_nil]; omega) | (rw [List.length_set]; omega))) rfl ?_; rintro _ h_q7_4 ⟨rfl, q7_4⟩; refine sq_end (qs_bn (qs_n (wp_sq ?_))); refine sq_v rfl (v_add rfl rfl ((by unfold I64; omega))) rfl ?_; refine sq_v rfl (v_move rfl) rfl (sq_end ?_); exact qs_bk (i + 1, h_q7_4) ⟨by (try dsimp only); omega, by (try dsimp only); rw [← fill_nodes (by omega)]; exact q7_4⟩ (by simp only; omega) ⟨rfl, rfl, rfl, rfl, (by first | rfl | exact ksub rfl (by first | omega | (simp; done) | (simp; omega))), trivial⟩ (fun _ s => s)
    · refine wp_ex (qs_x (qs_x (qs_bx (qs_n (wp_sc (wp_sc (wp_sq (sq_v rfl (v_fieldAddr fd_34_1 ty_29 (by decide) rfl) rfl (sq_v rfl (v_loadB 1 ty_29 rfl rfl rfl) rfl (sq_v rfl (v_len Try.underlying29 rfl r.sl) rfl (sq_v rfl (v_move rfl) rfl (sq_end (qs_n (wp_bl ?_)))))))))))))); refine wp_lp (σ := Nat × PH) (fun z_ => [(1, .pointer (some ⟨b1, 0, none⟩)), (2, .bool false), (3, v19), (31, vt), (32, num ts.length), (33, num z_.1)]) (fun z_ => [z_.2, box b1 [num k, num p, num n, vt, vo] 34, hp w]) (fun z_ => z_.1 ≤ ts.length ∧ okT ts z_.1 0 ∧ IntsO (ufT ts z_.1 0) v19 z_.2) (fun z_ => ts.length - z_.1) (0, hx) (⟨by (try dsimp only); omega, trivial, by (try dsimp only); rw [show i = ts.length + 100 by omega] at q; simpa [ufT, ufF, edgTo, edg] using q⟩) ⟨rfl, rfl, rfl, rfl, rfl, (by first | rfl | exact ksub rfl (by first | omega | (simp; done) | (simp; omega))), trivial⟩ (fun _ s => s) ?_; rintro ⟨i, hx⟩ ⟨hi, hok, q⟩; dsimp only at hi hok q ⊢; have hle_q := q.toR.le; refine wp_sc (wp_sq (sq_v rfl (v_lss rfl rfl) rfl (sq_end (qs_n (wp_sc ?_))))); refine wp_cd rfl (fun c34 => ?_) (fun c34 => ?_)
      · refine wp_sk (qs_n (wp_sc (wp_bl (wp_sc (wp_sq (sq_v rfl (v_move rfl) rfl ?_)))))); obtain ⟨t36, a36, b36, c36, ht36, hcs36, rl36, rd36, rx36⟩ := hc_r (i) (by first | omega | (rw [List.length_set]; omega)); refine sq_v rfl (v_indexAddr Try.underlying29 ty_48 rfl rfl rr_r (by decide) (by omega) (by omega)) rfl ?_; refine sq_v rfl (v_loadNE 2 ty_48 rfl rfl rr_r (by have := rr_r.1; omega) rfl hcs36) rfl ?_; refine sq_x rfl (x_alloc ty_48 rfl) rfl ?_; rintro _ _ ⟨b6, rfl, rfl⟩; refine sq_v rfl (v_assign rfl) rfl ?_; refine sq_m 0 rfl rfl (m_store 0 ty_48 rfl rfl rfl rfl (by simp [rl36.sl.one, rd36.sl.one, rx36.sl.one]) rfl (Nat.le_of_ble_eq_true rfl)) rfl ?_; rintro _ _ ⟨rfl, rfl⟩; refine sq_end ?_; have e36 : ts.getD i noTen = t36 := getD_ten ht36; have hlt : i < ts.length := by omega
        have hl12 := (net_axes hnet _ (List.mem_of_getElem? ht36)).1; refine qs_n (wp_sc (wp_sq (sq_v rfl (v_fieldAddr fd_48_0 ty_25 (by decide) rfl) rfl (sq_v rfl (v_loadB 0 ty_25 rfl rfl rfl) rfl (sq_v rfl (v_len Try.underlying25 rfl rl36.sl) rfl (sq_v rfl (v_move rfl) rfl (sq_end (qs_n (wp_bl ?_))))))))); refine wp_lp (σ := Nat × PH) (fun z_ => [(1, .pointer (some ⟨b1, 0, none⟩)), (2, .bool false), (3, v19), (5, num i), (6, .pointer (some ⟨b6, 0, none⟩)), (31, vt), (32, num ts.length), (33, num i), (34, .bool (decide ((i : Int) < ts.length))), (35, num i), (37, .agg [a36, b36, c36].toArray), (38, .pointer (some ⟨b6, 0, none⟩)), (39, a36), (40, num t36.l.length), (41, num z_.1)]) (fun z_ => [box b6 [a36, b36, c36] 48, z_.2, box b1 [num k, num p, num n, vt, vo] 34, hp w]) (fun z_ => z_.1 ≤ t36.l.length ∧ okT ts i z_.1 ∧ IntsO (ufT ts i z_.1) v19 z_.2) (fun z_ => t36.l.length - z_.1) (0, hx) (⟨by (try dsimp only); omega, hok, q⟩) ⟨rfl, rfl, rfl, rfl, rfl, rfl, rfl, rfl, rfl, rfl, rfl, rfl, rfl, rfl, (by first | rfl | exact ksub rfl (by first | omega | (simp; done) | (simp; omega))), trivial⟩ (fun _ s => s) ?_; rintro ⟨j, hx⟩ ⟨hj, hok2, q⟩; dsimp only at hj hok2 q ⊢; have hle_q := q.toR.le; have hul := ufT_len ts i j; refine wp_sc (wp_sq (sq_v rfl (v_lss rfl rfl) rfl (sq_end (qs_n (wp_sc ?_))))); refine wp_cd rfl (fun c42 => ?_) (fun c42 => ?_)
        · refine wp_sk (qs_n (wp_sc (wp_bl (wp_sc (wp_sq ?_))))); refine sq_v rfl (v_idxI Try.underlying25 ty_3 rfl rfl rl36 (by first | omega | (simp; omega) | (simp only [List.length_append, List.length_cons, List.length_nil]; omega) | (rw [List.length_set]; omega)) (by first | omega | (simp; omega) | (simp only [List.length_append, List.length_cons, List.length_nil]; omega) | (rw [List.length_set]; omega))) rfl ?_; refine sq_v rfl (v_loadI (k := j) 3 ty_3 rfl rfl rl36 (by first | omega | (simp; omega) | (simp only [List.length_append, List.length_cons, List.length_nil]; omega) | (rw [List.length_set]; omega))) rfl ?_; refine sq_v rfl (v_assign rfl) rfl (sq_end ?_); have hlb := net_lab hnet hlt (x := t36.l.getD j 0) (by rw [e36]; exact mem_getD (by omega)); refine qs_n (wp_sc (wp_rj 14 [(0, true), (1, true), (2, true), (3, true), (4, true), (5, true), (6, true), (7, true), (8, true), (9, true), (10, true), (11, true), (12, true), (13, true)] mixed_ok (by kernel_rfl) (rj_v rfl rfl (v_move rfl) rfl (rj_v rfl rfl (v_move rfl) rfl ?_)))); refine rj_v rfl rfl (v_idxI Try.underlying25 ty_3 rfl rfl q.toR (by first | omega | (simp; omega) | (simp only [List.length_append, List.length_cons, List.length_nil]; omega) | (rw [List.length_set]; omega)) (by first | omega | (simp; omega) | (simp only [List.length_append, List.length_cons, List.length_nil]; omega) | (rw [List.length_set]; omega))) rfl ?_; refine rj_v rfl rfl (v_loadI (k := i) 1 ty_3 rfl rfl q.toR (by first | omega | (simp; omega) | (simp only [List.length_append, List.length_cons, List.length_nil]; omega) | (rw [List.length_set]; omega))) rfl ?_; refine rj_v rfl rfl (v_move rfl) rfl (rj_v rfl rfl (v_fieldAddr fd_34_1 ty_29 (by decide) rfl) rfl (rj_v rfl rfl (v_loadB 2 ty_29 rfl rfl rfl) rfl (rj_v rfl rfl (v_len Try.underlying29 rfl r.sl) rfl (rj_v rfl rfl (v_move rfl) rfl ?_)))); refine rj_v rfl rfl (v_add rfl rfl ((by unfold I64; omega))) rfl ?_; refine rj_v rfl rfl (v_idxI Try.underlying25 ty_3 rfl rfl q.toR (by first | omega | (simp; omega) | (simp only [List.length_append, List.length_cons, List.length_nil]; omega) | (rw [List.length_set]; omega)) (by first | omega | (simp; omega) | (simp only [List.length_append, List.length_cons, List.length_nil]; omega) | (rw [List.length_set]; omega))) rfl ?_; refine rj_v rfl rfl (v_loadI  1 ty_3 rfl rfl q.toR (by first | omega | (simp; omega) | (simp only [List.length_append, List.length_cons, List.length_nil]; omega) | (rw [List.length_set]; omega))) rfl ?_; refine rj_v rfl rfl (v_assign rfl) rfl (rj_v rfl rfl (v_assign rfl) rfl (rj_end ?_)); have e54 : ((ts.length : Int) + t36.l.getD j 0).toNat = ts.length + (t36.l.getD j 0).toNat := by omega
          refine qs_n (wp_sc (wp_sc (wp_sq (sq_v rfl (v_move rfl) rfl (sq_v rfl (v_move rfl) rfl (sq_v rfl (v_eql rfl rfl) rfl (sq_end (qs_n ?_)))))))); refine wp_cd rfl (fun c59 => ?_) (fun c59 => ?_)
          · refine wp_sc (wp_sq (sq_v rfl (v_assign rfl) rfl (sq_end (qs_n (wp_rt (qs_r (qs_br (qs_r (qs_r (qs_br (qs_br (qs_r (qs_r (qs_br (qs_r ?_))))))))))))))); exact qs_ret1 rfl rfl (fin_q (i := 3) rfl (forB_no fun h => by have h9 := (okT_step (by rw [e36]; omega)).1 (okT_all h.2 hlt (j := j + 1) (by rw [e36]; omega)); rw [e36, ← e54] at h9; exact h9.2 c59))
          · refine wp_sk (qs_n (wp_sc (wp_sq (sq_v rfl (v_move rfl) rfl (sq_v rfl (v_len Try.underlying25 rfl q.toR.sl) rfl (sq_v rfl (v_move rfl) rfl (sq_end (qs_n (wp_bl ?_))))))))); refine wp_lp (σ := Nat × PH) (fun z_ => [(1, .pointer (some ⟨b1, 0, none⟩)), (2, .bool false), (3, v19), (5, num i), (6, .pointer (some ⟨b6, 0, none⟩)), (8, num (t36.l.getD j 0)), (9, num ((ufT ts i j).getD i 0)), (10, num ((ufT ts i j).getD (ts.length + (t36.l.getD j 0) : Int).toNat 0)), (31, vt), (32, num ts.length), (33, num i), (34, .bool (decide ((i : Int) < ts.length))), (35, num i), (37, .agg [a36, b36, c36].toArray), (38, .pointer (some ⟨b6, 0, none⟩)), (39, a36), (40, num t36.l.length), (41, num j), (42, .bool (decide ((j : Int) < t36.l.length))), (44, num (t36.l.getD j 0)), (45, v19), (46, num i), (48, num ((ufT ts i j).getD i 0)), (49, v19), (50, .pointer (some ⟨b1, 3, none⟩)), (51, vt), (52, num ts.length), (53, num (t36.l.getD j 0)), (54, num (ts.length + (t36.l.getD j 0))), (56, num ((ufT ts i j).getD (ts.length + (t36.l.getD j 0) : Int).toNat 0)), (57, num ((ufT ts i j).getD i 0)), (58, num ((ufT ts i j).getD (ts.length + (t36.l.getD j 0) : Int).toNat 0)), (59, .bool (decide (((ufT ts i j).getD i 0 : Int) = (ufT ts i j).getD (ts.length + (t36.l.getD j 0) : Int).toNat 0))), (60, v19), (61, num (ufT ts i j).length), (62, num z_.1)]) (fun z_ => [box b6 [a36, b36, c36] 48, z_.2, box b1 [num k, num p, num n, vt, vo] 34, hp w]) (fun z_ => z_.1 ≤ ts.length + 100 ∧ IntsO (rpI (ufT ts i j) ((ufT ts i j).getD i 0) ((ufT ts i j).getD ((ts.length : Int) + t36.l.getD j 0).toNat 0) z_.1) v19 z_.2) (fun z_ => ts.length + 100 - z_.1) (0, hx) (⟨by (try dsimp only); omega, by (try dsimp only); rw [rpI_zero]; exact q⟩) ⟨rfl, rfl, rfl, rfl, rfl, rfl, rfl, rfl, rfl, rfl, rfl, rfl, rfl, rfl, rfl, rfl, rfl, rfl, rfl, rfl, rfl, rfl, rfl, rfl, rfl, rfl, rfl, rfl, rfl, rfl, rfl, rfl, rfl, rfl, rfl, (by first | rfl | exact ksub rfl (by first | omega | (simp; done) | (simp; omega))), trivial⟩ (fun _ s => s) ?_; rintro ⟨z, hx⟩ ⟨hz, q⟩; dsimp only at hz q ⊢; have hle_q := q.toR.le; have hrl2 := rpI_len (ufT ts i j) ((ufT ts i j).getD i 0) ((ufT ts i j).getD ((ts.length : Int) + t36.l.getD j 0).toNat 0) z; refine wp_sc (wp_sq (sq_v rfl (v_lss rfl rfl) rfl (sq_end (qs_n (wp_sc ?_))))); refine wp_cd rfl (fun c63 => ?_) (fun c63 => ?_)
            · refine wp_sk (qs_n (wp_sc (wp_bl (wp_sc (wp_sq (sq_v rfl (v_move rfl) rfl (sq_v rfl (v_assign rfl) rfl (sq_end (qs_n (wp_sc (wp_sq (sq_v rfl (v_move rfl) rfl (sq_v rfl (v_move rfl) rfl ?_))))))))))))); refine sq_v rfl (v_idxI Try.underlying25 ty_3 rfl rfl q.toR (by first | omega | (simp; omega) | (simp only [List.length_append, List.length_cons, List.length_nil]; omega) | (rw [List.length_set]; omega)) (by first | omega | (simp; omega) | (simp only [List.length_append, List.length_cons, List.length_nil]; omega) | (rw [List.length_set]; omega))) rfl ?_; refine sq_v rfl (v_loadI (k := z) 1 ty_3 rfl rfl q.toR (by first | omega | (simp; omega) | (simp only [List.length_append, List.length_cons, List.length_nil]; omega) | (rw [List.length_set]; omega))) rfl ?_; refine sq_v rfl (v_move rfl) rfl (sq_v rfl (v_eql rfl rfl) rfl (sq_end (qs_n ?_))); refine wp_cd rfl (fun c70 => ?_) (fun c70 => ?_)
              · refine wp_sq (sq_v rfl (v_move rfl) rfl (sq_v rfl (v_move rfl) rfl (sq_v rfl (v_move rfl) rfl ?_))); refine sq_v rfl (v_idxI Try.underlying25 ty_3 rfl rfl q.toR (by first | omega | (simp; omega) | (simp only [List.length_append, List.length_cons, List.length_nil]; omega) | (rw [List.length_set]; omega)) (by first | omega | (simp; omega) | (simp only [List.length_append, List.length_cons, List.length_nil]; omega) | (rw [List.length_set]; omega))) rfl ?_; refine sq_m 1 rfl rfl (m_storeI (k := z) 1 ty_3 rfl rfl rfl q (by first | omega | (simp; omega) | (simp only [List.length_append, List.length_cons, List.length_nil]; omega) | (rw [List.length_set]; omega))) rfl ?_; rintro _ h_q22_4 ⟨rfl, q22_4⟩; refine sq_end (qs_bn (qs_n (wp_sq ?_))); refine sq_v rfl (v_add rfl rfl ((by unfold I64; omega))) rfl ?_; refine sq_v rfl (v_move rfl) rfl (sq_end ?_); exact qs_bk (z + 1, h_q22_4) ⟨by (try dsimp only); omega, by (try dsimp only); rw [rpI_yes (by omega) c70]; exact q22_4⟩ (by simp only; omega) ⟨rfl, rfl, rfl, rfl, rfl, rfl, rfl, rfl, rfl, rfl, rfl, rfl, rfl, rfl, rfl, rfl, rfl, rfl, rfl, rfl, rfl, rfl, rfl, rfl, rfl, rfl, rfl, rfl, rfl, rfl, rfl, rfl, rfl, rfl, rfl, (by first | rfl | exact ksub rfl (by first | omega | (simp; done) | (simp; omega))), trivial⟩ (fun _ s => s)
              · refine wp_sk (qs_bn (qs_n (wp_sq ?_))); refine sq_v rfl (v_add rfl rfl ((by unfold I64; omega))) rfl ?_; refine sq_v rfl (v_move rfl) rfl (sq_end ?_); exact qs_bk (z + 1, hx) ⟨by (try dsimp only); omega, by (try dsimp only); rw [rpI_no (by omega) c70]; exact q⟩ (by simp only; omega) ⟨rfl, rfl, rfl, rfl, rfl, rfl, rfl, rfl, rfl, rfl, rfl, rfl, rfl, rfl, rfl, rfl, rfl, rfl, rfl, rfl, rfl, rfl, rfl, rfl, rfl, rfl, rfl, rfl, rfl, rfl, rfl, rfl, rfl, rfl, rfl, (by first | rfl | exact ksub rfl (by first | omega | (simp; done) | (simp; omega))), trivial⟩ (fun _ s => s)
            · refine wp_ex (qs_x (qs_x (qs_bx (qs_bn (qs_n (wp_sq ?_)))))); refine sq_v rfl (v_add rfl rfl ((by unfold I64; omega))) rfl ?_; refine sq_v rfl (v_move rfl) rfl (sq_end ?_); exact qs_bk (j + 1, hx) ⟨by (try dsimp only); omega, (okT_step (by rw [e36]; omega)).2 ⟨hok2, by rw [e36, ← e54]; exact c59⟩, by (try dsimp only); rw [ufT_step (by rw [e36]; omega), e36, ← e54, ← rpI_full]; rw [show z = (ufT ts i j).length by omega] at q; exact q⟩ (by simp only; omega) ⟨rfl, rfl, rfl, rfl, rfl, rfl, rfl, rfl, rfl, rfl, rfl, rfl, rfl, rfl, (by first | rfl | exact ksub rfl (by first | omega | (simp; done) | (simp; omega))), trivial⟩ (fun _ s => s)
        · refine wp_ex (qs_x (qs_x (qs_bx (qs_bn (qs_n (wp_sq ?_)))))); refine sq_v rfl (v_add rfl rfl ((by unfold I64; omega))) rfl ?_; refine sq_v rfl (v_move rfl) rfl (sq_end ?_); exact qs_bk (i + 1, hx) ⟨by (try dsimp only); omega, okT_next.1 (by rw [e36, show t36.l.length = j by omega]; exact hok2), by (try dsimp only); rw [← ufT_next, e36, show t36.l.length = j by omega]; exact q⟩ (by simp only; omega) ⟨rfl, rfl, rfl, rfl, rfl, (by first | rfl | exact ksub rfl (by first | omega | (simp; done) | (simp; omega))), trivial⟩ (fun _ s => s.pick [1, 2, 3] (by decide) rfl)
      · refine wp_ex (qs_x (qs_x (qs_bx (qs_n (wp_sc (wp_sq (sq_v rfl (v_assign rfl) rfl (sq_end (qs_n (wp_rt ?_)))))))))); exact qs_ret1 rfl rfl (fin_q (i := 2) rfl (forB_yes ⟨hnet, by have h9 := hok; rw [show i = ts.length by omega] at h9; unfold okT at h9; rw [edg_zero, List.append_nil] at h9; exact h9⟩))
end Go.Proofs.Ytdkgaejmgnojhaa
namespace Go.Proofs.Ytdkgaejmgnojhaa
set_option maxRecDepth 100000
open Go.RowKit
section
variable {k p n : Int} {ts : List Ten} {op : List Int}
theorem edge_adj {i : Nat} (hi : i < ts.length) {x : Int} (hx : x ∈ (ts.getD i noTen).l) : Adj (edgTo ts ts.length) i (ts.length + x.toNat) := .inl (mem_edgTo.2 ⟨hi, x, hx, rfl⟩)
theorem node_ne (h : netL k p n ts op) {i q : Nat} (hi : i < ts.length) (hq : q < ts.length) {x y : Int} (hx : x ∈ (ts.getD i noTen).l) (hy : y ∈ (ts.getD q noTen).l) (hne : y ≠ x) : ts.length + y.toNat ≠ ts.length + x.toNat := by
  have h1 := net_lab h hi hx; have h2 := net_lab h hq hy
  omega
/-- In a forest whatever holds by one step of messages holds of messages with fuel. -/
theorem fuel_ind (h : netL k p n ts op) {pos : Nat → Nat} {N r : Nat} (hN : ∀ u, u < ts.length + 100 → pos u ≤ N) (c : Cert (edgTo ts ts.length) pos r) {A : Nat → Int → List Int → Prop} {B : Int → Nat → List Int → Prop}
    (sA : ∀ f i x, i < ts.length → x ∈ (ts.getD i noTen).l → (∀ y, y ∈ (ts.getD i noTen).l → y ≠ x → B y i ((msg k p n ts f).2 y i)) → A i x ((msg k p n ts (f + 1)).1 i x))
    (sB : ∀ f x i, i < ts.length → x ∈ (ts.getD i noTen).l → (∀ q, q < ts.length → q ≠ i → x ∈ (ts.getD q noTen).l → A q x ((msg k p n ts f).1 q x)) → B x i ((msg k p n ts (f + 1)).2 x i)) :
    ∀ f, (∀ i x, i < ts.length → x ∈ (ts.getD i noTen).l → muE pos N i (ts.length + x.toNat) < f → A i x ((msg k p n ts f).1 i x)) ∧
      (∀ x i, i < ts.length → x ∈ (ts.getD i noTen).l → muE pos N (ts.length + x.toNat) i < f → B x i ((msg k p n ts f).2 x i))
  | 0 => ⟨fun i x _ _ hm => by omega, fun x i _ _ hm => by omega⟩
  | f + 1 => by
    obtain ⟨iA, iB⟩ := fuel_ind h hN c sA sB f; have hin := edg_in h (Nat.le_refl ts.length); refine ⟨fun i x hi hx hm => sA f i x hi hx fun y hy hne => iB y i hi hy ?_, fun x i hi hx hm => sB f x i hi hx fun q hq hne hxq => iA q x hq hxq ?_⟩
    · have := muE_less hin hN c (edge_adj hi hx) (edge_adj hi hy) (node_ne h hi hi hx hy hne)
      omega
    · have := muE_less hin hN c (edge_adj hi hx).symm (edge_adj hq hxq).symm hne
      omega
theorem muE_le {pos : Nat → Nat} {N u v : Nat} (hu : pos u ≤ N) : muE pos N u v ≤ 2 * N := by
  unfold muE
  split <;> omega
/-- The fuel that is enough for every message of a forest. -/
theorem for_fuel (h : netL k p n ts op) (hf : forL ts) : ∃ pos N r, (∀ u, u < ts.length + 100 → pos u ≤ N) ∧ Cert (edgTo ts ts.length) pos r := by
  obtain ⟨pos, c⟩ := cert_all (R := nodesR (ts.length + 100)) (edgTo ts ts.length) (by rw [nodesR_len]; exact edg_in h (Nat.le_refl _)) hf 0; obtain ⟨N, hN⟩ := pos_bound pos (ts.length + 100); exact ⟨pos, N, 0, hN, c⟩
theorem lab_dim (h : netL k p n ts op) {i : Nat} (hi : i < ts.length) {x : Int} (hx : x ∈ (ts.getD i noTen).l) : (0 ≤ x ∧ x ≤ 99) ∧ 1 ≤ dimOf ts x ∧ dimOf ts x ≤ 8 := by
  refine ⟨net_lab h hi hx, ?_⟩; rw [← dim_at h hi hx]; have ha := ten_axes (ten_in h hi); have hg := findI_get hx; exact dims_mem (axes_dims ha) _ (mem_getD (by have := ha.2.1; omega))
end
/-- The calls of the reference's messages, in every world that holds the network. -/
def SA (k p n : Int) (ts : List Ten) (op : List Int) (vt vo : Value) (i : Nat) (x : Int) (X : List Int) : Prop := ∀ w' : World, TensR ts vt (hp w') → IntsR op vo (hp w') → Calls Try.prog 47 [netV k p n vt vo, num i, num x].toArray w' (Ret w' emp (TenT (oneAx x (dimOf ts x) X)))
def SB (k p n : Int) (ts : List Ten) (op : List Int) (vt vo : Value) (x : Int) (kk : Int) (X : List Int) : Prop := ∀ w' : World, TensR ts vt (hp w') → IntsR op vo (hp w') → Calls Try.prog 18 [netV k p n vt vo, num x, num kk].toArray w' (Ret w' emp (TenT (oneAx x (dimOf ts x) X)))
theorem spec_msgs {k p n : Int} {ts : List Ten} {op : List Int} (vt vo : Value) (h : netL k p n ts op) {pos : Nat → Nat} {N r : Nat} (hN : ∀ u, u < ts.length + 100 → pos u ≤ N) (c : Cert (edgTo ts ts.length) pos r) : ∀ f, (∀ i x, i < ts.length → x ∈ (ts.getD i noTen).l → muE pos N i (ts.length + x.toNat) < f → SA k p n ts op vt vo i x ((msg k p n ts f).1 i x)) ∧
      (∀ x i, i < ts.length → x ∈ (ts.getD i noTen).l → muE pos N (ts.length + x.toNat) i < f → SB k p n ts op vt vo x (i : Int) ((msg k p n ts f).2 x i)) :=
  fuel_ind h hN c (A := SA k p n ts op vt vo) (B := fun x i => SB k p n ts op vt vo x (i : Int))
    (fun f i x hi hx ihB w' r r' => ct_s_l28TensorF k p n x i ts op vt vo (fun y => (msg k p n ts f).2 y i) w' r r' h hi hx (fun y hy _ => (msg_ok h f).2 y i) fun y w'' hy hne rr rr' => ihB y hy hne w'' rr rr')
    (fun f x i hi hx ihA w' r r' => ct_s_l28LabelF k p n x (i : Int) ts op vt vo (fun q => (msg k p n ts f).1 q x) w' r r' h (lab_dim h hi hx).1 (lab_dim h hi hx).2 (fun q hq hxq => (msg_ok h f).1 q x hq hxq) fun q w'' hq hne hxq rr rr' => ihA q hq (by omega) hxq w'' rr rr')
open Classical in
/-- One fuel for a forest: more than any message's distance from its leaves. -/
noncomputable def fuelT (ts : List Ten) : Nat := if h : ∃ N pos r, (∀ u, u < ts.length + 100 → pos u ≤ N) ∧ Cert (edgTo ts ts.length) pos r then 2 * h.choose + 1 else 0
theorem fuelT_ok {k p n : Int} {ts : List Ten} {op : List Int} (h : netL k p n ts op) (hf : forL ts) : ∃ pos N r, (∀ u, u < ts.length + 100 → pos u ≤ N) ∧ Cert (edgTo ts ts.length) pos r ∧ 2 * N < fuelT ts := by
  obtain ⟨pos, N, r, hN, c⟩ := for_fuel h hf; have hx : ∃ N pos r, (∀ u, u < ts.length + 100 → pos u ≤ N) ∧ Cert (edgTo ts ts.length) pos r := ⟨N, pos, r, hN, c⟩
  obtain ⟨pos', r', hN', c'⟩ := hx.choose_spec; exact ⟨pos', hx.choose, r', hN', c', by rw [fuelT, dif_pos hx]; omega⟩
/-- The product of all messages to a label. -/
noncomputable def allM (k p n : Int) (ts : List Ten) (x : Int) : List Int := (msg k p n ts (fuelT ts + 1)).2 x (-1)
theorem ct_s_l28LabelAll {k p n x : Int} {ts : List Ten} {op : List Int} (vt vo : Value) (h : netL k p n ts op) (hf : forL ts) (hx : ∃ i, i < ts.length ∧ x ∈ (ts.getD i noTen).l) : SB k p n ts op vt vo x (-1) (allM k p n ts x) := by
  obtain ⟨pos, N, r, hN, c, hF⟩ := fuelT_ok h hf; obtain ⟨i, hi, hxi⟩ := hx; intro w' r1 r2; have hm := (spec_msgs vt vo h hN c (fuelT ts)).1; exact ct_s_l28LabelF k p n x (-1) ts op vt vo (fun q => (msg k p n ts (fuelT ts)).1 q x) w' r1 r2 h (lab_dim h hi hxi).1 (lab_dim h hi hxi).2 (fun q hq hxq => (msg_ok h (fuelT ts)).1 q x hq hxq) fun q w'' hq _ hxq rr rr' => hm q x hq hxq (by have := muE_le (v := ts.length + x.toNat) (hN q (by omega)); omega) w'' rr rr'
end Go.Proofs.Ytdkgaejmgnojhaa
namespace Go.Proofs.Ytdkgaejmgnojhaa
set_option maxRecDepth 100000
open Go.RowKit
/-- The elements of a message as a list. -/
def els (d : Nat) (g : Nat → List Int) : List (List Int) := (List.range d).map g
theorem els_len (d : Nat) (g : Nat → List Int) : (els d g).length = d := by simp [els]
theorem els_step (d : Nat) (g : Nat → List Int) : els (d + 1) g = els d g ++ [g d] := by simp [els, List.range_succ]
theorem els_get {d v : Nat} {g : Nat → List Int} (h : v < d) : (els d g)[v]? = some (g v) := by simp [els, h]
theorem els_congr {d : Nat} {g h : Nat → List Int} (e : ∀ v, v < d → g v = h v) : els d g = els d h := List.map_congr_left fun v hv => e v (List.mem_range.1 hv)
theorem put_at {α : Type} {cs : List α} {a z : α} {m v : Nat} (h : cs.length = v) : (cs ++ List.replicate (m + 1) z).take v ++ [a] ++ (cs ++ List.replicate (m + 1) z).drop (v + 1) = (cs ++ [a]) ++ List.replicate m z := by
  rw [List.take_left' h, List.drop_append, List.drop_of_length_le (by omega), List.nil_append, show v + 1 - cs.length = 1 by omega, List.replicate_succ]
  rfl
theorem put_at2 {α : Type} {cs ds : List α} {a : α} {v : Nat} (h : cs.length = v) : (cs ++ ds.drop v).take v ++ [a] ++ (cs ++ ds.drop v).drop (v + 1) = (cs ++ [a]) ++ ds.drop (v + 1) := by
  rw [List.take_left' h, List.drop_append, List.drop_of_length_le (by omega), List.nil_append, show v + 1 - cs.length = 1 by omega, List.drop_drop]
theorem own_getZ {bs : List (List Int)} {cs : List Value} {h : PH} (o : OwnH bs cs h) {v : Nat} {b : List Int} (hv : bs[v]? = some b) : ∃ c, cs[v]? = some c ∧ IntsR b c h := by
  obtain ⟨l, ol, md⟩ := o; obtain ⟨c, g, e1, e2, q⟩ := ol.own v b hv; exact ⟨c, e1, q.toR.mono (md.le g (List.mem_of_getElem? e2))⟩
theorem mid_get {cs ds : List Value} {v : Nat} {c : Value} (h : cs.length = v) (e : ds[v]? = some c) : (cs ++ ds.drop v)[v]? = some c := by
  rw [List.getElem?_append_right (by omega), h, Nat.sub_self, List.getElem?_drop, Nat.add_zero]; exact e
set_option maxHeartbeats 2000000 in
theorem ct_i_toTensorF (k p n x kk : Int) (ts : List Ten) (op : List Int) (vt vo : Value) (T : Nat → List Int) (w : World) (r : TensR ts vt (hp w)) (r' : IntsR op vo (hp w)) (hnet : netL k p n ts op) (hdx : 1 ≤ dimOf ts x ∧ dimOf ts x ≤ 8) (hT : ∀ i, i < ts.length → x ∈ (ts.getD i noTen).l → MsgOK k p n (dimOf ts x).toNat (T i))
    (ih : ∀ (i : Nat) (w' : World), i < ts.length → (i : Int) ≠ kk → x ∈ (ts.getD i noTen).l → TensR ts vt (hp w') → IntsR op vo (hp w') → Calls Try.prog 69 [netV k p n vt vo, num i, num x].toArray w' (Ret w' emp (LLO (els (dimOf ts x).toNat fun v => elt (T i) (widthI k n) (v : Int))))) :
    Calls Try.prog 35 [netV k p n vt vo, num x, num (dimOf ts x), num kk].toArray w (Ret w emp (LLO (els (dimOf ts x).toNat fun v => lblM k p n ts x kk T v ts.length))) := by
  have hring := hnet.1; have h12 := hnet.2.1; refine calls_in Try.func35 rfl Try.ntmps35 rfl (Sat.start w) ?_; have hle0 := r.le; obtain ⟨cs_r, rr_r, hc_r⟩ := r.at; have hle1 := r'.le; refine wp_sc (wp_sq ?_); refine sq_x rfl (x_box rfl rfl) rfl ?_; rintro _ _ ⟨b4, rfl, rfl⟩; refine sq_v rfl (v_assign rfl) rfl (sq_end (qs_n (wp_sc (wp_sq (sq_v rfl (v_move rfl) rfl ?_))))); refine sq_x rfl (x_make Try.underlying44 ty_25 rfl rfl rfl rfl (by omega) (by omega) (by omega)) rfl ?_; intro v16 h16 r16; refine sq_v rfl (v_assign rfl) rfl (sq_end ?_); have e16 : (List.replicate (dimOf ts x).toNat [Value.slice none 0 0]).flatten = List.replicate (dimOf ts x).toNat (Value.slice none 0 0) := by simp
  have r16' : RowO 25 (List.replicate (dimOf ts x).toNat (.slice none 0 0)) (dimOf ts x).toNat 1 v16 h16 := by rw [e16] at r16; exact r16
  skip
  refine qs_n (wp_sc (wp_sc (wp_sq (sq_v rfl (v_move rfl) rfl (sq_v rfl (v_len Try.underlying44 rfl r16'.toR.sl) rfl (sq_v rfl (v_move rfl) rfl (sq_end (qs_n (wp_bl ?_))))))))); refine wp_lp (σ := Nat × PH × (List Value) × PH) (fun z_ => [(1, num x), (3, num kk), (4, .pointer (some ⟨b4, 0, none⟩)), (8, .slice none 0 0), (9, v16), (18, num ((dimOf ts x).toNat : Nat)), (19, num z_.1)]) (fun z_ => [z_.2.1, z_.2.2.2, box b4 [num k, num p, num n, vt, vo] 34, hp w]) (fun z_ => z_.1 ≤ (dimOf ts x).toNat ∧ OwnH (els z_.1 fun _ => oneL k p n) z_.2.2.1 z_.2.2.2 ∧ RowO (25) (z_.2.2.1 ++ List.replicate ((dimOf ts x).toNat - z_.1) (.slice none 0 0)) ((dimOf ts x).toNat) 1 v16 z_.2.1) (fun z_ => (dimOf ts x).toNat - z_.1) (0, h16, [], emp) (⟨by (try dsimp only); omega, OwnH.nil, by (try dsimp only); simpa using r16'⟩) ⟨rfl, rfl, rfl, rfl, rfl, rfl, (by first | rfl | exact ksub rfl (by first | omega | (simp; done) | (simp; omega))), trivial⟩ (fun _ s => (emp_sat s).pick [1, 0, 2, 3] (by decide) rfl) ?_; rintro ⟨v, hx, cs, ho⟩ ⟨hv, how, q⟩; dsimp only at hv how q ⊢; have hcl : cs.length = v := by obtain ⟨l, ol, _⟩ := how; rw [ol.l1, els_len]
  refine wp_sc (wp_sq (sq_v rfl (v_lss rfl rfl) rfl (sq_end (qs_n (wp_sc ?_))))); refine wp_cd rfl (fun c20 => ?_) (fun c20 => ?_)
  · refine wp_sk (qs_n (wp_sc (wp_bl (wp_sc (wp_sq (sq_v rfl (v_move rfl) rfl (sq_v rfl (v_assign rfl) rfl (sq_end (qs_n (wp_sq (sq_v rfl (v_move rfl) rfl (sq_v rfl (v_move rfl) rfl (sq_v rfl (v_fieldAddr fd_34_0 ty_32 (by decide) rfl) rfl (sq_v rfl (v_loadNB 2 ty_32 rfl rfl rfl rfl) rfl ?_)))))))))))))); refine sq_x rfl (x_call rfl en_31 (fun w s => ct_i_rawOne _ _ _ w (by first | assumption | omega))) rfl ?_; rintro v26 h26 r26; refine sq_v rfl (v_indexAddr Try.underlying44 ty_25 rfl rfl q.toR (by decide) (by omega) (by omega)) rfl ?_; refine sq_m 1 rfl rfl (m_storeE 1 ty_25 rfl rfl (us := [v26]) (by obtain ⟨_, _, rfl⟩ := r26.toR.sl; rfl) rfl (fun u hu => by rw [List.mem_singleton.1 hu]; exact r26.toR.sl.one) rfl q (by decide) (by simp <;> omega)) rfl ?_; rintro _ h5 ⟨rfl, r5⟩; refine sq_end ?_; have r5' : RowO 25 ((cs ++ [v26]) ++ List.replicate ((dimOf ts x).toNat - (v + 1)) (.slice none 0 0)) (dimOf ts x).toNat 1 v16 h5 := by
      have e9 := r5; rw [show (dimOf ts x).toNat - v = (dimOf ts x).toNat - (v + 1) + 1 by omega] at e9; simp only [Int.toNat_natCast, Nat.mul_one] at e9; rw [put_at hcl] at e9; exact e9
    refine qs_dj 2 0 rfl rfl rfl (fun hd1 => ?_); refine qs_s [PUn ho h26, h5, _, _] (fun _ s => Sat.merge (s.pick [2, 0, 1, 3, 4] (by decide) rfl)) (qs_bn (qs_n (wp_sq ?_))); refine sq_v rfl (v_add rfl rfl ((by unfold I64; omega))) rfl ?_; refine sq_v rfl (v_move rfl) rfl (sq_end ?_); exact qs_bk (v + 1, h5, cs ++ [v26], (PUn ho h26)) ⟨by (try dsimp only); omega, by (try dsimp only); rw [els_step]; exact how.add r26 hd1, r5'⟩ (by simp only; omega) ⟨rfl, rfl, rfl, rfl, rfl, rfl, (by first | rfl | exact ksub rfl (by first | omega | (simp; done) | (simp; omega))), trivial⟩ (fun _ s => s.pick [1, 0, 2, 3] (by decide) rfl)
  · refine wp_ex (qs_x (qs_x (qs_bx (qs_n (wp_sc (wp_sc (wp_sq (sq_v rfl (v_fieldAddr fd_34_1 ty_29 (by decide) rfl) rfl (sq_v rfl (v_loadB 2 ty_29 rfl rfl rfl) rfl (sq_v rfl (v_len Try.underlying29 rfl r.sl) rfl (sq_v rfl (v_move rfl) rfl (sq_end (qs_n (wp_bl ?_)))))))))))))); refine wp_lp (σ := Nat × PH × (List Value) × PH) (fun z_ => [(1, num x), (3, num kk), (4, .pointer (some ⟨b4, 0, none⟩)), (8, .slice none 0 0), (9, v16), (30, vt), (31, num ts.length), (32, num z_.1)]) (fun z_ => [z_.2.1, z_.2.2.2, box b4 [num k, num p, num n, vt, vo] 34, hp w]) (fun z_ => z_.1 ≤ ts.length ∧ OwnH (els (dimOf ts x).toNat fun v => lblM k p n ts x kk T v z_.1) z_.2.2.1 z_.2.2.2 ∧ RowO (25) z_.2.2.1 ((dimOf ts x).toNat) 1 v16 z_.2.1) (fun z_ => ts.length - z_.1) (0, hx, cs, ho) (⟨by (try dsimp only); omega, by (try dsimp only); rw [show (dimOf ts x).toNat = v by omega]; exact how, by (try dsimp only); rw [show (dimOf ts x).toNat - v = 0 by omega, List.replicate_zero, List.append_nil] at q; exact q⟩) ⟨rfl, rfl, rfl, rfl, rfl, rfl, rfl, (by first | rfl | exact ksub rfl (by first | omega | (simp; done) | (simp; omega))), trivial⟩ (fun _ s => s) ?_; rintro ⟨i, hx, cs, ho⟩ ⟨hi, how, q⟩; dsimp only at hi how q ⊢; have hcl : cs.length = (dimOf ts x).toNat := by obtain ⟨l, ol, _⟩ := how; rw [ol.l1, els_len]
    refine wp_sc (wp_sq (sq_v rfl (v_lss rfl rfl) rfl (sq_end (qs_n (wp_sc ?_))))); refine wp_cd rfl (fun c33 => ?_) (fun c33 => ?_)
    · refine wp_sk (qs_n (wp_sc (wp_bl (wp_sc (wp_sq (sq_v rfl (v_move rfl) rfl ?_)))))); obtain ⟨t35, a35, b35, c35, ht35, hcs35, rl35, rd35, rx35⟩ := hc_r (i) (by first | omega | (rw [List.length_set]; omega)); refine sq_v rfl (v_indexAddr Try.underlying29 ty_48 rfl rfl rr_r (by decide) (by omega) (by omega)) rfl ?_; refine sq_v rfl (v_loadNE 3 ty_48 rfl rfl rr_r (by have := rr_r.1; omega) rfl hcs35) rfl ?_; refine sq_x rfl (x_alloc ty_48 rfl) rfl ?_; rintro _ _ ⟨b12, rfl, rfl⟩; refine sq_v rfl (v_assign rfl) rfl ?_; refine sq_m 0 rfl rfl (m_store 0 ty_48 rfl rfl rfl rfl (by simp [rl35.sl.one, rd35.sl.one, rx35.sl.one]) rfl (Nat.le_of_ble_eq_true rfl)) rfl ?_; rintro _ _ ⟨rfl, rfl⟩; refine sq_end ?_; have e34 : ts.getD i noTen = t35 := getD_ten ht35; refine qs_n (wp_sc (wp_sc (wp_sq (sq_v rfl (v_move rfl) rfl (sq_v rfl (v_move rfl) rfl (sq_v rfl (v_eql rfl rfl) rfl ?_)))))); refine sq_bd 39 rfl (fun c39 => ?_) (fun c39 => ?_)
      · refine sq_v rfl (v_move rfl) rfl (sq_s rfl rfl (sq_s rfl rfl (sq_s rfl rfl (sq_s rfl rfl (sq_v rfl (v_pickt rfl rfl) rfl (sq_end (qs_n (wp_ct rfl (wp_ex (qs_x (qs_bx (qs_n (wp_sq ?_))))))))))))); refine sq_v rfl (v_add rfl rfl ((by unfold I64; omega))) rfl ?_; refine sq_v rfl (v_move rfl) rfl (sq_end ?_); exact qs_bk (i + 1, hx, cs, ho) ⟨by (try dsimp only); omega, by (try dsimp only); rw [els_congr fun v _ => lblM_no (fun hc => hc.1 (by omega))]; exact how, q⟩ (by simp only; omega) ⟨rfl, rfl, rfl, rfl, rfl, rfl, rfl, (by first | rfl | exact ksub rfl (by first | omega | (simp; done) | (simp; omega))), trivial⟩ (fun _ s => s.pick [1, 2, 3, 4] (by decide) rfl)
      · refine sq_v rfl (v_move rfl) rfl (sq_v rfl (v_loadNB 0 ty_48 rfl rfl rfl rfl) rfl (sq_v rfl (v_move rfl) rfl (sq_u rfl (x_callv rfl en_67 (fun w s => ct_u_axisOf _ _ _ _ _ _ _ w (rl35.mono (s.get 4 rfl)) (rd35.mono (s.get 4 rfl)) (rx35.mono (s.get 4 rfl)))) rfl (sq_v rfl (v_lss rfl rfl) rfl (sq_v rfl (v_pickf rfl rfl) rfl (sq_end (qs_n ?_))))))); refine wp_cd rfl (fun c45 => ?_) (fun c45 => ?_)
        · refine wp_ex (qs_x (qs_bx (qs_n (wp_sq ?_)))); refine sq_v rfl (v_add rfl rfl ((by unfold I64; omega))) rfl ?_; refine sq_v rfl (v_move rfl) rfl (sq_end ?_); exact qs_bk (i + 1, hx, cs, ho) ⟨by (try dsimp only); omega, by (try dsimp only); rw [els_congr fun v _ => lblM_no (fun hc => by have h9 := findI_ge.2 hc.2; rw [e34] at h9; omega)]; exact how, q⟩ (by simp only; omega) ⟨rfl, rfl, rfl, rfl, rfl, rfl, rfl, (by first | rfl | exact ksub rfl (by first | omega | (simp; done) | (simp; omega))), trivial⟩ (fun _ s => s.pick [1, 2, 3, 4] (by decide) rfl)
        · refine wp_sk (qs_n (wp_sc (wp_sq ?_))); have hxi : x ∈ (ts.getD i noTen).l := (by rw [e34]; exact findI_ge.1 (by omega)); have hTi := hT i (by omega) hxi; refine sq_v rfl (v_loadNB 3 ty_34 rfl rfl rfl rfl) rfl (sq_v rfl (v_move rfl) rfl (sq_v rfl (v_move rfl) rfl ?_)); refine sq_x rfl (x_call rfl en_69 (fun w s => ih i w (by omega) (by omega) hxi (r.mono (s.get 4 rfl)) (r'.mono (s.get 4 rfl)))) rfl ?_; rintro v49 h49 r49; obtain ⟨cs_L_49, rr_L_49, hc_L_49⟩ := r49.toR.at; refine sq_v rfl (v_len Try.underlying44 rfl r49.toR.sl) rfl (sq_v rfl (v_move rfl) rfl (sq_end (qs_n (wp_bl ?_)))); refine wp_lp (σ := Nat × PH × (List Value) × PH) (fun z_ => [(1, num x), (3, num kk), (4, .pointer (some ⟨b4, 0, none⟩)), (8, .slice none 0 0), (9, v16), (11, num i), (12, .pointer (some ⟨b12, 0, none⟩)), (30, vt), (31, num ts.length), (32, num i), (33, .bool (decide ((i : Int) < ts.length))), (34, num i), (36, .agg [a35, b35, c35].toArray), (37, num i), (38, num kk), (41, .agg [a35, b35, c35].toArray), (42, num x), (46, .agg [num k, num p, num n, vt, vo].toArray), (47, num i), (48, num x), (49, v49), (50, num (els (dimOf ts x).toNat fun u => elt (T i) (widthI k n) (u : Int)).length), (51, num z_.1)]) (fun z_ => [z_.2.2.2, h49, box b12 [a35, b35, c35] 48, z_.2.1, ho, box b4 [num k, num p, num n, vt, vo] 34, hp w]) (fun z_ => z_.1 ≤ (dimOf ts x).toNat ∧ OwnH (els z_.1 fun u => lblM k p n ts x kk T u (i + 1)) z_.2.2.1 z_.2.2.2 ∧ RowO (25) (z_.2.2.1 ++ cs.drop z_.1) ((dimOf ts x).toNat) 1 v16 z_.2.1) (fun z_ => (dimOf ts x).toNat - z_.1) (0, hx, [], emp) (⟨by (try dsimp only); omega, OwnH.nil, by (try dsimp only); simpa using q⟩) ⟨rfl, rfl, rfl, rfl, rfl, rfl, rfl, rfl, rfl, rfl, rfl, rfl, rfl, rfl, rfl, rfl, rfl, rfl, rfl, rfl, rfl, rfl, (by first | rfl | exact ksub rfl (by first | omega | (simp; done) | (simp; omega))), trivial⟩ (fun _ s => (emp_sat s)) ?_; rintro ⟨v, hx2, csn, hn⟩ ⟨hv, hon, q2⟩; dsimp only at hv hon q2 ⊢; have hcn : csn.length = v := by obtain ⟨l, ol, _⟩ := hon; rw [ol.l1, els_len]
          have hel := els_len (dimOf ts x).toNat fun u => elt (T i) (widthI k n) (u : Int); refine wp_sc (wp_sq (sq_v rfl (v_lss rfl rfl) rfl (sq_end (qs_n (wp_sc ?_))))); refine wp_cd rfl (fun c52 => ?_) (fun c52 => ?_)
          · refine wp_sk (qs_n (wp_sc (wp_bl (wp_sc (wp_sq (sq_v rfl (v_move rfl) rfl ?_)))))); obtain ⟨l54, a54, hl54, hcs54, rl54⟩ := hc_L_49 (v) (by first | omega | (rw [List.length_set]; omega)); refine sq_v rfl (v_indexAddr Try.underlying44 ty_25 rfl rfl rr_L_49 (by decide) (by omega) (by omega)) rfl (sq_v rfl (v_loadE 1 ty_25 rfl rfl rr_L_49 (sub_get hcs54 (j := 0) rfl)) rfl (sq_v rfl (v_assign rfl) rfl (sq_v rfl (v_assign rfl) rfl (sq_end ?_)))); obtain ⟨cv, hcv, rcv⟩ := own_getZ how (v := v) (els_get (by omega)); have hmid := mid_get hcn hcv; have el54 : elt (T i) (widthI k n) (v : Int) = l54 := by have h9 := els_get (g := fun u => elt (T i) (widthI k n) ((u : Nat) : Int)) (show v < (dimOf ts x).toNat by omega); rw [hl54] at h9; injection h9 with h9; exact h9.symm
            have hin1 := lblM_in hring (kk := kk) (v := v) (fun j hj hxj => (hT j hj hxj).2 v (by omega)) i (by omega); have hin2 : InR k p n l54 := el54 ▸ hTi.2 v (by omega); refine qs_n (wp_rj 11 [(0, true), (1, true), (2, true), (3, true), (4, true), (5, true), (6, true), (7, true), (8, true), (9, false), (10, true), (11, false)] mixed_ok (by kernel_rfl) (rj_v rfl rfl (v_move rfl) rfl (rj_v rfl rfl (v_move rfl) rfl (rj_v rfl rfl (v_fieldAddr fd_34_0 ty_32 (by decide) rfl) rfl (rj_v rfl rfl (v_loadNB 5 ty_32 rfl rfl rfl rfl) rfl (rj_v rfl rfl (v_move rfl) rfl (rj_v rfl rfl (v_move rfl) rfl (rj_v rfl rfl (v_indexAddr Try.underlying44 ty_25 rfl rfl q2.toR (by decide) (by omega) (by omega)) rfl (rj_v rfl rfl (v_loadE 3 ty_25 rfl rfl q2.toR (by simpa using hmid)) rfl (rj_v rfl rfl (v_move rfl) rfl ?_)))))))))); refine rj_x rfl rfl (x_call rfl en_34 (fun w s => ct_i_rawMul _ _ _ (lblM k p n ts x kk T v i) l54 _ _ w (by first | assumption | omega) (rcv.mono (s.get 4 rfl)) (rl54.mono (s.get 1 rfl)) hin1 hin2)) rfl ?_; rintro v65 h65 r65; refine rj_v rfl rfl (v_indexAddr Try.underlying44 ty_25 rfl rfl q2.toR (by decide) (by omega) (by omega)) rfl ?_; refine rj_m 4 rfl rfl rfl rfl (m_storeE 4 ty_25 rfl rfl (us := [v65]) (by obtain ⟨_, _, rfl⟩ := r65.toR.sl; rfl) rfl (fun u hu => by rw [List.mem_singleton.1 hu]; exact r65.toR.sl.one) rfl q2 (by decide) (by simp <;> omega)) rfl ?_; rintro _ h14 ⟨rfl, r14⟩; refine rj_end ?_; have r14' : RowO 25 ((csn ++ [v65]) ++ cs.drop (v + 1)) (dimOf ts x).toNat 1 v16 h14 := by
              have e9 := r14; simp only [Int.toNat_natCast, Nat.mul_one] at e9; rw [put_at2 hcn] at e9; exact e9
            have hmul : mulL k p n (lblM k p n ts x kk T v i) l54 = lblM k p n ts x kk T v (i + 1) := by rw [lblM_yes ⟨by omega, hxi⟩, el54]
            refine qs_dj 1 0 rfl rfl rfl (fun hd1 => ?_); refine qs_s [PUn hn h65, _, _, h14, ho, _, _] (fun _ s => Sat.merge (s.pick [1, 0, 2, 3, 4, 5, 6, 7] (by decide) rfl)) (qs_bn (qs_n (wp_sq ?_))); refine sq_v rfl (v_add rfl rfl ((by unfold I64; omega))) rfl ?_; refine sq_v rfl (v_move rfl) rfl (sq_end ?_); exact qs_bk (v + 1, h14, csn ++ [v65], (PUn hn h65)) ⟨by (try dsimp only); omega, by (try dsimp only); rw [els_step]; rw [hmul] at r65; exact hon.add r65 hd1, r14'⟩ (by simp only; omega) ⟨rfl, rfl, rfl, rfl, rfl, rfl, rfl, rfl, rfl, rfl, rfl, rfl, rfl, rfl, rfl, rfl, rfl, rfl, rfl, rfl, rfl, rfl, (by first | rfl | exact ksub rfl (by first | omega | (simp; done) | (simp; omega))), trivial⟩ (fun _ s => s)
          · refine wp_ex (qs_x (qs_x (qs_bx (qs_bn (qs_n (wp_sq ?_)))))); refine sq_v rfl (v_add rfl rfl ((by unfold I64; omega))) rfl ?_; refine sq_v rfl (v_move rfl) rfl (sq_end ?_); exact qs_bk (i + 1, hx2, csn, hn) ⟨by (try dsimp only); omega, by (try dsimp only); rw [show (dimOf ts x).toNat = v by omega]; exact hon, by (try dsimp only); rw [List.drop_of_length_le (by omega), List.append_nil] at q2; exact q2⟩ (by simp only; omega) ⟨rfl, rfl, rfl, rfl, rfl, rfl, rfl, (by first | rfl | exact ksub rfl (by first | omega | (simp; done) | (simp; omega))), trivial⟩ (fun _ s => s.pick [3, 0, 5, 6] (by decide) rfl)
    · refine wp_ex (qs_x (qs_x (qs_bx (qs_n (wp_sc (wp_sq (sq_v rfl (v_move rfl) rfl (sq_v rfl (v_assign rfl) rfl (sq_end (qs_n (wp_rt ?_))))))))))); refine qs_close [hp w] [hx, ho] (fun _ s => s.pick [3, 0, 1] (by decide) rfl) (fun md => ?_); exact qs_ret1 rfl rfl (fin_t 0 (i := 1) rfl rfl rfl (LLO.of (by rw [els_len]; exact q) (by rw [show ts.length = i by omega]; exact how) md))
end Go.Proofs.Ytdkgaejmgnojhaa
namespace Go.Proofs.Ytdkgaejmgnojhaa
set_option maxRecDepth 100000
open Go.RowKit
theorem subV_all {xs : List Int} {v : Value} {h : PH} (r : IntsO xs v h) (hx : 0 < xs.length) : subV v 0 xs.length 1 = v := by
  obtain ⟨_, h1 | ⟨g, cap, cur, rfl, _, h2, _⟩⟩ := r
  · omega
  · simp only [subV, sliced]
    simp
    exact fun _ => rfl
theorem ct_i_addAll (k p n : Int) (xs y : List Int) (sv u : Value) (w : World) (h : PH) (hr : ringL k p n) (hle : PLe h (hp w)) (rz : IntsO xs sv h) (r' : IntsR y u (restP w h)) (hx : InR k p n xs) (hy : InR k p n y) :
    Calls Try.prog 62 [ringV k p n, sv, u].toArray w (Ret w h (fun _ h' => IntsO (addL k p xs y) sv h')) := by
  have h1 := hx.len hr; have h2 := hy.len hr; have hs := subV_all rz (by omega); have e : (xs.drop 0).take y.length = xs := by rw [List.drop_zero, List.take_of_length_le (by omega)]
  have hc := ct_i_addInto k p n xs y 0 xs.length sv u w h hr hle rz r' (by omega) (Nat.le_refl _) (by rw [e]; exact hx) hy; rw [hs, e] at hc; have e2 : putL xs 0 (addL k p xs y) = addL k p xs y := by
    unfold putL
    rw [List.take_zero, List.nil_append, addL_len, Nat.zero_add, List.drop_length, List.append_nil]
  rw [e2] at hc; exact hc
end Go.Proofs.Ytdkgaejmgnojhaa
namespace Go.Proofs.Ytdkgaejmgnojhaa
set_option maxRecDepth 100000
open Go.RowKit
theorem rest_le {w : World} {g h : PH} (l : PLe g h) : PLe (restP w h) (restP w g) := fun k o e => by
  unfold restP at e ⊢
  cases hg : g k with
  | none =>
    cases hh : h k with
    | none => rw [hh] at e; exact e
    | some y => rw [hh] at e; cases e
  | some y => rw [l k y hg] at e; cases e
/-- A call that turns one of an owner's parts turns the owner. -/
theorem ret_in {w w' : World} {h g : PH} {l : List PH} {v : Nat} {T : Value → PH → Prop} {e : Ending} (md : Made h l) (hle : PLe h (hp w)) (hv : l[v]? = some g) (rt : Ret w g T e w') : Ret w h (fun u h' => ∃ g', T u g' ∧ Made h' (l.set v g')) e w' := by
  obtain ⟨u, g', he, up, ht⟩ := rt; have s1 := Sat.open (A := [restP w h]) md (Sat.start2 hle); have s2 := s1.upd (i := v + 1) (by simpa using hv) up; have e1 : ([restP w h] ++ l).set (v + 1) g' = [restP w h] ++ l.set v g' := rfl; rw [e1] at s2; obtain ⟨s3, m3⟩ := s2.close; exact ⟨u, _, he, s3.updM (i := 1) rfl (j := 0) rfl (by omega), g', ht, m3⟩
theorem ct_q_addH (k p n : Int) (bs : List (List Int)) (cs : List Value) (v : Nat) (b y : List Int) (c u : Value) (w : World) (h : PH) (hr : ringL k p n) (hle : PLe h (hp w)) (o : OwnH bs cs h) (hv : bs[v]? = some b) (hc : cs[v]? = some c) (r' : IntsR y u (restP w h)) (hx : InR k p n b) (hy : InR k p n y) :
    Calls Try.prog 62 [ringV k p n, c, u].toArray w (Ret w h (fun _ h' => OwnH (bs.set v (addL k p b y)) cs h')) := by
  obtain ⟨l, ol, md⟩ := o; obtain ⟨c', g, e1, e2, q⟩ := ol.own v b hv; rw [hc] at e1
  cases e1
  have hg := List.mem_of_getElem? e2; have hc := ct_i_addAll k p n b y c u w g hr ((md.le g hg).trans hle) q (r'.mono (rest_le (md.le g hg))) hx hy; refine hc.mono fun e w' hw => ?_; obtain ⟨z, h', he, up, g', ht, m⟩ := ret_in md hle e2 hw; exact ⟨z, h', he, up, l.set v g', ol.set (by assumption) ht, m⟩
end Go.Proofs.Ytdkgaejmgnojhaa
namespace Go.Proofs.Ytdkgaejmgnojhaa
set_option maxRecDepth 100000
open Go.RowKit
theorem dim_out {k p n x : Int} {ts : List Ten} {op : List Int} (h : netL k p n ts op) (hx : x < 0 ∨ 99 < x) : dimOf ts x = 0 := Classical.byContradiction fun hd => by
  obtain ⟨t, ht, hm⟩ := dimOf_mem hd; have hg := findI_get hm; have ha := (net_axes h t ht).2.2 _ hg.1
  unfold axP at ha
  rw [hg.2] at ha
  omega
theorem ct_i_DimOf (k p n x : Int) (ts : List Ten) (op : List Int) (vt vo : Value) (w : World) (r : TensR ts vt (hp w)) (r' : IntsR op vo (hp w)) (hs : op.length ≤ 1048576) :
    Calls Try.prog 30 [netV k p n vt vo, num x].toArray w (RetV w (num (ifB (netB k p n ts op) (dimOf ts x) 0))) := by
  refine calls_in Try.func30 rfl Try.ntmps30 rfl (Sat.start w) ?_; have hle0 := r.le; obtain ⟨cs_r, rr_r, hc_r⟩ := r.at; have hle1 := r'.le; refine wp_sc (wp_sq ?_); refine sq_x rfl (x_box rfl rfl) rfl ?_; rintro _ _ ⟨b2, rfl, rfl⟩; refine sq_v rfl (v_assign rfl) rfl (sq_end (qs_n (wp_sc (wp_sc (wp_sq (sq_v rfl (v_loadNB 0 ty_34 rfl rfl rfl rfl) rfl (sq_u rfl (x_callv rfl en_58 (fun w s => ct_i_NetworkOk _ _ _ _ _ _ _ w (r.mono (s.get 1 rfl)) (r'.mono (s.get 1 rfl)) (by first | assumption | omega))) rfl ?_))))))); refine sq_bb 8 rfl (fun c8 => ?_) (fun c8 => ?_)
  · refine sq_v rfl (v_not rfl) rfl (sq_v rfl (v_move rfl) rfl (sq_v rfl (v_move rfl) rfl (sq_v rfl (v_lss rfl rfl) rfl (sq_v rfl (v_pickf rfl rfl) rfl ?_)))); refine sq_bd 13 rfl (fun c13 => ?_) (fun c13 => ?_)
    · refine sq_v rfl (v_move rfl) rfl (sq_s rfl rfl (sq_s rfl rfl (sq_v rfl (v_pickt rfl rfl) rfl (sq_end (qs_n (wp_ct rfl (wp_sc (wp_sq (sq_v rfl (v_assign rfl) rfl (sq_end (qs_n (wp_rt (qs_r ?_))))))))))))); exact qs_ret1 rfl rfl (fin_q (i := 1) rfl (by cases hb : netB k p n ts op with | false => rfl | true => rw [show ifB true (dimOf ts x) 0 = dimOf ts x from rfl, dim_out (netB_true.1 hb) (by first | omega | exact absurd (c8.symm.trans hb) (by decide))]))
    · refine sq_v rfl (v_move rfl) rfl (sq_v rfl (v_move rfl) rfl (sq_v rfl (v_gtr rfl rfl) rfl (sq_v rfl (v_pickf rfl rfl) rfl (sq_end (qs_n ?_))))); refine wp_cd rfl (fun c17 => ?_) (fun c17 => ?_)
      · refine wp_sc (wp_sq (sq_v rfl (v_assign rfl) rfl (sq_end (qs_n (wp_rt (qs_r ?_)))))); exact qs_ret1 rfl rfl (fin_q (i := 1) rfl (by cases hb : netB k p n ts op with | false => rfl | true => rw [show ifB true (dimOf ts x) 0 = dimOf ts x from rfl, dim_out (netB_true.1 hb) (by first | omega | exact absurd (c8.symm.trans hb) (by decide))]))
      · refine wp_sk (qs_n (wp_sc (wp_sq (sq_v rfl (v_fieldAddr fd_34_1 ty_29 (by decide) rfl) rfl (sq_v rfl (v_loadB 0 ty_29 rfl rfl rfl) rfl ?_))))); have hnet := netB_true.1 c8; refine sq_x rfl (x_call rfl en_63 (fun w s => ct_i_dimsOf _ _ w (r.mono (s.get 1 rfl)) (net_axes hnet))) rfl ?_; rintro _ h21 ⟨arr, ok, rfl, hal, hok', hav⟩; refine sq_v rfl (v_move rfl) rfl (sq_v rfl (v_extract rfl rfl) rfl (sq_v rfl (v_extract rfl rfl) rfl ?_)); refine sq_x rfl (x_alloc ty_77 rfl) rfl ?_; rintro _ _ ⟨b5, rfl, rfl⟩; refine sq_m 0 rfl rfl (m_storeW 0 ty_77 rfl rfl rfl (by rw [ints_length]; exact hal) (ints_one arr) rfl (by simp)) rfl ?_; rintro _ _ ⟨rfl, rfl⟩; refine sq_v rfl (v_assign rfl) rfl (sq_end (qs_n (wp_sc (wp_sq (sq_v rfl (v_move rfl) rfl (sq_v rfl (v_indexAddrA Try.underlying77 ty_3 rfl rfl (by omega) (by omega)) rfl (sq_v rfl (v_loadB 0 ty_3 rfl rfl (aget (k := (x).toNat) (by omega) rfl)) rfl (sq_v rfl (v_assign rfl) rfl (sq_end (qs_n (wp_rt ?_))))))))))); exact qs_ret1 rfl rfl (fin_q (i := 3) rfl (by rw [c8, show ifB true (dimOf ts x) 0 = dimOf ts x from rfl, (hav (hok'.2 hnet.2.2.2.1)).2 x (by omega) (by omega)]))
  · refine sq_v rfl (v_not rfl) rfl (sq_v rfl (v_move rfl) rfl (sq_s rfl rfl (sq_s rfl rfl (sq_v rfl (v_pickt rfl rfl) rfl (sq_v rfl (v_move rfl) rfl (sq_s rfl rfl (sq_s rfl rfl (sq_v rfl (v_pickt rfl rfl) rfl (sq_end (qs_n (wp_ct rfl (wp_sc (wp_sq ?_))))))))))))); refine sq_v rfl (v_assign rfl) rfl (sq_end (qs_n (wp_rt (qs_r ?_)))); exact qs_ret1 rfl rfl (fin_q (i := 1) rfl (by cases hb : netB k p n ts op with | false => rfl | true => rw [show ifB true (dimOf ts x) 0 = dimOf ts x from rfl, dim_out (netB_true.1 hb) (by first | omega | exact absurd (c8.symm.trans hb) (by decide))]))
end Go.Proofs.Ytdkgaejmgnojhaa
namespace Go.Proofs.Ytdkgaejmgnojhaa
set_option maxRecDepth 100000
open Go.RowKit
set_option maxHeartbeats 1000000 in
theorem ct_i_indexIn (ds : List Int) (n : Int) (v : Value) (w : World) (r : IntsR ds v (hp w)) (hd : ∀ d ∈ ds, 1 ≤ d ∧ d ≤ 8) (hn : 0 ≤ n ∧ n ≤ 1000000000000) (hl : ds.length ≤ 1000000) :
    Calls Try.prog 88 [v, num n].toArray w (Ret w emp (IntsO (idxL ds n))) := by
  have hd1 : ∀ d ∈ ds, 1 ≤ d := fun d h => (hd d h).1; have hil := idxL_len ds n; refine calls_in Try.func88 rfl Try.ntmps88 rfl (Sat.start w) ?_; have hle0 := r.le; refine wp_sc (wp_sq (sq_v rfl (v_assign rfl) rfl (sq_end (qs_n (wp_sc (wp_sq (sq_v rfl (v_move rfl) rfl (sq_v rfl (v_len Try.underlying25 rfl r.sl) rfl ?_)))))))); refine sq_x rfl (x_makeI Try.underlying25 ty_3 rfl rfl (by first | omega | (simp; omega) | (simp only [List.length_append, List.length_cons, List.length_nil]; omega) | (rw [List.length_set]; omega)) (by first | omega | (simp; omega) | (simp only [List.length_append, List.length_cons, List.length_nil]; omega) | (rw [List.length_set]; omega)) (by first | omega | (simp; omega) | (simp only [List.length_append, List.length_cons, List.length_nil]; omega) | (rw [List.length_set]; omega))) rfl ?_; intro v9 h9 r9; refine sq_v rfl (v_assign rfl) rfl (sq_end (qs_n (wp_sc (wp_sc (wp_sq (sq_v rfl (v_move rfl) rfl (sq_v rfl (v_len Try.underlying25 rfl r.sl) rfl ?_))))))); refine sq_v rfl (v_sub rfl rfl ((by unfold I64; omega))) rfl ?_; refine sq_v rfl (v_assign rfl) rfl (sq_end (qs_n (wp_bl ?_))); refine wp_lp (σ := Nat × Int × PH) (fun z_ => [(0, v), (1, num z_.2.1), (4, .slice none 0 0), (5, v9), (6, num ((z_.1 : Int) - 1))]) (fun z_ => [z_.2.2, hp w]) (fun z_ => z_.1 ≤ ds.length ∧ z_.2.1 = n / prodI (ds.drop z_.1) ∧ IntsO (mixL (List.replicate ds.length 0) (idxL ds n) z_.1) v9 z_.2.2) (fun z_ => z_.1) (ds.length, n, h9) (⟨by (try dsimp only); omega, by (try dsimp only); simp [prodI], by (try dsimp only); rw [mix_end (by simp [idxL_len]) (by simp)]; simpa using r9⟩) ⟨rfl, (by first | rfl | exact ksub rfl (by first | omega | (simp; done) | (simp; omega))), rfl, rfl, (by first | rfl | exact ksub rfl (by first | omega | (simp; done) | (simp; omega))), trivial⟩ (fun _ s => s) ?_; rintro ⟨m, q, g⟩ ⟨hm, hq, q9⟩; dsimp only at hm hq q9 ⊢; have hle_q9 := q9.toR.le; have hpd := (prodI_drop hd1 m).1; have hq0 : 0 ≤ q ∧ q ≤ n := by rw [hq]; exact ⟨Int.ediv_nonneg hn.1 (by omega), Int.ediv_le_self _ hn.1⟩
  have hml : (mixL (List.replicate ds.length 0) (idxL ds n) m).length = ds.length := by rw [mix_len (by simp [idxL_len]) (by simp; omega)]; simp
  have em : ((m : Int) - 1).toNat = m - 1 := by omega
  refine wp_sc (wp_sc (wp_sq (sq_v rfl (v_move rfl) rfl (sq_v rfl (v_geq rfl rfl) rfl (sq_end (qs_n ?_)))))); refine wp_cd rfl (fun c14 => ?_) (fun c14 => ?_)
  · refine wp_sk (qs_n (wp_sc (wp_bl (wp_sc (wp_sq (sq_v rfl (v_move rfl) rfl (sq_v rfl (v_move rfl) rfl (sq_v rfl (v_move rfl) rfl (sq_v rfl (v_move rfl) rfl (sq_v rfl (v_move rfl) rfl ?_)))))))))); refine sq_v rfl (v_idxI Try.underlying25 ty_3 rfl rfl r (by first | omega | (simp; omega) | (simp only [List.length_append, List.length_cons, List.length_nil]; omega) | (rw [List.length_set]; omega)) (by first | omega | (simp; omega) | (simp only [List.length_append, List.length_cons, List.length_nil]; omega) | (rw [List.length_set]; omega))) rfl ?_; refine sq_v rfl (v_loadI  1 ty_3 rfl rfl r (by first | omega | (simp; omega) | (simp only [List.length_append, List.length_cons, List.length_nil]; omega) | (rw [List.length_set]; omega))) rfl ?_; have hdm := hd _ (mem_getD (show ((m : Int) - 1).toNat < ds.length by omega)); refine sq_v rfl (v_rem rfl rfl (by omega)) rfl ?_; refine sq_v rfl (v_idxI Try.underlying25 ty_3 rfl rfl q9.toR (by first | omega | (simp; omega) | (simp only [List.length_append, List.length_cons, List.length_nil]; omega) | (rw [List.length_set]; omega)) (by first | omega | (simp; omega) | (simp only [List.length_append, List.length_cons, List.length_nil]; omega) | (rw [List.length_set]; omega))) rfl ?_; refine sq_m 0 rfl rfl (m_storeI 0 ty_3 rfl rfl rfl q9 (by first | omega | (simp; omega) | (simp only [List.length_append, List.length_cons, List.length_nil]; omega) | (rw [List.length_set]; omega))) rfl ?_; rintro _ h_q5_9 ⟨rfl, q5_9⟩; refine sq_end (qs_n (wp_sq (sq_v rfl (v_move rfl) rfl (sq_v rfl (v_move rfl) rfl (sq_v rfl (v_move rfl) rfl ?_))))); refine sq_v rfl (v_idxI Try.underlying25 ty_3 rfl rfl r (by first | omega | (simp; omega) | (simp only [List.length_append, List.length_cons, List.length_nil]; omega) | (rw [List.length_set]; omega)) (by first | omega | (simp; omega) | (simp only [List.length_append, List.length_cons, List.length_nil]; omega) | (rw [List.length_set]; omega))) rfl ?_; refine sq_v rfl (v_loadI  1 ty_3 rfl rfl r (by first | omega | (simp; omega) | (simp only [List.length_append, List.length_cons, List.length_nil]; omega) | (rw [List.length_set]; omega))) rfl ?_; have hqq : q.tdiv (ds.getD ((m : Int) - 1).toNat 0) = n / prodI (ds.drop (m - 1)) := (by rw [em, Int.tdiv_eq_ediv_of_nonneg hq0.1, div_at hd1 n (show m - 1 < ds.length by omega), hq, show m - 1 + 1 = m by omega]); have hq1 := (prodI_drop hd1 (m - 1)).1; have hq2 : 0 ≤ n / prodI (ds.drop (m - 1)) ∧ n / prodI (ds.drop (m - 1)) ≤ n := ⟨Int.ediv_nonneg hn.1 (by omega), Int.ediv_le_self _ hn.1⟩
    refine sq_v rfl (v_quo rfl rfl (by omega) (by unfold I64; omega)) rfl ?_; refine sq_v rfl (v_assign rfl) rfl (sq_end ?_); have hrr : q.tmod (ds.getD (m - 1) 0) = (idxL ds n).getD (m - 1) 0 := by rw [Int.tmod_eq_emod_of_nonneg hq0.1, idxL_get (by omega), digI, hq, show m - 1 + 1 = m by omega]
    have e := mix_down (A := List.replicate ds.length 0) (B := idxL ds n) (k := m - 1) (by simp [idxL_len]) (by simp; omega); rw [show m - 1 + 1 = m by omega] at e; rw [em, hrr, e] at q5_9; refine qs_bn (qs_n (wp_sq (sq_v rfl (v_move rfl) rfl ?_))); refine sq_v rfl (v_sub rfl rfl ((by unfold I64; omega))) rfl ?_; refine sq_v rfl (v_assign rfl) rfl (sq_end ?_); exact qs_bk (m - 1, q.tdiv (ds.getD ((m : Int) - 1).toNat 0), h_q5_9) ⟨by (try dsimp only); omega, hqq, q5_9⟩ (by simp only; omega) ⟨rfl, (by first | rfl | exact ksub rfl (by first | omega | (simp; done) | (simp; omega))), rfl, rfl, (by first | rfl | exact ksub rfl (by first | omega | (simp; done) | (simp; omega))), trivial⟩ (fun _ s => s)
  · refine wp_ex (qs_x (qs_x (qs_bx (qs_n (wp_sc (wp_sq (sq_v rfl (v_move rfl) rfl (sq_v rfl (v_assign rfl) rfl (sq_end (qs_n (wp_rt ?_))))))))))); exact qs_ret1 rfl rfl (fin_t 0 (i := 1) rfl rfl rfl (by rw [show m = 0 by omega, mix_zero] at q9; exact q9))
end Go.Proofs.Ytdkgaejmgnojhaa
namespace Go.Proofs.Ytdkgaejmgnojhaa
set_option maxRecDepth 100000
open Go.RowKit
section
variable {P : Program} {n : Nat} {w0 : World} {K : Env} {HS : List PH} {d : Option Tmp} {ty : TypeId} {ps : String} {af : Array Edge} {g : Option (Nat × Bool)}
theorem m_copyI {t : TypeId} {x y : Operand} {xs ys : List Int} {v u : Value} {h hq : PH} (p q : Nat) (ht : P.underlying t = some (.slice 3)) (hs1 : (P.info? 3).map (·.size) = some 1)
    (hx : ev K x = some v) (hy : ev K y = some u) (hp' : HS[p]? = some h) (r : IntsO xs v h) (hq' : HS[q]? = some hq) (ru : IntsR ys u hq) (hl : ys.length = xs.length) (h0 : 0 < xs.length) :
    StepX P n w0 K HS ⟨d, .call ⟨.builtin .copy, #[x, y], #[t, t]⟩, ty, ps, af, g⟩ h (fun z h' => z = num (xs.length : Nat) ∧ IntsO ys v h') :=
  stepx_run fun a w e s => by
    obtain ⟨hcl, hr⟩ := r; obtain ⟨hnl, ad, c, rfl, _, hna⟩ := ru; have hle := s.get p hp'; have hleq := s.get q hq'
    rcases hr with ⟨_, hn, _⟩ | ⟨gb, cap, cur, rfl, rfl, h3, h4, h5, h6⟩
    · omega
    · obtain ⟨b, o, rfl, hcell⟩ := hna (by omega); have hnews := cells_at hleq hcell; have hgb : w.heap[gb]? = some (.cells cur.toArray 3 (0, 0)) := hle gb _ (by simp [box]); have hil : (ints ys).length = ys.length := by simpa using hnl
      have hmin : Nat.min ys.length xs.length = ys.length := Nat.min_eq_left (by omega); have hrun := run_copy_row (P := P) w t t ty 3 gb 0 xs.length cap ⟨b, o, none⟩ ys.length c cur.toArray 3 (ints ys) ht hs1 hgb (by rw [hil, hmin]) hnews (by simp only [List.size_toArray, h5]; omega) (ints_one ys); refine ⟨num (xs.length : Nat), w.setRow gb (cur.take 0 ++ ints ys ++ cur.drop (0 + (ints ys).length)).toArray, box gb (cur.take 0 ++ ints ys ++ cur.drop (0 + (ints ys).length)) 3, ?_, upd_setRow hle _, rfl, hnl, .inr ⟨gb, cap, _, by rw [hl], rfl, by omega, h4, ?_, ?_⟩⟩
      · have e1 : goInt (ints ys).length = num (xs.length : Nat) := by rw [hil, hl]; rfl
        rw [e1] at hrun
        simp [execOp, resolve, invoke, builtin, e.ev hx, e.ev hy, hrun]
      · simp only [List.take_zero, List.nil_append, List.length_append, List.length_drop]
        omega
      · simp only [List.take_zero, List.nil_append]; rw [Nat.mul_one, ← hil]; exact List.take_left
end
end Go.Proofs.Ytdkgaejmgnojhaa
namespace Go.Proofs.Ytdkgaejmgnojhaa
set_option maxRecDepth 100000
open Go.RowKit
def mE (k n : Int) (ts : List Ten) (M : Int → List Int) (y : Int) : List (List Int) := els (dimOf ts y).toNat fun u => elt (M y) (widthI k n) (u : Int)
/-- The messages that have come in, in one part. -/
def IncOK (k n : Int) (ts : List Ten) (t : Ten) (x : Int) (M : Int → List Int) (cs : List Value) (H : PH) (j : Nat) : Prop := cs.length = t.l.length ∧ ∀ q, q < j → t.l.getD q 0 ≠ x → ∃ c, cs[q]? = some c ∧ LLR (mE k n ts M (t.l.getD q 0)) c H
section
variable {k n : Int} {ts : List Ten} {t : Ten} {x : Int} {M : Int → List Int} {cs : List Value} {H G : PH} {j : Nat}
theorem inc_start (h : cs.length = t.l.length) : IncOK k n ts t x M cs H 0 := ⟨h, fun q hq => by omega⟩
theorem inc_skip (h : IncOK k n ts t x M cs H j) (e : t.l.getD j 0 = x) : IncOK k n ts t x M cs H (j + 1) := ⟨h.1, fun q hq hne => h.2 q (by
  rcases Nat.lt_or_ge q j with h | h
  · exact h
  · exact absurd (by rw [show q = j by omega]; exact e) hne) hne⟩
theorem inc_set (h : IncOK k n ts t x M cs H j) (hj : j < t.l.length) (l : PLe H G) {c : Value} (r : LLR (mE k n ts M (t.l.getD j 0)) c G) : IncOK k n ts t x M (cs.set j c) G (j + 1) := ⟨by rw [List.length_set]; exact h.1, fun q hq hne => by
  by_cases e : q = j
  · subst e; exact ⟨c, List.getElem?_set_self (by rw [h.1]; exact hj), r⟩
  · obtain ⟨c', e1, r1⟩ := h.2 q (by omega) hne; exact ⟨c', by rw [List.getElem?_set_ne (Ne.symm e)]; exact e1, r1.mono l⟩⟩
theorem set_midZ {α : Type} {cs : List α} {a : α} (h : j < cs.length) : cs.take j ++ [a] ++ cs.drop (j + 1) = cs.set j a := by
  rw [List.set_eq_take_append_cons_drop, if_pos h]; simp
end
theorem inc_at {k p n : Int} {ts : List Ten} {op : List Int} (hnet : netL k p n ts op) {i : Nat} (hi : i < ts.length) {t : Ten} (e : ts.getD i noTen = t) {x : Int} {M : Int → List Int} {cs : List Value} {H : PH} (h : IncOK k n ts t x M cs H t.l.length) {j : Nat} (hj : j < t.l.length) (hne : (j : Int) ≠ findI t.l x) (o : Nat) :
    t.l.getD j 0 ≠ x ∧ co t (t.l.getD j 0) o = (idxL t.d (o : Int)).getD j 0 ∧ 0 ≤ (idxL t.d (o : Int)).getD j 0 ∧ (idxL t.d (o : Int)).getD j 0 < dimOf ts (t.l.getD j 0) ∧ ∃ cc csC ae, cs[j]? = some cc ∧ RowR csC (mE k n ts M (t.l.getD j 0)).length 1 cc H ∧ csC[((idxL t.d (o : Int)).getD j 0).toNat]? = some ae ∧ IntsR (elt (M (t.l.getD j 0)) (widthI k n) ((idxL t.d (o : Int)).getD j 0)) ae H := by
  subst e; have ht := ten_in hnet hi; have hax := ten_axes ht; have hn := axes_nodup hax; have hf := find_at' hn hj; have hy : (ts.getD i noTen).l.getD j 0 ∈ (ts.getD i noTen).l := mem_getD hj; have hnx : (ts.getD i noTen).l.getD j 0 ≠ x := fun e => hne (by rw [← e, hf]); have hco : co (ts.getD i noTen) ((ts.getD i noTen).l.getD j 0) o = (idxL (ts.getD i noTen).d (o : Int)).getD j 0 := by unfold co; rw [hf, Int.toNat_natCast]
  have hcr := co_in ht hy o; rw [hco, dim_at hnet hi hy] at hcr; obtain ⟨cc, hcc, rcc⟩ := h.2 j hj hnx; obtain ⟨csC, rrC, hcC⟩ := rcc.at; obtain ⟨le, ae, hle, hae, rle⟩ := hcC ((idxL (ts.getD i noTen).d (o : Int)).getD j 0).toNat (by rw [mE, els_len]; omega); have e1 := els_get (g := fun u => elt (M ((ts.getD i noTen).l.getD j 0)) (widthI k n) ((u : Nat) : Int)) (show ((idxL (ts.getD i noTen).d (o : Int)).getD j 0).toNat < (dimOf ts ((ts.getD i noTen).l.getD j 0)).toNat by omega); have e2 : (mE k n ts M ((ts.getD i noTen).l.getD j 0))[((idxL (ts.getD i noTen).d (o : Int)).getD j 0).toNat]? = some le := hle; rw [mE, e1, Int.toNat_of_nonneg hcr.1] at e2
  injection e2 with e2
  rw [← e2] at rle; have e3 := sub_get hae (j := 0) rfl; simp only [Nat.mul_one, Nat.add_zero] at e3; exact ⟨hnx, hco, hcr.1, hcr.2, cc, csC, ae, hcc, rrC, e3, rle⟩
/-- The sums after some offsets. -/
noncomputable def sE (k p n : Int) (t : Ten) (x : Int) (M : Int → List Int) (D o : Nat) : List (List Int) := els D fun v => sumM k p n (fun q => mulM k p n t x M q t.l.length) t x v o
theorem sE_step {k p n : Int} {t : Ten} {x : Int} {M : Int → List Int} {D : Nat} (o : Nat) {j : Nat} (h : 0 ≤ (idxL t.d (o : Int)).getD (findI t.l x).toNat 0 ∧ (idxL t.d (o : Int)).getD (findI t.l x).toNat 0 < (D : Int)) (e : t.l.length = j) :
    sE k p n t x M D (o + 1) = (sE k p n t x M D o).set ((idxL t.d (o : Int)).getD (findI t.l x).toNat 0).toNat (addL k p (sumM k p n (fun q => mulM k p n t x M q t.l.length) t x ((((idxL t.d (o : Int)).getD (findI t.l x).toNat 0).toNat : Nat) : Int) o) (mulM k p n t x M o j)) := by
  subst e
  apply List.ext_getElem?
  intro v; have hc : co t x o = (idxL t.d (o : Int)).getD (findI t.l x).toNat 0 := rfl
  rcases Nat.lt_or_ge v D with hv | hv
  · rw [sE, els_get hv, List.getElem?_set]
    split
    · rename_i e1
      rw [if_pos (by rw [sE, els_len]; omega), ← e1, sumM_yes (by rw [hc]; omega)]
    · rename_i e1
      rw [sE, els_get hv, sumM_no (by rw [hc]; omega)]
  · rw [List.getElem?_eq_none (by rw [sE, els_len]; exact hv), List.getElem?_eq_none (by rw [List.length_set, sE, els_len]; exact hv)]
set_option maxHeartbeats 400000 in
theorem ct_i_toLabelF (k p n x : Int) (i : Nat) (ts : List Ten) (op : List Int) (vt vo : Value) (M : Int → List Int) (w : World) (r : TensR ts vt (hp w)) (r' : IntsR op vo (hp w)) (hnet : netL k p n ts op) (hi : i < ts.length) (hx : x ∈ (ts.getD i noTen).l) (hM : ∀ y ∈ (ts.getD i noTen).l, y ≠ x → MsgOK k p n (dimOf ts y).toNat (M y))
    (ih : ∀ (y D : Int) (w' : World), y ∈ (ts.getD i noTen).l → y ≠ x → D = dimOf ts y → TensR ts vt (hp w') → IntsR op vo (hp w') → Calls Try.prog 35 [netV k p n vt vo, num y, num D, num i].toArray w' (Ret w' emp (LLO (mE k n ts M y)))) :
    Calls Try.prog 69 [netV k p n vt vo, num i, num x].toArray w (Ret w emp (LLO (els (dimOf ts x).toNat fun v => sumM k p n (fun o => mulM k p n (ts.getD i noTen) x M o (ts.getD i noTen).l.length) (ts.getD i noTen) x v (prodI (ts.getD i noTen).d).toNat))) := by
  have hring := hnet.1; have h12 := hnet.2.1; have ht := ten_in hnet hi; have hax := ten_axes ht; have hl12 := hax.1; have hdl := hax.2.1; have hxf := findI_get hx; have hxf0 := findI_ge.2 hx; have hdx := lab_dim hnet hi hx; have hda := dim_at hnet hi hx; refine calls_in Try.func69 rfl Try.ntmps69 rfl (Sat.start w) ?_; have hle0 := r.le; obtain ⟨cs_r, rr_r, hc_r⟩ := r.at; have hle1 := r'.le; refine wp_sc (wp_sq ?_); refine sq_x rfl (x_box rfl rfl) rfl ?_; rintro _ _ ⟨b3, rfl, rfl⟩; refine sq_v rfl (v_assign rfl) rfl (sq_end (qs_n (wp_sc (wp_sq (sq_v rfl (v_fieldAddr fd_34_1 ty_29 (by decide) rfl) rfl (sq_v rfl (v_loadB 0 ty_29 rfl rfl rfl) rfl (sq_v rfl (v_move rfl) rfl ?_))))))); obtain ⟨t23, a23, b23, c23, ht23, hcs23, rl23, rd23, rx23⟩ := hc_r (i) (by first | omega | (rw [List.length_set]; omega)); refine sq_v rfl (v_indexAddr Try.underlying29 ty_48 rfl rfl rr_r (by decide) (by omega) (by omega)) rfl ?_; refine sq_v rfl (v_loadNE 1 ty_48 rfl rfl rr_r (by have := rr_r.1; omega) rfl hcs23) rfl ?_; refine sq_x rfl (x_alloc ty_48 rfl) rfl ?_; rintro _ _ ⟨b7, rfl, rfl⟩; refine sq_m 0 rfl rfl (m_store 0 ty_48 rfl rfl rfl rfl (by simp [rl23.sl.one, rd23.sl.one, rx23.sl.one]) rfl (Nat.le_of_ble_eq_true rfl)) rfl ?_; rintro _ _ ⟨rfl, rfl⟩; refine sq_end ?_; have e24 : ts.getD i noTen = t23 := getD_ten ht23; rw [e24] at ht hax hl12 hdl hxf hxf0 hda hx; refine qs_n (wp_sc (wp_sq (sq_v rfl (v_fieldAddr fd_48_0 ty_25 (by decide) rfl) rfl (sq_v rfl (v_loadB 0 ty_25 rfl rfl rfl) rfl (sq_v rfl (v_len Try.underlying25 rfl rl23.sl) rfl ?_))))); refine sq_x rfl (x_make Try.underlying95 ty_44 rfl rfl rfl rfl (by omega) (by omega) (by omega)) rfl ?_; intro v28 h28 r28; refine sq_v rfl (v_assign rfl) rfl (sq_end ?_); have e28 : (List.replicate ((t23.l.length : Int)).toNat [Value.slice none 0 0]).flatten = List.replicate t23.l.length (Value.slice none 0 0) := by simp
  have r28' : RowO 44 (List.replicate t23.l.length (.slice none 0 0)) t23.l.length 1 v28 h28 := by rw [e28] at r28; simpa using r28
  refine qs_s [hp w, h28, _, _] (fun _ s => s.pick [3, 0, 1, 2] (by decide) rfl) (qs_n (wp_sc (wp_sc (wp_sq (sq_v rfl (v_fieldAddr fd_48_0 ty_25 (by decide) rfl) rfl (sq_v rfl (v_loadB 2 ty_25 rfl rfl rfl) rfl (sq_v rfl (v_len Try.underlying25 rfl rl23.sl) rfl (sq_v rfl (v_move rfl) rfl (sq_end (qs_n (wp_bl ?_))))))))))); refine wp_lp (σ := Nat × (List Value) × PH × PH) (fun z_ => [(1, num i), (2, num x), (3, .pointer (some ⟨b3, 0, none⟩)), (6, .slice none 0 0), (7, .pointer (some ⟨b7, 0, none⟩)), (8, v28), (30, a23), (31, num t23.l.length), (32, num z_.1)]) (fun z_ => [z_.2.2.2, z_.2.2.1, box b7 [a23, b23, c23] 48, box b3 [num k, num p, num n, vt, vo] 34]) (fun z_ => z_.1 ≤ t23.l.length ∧ UnW w z_.2.2.2 ∧ IncOK k n ts t23 x M z_.2.1 z_.2.2.2 z_.1 ∧ RowO (44) z_.2.1 t23.l.length 1 v28 z_.2.2.1) (fun z_ => t23.l.length - z_.1) (0, List.replicate t23.l.length (.slice none 0 0), h28, (hp w)) (⟨by (try dsimp only); omega, UnW.start w, inc_start (by simp), r28'⟩) ⟨rfl, rfl, rfl, rfl, rfl, rfl, rfl, rfl, (by first | rfl | exact ksub rfl (by first | omega | (simp; done) | (simp; omega))), trivial⟩ (fun _ s => s) ?_; rintro ⟨j, csI, hI, H⟩ ⟨hj, hU, hinc, qI⟩; dsimp only at hj hU hinc qI ⊢; refine wp_sc (wp_sq (sq_v rfl (v_lss rfl rfl) rfl (sq_end (qs_n (wp_sc ?_))))); refine wp_cd rfl (fun c33 => ?_) (fun c33 => ?_)
  · refine wp_sk (qs_n (wp_sc (wp_bl (wp_sc (wp_sq (sq_v rfl (v_move rfl) rfl ?_)))))); refine sq_v rfl (v_idxI Try.underlying25 ty_3 rfl rfl (rl23.mono hU.le) (by first | omega | (simp; omega) | (simp only [List.length_append, List.length_cons, List.length_nil]; omega) | (rw [List.length_set]; omega)) (by first | omega | (simp; omega) | (simp only [List.length_append, List.length_cons, List.length_nil]; omega) | (rw [List.length_set]; omega))) rfl ?_; refine sq_v rfl (v_loadI (k := j) 0 ty_3 rfl rfl (rl23.mono hU.le) (by first | omega | (simp; omega) | (simp only [List.length_append, List.length_cons, List.length_nil]; omega) | (rw [List.length_set]; omega))) rfl ?_; refine sq_v rfl (v_assign rfl) rfl (sq_v rfl (v_assign rfl) rfl (sq_end ?_)); have hDj : t23.d.getD j 0 = dimOf ts (t23.l.getD j 0) := by have h9 := dim_at hnet hi (x := t23.l.getD j 0) (by rw [e24]; exact mem_getD (by omega)); rw [e24, find_at' (axes_nodup hax) (by omega), Int.toNat_natCast] at h9; exact h9
    refine qs_n (wp_sc (wp_sq (sq_v rfl (v_move rfl) rfl (sq_v rfl (v_move rfl) rfl (sq_v rfl (v_neq rfl rfl) rfl (sq_end (qs_n ?_))))))); refine wp_cd rfl (fun c39 => ?_) (fun c39 => ?_)
    · refine wp_rj 12 [(0, true), (1, true), (2, true), (3, true), (4, true), (5, true), (6, true), (7, true), (8, true), (9, true), (10, false), (11, true), (12, false)] mixed_ok (by kernel_rfl) (rj_v rfl rfl (v_move rfl) rfl (rj_v rfl rfl (v_move rfl) rfl (rj_v rfl rfl (v_loadNB 3 ty_34 rfl rfl rfl rfl) rfl (rj_v rfl rfl (v_move rfl) rfl (rj_v rfl rfl (v_fieldAddr fd_48_1 ty_25 (by decide) rfl) rfl (rj_v rfl rfl (v_loadB 2 ty_25 rfl rfl rfl) rfl (rj_v rfl rfl (v_move rfl) rfl ?_))))))); refine rj_v rfl rfl (v_idxI Try.underlying25 ty_3 rfl rfl (rd23.mono hU.le) (by first | omega | (simp; omega) | (simp only [List.length_append, List.length_cons, List.length_nil]; omega) | (rw [List.length_set]; omega)) (by first | omega | (simp; omega) | (simp only [List.length_append, List.length_cons, List.length_nil]; omega) | (rw [List.length_set]; omega))) rfl ?_; refine rj_v rfl rfl (v_loadI (k := j) 0 ty_3 rfl rfl (rd23.mono hU.le) (by first | omega | (simp; omega) | (simp only [List.length_append, List.length_cons, List.length_nil]; omega) | (rw [List.length_set]; omega))) rfl ?_; refine rj_v rfl rfl (v_move rfl) rfl ?_; refine rj_x rfl rfl (x_call rfl en_35 (fun w s => ih (t23.l.getD j 0) (t23.d.getD j 0) w (by rw [e24]; exact mem_getD (by omega)) c39 hDj (r.mono (hU.le.trans (s.get 0 rfl))) (r'.mono (hU.le.trans (s.get 0 rfl))))) rfl ?_; rintro v50 h50 r50; obtain ⟨cs_L_50, rr_L_50, hc_L_50⟩ := r50.toR.at; refine rj_v rfl rfl (v_indexAddr Try.underlying95 ty_44 rfl rfl qI.toR (by decide) (by omega) (by omega)) rfl ?_; refine rj_m 2 rfl rfl rfl rfl (m_storeE 2 ty_44 rfl rfl (us := [v50]) (by obtain ⟨_, _, rfl⟩ := r50.toR.sl; rfl) rfl (fun u hu => by rw [List.mem_singleton.1 hu]; exact r50.toR.sl.one) rfl qI (by decide) (by have := hinc.1; omega)) rfl ?_; rintro _ h7 ⟨rfl, r7⟩; refine rj_end ?_; have r7' : RowO 44 (csI.set j v50) t23.l.length 1 v28 h7 := by
        have e9 := r7; simp only [Int.toNat_natCast, Nat.mul_one] at e9; rw [set_midZ (by have := hinc.1; omega)] at e9; exact e9
      refine qs_dj 0 1 rfl rfl rfl (fun hdj => ?_); refine qs_s [PUn h50 H, h7, _, _] (fun _ s => Sat.merge (s.pick [0, 1, 2, 3, 4] (by decide) rfl)) (qs_bn (qs_n (wp_sq ?_))); refine sq_v rfl (v_add rfl rfl ((by unfold I64; omega))) rfl ?_; refine sq_v rfl (v_move rfl) rfl (sq_end ?_); exact qs_bk (j + 1, csI.set j v50, h7, (PUn h50 H)) ⟨by (try dsimp only); omega, hU.add hdj, inc_set hinc (by omega) (PLe.un_r hdj) (r50.toR.mono (PLe.un_l _ _)), r7'⟩ (by simp only; omega) ⟨rfl, rfl, rfl, rfl, rfl, rfl, rfl, rfl, (by first | rfl | exact ksub rfl (by first | omega | (simp; done) | (simp; omega))), trivial⟩ (fun _ s => s)
    · refine wp_sk (qs_bn (qs_n (wp_sq ?_))); refine sq_v rfl (v_add rfl rfl ((by unfold I64; omega))) rfl ?_; refine sq_v rfl (v_move rfl) rfl (sq_end ?_); exact qs_bk (j + 1, csI, hI, H) ⟨by (try dsimp only); omega, hU, inc_skip hinc (Classical.byContradiction c39), qI⟩ (by simp only; omega) ⟨rfl, rfl, rfl, rfl, rfl, rfl, rfl, rfl, (by first | rfl | exact ksub rfl (by first | omega | (simp; done) | (simp; omega))), trivial⟩ (fun _ s => s)
  · refine wp_ex (qs_x (qs_x (qs_bx (qs_n (wp_sc (wp_sq (sq_v rfl (v_loadNB 2 ty_48 rfl rfl rfl rfl) rfl (sq_v rfl (v_move rfl) rfl (sq_u rfl (x_callv rfl en_67 (fun w s => ct_u_axisOf _ _ _ _ _ _ _ w ((rl23.mono hU.le).mono (s.get 0 rfl)) ((rd23.mono hU.le).mono (s.get 0 rfl)) ((rx23.mono hU.le).mono (s.get 0 rfl)))) rfl (sq_v rfl (v_assign rfl) rfl (sq_end ?_))))))))))); have hinc2 : IncOK k n ts t23 x M csI H t23.l.length := by rw [show t23.l.length = j by omega]; exact hinc
    refine qs_n (wp_sc (wp_sq (sq_v rfl (v_fieldAddr fd_48_1 ty_25 (by decide) rfl) rfl (sq_v rfl (v_loadB 2 ty_25 rfl rfl rfl) rfl (sq_v rfl (v_move rfl) rfl ?_))))); refine sq_v rfl (v_idxI Try.underlying25 ty_3 rfl rfl (rd23.mono hU.le) (by first | omega | (simp; omega) | (simp only [List.length_append, List.length_cons, List.length_nil]; omega) | (rw [List.length_set]; omega)) (by first | omega | (simp; omega) | (simp only [List.length_append, List.length_cons, List.length_nil]; omega) | (rw [List.length_set]; omega))) rfl ?_; refine sq_v rfl (v_loadI  0 ty_3 rfl rfl (rd23.mono hU.le) (by first | omega | (simp; omega) | (simp only [List.length_append, List.length_cons, List.length_nil]; omega) | (rw [List.length_set]; omega))) rfl ?_; refine sq_x rfl (x_make Try.underlying44 ty_25 rfl rfl rfl rfl (by omega) (by omega) (by omega)) rfl ?_; intro v61 h61 r61; refine sq_v rfl (v_assign rfl) rfl (sq_end ?_); have eD : (t23.d.getD (findI t23.l x).toNat 0).toNat = (dimOf ts x).toNat := by rw [hda]
    have e61 : (List.replicate (t23.d.getD (findI t23.l x).toNat 0).toNat [Value.slice none 0 0]).flatten = List.replicate (dimOf ts x).toNat (Value.slice none 0 0) := by rw [eD]; simp
    have r61' : RowO 25 (List.replicate (dimOf ts x).toNat (.slice none 0 0)) (dimOf ts x).toNat 1 v61 h61 := by rw [e61, eD] at r61; exact r61
    skip
    refine qs_n (wp_sc (wp_sc (wp_sq (sq_v rfl (v_move rfl) rfl (sq_v rfl (v_len Try.underlying44 rfl r61'.toR.sl) rfl (sq_v rfl (v_move rfl) rfl (sq_end (qs_n (wp_bl ?_))))))))); refine wp_lp (σ := Nat × PH × (List Value) × PH) (fun z_ => [(3, .pointer (some ⟨b3, 0, none⟩)), (6, .slice none 0 0), (7, .pointer (some ⟨b7, 0, none⟩)), (8, v28), (11, num (findI t23.l x)), (12, v61), (63, num ((dimOf ts x).toNat : Nat)), (64, num z_.1)]) (fun z_ => [z_.2.1, z_.2.2.2, H, hI, box b7 [a23, b23, c23] 48, box b3 [num k, num p, num n, vt, vo] 34]) (fun z_ => z_.1 ≤ (dimOf ts x).toNat ∧ OwnH (els z_.1 fun _ => zeroL k p n) z_.2.2.1 z_.2.2.2 ∧ RowO (25) (z_.2.2.1 ++ List.replicate ((dimOf ts x).toNat - z_.1) (.slice none 0 0)) ((dimOf ts x).toNat) 1 v61 z_.2.1) (fun z_ => (dimOf ts x).toNat - z_.1) (0, h61, [], emp) (⟨by (try dsimp only); omega, OwnH.nil, by (try dsimp only); simpa using r61'⟩) ⟨rfl, rfl, rfl, rfl, rfl, rfl, rfl, (by first | rfl | exact ksub rfl (by first | omega | (simp; done) | (simp; omega))), trivial⟩ (fun _ s => (emp_sat s).pick [1, 0, 2, 3, 4, 5] (by decide) rfl) ?_; rintro ⟨v, hr, cs, ho⟩ ⟨hv, how, q⟩; dsimp only at hv how q ⊢; have hcl : cs.length = v := by obtain ⟨l, ol, _⟩ := how; rw [ol.l1, els_len]
    refine wp_sc (wp_sq (sq_v rfl (v_lss rfl rfl) rfl (sq_end (qs_n (wp_sc ?_))))); refine wp_cd rfl (fun c65 => ?_) (fun c65 => ?_)
    · refine wp_sk (qs_n (wp_sc (wp_bl (wp_sc (wp_sq (sq_v rfl (v_move rfl) rfl (sq_v rfl (v_assign rfl) rfl (sq_end (qs_n (wp_sq (sq_v rfl (v_move rfl) rfl (sq_v rfl (v_move rfl) rfl (sq_v rfl (v_fieldAddr fd_34_0 ty_32 (by decide) rfl) rfl (sq_v rfl (v_loadNB 5 ty_32 rfl rfl rfl rfl) rfl ?_)))))))))))))); refine sq_x rfl (x_call rfl en_61 (fun w s => ct_i_rawZero _ _ _ w (by first | assumption | omega))) rfl ?_; rintro v71 h71 r71; refine sq_v rfl (v_indexAddr Try.underlying44 ty_25 rfl rfl q.toR (by decide) (by omega) (by omega)) rfl ?_; refine sq_m 1 rfl rfl (m_storeE 1 ty_25 rfl rfl (us := [v71]) (by obtain ⟨_, _, rfl⟩ := r71.toR.sl; rfl) rfl (fun u hu => by rw [List.mem_singleton.1 hu]; exact r71.toR.sl.one) rfl q (by decide) (by simp <;> omega)) rfl ?_; rintro _ h14 ⟨rfl, r14⟩; refine sq_end ?_; have r14' : RowO 25 ((cs ++ [v71]) ++ List.replicate ((dimOf ts x).toNat - (v + 1)) (.slice none 0 0)) (dimOf ts x).toNat 1 v61 h14 := by
        have e9 := r14; rw [show (dimOf ts x).toNat - v = (dimOf ts x).toNat - (v + 1) + 1 by omega] at e9; simp only [Int.toNat_natCast, Nat.mul_one] at e9; rw [put_at hcl] at e9; exact e9
      refine qs_dj 2 0 rfl rfl rfl (fun hd1 => ?_); refine qs_s [PUn ho h71, h14, _, _, _, _] (fun _ s => Sat.merge (s.pick [2, 0, 1, 4, 3, 5, 6] (by decide) rfl)) (qs_bn (qs_n (wp_sq ?_))); refine sq_v rfl (v_add rfl rfl ((by unfold I64; omega))) rfl ?_; refine sq_v rfl (v_move rfl) rfl (sq_end ?_); exact qs_bk (v + 1, h14, cs ++ [v71], (PUn ho h71)) ⟨by (try dsimp only); omega, by (try dsimp only); rw [els_step]; exact how.add r71 hd1, r14'⟩ (by simp only; omega) ⟨rfl, rfl, rfl, rfl, rfl, rfl, rfl, (by first | rfl | exact ksub rfl (by first | omega | (simp; done) | (simp; omega))), trivial⟩ (fun _ s => s.pick [1, 0, 3, 2, 4, 5] (by decide) rfl)
    · refine wp_ex (qs_x (qs_x (qs_bx (qs_n (wp_sc (wp_rj 8 [(0, true), (1, true), (3, true), (4, true), (2, false), (5, false), (6, true), (7, true)] mixed_ok (by kernel_rfl) (rj_v rfl rfl (v_fieldAddr fd_34_0 ty_32 (by decide) rfl) rfl (rj_v rfl rfl (v_loadNB 5 ty_32 rfl rfl rfl rfl) rfl (rj_v rfl rfl (v_fieldAddr fd_34_0 ty_32 (by decide) rfl) rfl (rj_v rfl rfl (v_loadNB 5 ty_32 rfl rfl rfl rfl) rfl ?_)))))))))); refine rj_x rfl rfl (x_call rfl en_31 (fun w s => ct_i_rawOne _ _ _ w (by first | assumption | omega))) rfl ?_; rintro v76 h76 r76; refine rj_x rfl rfl (x_call rfl en_31 (fun w s => ct_i_rawOne _ _ _ w (by first | assumption | omega))) rfl ?_; rintro v79 h79 r79; refine rj_v rfl rfl (v_assign rfl) rfl (rj_v rfl rfl (v_assign rfl) rfl (rj_end ?_)); have qr : RowO 25 cs (dimOf ts x).toNat 1 v61 hr := by rw [show (dimOf ts x).toNat - v = 0 by omega, List.replicate_zero, List.append_nil] at q; exact q
      have hP4 := ten_prod ht; have hP1 := prodI_one fun d hd' => (dims_mem (axes_dims hax) d hd').1; have hown : OwnH (sE k p n t23 x M (dimOf ts x).toNat 0) cs ho := by rw [show (dimOf ts x).toNat = v by omega]; exact how
      skip
      refine qs_n (wp_sc (wp_sc (wp_sq (sq_v rfl (v_assign rfl) rfl (sq_end (qs_n (wp_bl ?_))))))); refine wp_lp (σ := Nat × (List Int) × (List Int) × Value × Value × PH × PH × PH) (fun z_ => [(3, .pointer (some ⟨b3, 0, none⟩)), (6, .slice none 0 0), (7, .pointer (some ⟨b7, 0, none⟩)), (8, v28), (11, num (findI t23.l x)), (12, v61), (14, z_.2.2.2.1), (15, z_.2.2.2.2.1), (16, num z_.1)]) (fun z_ => [z_.2.2.2.2.2.1, z_.2.2.2.2.2.2.1, hr, z_.2.2.2.2.2.2.2, H, hI, box b7 [a23, b23, c23] 48, box b3 [num k, num p, num n, vt, vo] 34]) (fun z_ => z_.1 ≤ (prodI t23.d).toNat ∧ OwnH (sE k p n t23 x M (dimOf ts x).toNat z_.1) cs z_.2.2.2.2.2.2.2 ∧ (z_.2.1.length = (widthI k n).toNat ∧ z_.2.2.1.length = (widthI k n).toNat) ∧ IntsO z_.2.1 z_.2.2.2.1 z_.2.2.2.2.2.1 ∧ IntsO z_.2.2.1 z_.2.2.2.2.1 z_.2.2.2.2.2.2.1) (fun z_ => (prodI t23.d).toNat - z_.1) (0, oneL k p n, oneL k p n, v76, v79, h76, h79, ho) (⟨by (try dsimp only); omega, hown, ⟨(oneL_in hring).1, (oneL_in hring).1⟩, r76, r79⟩) ⟨rfl, rfl, rfl, rfl, rfl, rfl, (by first | rfl | exact ksub rfl (by first | omega | (simp; done) | (simp; omega))), (by first | rfl | exact ksub rfl (by first | omega | (simp; done) | (simp; omega))), (by first | rfl | exact ksub rfl (by first | omega | (simp; done) | (simp; omega))), trivial⟩ (fun _ s => s.pick [1, 0, 2, 3, 4, 5, 6, 7] (by decide) rfl) ?_; rintro ⟨o, lx, ly, vx, vy, gx, gy, ho2⟩ ⟨hoP, how2, hlx, qx, qy⟩; dsimp only at hoP how2 hlx qx qy ⊢; have hle_qx := qx.toR.le; have hle_qy := qy.toR.le; refine wp_sc (wp_sc (wp_sq (sq_v rfl (v_move rfl) rfl (sq_v rfl (v_fieldAddr fd_48_1 ty_25 (by decide) rfl) rfl (sq_v rfl (v_loadB 6 ty_25 rfl rfl rfl) rfl (sq_u rfl (x_callv rfl en_87 (fun w s => ct_i_productOf _ _ w ((rd23.mono hU.le).mono (s.get 4 rfl)) (axes_dims hax) (by omega))) rfl (sq_v rfl (v_lss rfl rfl) rfl (sq_end (qs_n ?_))))))))); refine wp_cd rfl (fun c84 => ?_) (fun c84 => ?_)
      · refine wp_sk (qs_n (wp_sc (wp_bl (wp_sc (wp_sq ?_))))); have hoi : (o : Int) < prodI t23.d := (by omega); have hef := elt_fits ht (i := (o : Int)) hoi; have hein := elt_inR ht (i := (o : Int)) (by omega) hoi; have hwr := width_range hring; have hil := idxL_len t23.d (o : Int); refine sq_v rfl (v_fieldAddr fd_48_1 ty_25 (by decide) rfl) rfl (sq_v rfl (v_loadB 6 ty_25 rfl rfl rfl) rfl (sq_v rfl (v_move rfl) rfl ?_)); refine sq_x rfl (x_call rfl en_88 (fun w s => ct_i_indexIn _ _ _ w ((rd23.mono hU.le).mono (s.get 4 rfl)) (dims_mem (axes_dims hax)) (by omega) (by omega))) rfl ?_; rintro v90 h90 r90; refine sq_v rfl (v_assign rfl) rfl (sq_end (qs_n (wp_sc (wp_sq (sq_v rfl (v_move rfl) rfl (sq_v rfl (v_fieldAddr fd_34_0 ty_32 (by decide) rfl) rfl (sq_v rfl (v_loadNB 8 ty_32 rfl rfl rfl rfl) rfl (sq_v rfl (v_loadNB 7 ty_48 rfl rfl rfl rfl) rfl (sq_v rfl (v_move rfl) rfl (sq_u rfl (x_callv rfl en_89 (fun w s => ct_i_rawElem _ _ _ _ _ _ _ _ w hring ((rx23.mono hU.le).mono (s.get 5 rfl)) (by omega) hef.1 hef.2)) rfl ?_)))))))))); refine sq_m 1 rfl rfl (m_copyI 1 5 Try.underlying25 (by kernel_rfl) rfl rfl rfl qx rfl (eltV_read (rx23.mono hU.le) (by omega) (by omega) hef.1) (by rw [hein.1]; exact hlx.1.symm) (by omega)) rfl ?_; rintro _ h21 ⟨rfl, r21⟩; refine sq_end (qs_n (wp_sc (wp_sc (wp_sq (sq_v rfl (v_move rfl) rfl (sq_v rfl (v_len Try.underlying25 rfl r90.toR.sl) rfl (sq_v rfl (v_move rfl) rfl (sq_end (qs_n (wp_bl ?_)))))))))); refine wp_lp (σ := Nat × (List Int) × Value × Value × PH × PH) (fun z_ => [(3, .pointer (some ⟨b3, 0, none⟩)), (6, .slice none 0 0), (7, .pointer (some ⟨b7, 0, none⟩)), (8, v28), (11, num (findI t23.l x)), (12, v61), (14, z_.2.2.1), (15, z_.2.2.2.1), (16, num o), (17, v90), (80, num o), (81, .pointer (some ⟨b7, 1, none⟩)), (82, b23), (83, num (prodI t23.d)), (84, .bool (decide ((o : Int) < prodI t23.d))), (87, .pointer (some ⟨b7, 1, none⟩)), (88, b23), (89, num o), (90, v90), (91, vx), (92, .pointer (some ⟨b3, 0, none⟩)), (93, .agg [num k, num p, num n].toArray), (94, .agg [a23, b23, c23].toArray), (95, num o), (96, eltV c23 (widthI k n) o), (98, v90), (99, num (idxL t23.d o).length), (100, num z_.1)]) (fun z_ => [h90, z_.2.2.2.2.1, z_.2.2.2.2.2, hr, ho2, H, hI, box b7 [a23, b23, c23] 48, box b3 [num k, num p, num n, vt, vo] 34]) (fun z_ => z_.1 ≤ t23.l.length ∧ z_.2.1.length = (widthI k n).toNat ∧ IntsO (mulM k p n t23 x M o z_.1) z_.2.2.1 z_.2.2.2.2.1 ∧ IntsO z_.2.1 z_.2.2.2.1 z_.2.2.2.2.2) (fun z_ => t23.l.length - z_.1) (0, ly, vx, vy, h21, gy) (⟨by (try dsimp only); omega, hlx.2, r21, qy⟩) ⟨rfl, rfl, rfl, rfl, rfl, rfl, (by first | rfl | exact ksub rfl (by first | omega | (simp; done) | (simp; omega))), (by first | rfl | exact ksub rfl (by first | omega | (simp; done) | (simp; omega))), rfl, rfl, rfl, rfl, rfl, rfl, rfl, rfl, rfl, rfl, rfl, rfl, rfl, rfl, rfl, rfl, rfl, rfl, rfl, (by first | rfl | exact ksub rfl (by first | omega | (simp; done) | (simp; omega))), trivial⟩ (fun _ s => s) ?_; rintro ⟨j, ly2, vx2, vy2, gx2, gy2⟩ ⟨hjl, hly, qx2, qy2⟩; dsimp only at hjl hly qx2 qy2 ⊢; have hle_qx2 := qx2.toR.le; have hle_qy2 := qy2.toR.le; refine wp_sc (wp_sq (sq_v rfl (v_lss rfl rfl) rfl (sq_end (qs_n (wp_sc ?_))))); refine wp_cd rfl (fun c101 => ?_) (fun c101 => ?_)
        · refine wp_sk (qs_n (wp_sc (wp_bl (wp_sc (wp_sq (sq_v rfl (v_move rfl) rfl ?_)))))); refine sq_v rfl (v_idxI Try.underlying25 ty_3 rfl rfl r90.toR (by first | omega | (simp; omega) | (simp only [List.length_append, List.length_cons, List.length_nil]; omega) | (rw [List.length_set]; omega)) (by first | omega | (simp; omega) | (simp only [List.length_append, List.length_cons, List.length_nil]; omega) | (rw [List.length_set]; omega))) rfl ?_; refine sq_v rfl (v_loadI (k := j) 0 ty_3 rfl rfl r90.toR (by first | omega | (simp; omega) | (simp only [List.length_append, List.length_cons, List.length_nil]; omega) | (rw [List.length_set]; omega))) rfl ?_; refine sq_v rfl (v_assign rfl) rfl (sq_v rfl (v_assign rfl) rfl (sq_end (qs_n (wp_sc (wp_sq (sq_v rfl (v_move rfl) rfl (sq_v rfl (v_move rfl) rfl (sq_v rfl (v_neq rfl rfl) rfl (sq_end (qs_n ?_)))))))))); refine wp_cd rfl (fun c107 => ?_) (fun c107 => ?_)
          · refine wp_sc (wp_rj 11 [(0, true), (1, true), (2, true), (3, true), (4, true), (5, true), (6, true), (7, true), (8, true), (9, true), (10, true), (11, false)] mixed_ok (by kernel_rfl) ?_); obtain ⟨hnx, hco, hc0, hc1, cc, csC, ae, hcc, rrC, hae, rae⟩ := inc_at hnet hi e24 hinc2 (by omega) c107 o; have hlj : t23.l.getD j 0 ∈ (ts.getD i noTen).l := (by rw [e24]; exact mem_getD (by omega)); have hinM := mulM_in hnet hi hM (o := o) (by rw [e24]; exact hoi) j (by rw [e24]; exact hjl); rw [e24] at hinM; have hinE := (hM _ hlj hnx).2 ((idxL t23.d (o : Int)).getD j 0).toNat (by omega); rw [Int.toNat_of_nonneg hc0] at hinE; have hmel : (mE k n ts M (t23.l.getD j 0)).length = (dimOf ts (t23.l.getD j 0)).toNat := els_len _ _; refine rj_v rfl rfl (v_fieldAddr fd_34_0 ty_32 (by decide) rfl) rfl (rj_v rfl rfl (v_loadNB 8 ty_32 rfl rfl rfl rfl) rfl (rj_v rfl rfl (v_move rfl) rfl (rj_v rfl rfl (v_move rfl) rfl (rj_v rfl rfl (v_move rfl) rfl (rj_v rfl rfl (v_move rfl) rfl (rj_v rfl rfl (v_indexAddr Try.underlying95 ty_44 rfl rfl qI.toR (by decide) (by omega) (by omega)) rfl (rj_v rfl rfl (v_loadE 6 ty_44 rfl rfl qI.toR (by simpa using hcc)) rfl (rj_v rfl rfl (v_move rfl) rfl (rj_v rfl rfl (v_indexAddr Try.underlying44 ty_25 rfl rfl rrC (by decide) (by omega) (by omega)) rfl ?_))))))))); refine rj_v rfl rfl (v_loadE 5 ty_25 rfl rfl rrC (by simpa using hae)) rfl ?_; refine rj_m 2 rfl rfl rfl rfl (x_call rfl en_68 (fun w s => ct_i_mulInto _ _ _ _ _ _ _ _ _ w _ hring (s.get 2 rfl) qy2 (qx2.toR.mono (s.getR 2 1 rfl rfl (by decide))) (rae.mono (s.getR 2 5 rfl rfl (by decide))) hly hinM hinE)) rfl ?_; rintro _ h119 r119; refine rj_end (qs_n (wp_sq (sq_v rfl (v_move rfl) rfl (sq_v rfl (v_move rfl) rfl (sq_v rfl (v_assign rfl) rfl (sq_v rfl (v_assign rfl) rfl (sq_end (qs_bn (qs_n (wp_sq ?_)))))))))); refine sq_v rfl (v_add rfl rfl ((by unfold I64; omega))) rfl ?_; refine sq_v rfl (v_move rfl) rfl (sq_end ?_); exact qs_bk (j + 1, mulM k p n t23 x M o j, vy2, vx2, h119, gx2) ⟨by (try dsimp only); omega, hinM.1, by (try dsimp only); rw [mulM_yes hnx, hco]; exact r119, qx2⟩ (by simp only; omega) ⟨rfl, rfl, rfl, rfl, rfl, rfl, (by first | rfl | exact ksub rfl (by first | omega | (simp; done) | (simp; omega))), (by first | rfl | exact ksub rfl (by first | omega | (simp; done) | (simp; omega))), rfl, rfl, rfl, rfl, rfl, rfl, rfl, rfl, rfl, rfl, rfl, rfl, rfl, rfl, rfl, rfl, rfl, rfl, rfl, (by first | rfl | exact ksub rfl (by first | omega | (simp; done) | (simp; omega))), trivial⟩ (fun _ s => s.pick [0, 2, 1, 3, 4, 5, 6, 7, 8] (by decide) rfl)
          · refine wp_sk (qs_bn (qs_n (wp_sq ?_))); refine sq_v rfl (v_add rfl rfl ((by unfold I64; omega))) rfl ?_; refine sq_v rfl (v_move rfl) rfl (sq_end ?_); exact qs_bk (j + 1, ly2, vx2, vy2, gx2, gy2) ⟨by (try dsimp only); omega, hly, by (try dsimp only); rw [mulM_no (by have e := Classical.byContradiction c107; rw [show j = (findI t23.l x).toNat from (by omega)]; exact hxf.2)]; exact qx2, qy2⟩ (by simp only; omega) ⟨rfl, rfl, rfl, rfl, rfl, rfl, (by first | rfl | exact ksub rfl (by first | omega | (simp; done) | (simp; omega))), (by first | rfl | exact ksub rfl (by first | omega | (simp; done) | (simp; omega))), rfl, rfl, rfl, rfl, rfl, rfl, rfl, rfl, rfl, rfl, rfl, rfl, rfl, rfl, rfl, rfl, rfl, rfl, rfl, (by first | rfl | exact ksub rfl (by first | omega | (simp; done) | (simp; omega))), trivial⟩ (fun _ s => s)
        · refine wp_ex (qs_x (qs_x (qs_bx (qs_n (wp_rj 10 [(0, true), (1, true), (2, true), (3, true), (4, true), (5, true), (6, true), (7, true), (8, true), (9, true), (10, false)] mixed_ok (by kernel_rfl) ?_))))); have hoi' : (o : Int) < prodI (ts.getD i noTen).d := (by rw [e24]; exact hoi); have hxr : x ∈ (ts.getD i noTen).l := (by rw [e24]; exact hx); have hcr := co_in ht hx o; rw [hda] at hcr; have hcx : co t23 x o = (idxL t23.d (o : Int)).getD (findI t23.l x).toNat 0 := rfl; rw [hcx] at hcr; have hel := els_get (g := fun v => sumM k p n (fun q => mulM k p n t23 x M q t23.l.length) t23 x v o) (show ((idxL t23.d (o : Int)).getD (findI t23.l x).toNat 0).toNat < (dimOf ts x).toNat from (by omega)); obtain ⟨cv, hcv, rcv⟩ := own_getZ how2 hel; have hmI : ∀ q, q ≤ o → InR k p n (mulM k p n t23 x M q t23.l.length) := (fun q hq => (by have h9 := mulM_in hnet hi hM (o := q) (by omega) _ (Nat.le_refl _); rw [e24] at h9; exact h9)); have hsI := sumM_in hring (t := t23) (x := x) (v := (((idxL t23.d (o : Int)).getD (findI t23.l x).toNat 0).toNat : Nat)) o (fun q hq => hmI q (by omega)); have hjl2 : t23.l.length = j := (by omega)
          refine rj_v rfl rfl (v_fieldAddr fd_34_0 ty_32 (by decide) rfl) rfl (rj_v rfl rfl (v_loadNB 8 ty_32 rfl rfl rfl rfl) rfl (rj_v rfl rfl (v_move rfl) rfl (rj_v rfl rfl (v_move rfl) rfl (rj_v rfl rfl (v_move rfl) rfl ?_)))); refine rj_v rfl rfl (v_idxI Try.underlying25 ty_3 rfl rfl r90.toR (by first | omega | (simp; omega) | (simp only [List.length_append, List.length_cons, List.length_nil]; omega) | (rw [List.length_set]; omega)) (by first | omega | (simp; omega) | (simp only [List.length_append, List.length_cons, List.length_nil]; omega) | (rw [List.length_set]; omega))) rfl ?_; refine rj_v rfl rfl (v_loadI  0 ty_3 rfl rfl r90.toR (by first | omega | (simp; omega) | (simp only [List.length_append, List.length_cons, List.length_nil]; omega) | (rw [List.length_set]; omega))) rfl ?_; refine rj_v rfl rfl (v_indexAddr Try.underlying44 ty_25 rfl rfl qr.toR (by decide) (by omega) (by omega)) rfl (rj_v rfl rfl (v_loadE 3 ty_25 rfl rfl qr.toR (by simpa using hcv)) rfl (rj_v rfl rfl (v_move rfl) rfl ?_)); refine rj_m 4 rfl rfl rfl rfl (x_call rfl en_62 (fun w s => ct_q_addH k p n _ cs _ _ _ cv vx2 w _ hring (s.get 4 rfl) how2 hel hcv (qx2.toR.mono (s.getR 4 1 rfl rfl (by decide))) hsI (by have h9 := hmI o (Nat.le_refl _); rw [hjl2] at h9; exact h9))) rfl ?_; rintro u133 h133 hw133; refine rj_end (qs_bn (qs_n (wp_sq (sq_v rfl (v_move rfl) rfl ?_)))); refine sq_v rfl (v_add rfl rfl ((by unfold I64; omega))) rfl ?_; refine sq_v rfl (v_assign rfl) rfl (sq_end ?_); exact qs_bk (o + 1, mulM k p n t23 x M o j, ly2, vx2, vy2, gx2, gy2, h133) ⟨by (try dsimp only); omega, by (try dsimp only); rw [sE_step o ⟨hcr.1, by omega⟩ hjl2]; exact hw133, ⟨by have h9 := hmI o (Nat.le_refl _); rw [hjl2] at h9; exact h9.1, hly⟩, qx2, qy2⟩ (by simp only; omega) ⟨rfl, rfl, rfl, rfl, rfl, rfl, (by first | rfl | exact ksub rfl (by first | omega | (simp; done) | (simp; omega))), (by first | rfl | exact ksub rfl (by first | omega | (simp; done) | (simp; omega))), (by first | rfl | exact ksub rfl (by first | omega | (simp; done) | (simp; omega))), trivial⟩ (fun _ s => s.pick [1, 2, 3, 4, 5, 6, 7, 8] (by decide) rfl)
      · refine wp_ex (qs_x (qs_x (qs_bx (qs_n (wp_sc (wp_sq (sq_v rfl (v_move rfl) rfl (sq_v rfl (v_assign rfl) rfl (sq_end (qs_n (wp_rt ?_))))))))))); obtain ⟨hl, dhl, eH⟩ := hU; subst eH; refine qs_close [hl, hp w] [hr, ho2] (fun _ s => Sat.part dhl (s.pick [4, 2, 3] (by decide) rfl)) (fun md => ?_); exact qs_ret1 rfl rfl (fin_t 0 (i := 2) rfl rfl rfl (by rw [e24]; exact LLO.of (by rw [els_len]; exact qr) (by have h9 := how2; rw [show o = (prodI t23.d).toNat by omega] at h9; exact h9) md))
end Go.Proofs.Ytdkgaejmgnojhaa
namespace Go.Proofs.Ytdkgaejmgnojhaa
set_option maxRecDepth 100000
open Go.RowKit
/-- The calls of the program's messages, in every world that holds the network. -/
def IA (k p n : Int) (ts : List Ten) (op : List Int) (vt vo : Value) (i : Nat) (x : Int) (X : List Int) : Prop := ∀ w' : World, TensR ts vt (hp w') → IntsR op vo (hp w') → Calls Try.prog 69 [netV k p n vt vo, num i, num x].toArray w' (Ret w' emp (LLO (els (dimOf ts x).toNat fun v => elt X (widthI k n) (v : Int))))
def IB (k p n : Int) (ts : List Ten) (op : List Int) (vt vo : Value) (x : Int) (kk : Int) (X : List Int) : Prop := ∀ w' : World, TensR ts vt (hp w') → IntsR op vo (hp w') → Calls Try.prog 35 [netV k p n vt vo, num x, num (dimOf ts x), num kk].toArray w' (Ret w' emp (LLO (els (dimOf ts x).toNat fun v => elt X (widthI k n) (v : Int))))
theorem els_mapE {k p n : Int} (h : ringL k p n) {D : Nat} {g : Nat → List Int} (hg : ∀ v, v < D → InR k p n (g v)) : els D g = els D fun v => elt (mapE D g) (widthI k n) (v : Int) := els_congr fun v hv => by
  have hw := width_range h; rw [mapE_elt (by omega) (fun q hq => (hg q hq).1) hv]
theorem impl_msgs {k p n : Int} {ts : List Ten} {op : List Int} (vt vo : Value) (h : netL k p n ts op) {pos : Nat → Nat} {N r : Nat} (hN : ∀ u, u < ts.length + 100 → pos u ≤ N) (c : Cert (edgTo ts ts.length) pos r) : ∀ f, (∀ i x, i < ts.length → x ∈ (ts.getD i noTen).l → muE pos N i (ts.length + x.toNat) < f → IA k p n ts op vt vo i x ((msg k p n ts f).1 i x)) ∧
      (∀ x i, i < ts.length → x ∈ (ts.getD i noTen).l → muE pos N (ts.length + x.toNat) i < f → IB k p n ts op vt vo x (i : Int) ((msg k p n ts f).2 x i)) :=
  fuel_ind h hN c (A := IA k p n ts op vt vo) (B := fun x i => IB k p n ts op vt vo x (i : Int))
    (fun f i x hi hx ihB w' r r' => by
      have hM := (msg_ok h f).2; have h1 := ct_i_toLabelF k p n x i ts op vt vo (fun y => (msg k p n ts f).2 y i) w' r r' h hi hx (fun y _ _ => hM y i) fun y D w'' hy hne eD rr rr' => by subst eD; exact ihB y hy hne w'' rr rr'
      rw [els_mapE h.1 fun v _ => sumM_in h.1 _ fun o ho => mulM_in h hi (fun y _ _ => hM y i) (by omega) _ (Nat.le_refl _)] at h1; exact h1)
    (fun f x i hi hx ihA w' r r' => by
      have hT := (msg_ok h f).1; have h1 := ct_i_toTensorF k p n x (i : Int) ts op vt vo (fun q => (msg k p n ts f).1 q x) w' r r' h (lab_dim h hi hx).2 (fun q hq hxq => hT q x hq hxq) fun q w'' hq hne hxq rr rr' => ihA q hq (by omega) hxq w'' rr rr'; rw [els_mapE h.1 fun v hv => lblM_in h.1 (fun q hq hxq => (hT q x hq hxq).2 v hv) _ (Nat.le_refl _)] at h1; exact h1)
theorem ct_i_toTensorAll {k p n x : Int} {ts : List Ten} {op : List Int} (vt vo : Value) (h : netL k p n ts op) (hf : forL ts) (hx : ∃ i, i < ts.length ∧ x ∈ (ts.getD i noTen).l) : IB k p n ts op vt vo x (-1) (allM k p n ts x) := by
  obtain ⟨pos, N, r, hN, c, hF⟩ := fuelT_ok h hf; obtain ⟨i, hi, hxi⟩ := hx; intro w' r1 r2; have hm := (impl_msgs vt vo h hN c (fuelT ts)).1; have hT := (msg_ok h (fuelT ts)).1; have h1 := ct_i_toTensorF k p n x (-1) ts op vt vo (fun q => (msg k p n ts (fuelT ts)).1 q x) w' r1 r2 h (lab_dim h hi hxi).2 (fun q hq hxq => hT q x hq hxq) fun q w'' hq _ hxq rr rr' => hm q x hq hxq (by have := muE_le (v := ts.length + x.toNat) (hN q (by omega)); omega) w'' rr rr'; rw [els_mapE h.1 fun v hv => lblM_in h.1 (fun q hq hxq => (hT q x hq hxq).2 v hv) _ (Nat.le_refl _)] at h1; exact h1
end Go.Proofs.Ytdkgaejmgnojhaa
namespace Go.Proofs.Ytdkgaejmgnojhaa
set_option maxRecDepth 100000
open Go.RowKit
def sZ (F : Nat → Int) : Nat → Int
  | 0 => 0
  | m + 1 => sZ F m + F m
theorem sZ_congr {F G : Nat → Int} : ∀ m, (∀ i, i < m → F i = G i) → sZ F m = sZ G m
  | 0, _ => rfl
  | m + 1, h => by rw [sZ, sZ, sZ_congr m fun i hi => h i (by omega), h m (by omega)]
theorem sZ_add (F G : Nat → Int) : ∀ m, sZ (fun i => F i + G i) m = sZ F m + sZ G m
  | 0 => rfl
  | m + 1 => by rw [sZ, sZ, sZ, sZ_add F G m]; omega
theorem sZ_mul (c : Int) (F : Nat → Int) : ∀ m, c * sZ F m = sZ (fun i => c * F i) m
  | 0 => by simp [sZ]
  | m + 1 => by rw [sZ, sZ, Int.mul_add, sZ_mul c F m]
theorem sZ_mulr (c : Int) (F : Nat → Int) (m : Nat) : sZ F m * c = sZ (fun i => F i * c) m := by
  rw [Int.mul_comm, sZ_mul]; exact sZ_congr m fun i _ => Int.mul_comm _ _
theorem sZ_zero : ∀ m, sZ (fun _ => 0) m = 0
  | 0 => rfl
  | m + 1 => by rw [sZ, sZ_zero m]; rfl
theorem sZ_swap (F : Nat → Nat → Int) (m : Nat) : ∀ n, sZ (fun i => sZ (F i) m) n = sZ (fun j => sZ (fun i => F i j) n) m
  | 0 => by
    show 0 = sZ (fun _ => 0) m
    rw [sZ_zero]
  | n + 1 => by
    rw [sZ, sZ_swap F m n, ← sZ_add]
    rfl
theorem sZ_mod {p : Int} {F G : Nat → Int} : ∀ m, (∀ i, i < m → F i % p = G i % p) → sZ F m % p = sZ G m % p
  | 0, _ => rfl
  | m + 1, h => by
    have ih := sZ_mod (p := p) m fun i hi => h i (by omega); have hm := h m (by omega); rw [sZ, sZ, Int.add_emod, ih, hm, ← Int.add_emod]
def cf (k : Int) (q i j : Nat) : Int := if i + j = q then 1 else if k = 8 ∧ i + j = q + 4 then -1 else 0
theorem cf_comm (k : Int) (q i j : Nat) : cf k q i j = cf k q j i := by unfold cf; rw [Nat.add_comm i j]
def prZ (k : Int) (W : Nat) (x y : List Int) (q : Nat) : Int := sZ (fun i => sZ (fun j => cf k q i j * (x.getD i 0 * y.getD j 0)) W) W
theorem getD_setZ {xs : List Int} {i q : Nat} {a : Int} (hi : i < xs.length) : (xs.set i a).getD q 0 = if i = q then a else xs.getD q 0 := by
  by_cases c : i = q
  · subst c; rw [if_pos rfl, List.getD, List.getElem?_set_self hi]; rfl
  · rw [if_neg c, List.getD, List.getD, List.getElem?_set_ne c]
section
variable {k p n : Int}
theorem step_coef {x y out : List Int} {i j q : Nat} (hp : 2 ≤ p) (hk : k = 7 ∨ k = 8 ∧ (widthI k n).toNat = 4) (hx : PolyIn k p n x) (hy : PolyIn k p n y) (ho : PolyIn k p n out) (hi : i < (widthI k n).toNat) (hj : j < (widthI k n).toNat) (hq : q < (widthI k n).toNat) :
    (mulStep k p x y out i j).getD q 0 % p = (out.getD q 0 + cf k q i j * (x.getD i 0 * y.getD j 0)) % p := by
  have hxi := hx.at (by omega) i; have hyj := hy.at (by omega) j; have hm := (mul_in hxi hyj).1; have hl := ho.1; have hmod : ∀ a : Int, 0 ≤ a → a.tmod p % p = a % p := fun a ha => by rw [Int.tmod_eq_emod_of_nonneg ha, Int.emod_emod]
  unfold mulStep cf
  by_cases c : i + j < out.length
  · rw [if_pos c, getD_setZ c]
    by_cases e : i + j = q
    · rw [if_pos e, if_pos e, e, Int.one_mul]; have := (ho.at (by omega : 1 ≤ p) q).1; exact hmod _ (by omega)
    · rw [if_neg e, if_neg e]; have h2 : ¬ (k = 8 ∧ i + j = q + 4) := fun h => by
        rcases hk with h7 | h8
        · omega
        · omega
      rw [if_neg h2, Int.zero_mul, Int.add_zero]
  · rw [if_neg c]; have e : ¬ i + j = q := by omega
    rw [if_neg e]
    by_cases h8 : k = 8
    · have hW : (widthI k n).toNat = 4 := by
        rcases hk with h7 | h9
        · omega
        · exact h9.2
      rw [if_pos h8, getD_setZ (by omega)]
      by_cases e2 : i + j = q + 4
      · rw [if_pos (by omega), if_pos ⟨h8, e2⟩, show i + j - 4 = q by omega]; have h1 := (ho.at (by omega : 1 ≤ p) q).1; have h2 := (mul_in (a := p - x.getD i 0) (t := p) ⟨by omega, by omega⟩ hyj).1; rw [hmod _ (by omega), Int.sub_mul, show out.getD q 0 + (p * y.getD j 0 - x.getD i 0 * y.getD j 0) = (out.getD q 0 + -1 * (x.getD i 0 * y.getD j 0)) + p * y.getD j 0 by omega, Int.add_mul_emod_self_left]
      · rw [if_neg (by omega), if_neg (fun h => e2 h.2), Int.zero_mul, Int.add_zero]
    · rw [if_neg h8, if_neg (fun h => h8 h.1), Int.zero_mul, Int.add_zero]
theorem row_coef {x y out : List Int} {i q : Nat} (hp : 2 ≤ p) (hk : k = 7 ∨ k = 8 ∧ (widthI k n).toNat = 4) (hx : PolyIn k p n x) (hy : PolyIn k p n y) (ho : PolyIn k p n out) (hi : i < (widthI k n).toNat) (hq : q < (widthI k n).toNat) :
    ∀ m, m ≤ (widthI k n).toNat → (mulRow k p x y i out m).getD q 0 % p = (out.getD q 0 + sZ (fun j => cf k q i j * (x.getD i 0 * y.getD j 0)) m) % p
  | 0, _ => by
    show out.getD q 0 % p = _
    rw [sZ, Int.add_zero]
  | m + 1, hm => by
    have ih := row_coef hp hk hx hy ho hi hq m (by omega); rw [mulRow_step, step_coef hp hk hx hy (mulRow_in (by omega) hx hy ho m) hi (by omega) hq, Int.add_emod, ih, ← Int.add_emod, sZ, Int.add_assoc]
theorem to_coef {x y out : List Int} {q : Nat} (hp : 2 ≤ p) (hk : k = 7 ∨ k = 8 ∧ (widthI k n).toNat = 4) (hx : PolyIn k p n x) (hy : PolyIn k p n y) (ho : PolyIn k p n out) (hq : q < (widthI k n).toNat) :
    ∀ m, m ≤ (widthI k n).toNat → (mulTo k p x y out m).getD q 0 % p = (out.getD q 0 + sZ (fun i => sZ (fun j => cf k q i j * (x.getD i 0 * y.getD j 0)) (widthI k n).toNat) m) % p
  | 0, _ => by
    show out.getD q 0 % p = _
    rw [sZ, Int.add_zero]
  | m + 1, hm => by
    have ih := to_coef hp hk hx hy ho hq m (by omega); rw [mulTo_step, hy.1, row_coef hp hk hx hy (mulTo_in (by omega) hx hy ho m) (by omega) hq _ (Nat.le_refl _), Int.add_emod, ih, ← Int.add_emod, sZ, Int.add_assoc]
/-- The coefficients of a product. -/
theorem mul_coef {x y : List Int} {q : Nat} (hr : ringL k p n) (hk : k = 2 ∨ k = 7 ∨ k = 8) (hx : InR k p n x) (hy : InR k p n y) (hq : q < (widthI k n).toNat) : (mulL k p n x y).getD q 0 = prZ k (widthI k n).toNat x y q % p := by
  have ht := top_poly hr hk; have px := hx.poly hr hk; have py := hy.poly hr hk
  by_cases h2 : k = 2
  · have hw : (widthI k n).toNat = 1 := by rw [width_1 (by omega) (by omega)]; rfl
    have hq0 : q = 0 := by omega
    subst hq0; have h1 := (mul_in (px.at (by omega) 0) (py.at (by omega) 0)).1; have e : mulL k p n x y = [(x.getD 0 0 * y.getD 0 0).tmod p] := by rw [mulL, if_neg (by omega), if_pos h2]
    rw [e, hw]
    show (x.getD 0 0 * y.getD 0 0).tmod p = (0 + (0 + cf k 0 0 0 * (x.getD 0 0 * y.getD 0 0))) % p
    rw [Int.tmod_eq_emod_of_nonneg h1]
    congr 1
    simp [cf]
  · have hk' : k = 7 ∨ k = 8 := by omega
    have hk2 : k = 7 ∨ k = 8 ∧ (widthI k n).toNat = 4 := by
      rcases hk' with h | h
      · exact .inl h
      · refine .inr ⟨h, ?_⟩; subst h; rfl
    have hz : PolyIn k p n (List.replicate (widthI k n).toNat 0) := poly_zero (by omega) _ rfl; have hm := mulTo_in (k := k) (p := p) (n := n) (by omega) px py hz x.length; have hc := to_coef (q := q) (by omega) hk2 px py hz hq x.length (by rw [px.1]; exact Nat.le_refl _); have hb := hm.at (by omega) q; have e0 : (List.replicate (widthI k n).toNat (0 : Int)).getD q 0 = 0 := by
      rw [List.getD, List.getElem?_replicate]; split <;> rfl
    rw [mulL_poly hk']; rw [e0, Int.zero_add, px.1] at hc; rw [px.1] at hb ⊢; have e9 := Int.emod_eq_of_lt (b := p) hb.1 (by omega); rw [← e9, hc]
    rfl
theorem mod_mul {a b p : Int} : (a % p * b) % p = (a * b) % p := by rw [Int.mul_emod, Int.emod_emod, ← Int.mul_emod]
theorem mod_mulr {a b p : Int} : (a * (b % p)) % p = (a * b) % p := by rw [Int.mul_comm, mod_mul, Int.mul_comm]
def chkA (k : Int) (W : Nat) : Bool := (List.range W).all fun q => (List.range W).all fun i => (List.range W).all fun j => (List.range W).all fun l => decide (sZ (fun m => cf k q m l * cf k m i j) W = sZ (fun m => cf k q i m * cf k m j l) W)
theorem chkA_at {k : Int} {W : Nat} (h : chkA k W = true) {q i j l : Nat} (hq : q < W) (hi : i < W) (hj : j < W) (hl : l < W) : sZ (fun m => cf k q m l * cf k m i j) W = sZ (fun m => cf k q i m * cf k m j l) W := by
  have h1 := List.all_eq_true.1 h q (List.mem_range.2 hq); have h2 := List.all_eq_true.1 h1 i (List.mem_range.2 hi); have h3 := List.all_eq_true.1 h2 j (List.mem_range.2 hj); have h4 := List.all_eq_true.1 h3 l (List.mem_range.2 hl); exact of_decide_eq_true h4
theorem chk7 : ∀ W, W ≤ 6 → chkA 7 W = true := by
  intro W h; have : W = 0 ∨ W = 1 ∨ W = 2 ∨ W = 3 ∨ W = 4 ∨ W = 5 ∨ W = 6 := by omega
  rcases this with rfl | rfl | rfl | rfl | rfl | rfl | rfl <;> decide +kernel
theorem chk2 : chkA 2 1 = true := by decide +kernel
theorem chk8 : chkA 8 4 = true := by decide +kernel
theorem chk_all (hr : ringL k p n) (hk : k = 2 ∨ k = 7 ∨ k = 8) : chkA k (widthI k n).toNat = true := by
  have hw := width_range hr
  rcases hk with rfl | rfl | rfl
  · exact chk2
  · exact chk7 _ (by omega)
  · exact chk8
theorem mod_add1 (hk : k = 2 ∨ k = 7 ∨ k = 8) {a b : Int} (ha : 0 ≤ a) (hb : 0 ≤ b) : add1 k p a b = (a + b) % p := by
  unfold add1
  rw [if_neg (by omega), if_neg (by omega), if_neg (by omega), if_neg (by omega), Int.tmod_eq_emod_of_nonneg (by omega)]
theorem law_mod (hr : ringL k p n) (hk : k = 2 ∨ k = 7 ∨ k = 8) : RLaw k p n := by
  have ht := top_poly hr hk; have hext : ∀ a b, InR k p n a → InR k p n b → (∀ q, q < (widthI k n).toNat → a.getD q 0 = b.getD q 0) → a = b := fun a b ha hb h => ext_getD (by rw [ha.1, hb.1]) fun j hj => h j (by rw [← ha.1]; exact hj); have hat : ∀ a q, InR k p n a → 0 ≤ a.getD q 0 ∧ a.getD q 0 ≤ p - 1 := fun a q ha => (ha.poly hr hk).at (by omega) q; have hadd : ∀ a b q, InR k p n a → InR k p n b → q < (widthI k n).toNat → (addL k p a b).getD q 0 = (a.getD q 0 + b.getD q 0) % p := fun a b q ha hb hq => by
    rw [addL_get (by rw [ha.1]; exact hq), mod_add1 hk (hat a q ha).1 (hat b q hb).1]
  have hmul : ∀ a b q, InR k p n a → InR k p n b → q < (widthI k n).toNat → (mulL k p n a b).getD q 0 = prZ k (widthI k n).toNat a b q % p := fun a b q ha hb hq => mul_coef hr hk ha hb hq; refine ⟨?_, ?_, ?_, ?_, ?_, ?_, ?_, ?_⟩
  · intro a b ha hb; refine hext _ _ (addL_in hr ha hb) (addL_in hr hb ha) fun q hq => ?_; rw [hadd a b q ha hb hq, hadd b a q hb ha hq, Int.add_comm]
  · intro a b c ha hb hc; have hab := addL_in hr ha hb; have hbc := addL_in hr hb hc; refine hext _ _ (addL_in hr hab hc) (addL_in hr ha hbc) fun q hq => ?_; rw [hadd _ c q hab hc hq, hadd a _ q ha hbc hq, hadd a b q ha hb hq, hadd b c q hb hc hq, Int.emod_add_emod, Int.add_emod_emod, Int.add_assoc]
  · exact fun a ha => add_zero hr ha
  · intro a b ha hb; refine hext _ _ (mulL_in hr ha hb) (mulL_in hr hb ha) fun q hq => ?_; rw [hmul a b q ha hb hq, hmul b a q hb ha hq]
    congr 1
    unfold prZ
    rw [sZ_swap]; exact sZ_congr _ fun j _ => sZ_congr _ fun i _ => by rw [cf_comm, Int.mul_comm (a.getD i 0)]
  · intro a b c ha hb hc; have hab := mulL_in hr ha hb; have hbc := mulL_in hr hb hc; refine hext _ _ (mulL_in hr hab hc) (mulL_in hr ha hbc) fun q hq => ?_; rw [hmul _ c q hab hc hq, hmul a _ q ha hbc hq]; have e1 : prZ k (widthI k n).toNat (mulL k p n a b) c q % p = sZ (fun i => sZ (fun j => sZ (fun l => sZ (fun m => cf k q m l * cf k m i j) (widthI k n).toNat * (a.getD i 0 * b.getD j 0 * c.getD l 0)) (widthI k n).toNat) (widthI k n).toNat) (widthI k n).toNat % p := by
      have h1 : prZ k (widthI k n).toNat (mulL k p n a b) c q % p = sZ (fun m => sZ (fun l => cf k q m l * (prZ k (widthI k n).toNat a b m * c.getD l 0)) (widthI k n).toNat) (widthI k n).toNat % p :=
        sZ_mod _ fun m hm => sZ_mod _ fun l hl => by
          rw [hmul a b m ha hb hm, ← mod_mulr (a := cf k q m l) (b := prZ k _ a b m % p * _), mod_mul, mod_mulr]
      rw [h1]
      congr 1
      have h2 : ∀ m l, cf k q m l * (prZ k (widthI k n).toNat a b m * c.getD l 0) = sZ (fun i => sZ (fun j => cf k q m l * cf k m i j * (a.getD i 0 * b.getD j 0 * c.getD l 0)) (widthI k n).toNat) (widthI k n).toNat := fun m l => by
        unfold prZ
        rw [sZ_mulr, sZ_mul]; refine sZ_congr _ fun i _ => ?_; rw [sZ_mulr, sZ_mul]; refine sZ_congr _ fun j _ => ?_; simp only [Int.mul_assoc]
      have h3 : (fun m => sZ (fun l => cf k q m l * (prZ k (widthI k n).toNat a b m * c.getD l 0)) (widthI k n).toNat) = fun m => sZ (fun l => sZ (fun i => sZ (fun j => cf k q m l * cf k m i j * (a.getD i 0 * b.getD j 0 * c.getD l 0)) (widthI k n).toNat) (widthI k n).toNat) (widthI k n).toNat := by
        funext m
        exact sZ_congr _ fun l _ => h2 m l
      rw [h3, sZ_swap]; have h4 : (fun l => sZ (fun m => sZ (fun i => sZ (fun j => cf k q m l * cf k m i j * (a.getD i 0 * b.getD j 0 * c.getD l 0)) (widthI k n).toNat) (widthI k n).toNat) (widthI k n).toNat) = fun l => sZ (fun i => sZ (fun j => sZ (fun m => cf k q m l * cf k m i j) (widthI k n).toNat * (a.getD i 0 * b.getD j 0 * c.getD l 0)) (widthI k n).toNat) (widthI k n).toNat := by
        funext l
        rw [sZ_swap]; refine sZ_congr _ fun i _ => ?_; rw [sZ_swap]; exact sZ_congr _ fun j _ => (sZ_mulr _ _ _).symm
      rw [h4, sZ_swap]; refine sZ_congr _ fun i _ => ?_; rw [sZ_swap]
    have e2 : prZ k (widthI k n).toNat a (mulL k p n b c) q % p = sZ (fun i => sZ (fun j => sZ (fun l => sZ (fun m => cf k q i m * cf k m j l) (widthI k n).toNat * (a.getD i 0 * b.getD j 0 * c.getD l 0)) (widthI k n).toNat) (widthI k n).toNat) (widthI k n).toNat % p := by
      have h1 : prZ k (widthI k n).toNat a (mulL k p n b c) q % p = sZ (fun i => sZ (fun m => cf k q i m * (a.getD i 0 * prZ k (widthI k n).toNat b c m)) (widthI k n).toNat) (widthI k n).toNat % p :=
        sZ_mod _ fun i hi => sZ_mod _ fun m hm => by
          rw [hmul b c m hb hc hm, ← Int.mul_assoc, mod_mulr, Int.mul_assoc]
      rw [h1]
      congr 1
      refine sZ_congr _ fun i _ => ?_; have h2 : ∀ m, cf k q i m * (a.getD i 0 * prZ k (widthI k n).toNat b c m) = sZ (fun j => sZ (fun l => cf k q i m * cf k m j l * (a.getD i 0 * b.getD j 0 * c.getD l 0)) (widthI k n).toNat) (widthI k n).toNat := fun m => by
        unfold prZ
        rw [sZ_mul, sZ_mul]; refine sZ_congr _ fun j _ => ?_; rw [sZ_mul, sZ_mul]; refine sZ_congr _ fun l _ => ?_; simp only [Int.mul_assoc, Int.mul_left_comm]
      rw [sZ_congr _ fun m _ => h2 m, sZ_swap]; refine sZ_congr _ fun j _ => ?_; rw [sZ_swap]; exact sZ_congr _ fun l _ => (sZ_mulr _ _ _).symm
    rw [e1, e2]
    congr 1
    exact sZ_congr _ fun i hi => sZ_congr _ fun j hj => sZ_congr _ fun l hl => by rw [chkA_at (chk_all hr hk) hq hi hj hl]
  · exact fun a ha => one_mul hr ha
  · intro a ha; have hz := zeroL_in hr; refine hext _ _ (mulL_in hr hz ha) hz fun q hq => ?_; have e0 : ∀ i, (zeroL k p n).getD i 0 = 0 := fun i => by
      rw [zeroL, if_neg (by omega), List.getD, List.getElem?_replicate]; split <;> rfl
    rw [hmul _ a q hz ha hq, e0]; have : prZ k (widthI k n).toNat (zeroL k p n) a q = 0 := by
      unfold prZ
      rw [sZ_congr _ fun i _ => (sZ_congr _ fun j _ => by rw [e0, Int.zero_mul, Int.mul_zero]).trans (sZ_zero _), sZ_zero]
    rw [this]; rfl
  · intro a b c ha hb hc; have hab := addL_in hr ha hb; have hac := mulL_in hr ha hc; have hbc := mulL_in hr hb hc; refine hext _ _ (mulL_in hr hab hc) (addL_in hr hac hbc) fun q hq => ?_; rw [hmul _ c q hab hc hq, hadd _ _ q hac hbc hq, hmul a c q ha hc hq, hmul b c q hb hc hq, ← Int.add_emod]; have h1 : prZ k (widthI k n).toNat (addL k p a b) c q % p = sZ (fun i => sZ (fun j => cf k q i j * ((a.getD i 0 + b.getD i 0) * c.getD j 0)) (widthI k n).toNat) (widthI k n).toNat % p :=
      sZ_mod _ fun i hi => sZ_mod _ fun j hj => by
        rw [hadd a b i ha hb hi, ← mod_mulr (a := cf k q i j) (b := (a.getD i 0 + b.getD i 0) % p * _), mod_mul, mod_mulr]
    rw [h1]
    congr 1
    unfold prZ
    rw [← sZ_add]; refine sZ_congr _ fun i _ => ?_; rw [← sZ_add]; exact sZ_congr _ fun j _ => by rw [Int.add_mul, Int.mul_add]
theorem law_set (hr : ringL 6 p n) : RLaw 6 p n := by
  have h7 : (6 : Int) ≠ 7 := by omega
  have h8 : (6 : Int) ≠ 8 := by omega
  have hz : zeroL 6 p n = [0] := zero_one (by omega) h7 h8; have ea : ∀ a b : Int, addL 6 p [a] [b] = [((a.toNat ||| b.toNat : Nat) : Int)] := fun a b => rfl; have em : ∀ a b : Int, mulL 6 p n [a] [b] = [((a.toNat &&& b.toNat : Nat) : Int)] := fun a b => by simp [mulL]
  refine ⟨?_, ?_, fun a ha => add_zero hr ha, ?_, ?_, fun a ha => one_mul hr ha, ?_, ?_⟩
  · intro a b ha hb; obtain ⟨a, rfl, ha⟩ := in_one h7 h8 ha; obtain ⟨b, rfl, hb⟩ := in_one h7 h8 hb; rw [ea, ea, Nat.or_comm]
  · intro a b c ha hb hc; obtain ⟨a, rfl, ha⟩ := in_one h7 h8 ha; obtain ⟨b, rfl, hb⟩ := in_one h7 h8 hb; obtain ⟨c, rfl, hc⟩ := in_one h7 h8 hc; rw [ea, ea, ea, ea, Int.toNat_natCast, Int.toNat_natCast, Nat.or_assoc]
  · intro a b ha hb; obtain ⟨a, rfl, ha⟩ := in_one h7 h8 ha; obtain ⟨b, rfl, hb⟩ := in_one h7 h8 hb; rw [em, em, Nat.and_comm]
  · intro a b c ha hb hc; obtain ⟨a, rfl, ha⟩ := in_one h7 h8 ha; obtain ⟨b, rfl, hb⟩ := in_one h7 h8 hb; obtain ⟨c, rfl, hc⟩ := in_one h7 h8 hc; rw [em, em, em, em, Int.toNat_natCast, Int.toNat_natCast, Nat.and_assoc]
  · intro a ha; obtain ⟨a, rfl, ha⟩ := in_one h7 h8 ha; rw [hz, em]
    simp
  · intro a b c ha hb hc; obtain ⟨a, rfl, ha⟩ := in_one h7 h8 ha; obtain ⟨b, rfl, hb⟩ := in_one h7 h8 hb; obtain ⟨c, rfl, hc⟩ := in_one h7 h8 hc; rw [ea, em, em, em, ea, Int.toNat_natCast, Int.toNat_natCast, Int.toNat_natCast, Nat.and_or_distrib_right]
/-- The laws of every ring. -/
theorem law_all (hr : ringL k p n) : RLaw k p n := by
  have hr0 := hr
  rcases hr with ⟨rfl, h⟩ | ⟨rfl, h⟩ | ⟨rfl | rfl | rfl, h, _⟩ | ⟨rfl, h⟩ | ⟨rfl, h⟩ | ⟨rfl, h⟩
  · exact law_lat (.inl rfl) fun _ => rfl
  · exact law_mod hr0 (.inl rfl)
  · exact law_cap h.1 n
  · exact law_min (by omega) n
  · exact law_lat (.inr rfl) fun h => by omega
  · exact law_set hr0
  · exact law_mod hr0 (.inr (.inl rfl))
  · exact law_mod hr0 (.inr (.inr rfl))
end
end Go.Proofs.Ytdkgaejmgnojhaa
namespace Go.Proofs.Ytdkgaejmgnojhaa
set_option maxRecDepth 100000
open Go.RowKit
/-- The sum of all elements of a message. -/
noncomputable def totS (k p n : Int) (X : List Int) : Nat → List Int
  | 0 => zeroL k p n
  | v + 1 => addL k p (totS k p n X v) (elt X (widthI k n) v)
section
variable {k p n : Int} {ts : List Ten} {op : List Int}
theorem totS_in (hr : ringL k p n) {d : Nat} {X : List Int} (hX : MsgOK k p n d X) : ∀ v, v ≤ d → InR k p n (totS k p n X v)
  | 0, _ => zeroL_in hr
  | v + 1, hv => addL_in hr (totS_in hr hX v (by omega)) (hX.2 v (by omega))
/-- A sum that keeps no label. -/
theorem sum_none (hr : ringL k p n) {y : Int} (hy : 0 ≤ y ∧ y ≤ 99) {d : Nat} (hd : 1 ≤ d ∧ d ≤ 8) {X : List Int} (hX : MsgOK k p n d X) : (sumR k p n (oneAx y d X) []).x = totS k p n X d := by
  have h := oneAx_ten hr hy hd hX; have h1 := one_ten hr; have hmm := one_mism k p n (oneAx y d X); have hpd : prodI (oneAx y d X).d = d := by simp [prodI, oneAx]
  have ok := pair_ok h h1 hmm (by rw [one_joinD, hpd]; omega); have hwr := width_range hr; have hj : joinI (oneAx y d X).l (oneT k p n).l = (oneAx y d X).l := by simp [joinI, oneT]
  have hK : keepL (oneAx y d X) (oneT k p n) [] = [] := by unfold keepL; rw [hj]; exact List.filter_eq_nil_iff.2 fun x _ => by simp
  have hd' : (oneAx y d X).d = (oneAx y d X).l.map (dimJ (oneAx y d X) (oneT k p n)) := ok.ht; have hko : KeepOK (oneAx y d X) (oneT k p n) (dimJ (oneAx y d X) (oneT k p n)) [] := ⟨fun l hl => (by cases hl), List.nodup_nil, by rw [show prodI (([] : List Int).map (dimJ (oneAx y d X) (oneT k p n))) = 1 from rfl]; decide⟩
  have hdim : ∀ z ∈ (oneAx y d X).l, 1 ≤ dimJ (oneAx y d X) (oneT k p n) z ∧ dimJ (oneAx y d X) (oneT k p n) z ≤ 8 := fun z hz => ok.dim z (by rw [hj]; exact hz); have hat : ∀ m : Nat, m < d → atI (dimJ (oneAx y d X) (oneT k p n)) (joinI (oneAx y d X).l (oneT k p n).l) (oneAx y d X).l m = m := fun m m1 => by
    rw [hj]; exact at_self (axes_nodup (ten_axes h)) hdim (by omega) (by rw [← hd', hpd]; omega)
  have hp1 : prodI (([] : List Int).map (dimJ (oneAx y d X) (oneT k p n))) = 1 := rfl; have hak : ∀ m : Int, atI (dimJ (oneAx y d X) (oneT k p n)) (joinI (oneAx y d X).l (oneT k p n).l) [] m = 0 := fun m => by
    have h2 := ok.at_k hko m
    omega
  have hau : ∀ m : Int, atI (dimJ (oneAx y d X) (oneT k p n)) (joinI (oneAx y d X).l (oneT k p n).l) (oneT k p n).l m = 0 := fun m => by
    have h2 := ok.at_u m; have e : prodI (oneT k p n).d = 1 := rfl
    omega
  have hone : elt (oneT k p n).x (widthI k n) 0 = oneL k p n := by
    have e : (oneT k p n).x = oneL k p n := rfl; have hl := oneL_len k p n
    unfold elt
    rw [e, Int.zero_mul]
    show ((oneL k p n).drop 0).take _ = _
    rw [List.drop_zero, List.take_of_length_le (by omega)]
  have hel : ∀ m : Nat, m ≤ d → elt (pairX k p n (dimJ (oneAx y d X) (oneT k p n)) (oneAx y d X) (oneT k p n) [] m) (widthI k n) 0 = totS k p n X m := by
    intro m
    induction m with
    | zero =>
      intro _; have hz := zeroL_len k p n; have := elt_rep (z := zeroL k p n) (W := (widthI k n).toNat) (P := 1) hz (i := 0) (by omega); rw [Int.toNat_of_nonneg (by omega)] at this; exact this
    | succ m ih =>
      intro hm; have ihm := ih (by omega); have hx1 := hX.2 m (by omega); have hf := ok.fits hko m; rw [hak] at hf; have hnew := addL_in hr (totS_in hr hX m (by omega)) hx1; have e1 : elt (oneAx y d X).x (widthI k n) (m : Int) = elt X (widthI k n) m := rfl; rw [pairX, hat m (by omega), hau, hak, hone, e1, mul_one hr hx1, ihm]; exact elt_put hwr.1 (by omega) hnew.1 hf
  have hall := (ok.all hko d).1; rw [hp1] at hall; have hfin : pairX k p n (dimJ (oneAx y d X) (oneT k p n)) (oneAx y d X) (oneT k p n) [] d = totS k p n X d := by
    have ht := (totS_in hr hX d (Nat.le_refl _)).1; rw [← hel d (Nat.le_refl _)]
    unfold elt
    rw [Int.zero_mul]
    show _ = ((pairX k p n (dimJ (oneAx y d X) (oneT k p n)) (oneAx y d X) (oneT k p n) [] d).drop 0).take _
    rw [List.drop_zero, List.take_of_length_le (by omega)]
  rw [sumR, if_pos h, hK]
  show pairX k p n (dimJ (oneAx y d X) (oneT k p n)) (oneAx y d X) (oneT k p n) [] (prodI ((joinI (oneAx y d X).l (oneT k p n).l).map (dimJ (oneAx y d X) (oneT k p n)))).toNat = _
  rw [hj, ← hd', hpd, Int.toNat_natCast]; exact hfin
/-- The total of a part. -/
noncomputable def ptTot (k p n : Int) (ts : List Ten) (l : List Int) : List Int := if (ts.getD (l.getD 0 0).toNat noTen).l = [] then (ts.getD (l.getD 0 0).toNat noTen).x else totS k p n (allM k p n ts ((ts.getD (l.getD 0 0).toNat noTen).l.getD 0 0)) (dimOf ts ((ts.getD (l.getD 0 0).toNat noTen).l.getD 0 0)).toNat
theorem allM_ok (h : netL k p n ts op) (x : Int) : MsgOK k p n (dimOf ts x).toNat (allM k p n ts x) := (msg_ok h _).2 x (-1)
theorem part_first {l : List Int} (hl : PartL ts l) : (l.getD 0 0).toNat < ts.length ∧ (((l.getD 0 0).toNat : Nat) : Int) = l.getD 0 0 ∧ 0 < l.length := by
  have h0 : 0 < l.length := List.length_pos_iff.2 hl.ne; have := hl.inr _ (mem_getD h0)
  omega
theorem ptTot_in (h : netL k p n ts op) {l : List Int} (hl : PartL ts l) : InR k p n (ptTot k p n ts l) := by
  have hf := part_first hl; have ht := ten_in h hf.1
  unfold ptTot
  split
  · rename_i e
    have hax := ten_axes ht; have hd : (ts.getD (l.getD 0 0).toNat noTen).d = [] := List.length_eq_zero_iff.1 (by rw [← hax.2.1, e]; rfl); have hp : prodI (ts.getD (l.getD 0 0).toNat noTen).d = 1 := by rw [hd]; rfl
    have hw := width_range h.1; have hall := ten_all ht; have := hall.1; rw [hp] at this; exact ⟨by omega, hall.2⟩
  · exact totS_in h.1 (allM_ok h _) _ (Nat.le_refl _)
def inPart (ts : List Ten) (x : Int) (l : List Int) : Prop := ∃ i ∈ l, x ∈ (ts.getD i.toNat noTen).l
open Classical in
/-- The reference: one total after the other. -/
noncomputable def scS (k p n : Int) (ts : List Ten) (x : Int) (e : List Int) : Nat → List Int
  | 0 => e
  | q + 1 => if inPart ts x ((partsL ts).getD q []) then scS k p n ts x e q else mulL k p n (ptTot k p n ts ((partsL ts).getD q [])) (scS k p n ts x e q)
open Classical in
/-- The program: the totals' product ahead. -/
noncomputable def rsS (k p n : Int) (ts : List Ten) (x : Int) : Nat → List Int
  | 0 => oneL k p n
  | q + 1 => if inPart ts x ((partsL ts).getD q []) then rsS k p n ts x q else mulL k p n (rsS k p n ts x q) (ptTot k p n ts ((partsL ts).getD q []))
theorem rsS_in (h : netL k p n ts op) {x : Int} : ∀ q, q ≤ (partsL ts).length → InR k p n (rsS k p n ts x q)
  | 0, _ => oneL_in h.1
  | q + 1, hq => by
    have ih := rsS_in h (x := x) q (by omega); rw [rsS]
    split
    · exact ih
    · exact mulL_in h.1 ih (ptTot_in h (parts_get (ts := ts) (i := q) (by omega)))
theorem sc_rs (h : netL k p n ts op) {x : Int} {e : List Int} (he : InR k p n e) : ∀ q, q ≤ (partsL ts).length → mulL k p n e (rsS k p n ts x q) = scS k p n ts x e q ∧ InR k p n (scS k p n ts x e q)
  | 0, _ => ⟨mul_one h.1 he, he⟩
  | q + 1, hq => by
    obtain ⟨h1, h2⟩ := sc_rs h he q (by omega); have hR := rsS_in h (x := x) q (by omega); have hT := ptTot_in h (parts_get (ts := ts) (i := q) (by omega)); have L := law_all h.1; rw [rsS, scS]
    split
    · exact ⟨h1, h2⟩
    · refine ⟨?_, mulL_in h.1 hT h2⟩; rw [← L.mulA _ _ _ he hR hT, h1, L.mulC _ _ h2 hT]
/-- The marginal of a label. -/
noncomputable def frT (k p n : Int) (ts : List Ten) (x : Int) : Ten := oneAx x (dimOf ts x) (mapE (dimOf ts x).toNat fun v => mulL k p n (elt (allM k p n ts x) (widthI k n) v) (rsS k p n ts x (partsL ts).length))
theorem fr_spec (h : netL k p n ts op) (x : Int) : frT k p n ts x = oneAx x (dimOf ts x) (mapE (dimOf ts x).toNat fun v => scS k p n ts x (elt (allM k p n ts x) (widthI k n) v) (partsL ts).length) := by
  unfold frT
  rw [mapE_congr fun v hv => (sc_rs h ((allM_ok h x).2 v hv) _ (Nat.le_refl _)).1]
/-- A label's first tensor lies in a part iff the part has the label. -/
theorem part_has {l : List Int} (hl : l ∈ partsL ts) {u : Nat} (hu : u < ts.length) {x : Int} (hx : x ∈ (ts.getD u noTen).l) : (u : Int) ∈ l ↔ inPart ts x l := by
  constructor
  · intro h; exact ⟨u, h, by rw [Int.toNat_natCast]; exact hx⟩
  · rintro ⟨i, hi, hxi⟩; obtain ⟨h1, h2⟩ := List.mem_filter.1 hl; obtain ⟨j, hj, rfl⟩ := List.mem_map.1 h1; obtain ⟨m, rfl, hm, e⟩ := mem_partJ.1 hi; rw [Int.toNat_natCast] at hxi; exact mem_partJ.2 ⟨u, rfl, hu, (pt_meet hu hm ⟨x, hx, hxi⟩).trans e⟩
end
end Go.Proofs.Ytdkgaejmgnojhaa
namespace Go.Proofs.Ytdkgaejmgnojhaa
set_option maxRecDepth 100000
open Go.RowKit
theorem ct_i_toTensorD {k p n x D : Int} {ts : List Ten} {op : List Int} (vt vo : Value) (h : netL k p n ts op) (hf : forL ts) (hx : ∃ i, i < ts.length ∧ x ∈ (ts.getD i noTen).l) (hD : D = dimOf ts x) (w : World) (r : TensR ts vt (hp w)) (r' : IntsR op vo (hp w)) :
    Calls Try.prog 35 [netV k p n vt vo, num x, num D, num (-1)].toArray w (Ret w emp (LLO (els (dimOf ts x).toNat fun v => elt (allM k p n ts x) (widthI k n) (v : Int)))) := by
  subst hD; exact ct_i_toTensorAll vt vo h hf hx w r r'
theorem ten_xl {k p n : Int} {t : Ten} (hr : ringL k p n) (h : tensorL k p n t.l t.d t.x) : t.x.length ≤ 24576 := by
  have h1 := (ten_all h).1; have h2 := ten_prod h; have hw := width_range hr; have hp1 := prodI_one fun d hd' => (dims_mem (axes_dims (ten_axes h)) d hd').1; have hsm : prodI t.d * widthI k n ≤ 4096 * 6 := Int.mul_le_mul h2 hw.2 (by omega) (by omega)
  omega
set_option maxHeartbeats 400000 in
theorem ct_i_partTotal (k p n : Int) (ts : List Ten) (op part : List Int) (vt vo vp : Value) (w : World) (r : TensR ts vt (hp w)) (r' : IntsR op vo (hp w)) (rp : IntsR part vp (hp w)) (hnet : netL k p n ts op) (hf : forL ts) (hl : PartL ts part) :
    Calls Try.prog 28 [netV k p n vt vo, vp].toArray w (Ret w emp (IntsO (ptTot k p n ts part))) := by
  have hring := hnet.1; have h12 := hnet.2.1; have hfst := part_first hl; have ht := ten_in hnet hfst.1; have hax := ten_axes ht; have hdl := hax.2.1; have hxl := ten_xl hring ht; refine calls_in Try.func28 rfl Try.ntmps28 rfl (Sat.start w) ?_; have hle0 := r.le; obtain ⟨cs_r, rr_r, hc_r⟩ := r.at; have hle1 := r'.le; have hle2 := rp.le; refine wp_sc (wp_sq ?_); refine sq_x rfl (x_box rfl rfl) rfl ?_; rintro _ _ ⟨b2, rfl, rfl⟩; refine sq_v rfl (v_assign rfl) rfl (sq_end (qs_n (wp_sc (wp_rj 8 [(0, true), (1, true), (2, true), (3, true), (4, true), (5, true), (6, true), (7, false), (8, false)] mixed_ok (by kernel_rfl) (rj_v rfl rfl (v_fieldAddr fd_34_1 ty_29 (by decide) rfl) rfl (rj_v rfl rfl (v_loadB 0 ty_29 rfl rfl rfl) rfl (rj_v rfl rfl (v_move rfl) rfl ?_))))))); refine rj_v rfl rfl (v_idxI Try.underlying25 ty_3 rfl rfl rp (by first | omega | (simp; omega) | (simp only [List.length_append, List.length_cons, List.length_nil]; omega) | (rw [List.length_set]; omega)) (by first | omega | (simp; omega) | (simp only [List.length_append, List.length_cons, List.length_nil]; omega) | (rw [List.length_set]; omega))) rfl ?_; refine rj_v rfl rfl (v_loadI (k := 0) 1 ty_3 rfl rfl rp (by first | omega | (simp; omega) | (simp only [List.length_append, List.length_cons, List.length_nil]; omega) | (rw [List.length_set]; omega))) rfl ?_; obtain ⟨t14, a14, b14, c14, ht14, hcs14, rl14, rd14, rx14⟩ := hc_r ((part.getD 0 0 : Int).toNat) (by first | omega | (rw [List.length_set]; omega)); refine rj_v rfl rfl (v_indexAddr Try.underlying29 ty_48 rfl rfl rr_r (by decide) (by omega) (by omega)) rfl ?_; refine rj_v rfl rfl (v_loadNE 1 ty_48 rfl rfl rr_r (by have := rr_r.1; omega) rfl hcs14) rfl ?_; refine rj_x rfl rfl (x_alloc ty_48 rfl) rfl ?_; rintro _ _ ⟨b5, rfl, rfl⟩; refine rj_m 0 rfl rfl rfl rfl (m_store 0 ty_48 rfl rfl rfl rfl (by simp [rl14.sl.one, rd14.sl.one, rx14.sl.one]) rfl (Nat.le_of_ble_eq_true rfl)) rfl ?_; rintro _ _ ⟨rfl, rfl⟩; refine rj_end ?_; have e14 : ts.getD (part.getD 0 0).toNat noTen = t14 := getD_ten ht14; rw [e14] at ht hax hdl hxl; refine qs_n (wp_sc (wp_sc (wp_sq (sq_v rfl (v_fieldAddr fd_48_0 ty_25 (by decide) rfl) rfl (sq_v rfl (v_loadB 0 ty_25 rfl rfl rfl) rfl (sq_v rfl (v_len Try.underlying25 rfl rl14.sl) rfl (sq_v rfl (v_eql rfl rfl) rfl (sq_end (qs_n ?_))))))))); refine wp_cd rfl (fun c19 => ?_) (fun c19 => ?_)
  · refine wp_sc (wp_sq (sq_v rfl (v_fieldAddr fd_48_2 ty_25 (by decide) rfl) rfl (sq_v rfl (v_loadB 0 ty_25 rfl rfl rfl) rfl ?_))); refine sq_x rfl (x_call rfl en_60 (fun w s => ct_i_copyInts _ _ w (rx14.mono (s.get 2 rfl)) (by first | assumption | omega))) rfl ?_; rintro v22 h22 r22; refine sq_v rfl (v_assign rfl) rfl (sq_end (qs_n (wp_rt (qs_r ?_)))); exact qs_ret1 rfl rfl (fin_t 0 (i := 3) rfl rfl rfl (by unfold ptTot; rw [e14, if_pos (List.length_eq_zero_iff.1 (by omega))]; exact r22))
  · refine wp_sk (qs_n (wp_sc (wp_sq (sq_v rfl (v_fieldAddr fd_34_0 ty_32 (by decide) rfl) rfl (sq_v rfl (v_loadNB 1 ty_32 rfl rfl rfl rfl) rfl ?_))))); refine sq_x rfl (x_call rfl en_61 (fun w s => ct_i_rawZero _ _ _ w (by first | assumption | omega))) rfl ?_; rintro v25 h25 r25; refine sq_v rfl (v_assign rfl) rfl (sq_end (qs_n (wp_sc (wp_sc (wp_rj 12 [(0, true), (1, true), (2, true), (3, true), (4, true), (5, true), (6, true), (7, true), (8, true), (11, true), (9, false), (10, true)] mixed_ok (by kernel_rfl) ?_))))); have hmem : t14.l.getD 0 0 ∈ (ts.getD (part.getD 0 0).toNat noTen).l := (by rw [e14]; exact mem_getD (by omega)); have hDm : t14.d.getD 0 0 = dimOf ts (t14.l.getD 0 0) := (by have h9 := dim_at hnet hfst.1 hmem; rw [e14, find_at' (axes_nodup hax) (by omega)] at h9; exact h9)
    refine rj_v rfl rfl (v_loadNB 2 ty_34 rfl rfl rfl rfl) rfl (rj_v rfl rfl (v_fieldAddr fd_48_0 ty_25 (by decide) rfl) rfl (rj_v rfl rfl (v_loadB 1 ty_25 rfl rfl rfl) rfl ?_)); refine rj_v rfl rfl (v_idxI Try.underlying25 ty_3 rfl rfl rl14 (by first | omega | (simp; omega) | (simp only [List.length_append, List.length_cons, List.length_nil]; omega) | (rw [List.length_set]; omega)) (by first | omega | (simp; omega) | (simp only [List.length_append, List.length_cons, List.length_nil]; omega) | (rw [List.length_set]; omega))) rfl ?_; refine rj_v rfl rfl (v_loadI (k := 0) 3 ty_3 rfl rfl rl14 (by first | omega | (simp; omega) | (simp only [List.length_append, List.length_cons, List.length_nil]; omega) | (rw [List.length_set]; omega))) rfl ?_; refine rj_v rfl rfl (v_fieldAddr fd_48_1 ty_25 (by decide) rfl) rfl (rj_v rfl rfl (v_loadB 1 ty_25 rfl rfl rfl) rfl ?_); refine rj_v rfl rfl (v_idxI Try.underlying25 ty_3 rfl rfl rd14 (by first | omega | (simp; omega) | (simp only [List.length_append, List.length_cons, List.length_nil]; omega) | (rw [List.length_set]; omega)) (by first | omega | (simp; omega) | (simp only [List.length_append, List.length_cons, List.length_nil]; omega) | (rw [List.length_set]; omega))) rfl ?_; refine rj_v rfl rfl (v_loadI (k := 0) 3 ty_3 rfl rfl rd14 (by first | omega | (simp; omega) | (simp only [List.length_append, List.length_cons, List.length_nil]; omega) | (rw [List.length_set]; omega))) rfl ?_; refine rj_v rfl rfl (v_move rfl) rfl ?_; refine rj_x rfl rfl (x_call rfl en_35 (fun w s => ct_i_toTensorD _ _ (by first | assumption | omega) (by first | assumption | omega) ⟨_, hfst.1, hmem⟩ hDm w (r.mono (s.get 3 rfl)) (r'.mono (s.get 3 rfl)))) rfl ?_; rintro v35 h35 r35; obtain ⟨cs_L_35, rr_L_35, hc_L_35⟩ := r35.toR.at; refine rj_v rfl rfl (v_len Try.underlying44 rfl r35.toR.sl) rfl (rj_end (qs_n (wp_bl ?_))); refine wp_lp (σ := Nat × PH) (fun z_ => [(2, .pointer (some ⟨b2, 0, none⟩)), (4, .slice none 0 0), (6, v25), (35, v35), (36, num (els (dimOf ts (t14.l.getD 0 0)).toNat fun v => elt (allM k p n ts (t14.l.getD 0 0)) (widthI k n) (v : Int)).length), (37, num z_.1)]) (fun z_ => [h35, z_.2, box b5 [a14, b14, c14] 48, box b2 [num k, num p, num n, vt, vo] 34, hp w]) (fun z_ => z_.1 ≤ (dimOf ts (t14.l.getD 0 0)).toNat ∧ IntsO (totS k p n (allM k p n ts (t14.l.getD 0 0)) z_.1) v25 z_.2) (fun z_ => (dimOf ts (t14.l.getD 0 0)).toNat - z_.1) (0, h25) (⟨by (try dsimp only); omega, r25⟩) ⟨rfl, rfl, rfl, rfl, rfl, (by first | rfl | exact ksub rfl (by first | omega | (simp; done) | (simp; omega))), trivial⟩ (fun _ s => s) ?_; rintro ⟨vq, gt⟩ ⟨hv, qt⟩; dsimp only at hv qt ⊢; have hle_qt := qt.toR.le; have hel := els_len (dimOf ts (t14.l.getD 0 0)).toNat fun v => elt (allM k p n ts (t14.l.getD 0 0)) (widthI k n) (v : Int); have hAll := allM_ok hnet (t14.l.getD 0 0); have hin1 := totS_in hring hAll vq hv; have hd8 := (lab_dim hnet hfst.1 hmem).2; refine wp_sc (wp_sq (sq_v rfl (v_lss rfl rfl) rfl (sq_end (qs_n (wp_sc ?_))))); refine wp_cd rfl (fun c38 => ?_) (fun c38 => ?_)
    · refine wp_sk (qs_n (wp_sc (wp_bl (wp_sc (wp_sq ?_))))); obtain ⟨l39, a39, hl39, hcs39, rl39⟩ := hc_L_35 (vq) (by first | omega | (rw [List.length_set]; omega)); refine sq_v rfl (v_indexAddr Try.underlying44 ty_25 rfl rfl rr_L_35 (by decide) (by omega) (by omega)) rfl (sq_v rfl (v_loadE 0 ty_25 rfl rfl rr_L_35 (sub_get hcs39 (j := 0) rfl)) rfl (sq_v rfl (v_assign rfl) rfl (sq_end (qs_n (wp_sq ?_))))); have el39 : elt (allM k p n ts (t14.l.getD 0 0)) (widthI k n) (vq : Int) = l39 := (by have h9 := els_get (g := fun v => elt (allM k p n ts (t14.l.getD 0 0)) (widthI k n) ((v : Nat) : Int)) (show vq < (dimOf ts (t14.l.getD 0 0)).toNat by omega); rw [hl39] at h9; injection h9 with h9; exact h9.symm); have hin2 : InR k p n l39 := el39 ▸ hAll.2 vq (by omega); refine sq_v rfl (v_fieldAddr fd_34_0 ty_32 (by decide) rfl) rfl (sq_v rfl (v_loadNB 3 ty_32 rfl rfl rfl rfl) rfl (sq_v rfl (v_move rfl) rfl (sq_v rfl (v_move rfl) rfl ?_))); refine sq_m 1 rfl rfl (x_call rfl en_62 (fun w s => ct_i_addAll k p n _ l39 v25 a39 w _ hring (s.get 1 rfl) qt (rl39.mono (s.getR 1 0 rfl rfl (by decide))) hin1 hin2)) rfl ?_; rintro u45 h45 r45; refine sq_end (qs_bn (qs_n (wp_sq ?_))); refine sq_v rfl (v_add rfl rfl ((by unfold I64; omega))) rfl ?_; refine sq_v rfl (v_move rfl) rfl (sq_end ?_); exact qs_bk (vq + 1, h45) ⟨by (try dsimp only); omega, by (try dsimp only); rw [totS, el39]; exact r45⟩ (by simp only; omega) ⟨rfl, rfl, rfl, rfl, rfl, (by first | rfl | exact ksub rfl (by first | omega | (simp; done) | (simp; omega))), trivial⟩ (fun _ s => s)
    · refine wp_ex (qs_x (qs_x (qs_bx (qs_n (wp_sc (wp_sq (sq_v rfl (v_move rfl) rfl (sq_v rfl (v_assign rfl) rfl (sq_end (qs_n (wp_rt ?_))))))))))); exact qs_ret1 rfl rfl (fin_t 1 (i := 4) rfl rfl rfl (by unfold ptTot; rw [e14, if_neg (fun e => by rw [e] at c19; exact c19 rfl), show (dimOf ts (t14.l.getD 0 0)).toNat = vq by omega]; exact qt))
end Go.Proofs.Ytdkgaejmgnojhaa
namespace Go.Proofs.Ytdkgaejmgnojhaa
set_option maxRecDepth 100000
open Go.RowKit
/-- The positions of the tensors that have a label. -/
def useL (ts : List Ten) (x : Int) : Nat → List Int
  | 0 => []
  | m + 1 => if x ∈ (ts.getD m noTen).l then useL ts x m ++ [(m : Int)] else useL ts x m
theorem useL_yes {ts : List Ten} {x : Int} {m : Nat} (h : x ∈ (ts.getD m noTen).l) : useL ts x (m + 1) = useL ts x m ++ [(m : Int)] := by rw [useL, if_pos h]
theorem useL_no {ts : List Ten} {x : Int} {m : Nat} (h : x ∉ (ts.getD m noTen).l) : useL ts x (m + 1) = useL ts x m := by rw [useL, if_neg h]
theorem useL_len (ts : List Ten) (x : Int) : ∀ m, (useL ts x m).length ≤ m
  | 0 => by simp [useL]
  | m + 1 => by
    have := useL_len ts x m; rw [useL]
    split
    · rw [List.length_append]; simp; exact this
    · omega
theorem mem_useL {ts : List Ten} {x y : Int} : ∀ m, y ∈ useL ts x m ↔ ∃ i : Nat, y = i ∧ i < m ∧ x ∈ (ts.getD i noTen).l
  | 0 => ⟨fun h => by simp [useL] at h, fun ⟨i, _, h, _⟩ => by omega⟩
  | m + 1 => by
    rw [useL]
    split
    · rename_i hx
      rw [List.mem_append, mem_useL m]
      constructor
      · rintro (⟨i, h1, h2, h3⟩ | h)
        · exact ⟨i, h1, by omega, h3⟩
        · exact ⟨m, by simpa using h, by omega, hx⟩
      · rintro ⟨i, h1, h2, h3⟩
        by_cases e : i = m
        · subst e; exact .inr (by simp [h1])
        · exact .inl ⟨i, h1, by omega, h3⟩
    · rename_i hx
      rw [mem_useL m]
      constructor
      · rintro ⟨i, h1, h2, h3⟩; exact ⟨i, h1, by omega, h3⟩
      · rintro ⟨i, h1, h2, h3⟩
        by_cases e : i = m
        · subst e; exact absurd h3 hx
        · exact ⟨i, h1, by omega, h3⟩
set_option maxHeartbeats 400000 in
theorem ct_i_UsesOf (k p n x : Int) (ts : List Ten) (op : List Int) (vt vo : Value) (w : World) (r : TensR ts vt (hp w)) (r' : IntsR op vo (hp w)) (hs : op.length ≤ 1048576) (hnet : netL k p n ts op) :
    Calls Try.prog 32 [netV k p n vt vo, num x].toArray w (Ret w emp (IntsO (useL ts x ts.length))) := by
  have h12 := hnet.2.1; refine calls_in Try.func32 rfl Try.ntmps32 rfl (Sat.start w) ?_; have hle0 := r.le; obtain ⟨cs_r, rr_r, hc_r⟩ := r.at; have hle1 := r'.le; refine wp_sc (wp_sq ?_); refine sq_x rfl (x_box rfl rfl) rfl ?_; rintro _ _ ⟨b2, rfl, rfl⟩; refine sq_v rfl (v_assign rfl) rfl (sq_end (qs_n (wp_sc (wp_sc (wp_sq (sq_v rfl (v_loadNB 0 ty_34 rfl rfl rfl rfl) rfl (sq_u rfl (x_callv rfl en_58 (fun w s => ct_i_NetworkOk _ _ _ _ _ _ _ w (r.mono (s.get 1 rfl)) (r'.mono (s.get 1 rfl)) (by first | assumption | omega))) rfl (sq_v rfl (v_not rfl) rfl (sq_end (qs_n ?_)))))))))); refine wp_cn _ rfl (fun c10 => ?_) (fun c10 => ?_)
  · refine wp_sc (wp_sq (sq_v rfl (v_assign rfl) rfl (sq_end (qs_n (wp_rt (qs_r ?_)))))); exact absurd hnet (netB_false.1 c10)
  · refine wp_sk (qs_n (wp_sc (wp_sq (sq_v rfl (v_assign rfl) rfl (sq_end (qs_n (wp_sc (wp_sc (wp_sq (sq_v rfl (v_fieldAddr fd_34_1 ty_29 (by decide) rfl) rfl (sq_v rfl (v_loadB 0 ty_29 rfl rfl rfl) rfl (sq_v rfl (v_len Try.underlying29 rfl r.sl) rfl (sq_v rfl (v_move rfl) rfl (sq_end (qs_n (wp_bl ?_)))))))))))))))); refine wp_lp (σ := Nat × Value × PH) (fun z_ => [(1, num x), (4, .slice none 0 0), (5, z_.2.1), (12, vt), (13, num ts.length), (14, num z_.1)]) (fun z_ => [z_.2.2, box b2 [num k, num p, num n, vt, vo] 34, hp w]) (fun z_ => z_.1 ≤ ts.length ∧ IntsO (useL ts x z_.1) z_.2.1 z_.2.2) (fun z_ => ts.length - z_.1) (0, .slice none 0 0, emp) (⟨by (try dsimp only); omega, IntsO.nil⟩) ⟨rfl, rfl, (by first | rfl | exact ksub rfl (by first | omega | (simp; done) | (simp; omega))), rfl, rfl, (by first | rfl | exact ksub rfl (by first | omega | (simp; done) | (simp; omega))), trivial⟩ (fun _ s => (emp_sat s)) ?_; rintro ⟨m, vx, gx⟩ ⟨hm, qx⟩; dsimp only at hm qx ⊢; have hle_qx := qx.toR.le; have hul := useL_len ts x m; refine wp_sc (wp_sq (sq_v rfl (v_lss rfl rfl) rfl (sq_end (qs_n (wp_sc ?_))))); refine wp_cd rfl (fun c15 => ?_) (fun c15 => ?_)
    · refine wp_sk (qs_n (wp_sc (wp_bl (wp_sc (wp_sq (sq_v rfl (v_move rfl) rfl ?_)))))); obtain ⟨t17, a17, b17, c17, ht17, hcs17, rl17, rd17, rx17⟩ := hc_r (m) (by first | omega | (rw [List.length_set]; omega)); refine sq_v rfl (v_indexAddr Try.underlying29 ty_48 rfl rfl rr_r (by decide) (by omega) (by omega)) rfl ?_; refine sq_v rfl (v_loadNE 2 ty_48 rfl rfl rr_r (by have := rr_r.1; omega) rfl hcs17) rfl ?_; refine sq_x rfl (x_alloc ty_48 rfl) rfl ?_; rintro _ _ ⟨b7, rfl, rfl⟩; refine sq_v rfl (v_assign rfl) rfl ?_; refine sq_m 0 rfl rfl (m_store 0 ty_48 rfl rfl rfl rfl (by simp [rl17.sl.one, rd17.sl.one, rx17.sl.one]) rfl (Nat.le_of_ble_eq_true rfl)) rfl ?_; rintro _ _ ⟨rfl, rfl⟩; refine sq_end ?_; have e17 : ts.getD m noTen = t17 := getD_ten ht17; refine qs_n (wp_sc (wp_sq (sq_v rfl (v_loadNB 0 ty_48 rfl rfl rfl rfl) rfl (sq_v rfl (v_move rfl) rfl (sq_u rfl (x_callv rfl en_67 (fun w s => ct_u_axisOf _ _ _ _ _ _ _ w (rl17.mono (s.get 3 rfl)) (rd17.mono (s.get 3 rfl)) (rx17.mono (s.get 3 rfl)))) rfl (sq_v rfl (v_geq rfl rfl) rfl (sq_end (qs_n ?_)))))))); refine wp_cd rfl (fun c22 => ?_) (fun c22 => ?_)
      · refine wp_sq (sq_v rfl (v_move rfl) rfl (sq_v rfl (v_move rfl) rfl ?_)); refine sq_x rfl (x_buildS [num (m)] Try.underlying25 ty_3 (by decide) rfl rfl rfl (by decide) (by decide) (by intro v hv; simp at hv; rcases hv with rfl <;> rfl)) rfl ?_; intro v25 h25 (r25 : IntsO [m] v25 h25); refine sq_m 2 rfl rfl (m_appI 2 0 Try.underlying25 ty_3 rfl rfl rfl rfl qx rfl r25.toR (by first | omega | (simp; omega) | (simp only [List.length_append, List.length_cons, List.length_nil]; omega) | (rw [List.length_set]; omega))) rfl ?_; intro v26 h_r26 r26; refine sq_v rfl (v_assign rfl) rfl (sq_end (qs_bn (qs_n (wp_sq ?_)))); refine sq_v rfl (v_add rfl rfl ((by unfold I64; omega))) rfl ?_; refine sq_v rfl (v_move rfl) rfl (sq_end ?_); exact qs_bk (m + 1, v26, h_r26) ⟨by (try dsimp only); omega, by (try dsimp only); rw [useL_yes (by rw [e17]; exact findI_ge.1 (by omega))]; exact r26⟩ (by simp only; omega) ⟨rfl, rfl, (by first | rfl | exact ksub rfl (by first | omega | (simp; done) | (simp; omega))), rfl, rfl, (by first | rfl | exact ksub rfl (by first | omega | (simp; done) | (simp; omega))), trivial⟩ (fun _ s => s.pick [2, 3, 4] (by decide) rfl)
      · refine wp_sk (qs_bn (qs_n (wp_sq ?_))); refine sq_v rfl (v_add rfl rfl ((by unfold I64; omega))) rfl ?_; refine sq_v rfl (v_move rfl) rfl (sq_end ?_); exact qs_bk (m + 1, vx, gx) ⟨by (try dsimp only); omega, by (try dsimp only); rw [useL_no (by rw [e17]; exact fun h => by have := findI_ge.2 h; omega)]; exact qx⟩ (by simp only; omega) ⟨rfl, rfl, (by first | rfl | exact ksub rfl (by first | omega | (simp; done) | (simp; omega))), rfl, rfl, (by first | rfl | exact ksub rfl (by first | omega | (simp; done) | (simp; omega))), trivial⟩ (fun _ s => s.pick [1, 2, 3] (by decide) rfl)
    · refine wp_ex (qs_x (qs_x (qs_bx (qs_n (wp_sc (wp_sq (sq_v rfl (v_move rfl) rfl (sq_v rfl (v_assign rfl) rfl (sq_end (qs_n (wp_rt ?_))))))))))); exact qs_ret1 rfl rfl (fin_t 0 (i := 2) rfl rfl rfl (by rw [show ts.length = m by omega]; exact qx))
end Go.Proofs.Ytdkgaejmgnojhaa
namespace Go.Proofs.Ytdkgaejmgnojhaa
set_option maxRecDepth 100000
open Go.RowKit
theorem TensL.drop {us : List Ten} {cs : List Value} {h : PH} (hT : TensL us cs h) (m : Nat) (hm : m ≤ us.length) : TensL (us.drop m) (cs.drop (m * 3)) h := by
  refine ⟨by rw [List.length_drop, List.length_drop, hT.1]; omega, fun i t e => ?_⟩; rw [List.getElem?_drop] at e; have := hT.2 (m + i) t e; rw [List.drop_drop, show m * 3 + i * 3 = (m + i) * 3 by omega]; exact this
end Go.Proofs.Ytdkgaejmgnojhaa
namespace Go.Proofs.Ytdkgaejmgnojhaa
set_option maxRecDepth 100000
open Go.RowKit
section
variable {k p n : Int} {ts : List Ten} {op ls : List Int}
end
/-- A slice of rows of which nothing is wanted by itself. -/
structure Row0 : Prop where
theorem Row0.at (_ : Row0) : ∃ _ _ : Unit, True := ⟨(), (), trivial⟩
theorem TensL.append {a b : List Ten} {ca cb : List Value} {h : PH} (ra : TensL a ca h) (rb : TensL b cb h) : TensL (a ++ b) (ca ++ cb) h := by
  refine ⟨by rw [List.length_append, List.length_append, ra.1, rb.1]; omega, fun i t e => ?_⟩
  by_cases hi : i < a.length
  · rw [List.getElem?_append_left hi] at e; have := ra.2 i t e; have e2 : ((ca ++ cb).drop (i * 3)).take 3 = (ca.drop (i * 3)).take 3 := by
      rw [List.drop_append, List.take_append]; have hl : 3 - (ca.drop (i * 3)).length = 0 := by rw [List.length_drop, ra.1]; omega
      rw [hl, List.take_zero, List.append_nil]
    rw [e2]; exact this
  · rw [List.getElem?_append_right (by omega)] at e; have := rb.2 _ t e; have e2 : ((ca ++ cb).drop (i * 3)).take 3 = (cb.drop ((i - a.length) * 3)).take 3 := by
      rw [List.drop_append, List.drop_of_length_le (by rw [ra.1]; omega), List.nil_append, ra.1, show i * 3 - a.length * 3 = (i - a.length) * 3 by omega]
    rw [e2]; exact this
theorem tensL_of {us : List Ten} {cs : List Value} {v : Value} {h h' : PH} (rr : RowR cs us.length 3 v h') (hc : ∀ i, i < us.length → ∃ t a b c, us[i]? = some t ∧ (cs.drop (i * 3)).take 3 = [a, b, c] ∧ IntsR t.l a h ∧ IntsR t.d b h ∧ IntsR t.x c h) : TensL us cs h :=
  ⟨rr.1, fun i t e => by
    obtain ⟨u, a, b, c, e1, e2, r1, r2, r3⟩ := hc i (List.getElem?_eq_some_iff.1 e).1; rw [e] at e1
    cases e1
    exact ⟨a, b, c, e2, r1, r2, r3⟩⟩
end Go.Proofs.Ytdkgaejmgnojhaa
namespace Go.Proofs.Ytdkgaejmgnojhaa
set_option maxRecDepth 100000
open Go.RowKit
structure Opr where
  k : Int
  a : Int
  b : Int
  c : Int
  l : List Int
def OpR (o : Opr) (cs : List Value) (h : PH) : Prop := ∃ v, cs = [num o.k, num o.a, num o.b, num o.c, v] ∧ IntsR o.l v h
theorem OpR.mono {o : Opr} {cs : List Value} {h h' : PH} (r : OpR o cs h) (l : PLe h h') : OpR o cs h' := by
  obtain ⟨v, e, r1⟩ := r; exact ⟨v, e, r1.mono l⟩
def OpsR (os : List Opr) (v : Value) (h : PH) : Prop := RowsR 5 OpR os v h
theorem OpsR.mono {os : List Opr} {v : Value} {h h' : PH} (r : OpsR os v h) (l : PLe h h') : OpsR os v h' := RowsR.mono (R := OpR) OpR.mono r l
theorem OpsR.sl {os : List Opr} {v : Value} {h : PH} (r : OpsR os v h) : SlL v os.length := RowsR.sl r
theorem OpsR.le {os : List Opr} {v : Value} {h : PH} (r : OpsR os v h) : (os.length : Int) ≤ 9223372036854775807 := RowsR.le r
theorem OpsR.at {os : List Opr} {v : Value} {h : PH} (r : OpsR os v h) : ∃ cells, RowR cells os.length 5 v h ∧ ∀ i, i < os.length → ∃ o a, os[i]? = some o ∧ (cells.drop (i * 5)).take 5 = [num o.k, num o.a, num o.b, num o.c, a] ∧ IntsR o.l a h := by
  obtain ⟨cells, rr, hc⟩ := r; refine ⟨cells, rr, fun i hi => ?_⟩; have ht : os[i]? = some os[i] := List.getElem?_eq_getElem hi; obtain ⟨a, e, r1⟩ := hc i _ ht; exact ⟨_, a, ht, e, r1⟩
theorem OpsR.subH {os : List Opr} {v : Value} {h : PH} (r : OpsR os v h) {hi : Nat} (h2 : hi ≤ os.length) : OpsR (os.take hi) (subV v 0 hi 5) h := by
  obtain ⟨cells, rr, hc⟩ := r; have := RowR.sub rr (Nat.zero_le hi) h2; refine ⟨_, by rw [List.length_take, Nat.min_eq_left h2]; simpa using this, fun i x hx => ?_⟩; have hlt : i < hi := by
    have := (List.getElem?_eq_some_iff.1 hx).1
    simp at this; omega
  have hx' : os[i]? = some x := by rwa [List.getElem?_take, if_pos hlt] at hx
  have := hc i x hx'; have e : ((cells.take ((hi - 0) * 5)).drop (i * 5)).take 5 = (cells.drop (i * 5)).take 5 := by
    rw [List.drop_take, List.take_take]
    congr 1
    omega
  show OpR x (((((cells.drop (0 * 5)).take ((hi - 0) * 5))).drop (i * 5)).take 5) h
  rw [Nat.zero_mul, List.drop_zero, e]; exact this
structure OpL (os : List Opr) (cs : List Value) (hs : List PH) : Prop where
  l1 : cs.length = os.length * 5
  l2 : hs.length = os.length
  own : ∀ (i : Nat) (o : Opr), os[i]? = some o → ∃ v h, (cs.drop (i * 5)).take 5 = [num o.k, num o.a, num o.b, num o.c, v] ∧ hs[i]? = some h ∧ IntsO o.l v h
theorem OpL.nil : OpL [] [] [] := ⟨rfl, rfl, fun i xs h => by simp at h⟩
theorem OpL.snoc {os : List Opr} {cs : List Value} {hs : List PH} (r : OpL os cs hs) {o : Opr} {v : Value} {h : PH} (q : IntsO o.l v h) : OpL (os ++ [o]) (cs ++ [num o.k, num o.a, num o.b, num o.c, v]) (hs ++ [h]) := by
  refine ⟨by simp [r.l1]; omega, by simp [r.l2], fun i y e => ?_⟩
  by_cases hi : i < os.length
  · rw [List.getElem?_append_left hi] at e; have e2 : ((cs ++ [num o.k, num o.a, num o.b, num o.c, v]).drop (i * 5)).take 5 = (cs.drop (i * 5)).take 5 := by
      rw [List.drop_append, List.take_append]; have hl : 5 - (cs.drop (i * 5)).length = 0 := by simp [r.l1]; omega
      rw [hl, List.take_zero, List.append_nil]
    rw [e2, List.getElem?_append_left (by rw [r.l2]; exact hi)]; exact r.own i y e
  · have hlt := (List.getElem?_eq_some_iff.1 e).1
    simp at hlt
    have : i = os.length := by omega
    subst this; rw [List.getElem?_append_right (by omega)] at e
    simp at e
    subst e; refine ⟨v, h, ?_, ?_, q⟩
    · rw [← r.l1, List.drop_left]; rfl
    · rw [← r.l2, List.getElem?_append_right (by omega)]; simp
end Go.Proofs.Ytdkgaejmgnojhaa
namespace Go.Proofs.Ytdkgaejmgnojhaa
set_option maxRecDepth 100000
open Go.RowKit
structure Mach where
  S : List Ten
  F : List Bool
  D : List Bool
/-- A register's labels. -/
def Mach.ten (s : Mach) (i : Nat) : Ten := s.S.getD i noTen
def Mach.lab (s : Mach) (i : Nat) : List Int := if s.F.getD i false = true then (s.ten i).l else []
def tenF (f : Int → Int) (t : Ten) : Prop := t.d = t.l.map f ∧ t.l.Nodup ∧ (∀ x ∈ t.l, 0 ≤ x ∧ x ≤ 99) ∧ ∀ x ∈ t.l, 1 ≤ f x ∧ f x ≤ 8
theorem tenF.few {f : Int → Int} {t : Ten} (h : tenF f t) : t.l.length ≤ 100 := few_labels h.2.1 h.2.2.1
theorem tenF_no (f : Int → Int) : tenF f noTen := ⟨rfl, List.nodup_nil, fun x h => (List.not_mem_nil h).elim, fun x h => (List.not_mem_nil h).elim⟩
structure Mach.ok (f : Int → Int) (s : Mach) : Prop where
  len : s.S.length = s.F.length
  ten : ∀ t ∈ s.S, tenF f t
theorem Mach.ok.at {f : Int → Int} {s : Mach} (h : s.ok f) (i : Nat) : tenF f (s.ten i) := by
  unfold Mach.ten
  by_cases hi : i < s.S.length
  · have : s.S.getD i noTen = s.S[i] := by simp [List.getD, hi]
    rw [this]; exact h.ten _ (List.getElem_mem hi)
  · have : s.S.getD i noTen = noTen := by simp [List.getD, Nat.le_of_not_lt hi]
    rw [this]; exact tenF_no f
def regIn (s : Mach) (a : Int) : Prop := 0 ≤ a ∧ a < s.F.length
instance (s : Mach) (a : Int) : Decidable (regIn s a) := by unfold regIn; infer_instance
noncomputable def keepI (s : Mach) (o : Opr) : List Int := (joinI (s.ten o.b.toNat).l (s.ten o.c.toNat).l).filter fun x => decide (x ∈ o.l)
noncomputable def Mach.load (ts : List Ten) (s : Mach) (o : Opr) : Mach := ⟨s.S.set o.a.toNat (ts.getD o.b.toNat noTen), s.F.set o.a.toNat true, s.D.set o.b.toNat true⟩
noncomputable def Mach.pair (f : Int → Int) (s : Mach) (o : Opr) : Mach := ⟨s.S.set o.a.toNat ⟨keepI s o, (keepI s o).map f, []⟩, ((s.F.set o.b.toNat false).set o.c.toNat false).set o.a.toNat true, s.D⟩
noncomputable def Mach.next (f : Int → Int) (ts : List Ten) (s : Mach) (o : Opr) : Mach := if o.k = 1 then s.load ts o else s.pair f o
theorem set_ok {f : Int → Int} {S : List Ten} (h : ∀ t ∈ S, tenF f t) {i : Nat} {t : Ten} (ht : tenF f t) : ∀ u ∈ S.set i t, tenF f u := fun u hu => by
  rcases List.mem_or_eq_of_mem_set hu with hu | rfl
  · exact h u hu
  · exact ht
theorem keepI_ok {f : Int → Int} {s : Mach} (h : s.ok f) (o : Opr) : tenF f ⟨keepI s o, (keepI s o).map f, []⟩ := by
  have hb := h.at o.b.toNat; have hc := h.at o.c.toNat; have hm : ∀ x ∈ keepI s o, x ∈ (s.ten o.b.toNat).l ∨ x ∈ (s.ten o.c.toNat).l := fun x hx => mem_joinI.1 (List.mem_filter.1 hx).1; exact ⟨rfl, List.Pairwise.filter _ (joinI_nodup hb.2.1 hc.2.1), fun x hx => (hm x hx).elim (hb.2.2.1 x) (hc.2.2.1 x), fun x hx => (hm x hx).elim (hb.2.2.2 x) (hc.2.2.2 x)⟩
theorem Mach.ok.next {f : Int → Int} {ts : List Ten} {s : Mach} (h : s.ok f) (hts : ∀ t ∈ ts, tenF f t) (o : Opr) : (s.next f ts o).ok f := by
  unfold Mach.next
  split
  · refine ⟨by simp [Mach.load, h.len], set_ok h.ten ?_⟩
    by_cases hi : o.b.toNat < ts.length
    · have e : ts.getD o.b.toNat noTen = ts[o.b.toNat] := by simp [List.getD, hi]
      rw [e]; exact hts _ (List.getElem_mem hi)
    · have e : ts.getD o.b.toNat noTen = noTen := by simp [List.getD, Nat.le_of_not_lt hi]
      rw [e]; exact tenF_no f
  · exact ⟨by simp [Mach.pair, h.len], set_ok h.ten (keepI_ok h o)⟩
end Go.Proofs.Ytdkgaejmgnojhaa
namespace Go.Proofs.Ytdkgaejmgnojhaa
set_option maxRecDepth 100000
open Go.RowKit
theorem TensL.put {ts : List Ten} {cs : List Value} {h : PH} (r : TensL ts cs h) {i : Nat} {t : Ten} {a b c : Value} (hi : i < ts.length) (r1 : IntsR t.l a h) (r2 : IntsR t.d b h) (r3 : IntsR t.x c h) : TensL (ts.set i t) (cs.take (i * 3) ++ [a, b, c] ++ cs.drop (i * 3 + 3)) h := by
  have hl := r.1; have key : ∀ m, (m < i * 3 ∨ i * 3 + 3 ≤ m) → (cs.take (i * 3) ++ [a, b, c] ++ cs.drop (i * 3 + 3))[m]? = cs[m]? := fun m hm => by
    rcases hm with hm | hm
    · rw [List.append_assoc, List.getElem?_append_left (by simp; omega), List.getElem?_take, if_pos hm]
    · rw [List.getElem?_append_right (by simp; omega)]; simp only [List.length_append, List.length_take, List.length_cons, List.length_nil, List.getElem?_drop]
      congr 1
      omega
  refine ⟨by simp [hl]; omega, fun j y e => ?_⟩
  by_cases hj : j = i
  · subst hj; rw [List.getElem?_set_self hi] at e
    cases e
    have e2 : ((cs.take (j * 3) ++ [a, b, c] ++ cs.drop (j * 3 + 3)).drop (j * 3)).take 3 = [a, b, c] := by
      have e3 : (cs.take (j * 3)).length = j * 3 := by simp; omega
      rw [List.append_assoc, List.drop_append, e3, Nat.sub_self, List.drop_of_length_le (by omega), List.nil_append, List.drop_zero]
      rfl
    rw [e2]; exact ⟨a, b, c, rfl, r1, r2, r3⟩
  · rw [List.getElem?_set_ne (Ne.symm hj)] at e; have e2 : ((cs.take (i * 3) ++ [a, b, c] ++ cs.drop (i * 3 + 3)).drop (j * 3)).take 3 = (cs.drop (j * 3)).take 3 := by
      apply List.ext_getElem?
      intro m; rw [List.getElem?_take, List.getElem?_take]
      split
      · rw [List.getElem?_drop, List.getElem?_drop, key _ (by omega)]
      · rfl
    rw [e2]; exact r.2 j y e
end Go.Proofs.Ytdkgaejmgnojhaa
namespace Go.Proofs.Ytdkgaejmgnojhaa
set_option maxRecDepth 100000
open Go.RowKit
structure Reg where
  f : Bool
  l : List Int
def RegR (x : Reg) (cs : List Value) (h : PH) : Prop := ∃ v, cs = [.bool x.f, v] ∧ IntsR x.l v h
theorem RegR.mono {x : Reg} {cs : List Value} {h h' : PH} (r : RegR x cs h) (l : PLe h h') : RegR x cs h' := by
  obtain ⟨v, e, r1⟩ := r; exact ⟨v, e, r1.mono l⟩
def RegsR (xs : List Reg) (v : Value) (h : PH) : Prop := RowsR 2 RegR xs v h
theorem RegsR.mono {xs : List Reg} {v : Value} {h h' : PH} (r : RegsR xs v h) (l : PLe h h') : RegsR xs v h' := RowsR.mono (R := RegR) RegR.mono r l
theorem RegsR.sl {xs : List Reg} {v : Value} {h : PH} (r : RegsR xs v h) : SlL v xs.length := RowsR.sl r
theorem RegsR.le {xs : List Reg} {v : Value} {h : PH} (r : RegsR xs v h) : (xs.length : Int) ≤ 9223372036854775807 := RowsR.le r
theorem RegsR.at {xs : List Reg} {v : Value} {h : PH} (r : RegsR xs v h) : ∃ cells, RowR cells xs.length 2 v h ∧ ∀ i, i < xs.length → ∃ x a, xs[i]? = some x ∧ (cells.drop (i * 2)).take 2 = [.bool x.f, a] ∧ IntsR x.l a h := by
  obtain ⟨cells, rr, hc⟩ := r; refine ⟨cells, rr, fun i hi => ?_⟩; have ht : xs[i]? = some xs[i] := List.getElem?_eq_getElem hi; obtain ⟨a, e, r1⟩ := hc i _ ht; exact ⟨_, a, ht, e, r1⟩
def Mach.regs (s : Mach) : List Reg := (List.range s.F.length).map fun i => ⟨s.F.getD i false, s.lab i⟩
abbrev mcCells (k p n : Int) (vt vo vr vd : Value) : List Value := [num k, num p, num n, vt, vo, vr, vd]
structure McR (k p n : Int) (s : Mach) (vt vo vr vd : Value) (b : Nat) (h : PH) : Prop where
  c : ∀ (j : Nat) (u : Value), (mcCells k p n vt vo vr vd)[j]? = some u → cellP h b j = some u
  r : RegsR s.regs vr h
  d : BoolsR s.D vd h
theorem McR.mono {k p n : Int} {s : Mach} {vt vo vr vd : Value} {b : Nat} {h h' : PH} (m : McR k p n s vt vo vr vd b h) (l : PLe h h') : McR k p n s vt vo vr vd b h' := ⟨fun j u e => cellP.mono l (m.c j u e), m.r.mono l, m.d.mono l⟩
def goodL (l : List Int) : Prop := l.Nodup ∧ ∀ y ∈ l, 0 ≤ y ∧ y ≤ 99
theorem goodL.few {l : List Int} (h : goodL l) : l.length ≤ 100 := few_labels h.1 h.2
theorem goodL.join {a b : List Int} (ha : goodL a) (hb : goodL b) : goodL (joinI a b) := ⟨joinI_nodup ha.1 hb.1, fun y hy => (mem_joinI.1 hy).elim (ha.2 y) (hb.2 y)⟩
end Go.Proofs.Ytdkgaejmgnojhaa
namespace Go.Proofs.Ytdkgaejmgnojhaa
set_option maxRecDepth 100000
open Go.RowKit
def RegL (xs : List Reg) (cs : List Value) (h : PH) : Prop := cs.length = xs.length * 2 ∧ ∀ (i : Nat) (x : Reg), xs[i]? = some x → RegR x ((cs.drop (i * 2)).take 2) h
theorem RegL.mono {xs : List Reg} {cs : List Value} {h h' : PH} (r : RegL xs cs h) (l : PLe h h') : RegL xs cs h' := ⟨r.1, fun i x e => (r.2 i x e).mono l⟩
theorem RegL.regs {xs : List Reg} {cs : List Value} {v : Value} {h : PH} (r : RegL xs cs h) (rr : RowR cs xs.length 2 v h) : RegsR xs v h := ⟨cs, rr, r.2⟩
theorem RegL.put {xs : List Reg} {cs : List Value} {h : PH} (r : RegL xs cs h) {i : Nat} {b : Bool} {l : List Int} {v : Value} (hi : i < xs.length) (r1 : IntsR l v h) : RegL (xs.set i ⟨b, l⟩) (cs.take (i * 2) ++ [.bool b, v] ++ cs.drop (i * 2 + 2)) h := by
  have hl := r.1; have key : ∀ m, (m < i * 2 ∨ i * 2 + 2 ≤ m) → (cs.take (i * 2) ++ [.bool b, v] ++ cs.drop (i * 2 + 2))[m]? = cs[m]? := fun m hm => by
    rcases hm with hm | hm
    · rw [List.append_assoc, List.getElem?_append_left (by simp; omega), List.getElem?_take, if_pos hm]
    · rw [List.getElem?_append_right (by simp; omega)]; simp only [List.length_append, List.length_take, List.length_cons, List.length_nil, List.getElem?_drop]
      congr 1
      omega
  refine ⟨by simp [hl]; omega, fun j y e => ?_⟩
  by_cases hj : j = i
  · subst hj; rw [List.getElem?_set_self hi] at e
    cases e
    have e2 : ((cs.take (j * 2) ++ [.bool b, v] ++ cs.drop (j * 2 + 2)).drop (j * 2)).take 2 = [.bool b, v] := by
      have e3 : (cs.take (j * 2)).length = j * 2 := by simp; omega
      rw [List.append_assoc, List.drop_append, e3, Nat.sub_self, List.drop_of_length_le (by omega), List.nil_append, List.drop_zero]
      rfl
    rw [e2]; exact ⟨v, rfl, r1⟩
  · rw [List.getElem?_set_ne (Ne.symm hj)] at e; have e2 : ((cs.take (i * 2) ++ [.bool b, v] ++ cs.drop (i * 2 + 2)).drop (j * 2)).take 2 = (cs.drop (j * 2)).take 2 := by
      apply List.ext_getElem?
      intro m; rw [List.getElem?_take, List.getElem?_take]
      split
      · rw [List.getElem?_drop, List.getElem?_drop, key _ (by omega)]
      · rfl
    rw [e2]; exact r.2 j y e
end Go.Proofs.Ytdkgaejmgnojhaa
