/-
  The costs and the labels of an order's steps, in the program and in the reference: the same numbers.
  Conditions: none.
-/
import Derived.Test.YtikeobneipjfnaaSp3
namespace Go.Proofs.Ytikeobneipjfnaa
set_option maxRecDepth 100000
open Go.RowKit
theorem ct_i_cappedProduct (ds : List Int) (L : Int) (v : Value) (w : World) (r : IntsR ds v (hp w)) (hd : dimsIn ds) (hL : 1 ≤ L ∧ L ≤ 1000000000000) : Calls Try.prog 132 [v, num L].toArray w (RetV w (num (min (prodI ds) L))) := by
  refine calls_in Try.func132 rfl Try.ntmps132 rfl (Sat.start w) ?_
  have hle0 := r.le
  refine wp_sc ?_
  refine wp_sq ?_
  refine sq_v rfl (v_assign rfl) rfl ?_
  refine sq_end ?_
  refine qs_n ?_
  refine wp_sc ?_
  refine wp_sq ?_
  refine sq_v rfl (v_assign rfl) rfl ?_
  refine sq_end ?_
  refine qs_n ?_
  refine wp_sc ?_
  refine wp_sc ?_
  refine wp_sq ?_
  refine sq_v rfl (v_move rfl) rfl ?_
  refine sq_v rfl (v_len Try.underlying24 rfl r.sl) rfl ?_
  refine sq_v rfl (v_move rfl) rfl ?_
  refine sq_end ?_
  refine qs_n ?_
  refine wp_bl ?_
  refine wp_lp (σ := Nat × Int) (fun z_ => [(1, num L), (4, num 0), (5, num z_.2), (8, v), (9, num ds.length), (10, num z_.1)]) (fun z_ => [hp w]) (fun z_ => z_.1 ≤ ds.length ∧ z_.2 = min (prodI (ds.take z_.1)) L) (fun z_ => ds.length - z_.1) (0, 1) (⟨by (try dsimp only); omega, by (try dsimp only); simp [prodI]; omega⟩) ⟨rfl, rfl, (by first | rfl | exact ksub rfl (by first | omega | (simp; done) | (simp; omega))), rfl, rfl, (by first | rfl | exact ksub rfl (by first | omega | (simp; done) | (simp; omega))), trivial⟩ (fun _ s => s) ?_
  rintro ⟨i, q⟩ ⟨hi, hq⟩
  dsimp only at hi hq ⊢
  have hpp := prodI_pos (fun j hj => (hd j hj).1) i hi
  refine wp_sc ?_
  refine wp_sq ?_
  refine sq_v rfl (v_lss rfl rfl) rfl ?_
  refine sq_end ?_
  refine qs_n ?_
  refine wp_sc ?_
  refine wp_cd rfl (fun c11 => ?_) (fun c11 => ?_)
  · refine wp_sk ?_
    refine qs_n ?_
    refine wp_sc ?_
    refine wp_bl ?_
    refine wp_sc ?_
    refine wp_sq ?_
    refine sq_v rfl (v_idxI Try.underlying24 ty_3 rfl rfl r (by first | omega | (simp only [List.length_cons, List.length_nil]; omega) | (simp only [List.length_append, List.length_cons, List.length_nil]; omega) | (rw [List.length_set]; omega) | (rw [List.length_replicate]; omega) | (simp; omega)) (by first | omega | (simp only [List.length_cons, List.length_nil]; omega) | (simp only [List.length_append, List.length_cons, List.length_nil]; omega) | (rw [List.length_set]; omega) | (rw [List.length_replicate]; omega) | (simp; omega))) rfl ?_
    refine sq_v rfl (v_loadI (k := i) 0 ty_3 rfl rfl r (by first | omega | (simp only [List.length_cons, List.length_nil]; omega) | (simp only [List.length_append, List.length_cons, List.length_nil]; omega) | (rw [List.length_set]; omega) | (rw [List.length_replicate]; omega) | (simp; omega))) rfl ?_
    refine sq_v rfl (v_assign rfl) rfl ?_
    refine sq_end ?_
    refine qs_n ?_
    refine wp_sq ?_
    refine sq_v rfl (v_move rfl) rfl ?_
    refine sq_v rfl (v_move rfl) rfl ?_
    have hdi := hd i (by omega); have hqd := mul_in (a := q) (b := ds.getD i 0) (t := 1000000000000) (u := 8) ⟨by omega, by omega⟩ ⟨by omega, by omega⟩; have hms := min_step hpp hdi.1 (show 0 ≤ L - 1 by omega); rw [show L - 1 + 1 = L by omega] at hms
    refine sq_v rfl (v_mul rfl rfl ((by unfold I64; omega))) rfl ?_
    refine sq_v rfl (v_move rfl) rfl ?_
    refine sq_v rfl (v_min rfl rfl) rfl ?_
    refine sq_v rfl (v_assign rfl) rfl ?_
    refine sq_end ?_
    refine qs_bn ?_
    refine qs_n ?_
    refine wp_sq ?_
    refine sq_v rfl (v_add rfl rfl ((by unfold I64; omega))) rfl ?_
    refine sq_v rfl (v_move rfl) rfl ?_
    refine sq_end ?_
    exact qs_bk (i + 1, min (q * ds.getD i 0) L) ⟨by (try dsimp only); omega, by (try dsimp only); rw [hq, hms, prodI_step (by omega)]⟩ (by simp only; omega) ⟨rfl, rfl, (by first | rfl | exact ksub rfl (by first | omega | (simp; done) | (simp; omega))), rfl, rfl, (by first | rfl | exact ksub rfl (by first | omega | (simp; done) | (simp; omega))), trivial⟩ (fun _ s => s)
  · refine wp_ex ?_
    refine qs_x ?_
    refine qs_x ?_
    refine qs_bx ?_
    refine qs_n ?_
    refine wp_sc ?_
    refine wp_sq ?_
    refine sq_v rfl (v_move rfl) rfl ?_
    refine sq_v rfl (v_assign rfl) rfl ?_
    refine sq_end ?_
    refine qs_n ?_
    refine wp_rt ?_
    exact qs_ret1 rfl rfl (fin_q (i := 0) rfl (by rw [hq, List.take_of_length_le (by omega)]))
theorem ct_i_size (arr xs : List Int) (vo lvv v : Value) (sh : Sh) (bb : Nat) (w : World) (r : StR arr vo lvv sh bb (hp w)) (rx : IntsR xs v (hp w)) (hx : ∀ x ∈ xs, 0 ≤ x ∧ x ≤ 99) (hd : dimsIn (arrOf arr xs)) (hs : xs.length ≤ 1048576) :
    Calls Try.prog 200 [.pointer (some ⟨bb, 0, none⟩), v].toArray w (RetV w (num (min (prodI (arrOf arr xs)) 1000000000))) := by
  refine calls_in Try.func200 rfl Try.ntmps200 rfl (Sat.start w) ?_
  have hle0 := rx.le
  refine wp_sc ?_
  refine wp_sq ?_
  refine sq_v rfl (v_assign rfl) rfl ?_
  refine sq_end ?_
  refine qs_n ?_
  refine wp_sc ?_
  refine wp_sq ?_
  refine sq_v rfl (v_move rfl) rfl ?_
  refine sq_v rfl (v_nilCheck rfl) rfl ?_
  refine sq_v rfl (v_fieldAddr fd_216_0 ty_155 (by decide) rfl) rfl ?_
  refine sq_v rfl (v_loadNP 0 ty_155 rfl rfl r.arr) rfl ?_
  refine sq_v rfl (v_move rfl) rfl ?_
  refine sq_x rfl (x_call rfl en_130 (fun w s => ct_i_axesOf _ _ _ w (rx.mono (s.get 0 rfl)) r.len hx (by first | assumption | omega))) rfl ?_; rintro _ h10 ⟨u1, u2, rfl, ru1, ru2⟩
  refine sq_v rfl (v_field1 fd_28_1 ty_24 rfl rfl) rfl ?_
  refine sq_u rfl (x_callv rfl en_132 (fun w s => ct_i_cappedProduct _ _ _ w (ru2.mono (s.get 0 rfl)) (by first | assumption | omega) (by first | assumption | omega))) rfl ?_
  refine sq_v rfl (v_assign rfl) rfl ?_
  refine sq_end ?_
  refine qs_n ?_
  refine wp_rt ?_
  exact qs_ret1 rfl rfl (fin_q (i := 1) rfl (by rfl))
/-- The costs of an order that is in order. -/
noncomputable def ordCosts (k p n : Int) (ts : List Ten) (op : List Int) (ss : List Stp) : List Int := @ite _ (orderL k p n ts op ss) (Classical.propDecidable _) (costsL (dimOf ts) op (sh0 ts) ss) []
theorem shTo_lab {op : List Int} {s : Sh} {i : Nat} : ∀ {ss : List Stp}, i < s.all.length → (shTo op s ss).lab i = s.lab i
  | [], _ => rfl
  | x :: r, h => by
    have h1 : i < (s.step op x.a.toNat x.b.toNat).all.length := by simp [Sh.step]; omega
    have := shTo_lab (op := op) (s := s.step op x.a.toNat x.b.toNat) (ss := r) h1
    show (shTo op (s.step op x.a.toNat x.b.toNat) r).lab i = _
    rw [this, step_lab h]
theorem shTo_split (op : List Int) (s : Sh) (ss : List Stp) (j : Nat) : shTo op s ss = shTo op (shTo op s (ss.take j)) (ss.drop j) := by
  unfold shTo
  rw [← List.foldl_append, List.take_append_drop]
noncomputable def stepLab (k p n : Int) (ts : List Ten) (op : List Int) (ss : List Stp) (i : Int) : List Int := @ite _ (orderL k p n ts op ss ∧ 0 ≤ i ∧ i < ss.length) (Classical.propDecidable _) ((shTo op (sh0 ts) ss).lab (ts.length + i.toNat)) []
theorem SpO.toR {f : Int → Int} {s : Sh} {bb : Nat} {h q H : PH} (r : SpO f s bb h q) (l : PLe h H) (lq : PLe q H) : ∃ va vg, SpR f s va vg bb H := by
  obtain ⟨hok, va, vg, ha, hg, hs, cs, ra, rg, rt, md⟩ := r
  exact ⟨va, vg, SpR.of hok ((md.le _ (by simp)).trans l) ra ((md.le ha (by simp)).trans l) rt (PUn.le ((md.le hs (by simp)).trans l) lq) rg ((md.le hg (by simp)).trans l)⟩
theorem stepOk_at {op : List Int} {s : Sh} {ss : List Stp} (h : okSteps op s ss) {i : Nat} {x : Stp} (hx : ss[i]? = some x) : stepOk (shTo op s (ss.take i)) x := h i (List.getElem?_eq_some_iff.1 hx).1 x hx
theorem lv_place {s : Sh} {a : Int} (h : s.live a) {x : Lv} (hx : s.lv[(s.place a).toNat]? = some x) : x.l = s.lab a.toNat := by
  obtain ⟨i, hi, e⟩ := lv_get hx
  rw [(place_at h).1] at hi
  cases hi
  rw [e]
set_option maxHeartbeats 1000000 in
theorem ct_i_OrderCosts (k p n : Int) (ts : List Ten) (op : List Int) (ss : List Stp) (vt vo v : Value) (w : World) (r : TensR ts vt (hp w)) (r' : IntsR op vo (hp w)) (rv : StepsR ss v (hp w)) (hs : op.length ≤ 1048576) :
    Calls Try.prog 110 [netV k p n vt vo, v].toArray w (Ret w emp (IntsO (ordCosts k p n ts op ss))) := by
  refine calls_in Try.func110 rfl Try.ntmps110 rfl (Sat.start w) ?_
  have hle0 := r.le
  obtain ⟨cs_r, rr_r, hc_r⟩ := r.at
  have hle1 := r'.le
  have hle2 := rv.le
  obtain ⟨cs_rv, rr_rv, hc_rv⟩ := rv.at
  refine wp_sc ?_
  refine wp_sq ?_
  refine sq_x rfl (x_box rfl rfl) rfl ?_; rintro _ _ ⟨b2, rfl, rfl⟩
  refine sq_v rfl (v_assign rfl) rfl ?_
  refine sq_end ?_
  refine qs_n ?_
  refine wp_sc ?_
  refine wp_sc ?_
  refine wp_sq ?_
  refine sq_v rfl (v_loadNB 0 ty_48 rfl rfl rfl rfl) rfl ?_
  refine sq_v rfl (v_move rfl) rfl ?_
  refine sq_u rfl (x_callv rfl en_109 (fun w s => ct_i_OrderOk _ _ _ _ _ _ _ _ _ w (r.mono (s.get 1 rfl)) (r'.mono (s.get 1 rfl)) (rv.mono (s.get 1 rfl)) (by first | assumption | omega))) rfl ?_
  refine sq_v rfl (v_not rfl) rfl ?_
  refine sq_end ?_
  refine qs_n ?_
  refine wp_cn _ rfl (fun c14 => ?_) (fun c14 => ?_)
  · refine wp_sc ?_
    refine wp_sq ?_
    refine sq_v rfl (v_assign rfl) rfl ?_
    refine sq_end ?_
    refine qs_n ?_
    refine wp_rt ?_
    refine qs_r ?_
    exact qs_ret1 rfl rfl (fin_e (i := 1) rfl (by rw [ordCosts, if_neg (orderB_false.1 c14)]; exact IntsO.nil))
  · refine wp_sk ?_
    refine qs_n ?_
    refine wp_sc ?_
    refine wp_sq ?_
    refine sq_v rfl (v_assign rfl) rfl ?_
    refine sq_end ?_
    refine qs_n ?_
    refine wp_sc ?_
    refine wp_sq ?_
    refine sq_v rfl (v_loadNB 0 ty_48 rfl rfl rfl rfl) rfl ?_
    have hord := orderB_true.1 c14; have hnet := hord.1; have h12 := hnet.2.1; have hsl := hord.2.1; have hax := net_axes hnet; have hfi := sh0_fine hax; have hfit := net_fit hnet
    refine sq_x rfl (x_call rfl en_150 (fun w s => ct_i_startState _ _ _ _ _ _ _ w (r.mono (s.get 1 rfl)) (r'.mono (s.get 1 rfl)) hax h12)) rfl ?_; rintro _ h16 ⟨bb, arr, rfl, rst, hinv⟩
    refine sq_v rfl (v_assign rfl) rfl ?_
    refine sq_end ?_
    refine qs_n ?_
    refine wp_sc ?_
    refine wp_sc ?_
    refine wp_sq ?_
    refine sq_v rfl (v_move rfl) rfl ?_
    refine sq_v rfl (v_len Try.underlying43 rfl rv.sl) rfl ?_
    refine sq_v rfl (v_move rfl) rfl ?_
    refine sq_end ?_
    refine qs_n ?_
    refine wp_bl ?_
    refine wp_lp (σ := Nat × PH × Value × PH) (fun z_ => [(4, .slice none 0 0), (5, z_.2.2.1), (6, ptrV bb), (17, v), (18, num ss.length), (19, num z_.1)]) (fun z_ => [z_.2.2.2, z_.2.1, box b2 [num k, num p, num n, vt, vo] 48, hp w]) (fun z_ => z_.1 ≤ ss.length ∧ StO arr vo (shTo op (sh0 ts) (ss.take z_.1)) bb z_.2.1 ∧ IntsO (costsL (dimOf ts) op (sh0 ts) (ss.take z_.1)) z_.2.2.1 z_.2.2.2) (fun z_ => ss.length - z_.1) (0, h16, .slice none 0 0, emp) (⟨by (try dsimp only); omega, rst, IntsO.nil⟩) ⟨rfl, (by first | rfl | exact ksub rfl (by first | omega | (simp; done) | (simp; omega))), rfl, rfl, rfl, (by first | rfl | exact ksub rfl (by first | omega | (simp; done) | (simp; omega))), trivial⟩ (fun _ s => (emp_sat s)) ?_
    rintro ⟨i, g, cv, ch⟩ ⟨hi, rst, q⟩
    dsimp only at hi rst q ⊢
    have hle_q := q.toR.le
    have hcl := costsL_len (dimOf ts) op (sh0 ts) (ss.take i)
    rw [List.length_take] at hcl
    have hfs := shTo_fine (op := op) hfi (ss.take i)
    have hft := fit_to (op := op) hfit (ss.take i)
    have hal := shTo_all (op := op) (s := sh0 ts) (ss := ss.take i)
    rw [show (sh0 ts).all.length = ts.length by simp [sh0], List.length_take] at hal
    obtain ⟨lvv, rr⟩ := rst.toR
    have rlv := rr.live
    have hll := lv_len (shTo op (sh0 ts) (ss.take i))
    ; obtain ⟨cs_rlv, rr_rlv, hc_rlv⟩ := rlv.at
    refine wp_sc ?_
    refine wp_sq ?_
    refine sq_v rfl (v_lss rfl rfl) rfl ?_
    refine sq_end ?_
    refine qs_n ?_
    refine wp_sc ?_
    refine wp_cd rfl (fun c20 => ?_) (fun c20 => ?_)
    · refine wp_sk ?_
      refine qs_n ?_
      refine wp_sc ?_
      refine wp_bl ?_
      refine wp_sc ?_
      refine wp_sq ?_
      obtain ⟨x21, hx21, hcs21⟩ := hc_rv (i) (by first | omega | (rw [List.length_set]; omega))
      refine sq_v rfl (v_indexAddr Try.underlying43 ty_114 rfl rfl rr_rv (by decide) (by omega) (by first | omega | (rw [List.length_set]; omega))) rfl ?_
      refine sq_v rfl (v_loadNE 3 ty_114 rfl rfl rr_rv (by have := rr_rv.1; omega) rfl hcs21) rfl ?_
      refine sq_x rfl (x_alloc ty_114 rfl) rfl ?_; rintro _ _ ⟨b8, rfl, rfl⟩
      refine sq_m 0 rfl rfl (m_store 0 ty_114 rfl rfl rfl rfl (by simp [Value.oneCell']) rfl (Nat.le_of_ble_eq_true rfl)) rfl ?_; rintro _ _ ⟨rfl, rfl⟩
      refine sq_end ?_
      have hst := stepOk_at hord.2.2 hx21
      have px := place_at hst.1
      have py := place_at hst.2.1
      have px0 := place_ge.2 hst.1
      have py0 := place_ge.2 hst.2.1
      refine qs_n ?_
      refine wp_sc ?_
      refine wp_rj 10 [(0, true), (1, true), (2, true), (4, true), (5, true), (6, true), (3, false), (7, false), (8, true), (9, true)] mixed_ok (by kernel_rfl) ?_
      refine rj_v rfl rfl (v_move rfl) rfl ?_
      refine rj_v rfl rfl (v_fieldAddr fd_114_0 ty_3 (by decide) rfl) rfl ?_
      refine rj_v rfl rfl (v_loadB 0 ty_3 rfl rfl rfl) rfl ?_
      refine rj_v rfl rfl (v_move rfl) rfl ?_
      refine rj_v rfl rfl (v_fieldAddr fd_114_1 ty_3 (by decide) rfl) rfl ?_
      refine rj_v rfl rfl (v_loadB 0 ty_3 rfl rfl rfl) rfl ?_
      refine rj_u rfl rfl (x_callv rfl en_199 (fun w s => ct_i_place _ _ _ (shTo op (sh0 ts) (ss.take i)) _ _ w (rr.mono (s.get 2 rfl)))) rfl ?_
      refine rj_u rfl rfl (x_callv rfl en_199 (fun w s => ct_i_place _ _ _ (shTo op (sh0 ts) (ss.take i)) _ _ w (rr.mono (s.get 2 rfl)))) rfl ?_
      refine rj_v rfl rfl (v_assign rfl) rfl ?_
      refine rj_v rfl rfl (v_assign rfl) rfl ?_
      refine rj_end ?_
      refine qs_n ?_
      refine wp_sc ?_
      refine wp_rj 21 [(0, true), (1, true), (2, true), (3, true), (4, true), (5, true), (6, true), (7, true), (8, true), (9, true), (10, true), (11, true), (12, true), (13, true), (14, true), (15, true), (16, true), (17, true), (18, false), (19, false), (20, false), (21, false), (22, false)] mixed_ok (by kernel_rfl) ?_
      refine rj_v rfl rfl (v_move rfl) rfl ?_
      refine rj_v rfl rfl (v_move rfl) rfl ?_
      refine rj_v rfl rfl (v_move rfl) rfl ?_
      refine rj_v rfl rfl (v_nilCheck rfl) rfl ?_
      refine rj_v rfl rfl (v_fieldAddr fd_216_2 ty_214 (by decide) rfl) rfl ?_
      refine rj_v rfl rfl (v_load 2 ty_214 rfl rfl rr.c101) rfl ?_
      refine rj_v rfl rfl (v_move rfl) rfl ?_
      obtain ⟨x38, a38, hx38, hcs38, rl38⟩ := hc_rlv (((shTo op (sh0 ts) (ss.take i)).place x21.a : Int).toNat) (by first | omega | (rw [List.length_set]; omega))
      refine rj_v rfl rfl (v_indexAddr Try.underlying214 ty_213 rfl rfl rr_rlv (by decide) (by omega) (by omega)) rfl ?_
      refine rj_v rfl rfl (v_fieldAddrE fd_213_1 ty_24 (by decide) rfl rr_rlv (by have := rr_rlv.1; first | omega | (simp only [Int.toNat_natCast]; omega) | (rw [stepCells_len, List.length_set]; omega))) rfl ?_
      refine rj_v rfl rfl (v_loadE 2 ty_24 rfl rfl rr_rlv (sub_get hcs38 (j := 1) rfl)) rfl ?_
      refine rj_v rfl rfl (v_move rfl) rfl ?_
      refine rj_v rfl rfl (v_nilCheck rfl) rfl ?_
      refine rj_v rfl rfl (v_fieldAddr fd_216_2 ty_214 (by decide) rfl) rfl ?_
      refine rj_v rfl rfl (v_load 2 ty_214 rfl rfl rr.c101) rfl ?_
      refine rj_v rfl rfl (v_move rfl) rfl ?_
      obtain ⟨x46, a46, hx46, hcs46, rl46⟩ := hc_rlv (((shTo op (sh0 ts) (ss.take i)).place x21.b : Int).toNat) (by first | omega | (rw [List.length_set]; omega))
      refine rj_v rfl rfl (v_indexAddr Try.underlying214 ty_213 rfl rfl rr_rlv (by decide) (by omega) (by omega)) rfl ?_
      refine rj_v rfl rfl (v_fieldAddrE fd_213_1 ty_24 (by decide) rfl rr_rlv (by have := rr_rlv.1; first | omega | (simp only [Int.toNat_natCast]; omega) | (rw [stepCells_len, List.length_set]; omega))) rfl ?_
      refine rj_v rfl rfl (v_loadE 2 ty_24 rfl rfl rr_rlv (sub_get hcs46 (j := 1) rfl)) rfl ?_
      have l38 := lv_place hst.1 hx38; have l46 := lv_place hst.2.1 hx46; have hf38 := hfs.few x21.a.toNat; have hf46 := hfs.few x21.b.toNat; have hjm : ∀ z ∈ joinI x38.l x46.l, (0 ≤ z ∧ z ≤ 99) ∧ (1 ≤ dimOf ts z ∧ dimOf ts z ≤ 8) := (fun z hz => by rw [l38, l46] at hz; exact (mem_joinI.1 hz).elim (fun h => ⟨(hfs.2 _).2 z h, hft _ z h⟩) (fun h => ⟨(hfs.2 _).2 z h, hft _ z h⟩)); have hao := arrOf_eq (hinv hnet.2.2.2.1) (fun z hz => (hjm z hz).1); have hjl := joinI_len x38.l x46.l; rw [l38, l46] at hjl
      refine rj_x rfl rfl (x_call rfl en_183 (fun w s => ct_i_joinLabels _ _ _ _ w (rl38.mono (s.get 2 rfl)) (rl46.mono (s.get 2 rfl)) (by rw [l38, l46]; omega))) rfl ?_; rintro v49 h49 r49
      refine rj_u rfl rfl (x_callv rfl en_200 (fun w s => ct_i_size arr (joinI x38.l x46.l) _ _ _ _ _ w (rr.mono (s.get 3 rfl)) (r49.toR.mono (s.get 0 rfl)) (fun z hz => (hjm z hz).1) (by rw [hao]; exact map_dims (fun z hz => (hjm z hz).2)) (by rw [l38, l46]; omega))) rfl ?_
      refine rj_x rfl rfl (x_buildS [num (min (prodI (arrOf arr (joinI x38.l x46.l))) 1000000000)] Try.underlying24 ty_3 (by decide) rfl rfl rfl (by decide) (by decide) (by intro v hv; simp at hv; rcases hv with rfl <;> rfl)) rfl ?_; intro v51 h51 (r51 : IntsO [min (prodI (arrOf arr (joinI x38.l x46.l))) 1000000000] v51 h51)
      refine rj_m 3 rfl rfl rfl rfl (m_appI 3 0 Try.underlying24 ty_3 rfl rfl rfl rfl q rfl r51.toR (by first | omega | (simp only [List.length_cons, List.length_nil]; omega) | (simp only [List.length_append, List.length_cons, List.length_nil]; omega) | (rw [List.length_set]; omega) | (rw [List.length_replicate]; omega) | (simp; omega))) rfl ?_; intro v52 h_r52 r52
      refine rj_fv rfl rfl (v_assign rfl) rfl ?_
      refine rj_end ?_
      refine qs_n ?_
      refine wp_sq ?_
      refine sq_v rfl (v_move rfl) rfl ?_
      refine sq_v rfl (v_move rfl) rfl ?_
      refine sq_v rfl (v_move rfl) rfl ?_
      refine sq_m 4 rfl rfl (x_call rfl en_201 (fun w s => ct_i_contract arr op vo _ bb _ _ x21.a.toNat x21.b.toNat w _ (s.get 4 rfl) rst (r'.mono (s.getR 4 6 rfl rfl (by decide))) px0 py0 px.1 py.1 (by omega) (by omega))) rfl ?_; rintro _ h56 ⟨rfl, rst'⟩
      refine sq_end ?_
      refine qs_bn ?_
      refine qs_n ?_
      refine wp_sq ?_
      refine sq_v rfl (v_add rfl rfl ((by unfold I64; omega))) rfl ?_
      refine sq_v rfl (v_move rfl) rfl ?_
      refine sq_end ?_
      exact qs_bk (i + 1, h56, v52, h_r52) ⟨by (try dsimp only); omega, by (try dsimp only); rw [shTo_step hx21]; exact rst', by (try dsimp only); rw [costsL_step hx21, costL, ← l38, ← l46, Int.min_comm, show (joinI x38.l x46.l).map (dimOf ts) = arrOf arr (joinI x38.l x46.l) from hao.symm]; exact r52⟩ (by simp only; omega) ⟨rfl, (by first | rfl | exact ksub rfl (by first | omega | (simp; done) | (simp; omega))), rfl, rfl, rfl, (by first | rfl | exact ksub rfl (by first | omega | (simp; done) | (simp; omega))), trivial⟩ (fun _ s => s.pick [3, 4, 5, 6] (by decide) rfl)
    · refine wp_ex ?_
      refine qs_x ?_
      refine qs_x ?_
      refine qs_bx ?_
      refine qs_n ?_
      refine wp_sc ?_
      refine wp_sq ?_
      refine sq_v rfl (v_move rfl) rfl ?_
      refine sq_v rfl (v_assign rfl) rfl ?_
      refine sq_end ?_
      refine qs_n ?_
      refine wp_rt ?_
      exact qs_ret1 rfl rfl (fin_t 0 (i := 3) rfl rfl rfl (by rw [ordCosts, if_pos hord]; rw [List.take_of_length_le (by omega)] at q; exact q))
theorem stepCells_take : ∀ (ss : List Stp) (n : Nat), stepCells (ss.take n) = (stepCells ss).take (n * 2)
  | [], n => by simp [stepCells]
  | s :: r, 0 => by simp [stepCells]
  | s :: r, n + 1 => by
    have := stepCells_take r n
    rw [List.take_succ_cons, show (n + 1) * 2 = n * 2 + 1 + 1 by omega]
    show [num s.a, num s.b] ++ stepCells (r.take n) = ([num s.a, num s.b] ++ stepCells r).take (n * 2 + 1 + 1)
    rw [this]; rfl
theorem StepsR.subH {ss : List Stp} {v : Value} {h : PH} (r : StepsR ss v h) {hi : Nat} (h2 : hi ≤ ss.length) : StepsR (ss.take hi) (subV v 0 hi 2) h := by
  have := RowR.sub r (Nat.zero_le hi) h2
  unfold StepsR
  rw [stepCells_take, List.length_take, Nat.min_eq_left h2]
  simpa using this
theorem okSteps_take {op : List Int} {s : Sh} {ss : List Stp} (h : okSteps op s ss) (j : Nat) : okSteps op s (ss.take j) := fun i hi x hx => by
  rw [List.length_take] at hi
  rw [List.getElem?_take, if_pos (by omega)] at hx
  have := h i (by omega) x hx
  rwa [List.take_take, Nat.min_eq_left (by omega)]
theorem nextSh_ok {op : List Int} {s : Sh} {x : Stp} (h : stepOk s x) : nextSh op s x.a x.b = s.step op x.a.toNat x.b.toNat := if_pos h
/-- What the last live tensor is, behind a step. -/
theorem last_lv {op : List Int} {s : Sh} (h : s.ok) (a b : Nat) {y : Lv} (hy : (s.step op a b).lv[(s.step op a b).lv.length - 1]? = some y) : y.l = s.res op a b := by
  have e : (s.step op a b).lv = ((s.ixs.filter fun i => decide (i ≠ a ∧ i ≠ b)).map fun (i : Nat) => (⟨i, (s.step op a b).lab i⟩ : Lv)) ++ [⟨s.all.length, s.res op a b⟩] := by
    rw [Sh.lv, step_ixs h, List.map_append]; simp [step_lab_new]
  rw [e] at hy
  simp only [List.length_append, List.length_cons, List.length_nil] at hy
  rw [List.getElem?_append_right (by omega)] at hy
  simp at hy
  rw [← hy]
set_option maxHeartbeats 1000000 in
theorem ct_i_StepLabels (k p n i : Int) (ts : List Ten) (op : List Int) (ss : List Stp) (vt vo v : Value) (w : World) (r : TensR ts vt (hp w)) (r' : IntsR op vo (hp w)) (rv : StepsR ss v (hp w)) (hs : op.length ≤ 1048576) :
    Calls Try.prog 166 [netV k p n vt vo, v, num i].toArray w (Ret w emp (IntsO (stepLab k p n ts op ss i))) := by
  refine calls_in Try.func166 rfl Try.ntmps166 rfl (Sat.start w) ?_
  have hle0 := r.le
  obtain ⟨cs_r, rr_r, hc_r⟩ := r.at
  have hle1 := r'.le
  have hle2 := rv.le
  obtain ⟨cs_rv, rr_rv, hc_rv⟩ := rv.at
  refine wp_sc ?_
  refine wp_sq ?_
  refine sq_x rfl (x_box rfl rfl) rfl ?_; rintro _ _ ⟨b3, rfl, rfl⟩
  refine sq_v rfl (v_assign rfl) rfl ?_
  refine sq_end ?_
  refine qs_n ?_
  refine wp_sc ?_
  refine wp_sc ?_
  refine wp_sq ?_
  refine sq_v rfl (v_loadNB 0 ty_48 rfl rfl rfl rfl) rfl ?_
  refine sq_v rfl (v_move rfl) rfl ?_
  refine sq_u rfl (x_callv rfl en_109 (fun w s => ct_i_OrderOk _ _ _ _ _ _ _ _ _ w (r.mono (s.get 1 rfl)) (r'.mono (s.get 1 rfl)) (rv.mono (s.get 1 rfl)) (by first | assumption | omega))) rfl ?_
  refine sq_bb 12 rfl (fun c12 => ?_) (fun c12 => ?_)
  · refine sq_v rfl (v_not rfl) rfl ?_
    refine sq_v rfl (v_move rfl) rfl ?_
    refine sq_v rfl (v_move rfl) rfl ?_
    refine sq_v rfl (v_lss rfl rfl) rfl ?_
    refine sq_v rfl (v_pickf rfl rfl) rfl ?_
    refine sq_bd 17 rfl (fun c17 => ?_) (fun c17 => ?_)
    · refine sq_v rfl (v_move rfl) rfl ?_
      refine sq_s rfl rfl ?_
      refine sq_s rfl rfl ?_
      refine sq_s rfl rfl ?_
      refine sq_s rfl rfl ?_
      refine sq_v rfl (v_pickt rfl rfl) rfl ?_
      refine sq_end ?_
      refine qs_n ?_
      refine wp_ct rfl ?_
      refine wp_sc ?_
      refine wp_sq ?_
      refine sq_v rfl (v_assign rfl) rfl ?_
      refine sq_end ?_
      refine qs_n ?_
      refine wp_rt ?_
      refine qs_r ?_
      exact qs_ret1 rfl rfl (fin_e (i := 1) rfl (by rw [stepLab, if_neg (fun h => by have := h.2.1; omega)]; exact IntsO.nil))
    · refine sq_v rfl (v_move rfl) rfl ?_
      refine sq_v rfl (v_move rfl) rfl ?_
      refine sq_v rfl (v_move rfl) rfl ?_
      refine sq_v rfl (v_len Try.underlying43 rfl rv.sl) rfl ?_
      refine sq_v rfl (v_geq rfl rfl) rfl ?_
      refine sq_v rfl (v_pickf rfl rfl) rfl ?_
      refine sq_end ?_
      refine qs_n ?_
      refine wp_cd rfl (fun c23 => ?_) (fun c23 => ?_)
      · refine wp_sc ?_
        refine wp_sq ?_
        refine sq_v rfl (v_assign rfl) rfl ?_
        refine sq_end ?_
        refine qs_n ?_
        refine wp_rt ?_
        refine qs_r ?_
        exact qs_ret1 rfl rfl (fin_e (i := 1) rfl (by rw [stepLab, if_neg (fun h => by have := h.2.2; omega)]; exact IntsO.nil))
      · refine wp_sk ?_
        refine qs_n ?_
        refine wp_sc ?_
        refine wp_sq ?_
        refine sq_v rfl (v_loadNB 0 ty_48 rfl rfl rfl rfl) rfl ?_
        have hord := orderB_true.1 c12; have hnet := hord.1; have h12 := hnet.2.1; have hsl := hord.2.1; have hax := net_axes hnet; have hfi := sh0_fine hax
        refine sq_x rfl (x_call rfl en_150 (fun w s => ct_i_startState _ _ _ _ _ _ _ w (r.mono (s.get 1 rfl)) (r'.mono (s.get 1 rfl)) hax h12)) rfl ?_; rintro _ h25 ⟨bb, arr, rfl, rst, _⟩
        refine sq_v rfl (v_assign rfl) rfl ?_
        refine sq_end ?_
        refine qs_n ?_
        refine wp_sc ?_
        refine wp_sc ?_
        refine wp_sq ?_
        refine sq_v rfl (v_move rfl) rfl ?_
        refine sq_v rfl (v_move rfl) rfl ?_
        refine sq_v rfl (v_add rfl rfl ((by unfold I64; omega))) rfl ?_
        refine sq_v rfl (v_sliceH Try.underlying43 ty_114 rfl rfl  rv (by omega) (by omega)) rfl ?_
        obtain ⟨cs_S_29, rr_S_29, hc_S_29⟩ := (rv.subH (hi := (i + 1 : Int).toNat) (by omega)).at
        refine sq_v rfl (v_len Try.underlying43 rfl (rv.subH (hi := (i + 1 : Int).toNat) (by omega)).sl) rfl ?_
        refine sq_v rfl (v_move rfl) rfl ?_
        refine sq_end ?_
        have htl : (ss.take (i + 1).toNat).length = i.toNat + 1 := by rw [List.length_take]; omega
        refine qs_n ?_
        refine wp_bl ?_
        refine wp_lp (σ := Nat × PH) (fun z_ => [(6, .slice none 0 0), (7, ptrV bb), (29, subV v 0 ((i + 1 : Int).toNat) 2), (30, num (ss.take ((i + 1 : Int).toNat)).length), (31, num z_.1)]) (fun z_ => [z_.2, box b3 [num k, num p, num n, vt, vo] 48, hp w]) (fun z_ => z_.1 ≤ (ss.take (i + 1).toNat).length ∧ StO arr vo (shTo op (sh0 ts) ((ss.take (i + 1).toNat).take z_.1)) bb z_.2) (fun z_ => (ss.take (i + 1).toNat).length - z_.1) (0, h25) (⟨by (try dsimp only); omega, rst⟩) ⟨rfl, rfl, rfl, rfl, (by first | rfl | exact ksub rfl (by first | omega | (simp; done) | (simp; omega))), trivial⟩ (fun _ s => s) ?_
        rintro ⟨j, g⟩ ⟨hj, rst⟩
        dsimp only at hj rst ⊢
        have hfs := shTo_fine (op := op) hfi ((ss.take (i + 1).toNat).take j)
        have hal := shTo_all (op := op) (s := sh0 ts) (ss := (ss.take (i + 1).toNat).take j)
        rw [show (sh0 ts).all.length = ts.length by simp [sh0], List.length_take] at hal
        refine wp_sc ?_
        refine wp_sq ?_
        refine sq_v rfl (v_lss rfl rfl) rfl ?_
        refine sq_end ?_
        refine qs_n ?_
        refine wp_sc ?_
        refine wp_cd rfl (fun c32 => ?_) (fun c32 => ?_)
        · refine wp_sk ?_
          refine qs_n ?_
          refine wp_sc ?_
          refine wp_bl ?_
          refine wp_sc ?_
          refine wp_sq ?_
          obtain ⟨x33, hx33, hcs33⟩ := hc_S_29 (j) (by first | omega | (rw [List.length_set]; omega))
          refine sq_v rfl (v_indexAddr Try.underlying43 ty_114 rfl rfl rr_S_29 (by decide) (by omega) (by first | omega | (rw [List.length_set]; omega))) rfl ?_
          refine sq_v rfl (v_loadNE 2 ty_114 rfl rfl rr_S_29 (by have := rr_S_29.1; omega) rfl hcs33) rfl ?_
          refine sq_x rfl (x_alloc ty_114 rfl) rfl ?_; rintro _ _ ⟨b9, rfl, rfl⟩
          refine sq_m 0 rfl rfl (m_store 0 ty_114 rfl rfl rfl rfl (by simp [Value.oneCell']) rfl (Nat.le_of_ble_eq_true rfl)) rfl ?_; rintro _ _ ⟨rfl, rfl⟩
          refine sq_end ?_
          refine qs_n ?_
          refine wp_sq ?_
          refine sq_v rfl (v_move rfl) rfl ?_
          refine sq_v rfl (v_loadNB 0 ty_114 rfl rfl rfl rfl) rfl ?_
          refine sq_m 1 rfl rfl (x_call rfl en_151 (fun w s => ct_L_follow arr op vo _ bb _ _ w _ (s.get 1 rfl) rst (r'.mono (s.getR 1 3 rfl rfl (by decide))) (fun i => by have := hfs.few i; omega) (by omega))) rfl ?_; rintro _ h37 ⟨rfl, rst'⟩
          refine sq_end ?_
          refine qs_bn ?_
          refine qs_n ?_
          refine wp_sq ?_
          refine sq_v rfl (v_add rfl rfl ((by unfold I64; omega))) rfl ?_
          refine sq_v rfl (v_move rfl) rfl ?_
          refine sq_end ?_
          exact qs_bk (j + 1, h37) ⟨by (try dsimp only); omega, by (try dsimp only); rw [nextSh_ok (stepOk_at (okSteps_take hord.2.2 _) hx33)] at rst'; rw [shTo_step hx33]; exact rst'⟩ (by simp only; omega) ⟨rfl, rfl, rfl, rfl, (by first | rfl | exact ksub rfl (by first | omega | (simp; done) | (simp; omega))), trivial⟩ (fun _ s => s.pick [1, 2, 3] (by decide) rfl)
        · refine wp_ex ?_
          refine qs_x ?_
          refine qs_x ?_
          refine qs_bx ?_
          refine qs_n ?_
          refine wp_sc ?_
          refine wp_rj 15 [(0, true), (1, true), (2, true), (3, true), (4, true), (5, true), (6, true), (7, true), (8, true), (9, true), (10, true), (11, true), (12, true), (13, false), (14, true)] mixed_ok (by kernel_rfl) ?_
          obtain ⟨lvv, rr⟩ := rst.toR; have rlv := rr.live; have hlv := rlv.le; rw [List.take_of_length_le (show (ss.take (i + 1).toNat).length ≤ j by omega)] at rst rr rlv hlv hfs hal; obtain ⟨cs_rlv, rr_rlv, hc_rlv⟩ := rlv.at
          refine rj_v rfl rfl (v_move rfl) rfl ?_
          refine rj_v rfl rfl (v_nilCheck rfl) rfl ?_
          refine rj_v rfl rfl (v_fieldAddr fd_216_2 ty_214 (by decide) rfl) rfl ?_
          refine rj_v rfl rfl (v_load 0 ty_214 rfl rfl rr.c101) rfl ?_
          refine rj_v rfl rfl (v_move rfl) rfl ?_
          refine rj_v rfl rfl (v_nilCheck rfl) rfl ?_
          refine rj_v rfl rfl (v_fieldAddr fd_216_2 ty_214 (by decide) rfl) rfl ?_
          refine rj_v rfl rfl (v_load 0 ty_214 rfl rfl rr.c101) rfl ?_
          refine rj_v rfl rfl (v_len Try.underlying214 rfl rlv.sl) rfl ?_
          obtain ⟨x, hx⟩ : ∃ x, ss[i.toNat]? = some x := ⟨_, List.getElem?_eq_getElem (by omega)⟩; have e1 := shTo_step (op := op) (s := sh0 ts) hx; rw [show i.toNat + 1 = (i + 1).toNat by omega] at e1; have hlp : 1 ≤ (shTo op (sh0 ts) (ss.take (i + 1).toNat)).lv.length := (by rw [e1, step_lv (shTo_fine hfi _).1 (place_at (stepOk_at hord.2.2 hx).1).1 (place_at (stepOk_at hord.2.2 hx).2.1).1]; simp)
          refine rj_v rfl rfl (v_sub rfl rfl ((by unfold I64; omega))) rfl ?_
          obtain ⟨x49, a49, hx49, hcs49, rl49⟩ := hc_rlv ((((shTo op (sh0 ts) (ss.take (i + 1).toNat)).lv).length - 1 : Int).toNat) (by first | omega | (rw [List.length_set]; omega))
          refine rj_v rfl rfl (v_indexAddr Try.underlying214 ty_213 rfl rfl rr_rlv (by decide) (by omega) (by omega)) rfl ?_
          refine rj_v rfl rfl (v_fieldAddrE fd_213_1 ty_24 (by decide) rfl rr_rlv (by have := rr_rlv.1; first | omega | (simp only [Int.toNat_natCast]; omega) | (rw [stepCells_len, List.length_set]; omega))) rfl ?_
          refine rj_v rfl rfl (v_loadE 0 ty_24 rfl rfl rr_rlv (sub_get hcs49 (j := 1) rfl)) rfl ?_
          obtain ⟨iy, _, ey⟩ := lv_get hx49; have hlf := hfs.few iy; rw [show (shTo op (sh0 ts) (ss.take (i + 1).toNat)).lab iy = x49.l by rw [ey]] at hlf
          refine rj_x rfl rfl (x_call rfl en_91 (fun w s => ct_i_copyInts _ _ w (rl49.mono (s.get 0 rfl)) (by first | assumption | omega))) rfl ?_; rintro v52 h52 r52
          refine rj_v rfl rfl (v_assign rfl) rfl ?_
          refine rj_end ?_
          refine qs_n ?_
          refine wp_rt ?_
          exact qs_ret1 rfl rfl (fin_t 0 (i := 3) rfl rfl rfl (by (  have hfx := shTo_fine (op := op) hfi (ss.take i.toNat)); (  have hax' := shTo_all (op := op) (s := sh0 ts) (ss := ss.take i.toNat)); (  rw [show (sh0 ts).all.length = ts.length by simp [sh0], List.length_take] at hax'); (  rw [show (((shTo op (sh0 ts) (ss.take (i + 1).toNat)).lv.length : Int) - 1).toNat = (shTo op (sh0 ts) (ss.take (i + 1).toNat)).lv.length - 1 by omega] at hx49); (  rw [e1] at hx49); (  have hl := last_lv (op := op) hfx.1 _ _ hx49); (  rw [stepLab, if_pos ⟨hord, by omega, by omega⟩, shTo_split op (sh0 ts) ss (i + 1).toNat, shTo_lab (by omega), e1, show ts.length + i.toNat = (shTo op (sh0 ts) (ss.take i.toNat)).all.length by omega, step_lab_new, ← hl]); (  exact r52)))
  · refine sq_v rfl (v_not rfl) rfl ?_
    refine sq_v rfl (v_move rfl) rfl ?_
    refine sq_s rfl rfl ?_
    refine sq_s rfl rfl ?_
    refine sq_v rfl (v_pickt rfl rfl) rfl ?_
    refine sq_v rfl (v_move rfl) rfl ?_
    refine sq_s rfl rfl ?_
    refine sq_s rfl rfl ?_
    refine sq_s rfl rfl ?_
    refine sq_s rfl rfl ?_
    refine sq_v rfl (v_pickt rfl rfl) rfl ?_
    refine sq_end ?_
    refine qs_n ?_
    refine wp_ct rfl ?_
    refine wp_sc ?_
    refine wp_sq ?_
    refine sq_v rfl (v_assign rfl) rfl ?_
    refine sq_end ?_
    refine qs_n ?_
    refine wp_rt ?_
    refine qs_r ?_
    exact qs_ret1 rfl rfl (fin_e (i := 1) rfl (by rw [stepLab, if_neg (fun h => orderB_false.1 c12 h.1)]; exact IntsO.nil))
end Go.Proofs.Ytikeobneipjfnaa
