/-
  The reference's start of a completion.
  Conditions: none.
-/
import Derived.Test.YtalfigjnaidmnaaGreedy2
namespace Go.Proofs.Ytalfigjnaidmnaa
set_option maxRecDepth 100000
open Go.RowKit
/-- What can be read of a state in its own part. -/
theorem SpO.own {f : Int → Int} {s : Sh} {bb : Nat} {h q : PH} (r : SpO f s bb h q) : ∃ va vg cs, cellP h bb 0 = some va ∧ cellP h bb 1 = some vg ∧ RowR cs s.all.length 3 va h ∧ BoolsR s.gone vg h := by
  obtain ⟨hok, va, vg, ha, hg, hs, cs, ra, rg, rt, md⟩ := r
  have hb := md.le (box bb [va, vg] 105) (by simp)
  exact ⟨va, vg, cs, cellP.mono hb (by rw [cellP_box]; rfl), cellP.mono hb (by rw [cellP_box]; rfl), ra.toR.mono (md.le ha (by simp)), rg.toR.mono (md.le hg (by simp))⟩
def StartR (k p n : Int) (ts : List Ten) (op : List Int) (ss : List Stp) (q : PH) (u : Value) (h : PH) : Prop :=
  ∃ pv b, u = .tuple [pv, .bool b].toArray ∧ (b = true ↔ compP k p n ts op ss) ∧ (b = true → ∃ bb, pv = ptrV bb ∧ SpO (dimOf ts) (shTo op (sh0 ts) ss) bb h q)
theorem StartR.no {k p n : Int} {ts : List Ten} {op : List Int} {ss : List Stp} {q h : PH} {pv : Value} (hn : ¬ compP k p n ts op ss) : StartR k p n ts op ss q (.tuple [pv, .bool false].toArray) h :=
  ⟨pv, false, rfl, ⟨fun e => (by cases e), fun e => absurd e hn⟩, fun e => (by cases e)⟩
theorem okSteps_next {op : List Int} {s : Sh} {ss : List Stp} {i : Nat} {x : Stp} (h : okSteps op s (ss.take i)) (hx : ss[i]? = some x) (hs : stepOk (shTo op s (ss.take i)) x) : okSteps op s (ss.take (i + 1)) := fun j hj y hy => by
  have hi := (List.getElem?_eq_some_iff.1 hx).1
  have hj' : j < i + 1 := by simp at hj; omega
  rw [List.getElem?_take, if_pos hj'] at hy
  rw [List.take_take, Nat.min_eq_left (by omega)]
  by_cases e : j = i
  · subst e; rw [hx] at hy; cases hy; exact hs
  · have := h j (by simp; omega) y (by rw [List.getElem?_take, if_pos (by omega)]; exact hy)
    rwa [List.take_take, Nat.min_eq_left (by omega)] at this
set_option maxHeartbeats 2000000 in
theorem ct_s_l23Start (k p n : Int) (ts : List Ten) (op : List Int) (ss : List Stp) (vt vo v : Value) (w : World) (q : PH) (lq : PLe q (hp w)) (r : TensR ts vt q) (r' : IntsR op vo (hp w)) (rv : StepsR ss v (hp w)) (hop : op.length ≤ 1048576) (hss : ss.length ≤ 1048576) :
    Calls Try.prog 116 [netV k p n vt vo, v].toArray w (Ret w emp (StartR k p n ts op ss q)) := by
  have rn := r.mono lq
  refine calls_in Try.func116 rfl Try.ntmps116 rfl (Sat.start w) ?_
  have hle0 := r'.le
  have hle1 := rv.le
  obtain ⟨cs_rv, rr_rv, hc_rv⟩ := rv.at
  have hle2 := rn.le
  obtain ⟨cs_rn, rr_rn, hc_rn⟩ := rn.at
  refine wp_sc ?_
  refine wp_sq ?_
  refine sq_x rfl (x_box rfl rfl) rfl ?_; rintro _ _ ⟨b2, rfl, rfl⟩
  refine sq_v rfl (v_assign rfl) rfl ?_
  refine sq_v rfl (v_assign rfl) rfl ?_
  refine sq_end ?_
  refine qs_n ?_
  refine wp_sc ?_
  refine wp_sc ?_
  refine wp_sq ?_
  refine sq_v rfl (v_loadNB 0 ty_33 rfl rfl rfl rfl) rfl ?_
  refine sq_u rfl (x_callv rfl en_66 (fun w s => ct_s_NetworkOk _ _ _ _ _ _ _ w (rn.mono (s.get 1 rfl)) (r'.mono (s.get 1 rfl)) (by first | assumption | omega))) rfl ?_
  refine sq_bb 10 rfl (fun c10 => ?_) (fun c10 => ?_)
  · refine sq_v rfl (v_not rfl) rfl ?_
    refine sq_v rfl (v_move rfl) rfl ?_
    refine sq_v rfl (v_move rfl) rfl ?_
    refine sq_v rfl (v_len Try.underlying44 rfl rv.sl) rfl ?_
    refine sq_v rfl (v_fieldAddr fd_33_1 ty_31 (by decide) rfl) rfl ?_
    refine sq_v rfl (v_loadB 0 ty_31 rfl rfl rfl) rfl ?_
    refine sq_v rfl (v_len Try.underlying31 rfl rn.sl) rfl ?_
    refine sq_v rfl (v_sub rfl rfl ((by unfold I64; omega))) rfl ?_
    refine sq_v rfl (v_max rfl rfl) rfl ?_
    refine sq_v rfl (v_gtr rfl rfl) rfl ?_
    refine sq_v rfl (v_pickf rfl rfl) rfl ?_
    refine sq_end ?_
    refine qs_n ?_
    refine wp_cd rfl (fun c21 => ?_) (fun c21 => ?_)
    · refine wp_sc ?_
      refine wp_sq ?_
      refine sq_v rfl (v_assign rfl) rfl ?_
      refine sq_v rfl (v_assign rfl) rfl ?_
      refine sq_end ?_
      refine qs_n ?_
      refine wp_rt ?_
      refine qs_r ?_
      exact qs_ret2 rfl rfl rfl (fin_e (i := 1) rfl (StartR.no (fun h => by first | exact netB_false.1 c10 h.1 | (have := few_steps (net_axes h.1) h.2; omega))))
    · refine wp_sk ?_
      refine qs_n ?_
      refine wp_sc ?_
      refine wp_sq ?_
      refine sq_v rfl (v_loadNB 0 ty_33 rfl rfl rfl rfl) rfl ?_
      have hnet := netB_true.1 c10; have h12 := hnet.2.1; have hfi := sh0_fine (net_axes hnet); have hfit := net_fit hnet
      refine sq_x rfl (x_call rfl en_144 (fun w s => ct_s_l17New (dimOf ts) _ _ _ _ _ _ w q (lq.trans (s.get 1 rfl)) r (net_dmap hnet) (by first | assumption | omega))) rfl ?_; rintro _ h23 ⟨bb, rfl, rsp⟩
      refine sq_v rfl (v_assign rfl) rfl ?_
      refine sq_end ?_
      refine qs_n ?_
      refine wp_sc ?_
      refine wp_sc ?_
      refine wp_sq ?_
      refine sq_v rfl (v_move rfl) rfl ?_
      refine sq_v rfl (v_len Try.underlying44 rfl rv.sl) rfl ?_
      refine sq_v rfl (v_move rfl) rfl ?_
      refine sq_end ?_
      refine qs_n ?_
      refine wp_bl ?_
      refine wp_lp (σ := Nat × PH) (fun z_ => [(2, .pointer (some ⟨b2, 0, none⟩)), (4, .pointer none), (5, .bool false), (6, ptrV bb), (24, v), (25, num ss.length), (26, num z_.1)]) (fun z_ => [z_.2, box b2 [num k, num p, num n, vt, vo] 33, hp w]) (fun z_ => z_.1 ≤ ss.length ∧ okSteps op (sh0 ts) (ss.take z_.1) ∧ SpO (dimOf ts) (shTo op (sh0 ts) (ss.take z_.1)) bb z_.2 q) (fun z_ => ss.length - z_.1) (0, h23) (⟨by (try dsimp only); omega, fun j hj => by simp at hj, by (try dsimp only); simpa [shTo] using rsp⟩) ⟨rfl, rfl, rfl, rfl, rfl, rfl, (by first | rfl | exact ksub rfl (by first | omega | (simp; done) | (simp; omega))), trivial⟩ (fun _ s => s) ?_
      rintro ⟨i, g⟩ ⟨hi, hok, hsp⟩
      dsimp only at hi hok hsp ⊢
      have hfs := shTo_fine (op := op) hfi (ss.take i)
      have hft := fit_to (op := op) hfit (ss.take i)
      have hal := shTo_all (op := op) (s := sh0 ts) (ss := ss.take i)
      rw [show (sh0 ts).all.length = ts.length by simp [sh0], List.length_take] at hal
      obtain ⟨va, vg, cs, hc0, hc1, hra, hrg⟩ := hsp.own
      have hgl : (shTo op (sh0 ts) (ss.take i)).gone.length = (shTo op (sh0 ts) (ss.take i)).all.length := hfs.1
      refine wp_sc ?_
      refine wp_sq ?_
      refine sq_v rfl (v_lss rfl rfl) rfl ?_
      refine sq_end ?_
      refine qs_n ?_
      refine wp_sc ?_
      refine wp_cd rfl (fun c27 => ?_) (fun c27 => ?_)
      · refine wp_sk ?_
        refine qs_n ?_
        refine wp_sc ?_
        refine wp_bl ?_
        refine wp_sc ?_
        refine wp_sq ?_
        obtain ⟨x28, hx28, hcs28⟩ := hc_rv (i) (by first | omega | (rw [List.length_set]; omega))
        refine sq_v rfl (v_indexAddr Try.underlying44 ty_107 rfl rfl rr_rv (by decide) (by omega) (by first | omega | (rw [List.length_set]; omega))) rfl ?_
        refine sq_v rfl (v_loadNE 2 ty_107 rfl rfl rr_rv (by have := rr_rv.1; omega) rfl hcs28) rfl ?_
        refine sq_x rfl (x_alloc ty_107 rfl) rfl ?_; rintro _ _ ⟨b8, rfl, rfl⟩
        refine sq_m 0 rfl rfl (m_store 0 ty_107 rfl rfl rfl rfl (by simp [Value.oneCell']) rfl (Nat.le_of_ble_eq_true rfl)) rfl ?_; rintro _ _ ⟨rfl, rfl⟩
        refine sq_end ?_
        refine qs_n ?_
        refine wp_sc ?_
        refine wp_sc ?_
        refine wp_rj 40 [(0, true), (1, true), (2, true), (3, true), (4, true), (5, true), (6, true), (7, true), (8, true), (9, true), (10, true), (11, true), (12, true), (13, true), (14, true), (15, true), (16, true), (17, true), (18, true), (19, true), (20, true), (21, true), (22, true), (23, true), (24, true), (25, true), (26, true), (27, true), (28, true), (29, true), (30, true), (31, true), (32, true), (33, true), (34, true), (35, true), (36, true), (37, true), (38, true), (39, true)] mixed_ok (by kernel_rfl) ?_
        refine rj_v rfl rfl (v_fieldAddr fd_107_0 ty_3 (by decide) rfl) rfl ?_
        refine rj_v rfl rfl (v_loadB 0 ty_3 rfl rfl rfl) rfl ?_
        refine rj_v rfl rfl (v_lss rfl rfl) rfl ?_
        refine rj_bd 32 rfl (fun c32 => ?_) (fun c32 => ?_)
        · refine rj_v rfl rfl (v_move rfl) rfl ?_
          refine rj_s rfl rfl rfl ?_
          refine rj_s rfl rfl rfl ?_
          refine rj_s rfl rfl rfl ?_
          refine rj_s rfl rfl rfl ?_
          refine rj_s rfl rfl rfl ?_
          refine rj_v rfl rfl (v_pickt rfl rfl) rfl ?_
          refine rj_v rfl rfl (v_move rfl) rfl ?_
          refine rj_s rfl rfl rfl ?_
          refine rj_s rfl rfl rfl ?_
          refine rj_s rfl rfl rfl ?_
          refine rj_s rfl rfl rfl ?_
          refine rj_s rfl rfl rfl ?_
          refine rj_s rfl rfl rfl ?_
          refine rj_s rfl rfl rfl ?_
          refine rj_s rfl rfl rfl ?_
          refine rj_v rfl rfl (v_pickt rfl rfl) rfl ?_
          refine rj_v rfl rfl (v_move rfl) rfl ?_
          refine rj_s rfl rfl rfl ?_
          refine rj_s rfl rfl rfl ?_
          refine rj_s rfl rfl rfl ?_
          refine rj_s rfl rfl rfl ?_
          refine rj_s rfl rfl rfl ?_
          refine rj_s rfl rfl rfl ?_
          refine rj_s rfl rfl rfl ?_
          refine rj_s rfl rfl rfl ?_
          refine rj_v rfl rfl (v_pickt rfl rfl) rfl ?_
          refine rj_v rfl rfl (v_move rfl) rfl ?_
          refine rj_s rfl rfl rfl ?_
          refine rj_s rfl rfl rfl ?_
          refine rj_s rfl rfl rfl ?_
          refine rj_s rfl rfl rfl ?_
          refine rj_s rfl rfl rfl ?_
          refine rj_s rfl rfl rfl ?_
          refine rj_s rfl rfl rfl ?_
          refine rj_s rfl rfl rfl ?_
          refine rj_v rfl rfl (v_pickt rfl rfl) rfl ?_
          refine rj_end ?_
          refine qs_n ?_
          refine wp_ct rfl ?_
          refine wp_sc ?_
          refine wp_sq ?_
          refine sq_v rfl (v_assign rfl) rfl ?_
          refine sq_v rfl (v_assign rfl) rfl ?_
          refine sq_end ?_
          refine qs_n ?_
          refine wp_rt ?_
          refine qs_r ?_
          refine qs_br ?_
          refine qs_r ?_
          refine qs_r ?_
          refine qs_br ?_
          refine qs_r ?_
          exact qs_ret2 rfl rfl rfl (fin_e (i := 3) rfl (StartR.no (fun h => by have hst := stepOk_at h.2 hx28; obtain ⟨⟨a1, a2, a3⟩, ⟨b1, b2, b3⟩, hab⟩ := hst; first | omega | (rw [a3] at c59; exact absurd c59 (by decide)) | (rw [b3] at c69; exact absurd c69 (by decide)))))
        · refine rj_v rfl rfl (v_move rfl) rfl ?_
          refine rj_v rfl rfl (v_fieldAddr fd_107_0 ty_3 (by decide) rfl) rfl ?_
          refine rj_v rfl rfl (v_loadB 0 ty_3 rfl rfl rfl) rfl ?_
          refine rj_v rfl rfl (v_fieldAddr fd_107_1 ty_3 (by decide) rfl) rfl ?_
          refine rj_v rfl rfl (v_loadB 0 ty_3 rfl rfl rfl) rfl ?_
          refine rj_v rfl rfl (v_geq rfl rfl) rfl ?_
          refine rj_v rfl rfl (v_pickf rfl rfl) rfl ?_
          refine rj_bd 39 rfl (fun c39 => ?_) (fun c39 => ?_)
          · refine rj_v rfl rfl (v_move rfl) rfl ?_
            refine rj_s rfl rfl rfl ?_
            refine rj_s rfl rfl rfl ?_
            refine rj_s rfl rfl rfl ?_
            refine rj_s rfl rfl rfl ?_
            refine rj_s rfl rfl rfl ?_
            refine rj_s rfl rfl rfl ?_
            refine rj_s rfl rfl rfl ?_
            refine rj_s rfl rfl rfl ?_
            refine rj_v rfl rfl (v_pickt rfl rfl) rfl ?_
            refine rj_v rfl rfl (v_move rfl) rfl ?_
            refine rj_s rfl rfl rfl ?_
            refine rj_s rfl rfl rfl ?_
            refine rj_s rfl rfl rfl ?_
            refine rj_s rfl rfl rfl ?_
            refine rj_s rfl rfl rfl ?_
            refine rj_s rfl rfl rfl ?_
            refine rj_s rfl rfl rfl ?_
            refine rj_s rfl rfl rfl ?_
            refine rj_v rfl rfl (v_pickt rfl rfl) rfl ?_
            refine rj_v rfl rfl (v_move rfl) rfl ?_
            refine rj_s rfl rfl rfl ?_
            refine rj_s rfl rfl rfl ?_
            refine rj_s rfl rfl rfl ?_
            refine rj_s rfl rfl rfl ?_
            refine rj_s rfl rfl rfl ?_
            refine rj_s rfl rfl rfl ?_
            refine rj_s rfl rfl rfl ?_
            refine rj_s rfl rfl rfl ?_
            refine rj_v rfl rfl (v_pickt rfl rfl) rfl ?_
            refine rj_end ?_
            refine qs_n ?_
            refine wp_ct rfl ?_
            refine wp_sc ?_
            refine wp_sq ?_
            refine sq_v rfl (v_assign rfl) rfl ?_
            refine sq_v rfl (v_assign rfl) rfl ?_
            refine sq_end ?_
            refine qs_n ?_
            refine wp_rt ?_
            refine qs_r ?_
            refine qs_br ?_
            refine qs_r ?_
            refine qs_r ?_
            refine qs_br ?_
            refine qs_r ?_
            exact qs_ret2 rfl rfl rfl (fin_e (i := 3) rfl (StartR.no (fun h => by have hst := stepOk_at h.2 hx28; obtain ⟨⟨a1, a2, a3⟩, ⟨b1, b2, b3⟩, hab⟩ := hst; first | omega | (rw [a3] at c59; exact absurd c59 (by decide)) | (rw [b3] at c69; exact absurd c69 (by decide)))))
          · refine rj_v rfl rfl (v_move rfl) rfl ?_
            refine rj_v rfl rfl (v_fieldAddr fd_107_1 ty_3 (by decide) rfl) rfl ?_
            refine rj_v rfl rfl (v_loadB 0 ty_3 rfl rfl rfl) rfl ?_
            refine rj_v rfl rfl (v_move rfl) rfl ?_
            refine rj_v rfl rfl (v_nilCheck rfl) rfl ?_
            refine rj_v rfl rfl (v_fieldAddr fd_105_0 ty_31 (by decide) rfl) rfl ?_
            refine rj_v rfl rfl (v_load 1 ty_31 rfl rfl hc0) rfl ?_
            refine rj_v rfl rfl (v_len Try.underlying31 rfl hra.sl) rfl ?_
            refine rj_v rfl rfl (v_geq rfl rfl) rfl ?_
            refine rj_v rfl rfl (v_pickf rfl rfl) rfl ?_
            refine rj_bd 49 rfl (fun c49 => ?_) (fun c49 => ?_)
            · refine rj_v rfl rfl (v_move rfl) rfl ?_
              refine rj_s rfl rfl rfl ?_
              refine rj_s rfl rfl rfl ?_
              refine rj_s rfl rfl rfl ?_
              refine rj_s rfl rfl rfl ?_
              refine rj_s rfl rfl rfl ?_
              refine rj_s rfl rfl rfl ?_
              refine rj_s rfl rfl rfl ?_
              refine rj_s rfl rfl rfl ?_
              refine rj_v rfl rfl (v_pickt rfl rfl) rfl ?_
              refine rj_v rfl rfl (v_move rfl) rfl ?_
              refine rj_s rfl rfl rfl ?_
              refine rj_s rfl rfl rfl ?_
              refine rj_s rfl rfl rfl ?_
              refine rj_s rfl rfl rfl ?_
              refine rj_s rfl rfl rfl ?_
              refine rj_s rfl rfl rfl ?_
              refine rj_s rfl rfl rfl ?_
              refine rj_s rfl rfl rfl ?_
              refine rj_v rfl rfl (v_pickt rfl rfl) rfl ?_
              refine rj_end ?_
              refine qs_n ?_
              refine wp_ct rfl ?_
              refine wp_sc ?_
              refine wp_sq ?_
              refine sq_v rfl (v_assign rfl) rfl ?_
              refine sq_v rfl (v_assign rfl) rfl ?_
              refine sq_end ?_
              refine qs_n ?_
              refine wp_rt ?_
              refine qs_r ?_
              refine qs_br ?_
              refine qs_r ?_
              refine qs_r ?_
              refine qs_br ?_
              refine qs_r ?_
              exact qs_ret2 rfl rfl rfl (fin_e (i := 3) rfl (StartR.no (fun h => by have hst := stepOk_at h.2 hx28; obtain ⟨⟨a1, a2, a3⟩, ⟨b1, b2, b3⟩, hab⟩ := hst; first | omega | (rw [a3] at c59; exact absurd c59 (by decide)) | (rw [b3] at c69; exact absurd c69 (by decide)))))
            · refine rj_v rfl rfl (v_move rfl) rfl ?_
              refine rj_v rfl rfl (v_move rfl) rfl ?_
              refine rj_v rfl rfl (v_nilCheck rfl) rfl ?_
              refine rj_v rfl rfl (v_fieldAddr fd_105_1 ty_103 (by decide) rfl) rfl ?_
              refine rj_v rfl rfl (v_load 1 ty_103 rfl rfl hc1) rfl ?_
              refine rj_v rfl rfl (v_fieldAddr fd_107_0 ty_3 (by decide) rfl) rfl ?_
              refine rj_v rfl rfl (v_loadB 0 ty_3 rfl rfl rfl) rfl ?_
              refine rj_v rfl rfl (v_idxB Try.underlying103 ty_4 rfl rfl hrg (by first | omega | (simp only [List.length_cons, List.length_nil]; omega) | (simp only [List.length_append, List.length_cons, List.length_nil]; omega) | (rw [List.length_set]; omega) | (rw [List.length_replicate]; omega) | (simp; omega)) (by first | omega | (simp only [List.length_cons, List.length_nil]; omega) | (simp only [List.length_append, List.length_cons, List.length_nil]; omega) | (rw [List.length_set]; omega) | (rw [List.length_replicate]; omega) | (simp; omega))) rfl ?_
              refine rj_v rfl rfl (v_loadBl  1 ty_4 rfl rfl hrg (by first | omega | (simp only [List.length_cons, List.length_nil]; omega) | (simp only [List.length_append, List.length_cons, List.length_nil]; omega) | (rw [List.length_set]; omega) | (rw [List.length_replicate]; omega) | (simp; omega))) rfl ?_
              refine rj_v rfl rfl (v_pickf rfl rfl) rfl ?_
              refine rj_bb 59 rfl (fun c59 => ?_) (fun c59 => ?_)
              · refine rj_v rfl rfl (v_move rfl) rfl ?_
                refine rj_s rfl rfl rfl ?_
                refine rj_s rfl rfl rfl ?_
                refine rj_s rfl rfl rfl ?_
                refine rj_s rfl rfl rfl ?_
                refine rj_s rfl rfl rfl ?_
                refine rj_s rfl rfl rfl ?_
                refine rj_s rfl rfl rfl ?_
                refine rj_s rfl rfl rfl ?_
                refine rj_v rfl rfl (v_pickt rfl rfl) rfl ?_
                refine rj_end ?_
                refine qs_n ?_
                refine wp_ct rfl ?_
                refine wp_sc ?_
                refine wp_sq ?_
                refine sq_v rfl (v_assign rfl) rfl ?_
                refine sq_v rfl (v_assign rfl) rfl ?_
                refine sq_end ?_
                refine qs_n ?_
                refine wp_rt ?_
                refine qs_r ?_
                refine qs_br ?_
                refine qs_r ?_
                refine qs_r ?_
                refine qs_br ?_
                refine qs_r ?_
                exact qs_ret2 rfl rfl rfl (fin_e (i := 3) rfl (StartR.no (fun h => by have hst := stepOk_at h.2 hx28; obtain ⟨⟨a1, a2, a3⟩, ⟨b1, b2, b3⟩, hab⟩ := hst; first | omega | (rw [a3] at c59; exact absurd c59 (by decide)) | (rw [b3] at c69; exact absurd c69 (by decide)))))
              · refine rj_v rfl rfl (v_move rfl) rfl ?_
                refine rj_v rfl rfl (v_move rfl) rfl ?_
                refine rj_v rfl rfl (v_nilCheck rfl) rfl ?_
                refine rj_v rfl rfl (v_fieldAddr fd_105_1 ty_103 (by decide) rfl) rfl ?_
                refine rj_v rfl rfl (v_load 1 ty_103 rfl rfl hc1) rfl ?_
                refine rj_v rfl rfl (v_fieldAddr fd_107_1 ty_3 (by decide) rfl) rfl ?_
                refine rj_v rfl rfl (v_loadB 0 ty_3 rfl rfl rfl) rfl ?_
                refine rj_v rfl rfl (v_idxB Try.underlying103 ty_4 rfl rfl hrg (by first | omega | (simp only [List.length_cons, List.length_nil]; omega) | (simp only [List.length_append, List.length_cons, List.length_nil]; omega) | (rw [List.length_set]; omega) | (rw [List.length_replicate]; omega) | (simp; omega)) (by first | omega | (simp only [List.length_cons, List.length_nil]; omega) | (simp only [List.length_append, List.length_cons, List.length_nil]; omega) | (rw [List.length_set]; omega) | (rw [List.length_replicate]; omega) | (simp; omega))) rfl ?_
                refine rj_v rfl rfl (v_loadBl  1 ty_4 rfl rfl hrg (by first | omega | (simp only [List.length_cons, List.length_nil]; omega) | (simp only [List.length_append, List.length_cons, List.length_nil]; omega) | (rw [List.length_set]; omega) | (rw [List.length_replicate]; omega) | (simp; omega))) rfl ?_
                refine rj_v rfl rfl (v_pickf rfl rfl) rfl ?_
                refine rj_end ?_
                refine qs_n ?_
                refine wp_cb _ rfl (fun c69 => ?_) (fun c69 => ?_)
                · refine wp_sc ?_
                  refine wp_sq ?_
                  refine sq_v rfl (v_assign rfl) rfl ?_
                  refine sq_v rfl (v_assign rfl) rfl ?_
                  refine sq_end ?_
                  refine qs_n ?_
                  refine wp_rt ?_
                  refine qs_r ?_
                  refine qs_br ?_
                  refine qs_r ?_
                  refine qs_r ?_
                  refine qs_br ?_
                  refine qs_r ?_
                  exact qs_ret2 rfl rfl rfl (fin_e (i := 3) rfl (StartR.no (fun h => by have hst := stepOk_at h.2 hx28; obtain ⟨⟨a1, a2, a3⟩, ⟨b1, b2, b3⟩, hab⟩ := hst; first | omega | (rw [a3] at c59; exact absurd c59 (by decide)) | (rw [b3] at c69; exact absurd c69 (by decide)))))
                · refine wp_sk ?_
                  refine qs_n ?_
                  refine wp_sq ?_
                  refine sq_v rfl (v_move rfl) rfl ?_
                  refine sq_v rfl (v_fieldAddr fd_33_2 ty_25 (by decide) rfl) rfl ?_
                  refine sq_v rfl (v_loadB 2 ty_25 rfl rfl rfl) rfl ?_
                  refine sq_v rfl (v_loadNB 0 ty_107 rfl rfl rfl rfl) rfl ?_
                  have hst : stepOk (shTo op (sh0 ts) (ss.take i)) x28 := ⟨⟨by omega, by omega, c59⟩, ⟨by omega, by omega, c69⟩, by omega⟩
                  refine sq_m 1 rfl rfl (x_call rfl en_119 (fun w s => ct_s_l17Step (dimOf ts) _ op _ bb _ _ w _ q (s.get 1 rfl) (lq.trans (s.getR 1 3 rfl rfl (by decide))) hsp (r'.mono (s.getR 1 3 rfl rfl (by decide))) hfs hft hst (by omega) hop)) rfl ?_; rintro _ h74 ⟨rfl, hsp'⟩
                  refine sq_end ?_
                  refine qs_bn ?_
                  refine qs_n ?_
                  refine wp_sq ?_
                  refine sq_v rfl (v_add rfl rfl ((by unfold I64; omega))) rfl ?_
                  refine sq_v rfl (v_move rfl) rfl ?_
                  refine sq_end ?_
                  exact qs_bk (i + 1, h74) ⟨by (try dsimp only); omega, okSteps_next hok hx28 hst, by (try dsimp only); rw [shTo_step hx28]; exact hsp'⟩ (by simp only; omega) ⟨rfl, rfl, rfl, rfl, rfl, rfl, (by first | rfl | exact ksub rfl (by first | omega | (simp; done) | (simp; omega))), trivial⟩ (fun _ s => s.pick [1, 2, 3] (by decide) rfl)
      · refine wp_ex ?_
        refine qs_x ?_
        refine qs_x ?_
        refine qs_bx ?_
        refine qs_n ?_
        refine wp_sc ?_
        refine wp_sq ?_
        refine sq_v rfl (v_move rfl) rfl ?_
        refine sq_v rfl (v_assign rfl) rfl ?_
        refine sq_v rfl (v_assign rfl) rfl ?_
        refine sq_end ?_
        refine qs_n ?_
        refine wp_rt ?_
        rw [List.take_of_length_le (by omega)] at hok hsp
        exact qs_ret2 rfl rfl rfl (fin_t 0 (i := 2) rfl rfl rfl ⟨ptrV bb, true, rfl, ⟨fun _ => ⟨hnet, hok⟩, fun _ => rfl⟩, fun _ => ⟨bb, rfl, hsp⟩⟩)
  · refine sq_v rfl (v_not rfl) rfl ?_
    refine sq_v rfl (v_move rfl) rfl ?_
    refine sq_s rfl rfl ?_
    refine sq_s rfl rfl ?_
    refine sq_s rfl rfl ?_
    refine sq_s rfl rfl ?_
    refine sq_s rfl rfl ?_
    refine sq_s rfl rfl ?_
    refine sq_s rfl rfl ?_
    refine sq_s rfl rfl ?_
    refine sq_v rfl (v_pickt rfl rfl) rfl ?_
    refine sq_end ?_
    refine qs_n ?_
    refine wp_ct rfl ?_
    refine wp_sc ?_
    refine wp_sq ?_
    refine sq_v rfl (v_assign rfl) rfl ?_
    refine sq_v rfl (v_assign rfl) rfl ?_
    refine sq_end ?_
    refine qs_n ?_
    refine wp_rt ?_
    refine qs_r ?_
    exact qs_ret2 rfl rfl rfl (fin_e (i := 1) rfl (StartR.no (fun h => by first | exact netB_false.1 c10 h.1 | (have := few_steps (net_axes h.1) h.2; omega))))
end Go.Proofs.Ytalfigjnaidmnaa
