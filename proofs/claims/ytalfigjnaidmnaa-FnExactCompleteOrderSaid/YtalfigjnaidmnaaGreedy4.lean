/-
  The reference's completion of an order.
  Conditions: none.
-/
import Derived.Test.YtalfigjnaidmnaaGreedy3
namespace Go.Proofs.Ytalfigjnaidmnaa
set_option maxRecDepth 100000
open Go.RowKit
theorem ct_w_l19Pairs (f : Int → Int) (sh : Sh) (bb : Nat) (w : World) (h q : PH) (rs : SpO f sh bb h q) (lh : PLe h (hp w)) (lq : PLe q (hp w)) (hall : sh.all.length ≤ 1000) :
    Calls Try.prog 117 [.pointer (some ⟨bb, 0, none⟩)].toArray w (Ret w emp (StepsO (stpsOf (pairsL sh.ixs)))) := by
  obtain ⟨va, vg, r⟩ := rs.toR lh lq
  exact ct_s_l19Pairs f sh va vg bb w r hall
theorem ct_w_l19Gain (f : Int → Int) (sh : Sh) (op : List Int) (vo : Value) (bb : Nat) (x y : Int) (w : World) (h q : PH) (rs : SpO f sh bb h q) (lh : PLe h (hp w)) (lq : PLe q (hp w)) (ro : IntsR op vo (hp w)) (hfi : sh.fine) (hfit : ∀ i, ∀ l ∈ sh.lab i, 1 ≤ f l ∧ f l ≤ 8) (hall : sh.all.length ≤ 1000) (hop : op.length ≤ 1048576)
    (hx : 0 ≤ x ∧ x < sh.all.length) (hy : 0 ≤ y ∧ y < sh.all.length) :
    Calls Try.prog 118 [.pointer (some ⟨bb, 0, none⟩), vo, stepV x y].toArray w (RetV w (num (gainP f op sh (x.toNat, y.toNat)))) := by
  obtain ⟨va, vg, r⟩ := rs.toR lh lq
  exact ct_s_l19Gain f sh op va vg vo bb x y w r ro hfi hfit hall hop hx hy
theorem stps_at {l : List (Nat × Nat)} {i : Nat} {x : Stp} (h : (stpsOf l)[i]? = some x) : ∃ p, l[i]? = some p ∧ x = ⟨p.1, p.2⟩ := by
  simp only [stpsOf, List.getElem?_map, Option.map_eq_some_iff] at h
  obtain ⟨p, h1, h2⟩ := h
  exact ⟨p, h1, h2.symm⟩
def bestAt (g : Nat × Nat → Int) (l : List (Nat × Nat)) (i : Nat) (p : Nat × Nat) : Prop := p ∈ l ∧ (i = 0 → l[0]? = some p) ∧ (0 < i → bestP g (l.take i) = some p)
theorem bestAt.yes {g : Nat × Nat → Int} {l : List (Nat × Nat)} {i : Nat} {p x : Nat × Nat} (h : bestAt g l i p) (hx : l[i]? = some x) (hlt : g x < g p) : bestAt g l (i + 1) x := by
  obtain ⟨hi, e⟩ := List.getElem?_eq_some_iff.1 hx
  refine ⟨List.mem_of_getElem? hx, fun e => by omega, fun _ => ?_⟩
  rw [List.take_succ_eq_append_getElem hi, e, bestP_snoc]
  rcases Nat.eq_zero_or_pos i with h0 | h0
  · subst h0; simp [bestP]
  · rw [h.2.2 h0]; simp [hlt]
theorem bestAt.no {g : Nat × Nat → Int} {l : List (Nat × Nat)} {i : Nat} {p x : Nat × Nat} (h : bestAt g l i p) (hx : l[i]? = some x) (hlt : ¬ g x < g p) : bestAt g l (i + 1) p := by
  obtain ⟨hi, e⟩ := List.getElem?_eq_some_iff.1 hx
  refine ⟨h.1, fun e => by omega, fun _ => ?_⟩
  rw [List.take_succ_eq_append_getElem hi, e, bestP_snoc]
  rcases Nat.eq_zero_or_pos i with h0 | h0
  · subst h0
    have := h.2.1 rfl
    rw [hx] at this
    cases this
    simp [bestP]
  · rw [h.2.2 h0]; simp [hlt]
def CompR (k p n : Int) (ts : List Ten) (op : List Int) (ss : List Stp) (u : Value) (h : PH) : Prop :=
  ∃ v, u = .tuple [v, .bool (compB k p n ts op ss)].toArray ∧ StepsO (compS k p n ts op ss) v h
theorem CompR.no {k p n : Int} {ts : List Ten} {op : List Int} {ss : List Stp} (h : ¬ compP k p n ts op ss) : CompR k p n ts op ss (.tuple [.slice none 0 0, .bool false].toArray) emp :=
  ⟨_, by rw [show compB k p n ts op ss = false by simp [compB, h]], by rw [compS, if_neg h]; exact StepsO.nil⟩
set_option maxHeartbeats 2000000 in
theorem ct_s_CompleteOrder (k p n : Int) (ts : List Ten) (op : List Int) (ss : List Stp) (vt vo v : Value) (w : World) (r : TensR ts vt (hp w)) (r' : IntsR op vo (hp w)) (rv : StepsR ss v (hp w)) (hop : op.length ≤ 1048576) (hss : ss.length ≤ 1048576) :
    Calls Try.prog 58 [netV k p n vt vo, v].toArray w (Ret w emp (CompR k p n ts op ss)) := by
  refine calls_in Try.func58 rfl Try.ntmps58 rfl (Sat.start w) ?_
  have hle0 := r.le
  obtain ⟨cs_r, rr_r, hc_r⟩ := r.at
  have hle1 := r'.le
  have hle2 := rv.le
  obtain ⟨cs_rv, rr_rv, hc_rv⟩ := rv.at
  refine wp_sc ?_
  refine wp_sq ?_
  refine sq_x rfl (x_box rfl rfl) rfl ?_; rintro _ _ ⟨b2, rfl, rfl⟩
  refine sq_v rfl (v_assign rfl) rfl ?_
  refine sq_v rfl (v_assign rfl) rfl ?_
  refine sq_end ?_
  refine qs_n ?_
  refine wp_sc ?_
  refine wp_sq ?_
  refine sq_v rfl (v_loadNB 0 ty_33 rfl rfl rfl rfl) rfl ?_
  refine sq_v rfl (v_move rfl) rfl ?_
  refine sq_x rfl (x_call rfl en_116 (fun w s => ct_s_l23Start _ _ _ _ _ _ _ _ _ w _ (s.get 1 rfl) r (r'.mono (s.get 1 rfl)) (rv.mono (s.get 1 rfl)) (by first | assumption | omega) (by first | assumption | omega))) rfl ?_; rintro _ h16 ⟨pv, bk, rfl, hbk, hst⟩
  refine sq_v rfl (v_move rfl) rfl ?_
  refine sq_v rfl (v_extract rfl rfl) rfl ?_
  refine sq_v rfl (v_extract rfl rfl) rfl ?_
  refine sq_v rfl (v_assign rfl) rfl ?_
  refine sq_v rfl (v_assign rfl) rfl ?_
  refine sq_end ?_
  refine qs_n ?_
  refine wp_sc ?_
  refine wp_sc ?_
  refine wp_sq ?_
  refine sq_v rfl (v_move rfl) rfl ?_
  refine sq_v rfl (v_not rfl) rfl ?_
  refine sq_end ?_
  refine qs_n ?_
  refine wp_cn _ rfl (fun c20 => ?_) (fun c20 => ?_)
  · refine wp_sc ?_
    refine wp_sq ?_
    refine sq_v rfl (v_assign rfl) rfl ?_
    refine sq_v rfl (v_assign rfl) rfl ?_
    refine sq_end ?_
    refine qs_n ?_
    refine wp_rt ?_
    refine qs_r ?_
    exact qs_ret2 rfl rfl rfl (fin_e (i := 2) rfl (CompR.no (fun h => by have := hbk.2 h; rw [c20] at this; cases this)))
  · refine wp_sk ?_
    refine qs_n ?_
    refine wp_sc ?_
    refine wp_sq ?_
    have hcp := hbk.1 c20; have hnet := hcp.1; have h12 := hnet.2.1; have hfew := few_steps (net_axes hnet) hcp.2; obtain ⟨bb, rfl, rsp⟩ := hst c20; obtain ⟨S0, hS0⟩ : ∃ S0, S0 = shTo op (sh0 ts) ss := ⟨_, rfl⟩; have hfi0 := shTo_fine (op := op) (sh0_fine (net_axes hnet)) ss; have hft0 := fit_to (op := op) (net_fit hnet) ss; have hal0 := shTo_all (op := op) (s := sh0 ts) (ss := ss); have hsc := steps_count (sh0_fine (net_axes hnet)) hcp.2 ss.length (Nat.le_refl _); rw [List.take_length] at hsc; rw [← hS0] at rsp hfi0 hft0 hal0 hsc; rw [show (sh0 ts).all.length = ts.length by simp [sh0]] at hal0; rw [show (sh0 ts).ixs.length = ts.length by rw [sh0_ixs]; simp] at hsc;
    refine sq_x rfl (x_build0 Try.underlying44 ty_107) rfl ?_; intro v21 h21 r21
    refine sq_v rfl (v_move rfl) rfl ?_
    refine sq_m 0 rfl rfl (m_appS (ss := ([] : List Stp)) (us := ss) 0 3 Try.underlying44 ty_107 rfl rfl rfl rfl r21 rfl rv (by first | omega | (simp only [List.length_cons, List.length_nil]; omega) | (simp only [List.length_append, List.length_cons, List.length_nil]; omega) | (rw [List.length_set]; omega) | (rw [List.length_replicate]; omega) | (simp; omega))) rfl ?_; intro v23 h_r23 r23
    obtain ⟨cs_S_23, rr_S_23, hc_S_23⟩ := r23.toR.at
    refine sq_v rfl (v_assign rfl) rfl ?_
    refine sq_end ?_
    refine qs_n ?_
    refine wp_sc ?_
    refine wp_bl ?_
    refine wp_lp (σ := Nat × PH × Value × PH) (fun z_ => [(2, .pointer (some ⟨b2, 0, none⟩)), (4, .slice none 0 0), (5, .bool false), (6, (ptrV bb)), (8, z_.2.2.1)]) (fun z_ => [z_.2.2.2, z_.2.1, box b2 [num k, num p, num n, vt, vo] 33, hp w]) (fun z_ => z_.1 ≤ ts.length - 1 - ss.length ∧ SpO (dimOf ts) (shTo op S0 (greedyTo (dimOf ts) op S0 z_.1)) bb z_.2.1 (hp w) ∧ StepsO (ss ++ greedyTo (dimOf ts) op S0 z_.1) z_.2.2.1 z_.2.2.2) (fun z_ => ts.length - 1 - ss.length - z_.1) (0, h16, v23, h_r23) (⟨by (try dsimp only); omega, by (try dsimp only); simpa [greedyTo, shTo] using rsp, by (try dsimp only); simpa [greedyTo] using r23⟩) ⟨rfl, rfl, rfl, rfl, (by first | rfl | exact ksub rfl (by first | omega | (simp; done) | (simp; omega))), trivial⟩ (fun _ s => s) ?_
    rintro ⟨j, g, ov, oh⟩ ⟨hj, hsp, q⟩
    dsimp only at hj hsp q ⊢
    obtain ⟨cs_q, rr_q, hc_q⟩ := q.toR.at
    have hle_q := q.toR.le
    have hgl := greedy_len (dimOf ts) op S0 j
    have hol : (ss ++ greedyTo (dimOf ts) op S0 j).length = ss.length + j := by rw [List.length_append, hgl]
    obtain ⟨S, hS⟩ : ∃ S, S = shTo op S0 (greedyTo (dimOf ts) op S0 j) := ⟨_, rfl⟩
    have hfs := shTo_fine (op := op) hfi0 (greedyTo (dimOf ts) op S0 j)
    have hft := fit_to (op := op) hft0 (greedyTo (dimOf ts) op S0 j)
    have hal := shTo_all (op := op) (s := S0) (ss := greedyTo (dimOf ts) op S0 j)
    rw [hgl, hal0] at hal
    rw [← hS] at hsp hfs hft hal
    refine wp_sc ?_
    refine wp_sc ?_
    refine wp_sq ?_
    refine sq_v rfl (v_move rfl) rfl ?_
    refine sq_v rfl (v_len Try.underlying44 rfl q.toR.sl) rfl ?_
    refine sq_v rfl (v_fieldAddr fd_33_1 ty_31 (by decide) rfl) rfl ?_
    refine sq_v rfl (v_loadB 2 ty_31 rfl rfl rfl) rfl ?_
    refine sq_v rfl (v_len Try.underlying31 rfl r.sl) rfl ?_
    refine sq_v rfl (v_sub rfl rfl ((by unfold I64; omega))) rfl ?_
    refine sq_v rfl (v_lss rfl rfl) rfl ?_
    refine sq_end ?_
    have hdummy := hj
    refine qs_n ?_
    refine wp_cd rfl (fun c30 => ?_) (fun c30 => ?_)
    · refine wp_sk ?_
      refine qs_n ?_
      refine wp_bl ?_
      refine wp_sc ?_
      refine wp_sq ?_
      refine sq_v rfl (v_move rfl) rfl ?_
      have hcnt := greedy_count (f := dimOf ts) (op := op) hfi0 j (by omega); rw [← hS] at hcnt; have hpk := pick_ok (f := dimOf ts) (op := op) (s := S) (by omega); have hpm := bestP_mem _ hpk.1; have hpl : 0 < (pairsL S.ixs).length := List.length_pos_of_mem hpm; have hsl := stps_len (pairsL S.ixs); have hin : ∀ z ∈ pairsL S.ixs, z.1 < S.all.length ∧ z.2 < S.all.length := (fun z hz => ⟨(mem_ixs.1 (mem_pairs hz).1).1, (mem_ixs.1 (mem_pairs hz).2).1⟩)
      refine sq_x rfl (x_call rfl en_117 (fun w s => ct_w_l19Pairs (dimOf ts) S _ w g _ hsp (s.get 1 rfl) (s.get 3 rfl) (by omega))) rfl ?_; rintro v32 h32 r32
      obtain ⟨cs_S_32, rr_S_32, hc_S_32⟩ := r32.toR.at
      refine sq_v rfl (v_assign rfl) rfl ?_
      refine sq_end ?_
      refine qs_n ?_
      refine wp_sc ?_
      refine wp_sq ?_
      refine sq_v rfl (v_move rfl) rfl ?_
      obtain ⟨x34, hx34, hcs34⟩ := hc_S_32 (0) (by first | omega | (rw [List.length_set]; omega))
      refine sq_v rfl (v_indexAddr Try.underlying44 ty_107 rfl rfl rr_S_32 (by decide) (by omega) (by first | omega | (rw [List.length_set]; omega))) rfl ?_
      refine sq_v rfl (v_loadNE 0 ty_107 rfl rfl rr_S_32 (by have := rr_S_32.1; omega) rfl hcs34) rfl ?_
      refine sq_x rfl (x_alloc ty_107 rfl) rfl ?_; rintro _ _ ⟨b10, rfl, rfl⟩
      refine sq_m 0 rfl rfl (m_store 0 ty_107 rfl rfl rfl rfl (by simp [Value.oneCell']) rfl (Nat.le_of_ble_eq_true rfl)) rfl ?_; rintro _ _ ⟨rfl, rfl⟩
      refine sq_end ?_
      obtain ⟨p0, hp0, e34⟩ := stps_at hx34
      have hrl := r32.toR.le
      refine qs_n ?_
      refine wp_sc ?_
      refine wp_sc ?_
      refine wp_sq ?_
      refine sq_v rfl (v_move rfl) rfl ?_
      refine sq_v rfl (v_len Try.underlying44 rfl r32.toR.sl) rfl ?_
      refine sq_v rfl (v_move rfl) rfl ?_
      refine sq_end ?_
      refine qs_n ?_
      refine wp_bl ?_
      refine wp_lp (σ := Nat × Stp) (fun z_ => [(2, .pointer (some ⟨b2, 0, none⟩)), (4, .slice none 0 0), (5, .bool false), (6, (ptrV bb)), (8, ov), (9, v32), (10, .pointer (some ⟨b10, 0, none⟩)), (24, ov), (25, num (ss ++ greedyTo (dimOf ts) op S0 j).length), (26, .pointer (some ⟨b2, 3, none⟩)), (27, vt), (28, num ts.length), (29, num (ts.length - 1)), (30, .bool (decide (((ss ++ greedyTo (dimOf ts) op S0 j).length : Int) < ts.length - 1))), (31, (ptrV bb)), (32, v32), (33, v32), (35, .agg [num x34.a, num x34.b].toArray), (36, v32), (37, num (stpsOf (pairsL S.ixs)).length), (38, num z_.1)]) (fun z_ => [box b10 [num z_.2.a, num z_.2.b] 107, h32, oh, g, box b2 [num k, num p, num n, vt, vo] 33, hp w]) (fun z_ => z_.1 ≤ (stpsOf (pairsL S.ixs)).length ∧ (∃ pz : Nat × Nat, z_.2 = ⟨pz.1, pz.2⟩ ∧ bestAt (gainP (dimOf ts) op S) (pairsL S.ixs) z_.1 pz)) (fun z_ => (stpsOf (pairsL S.ixs)).length - z_.1) (0, x34) (⟨by (try dsimp only); omega, ⟨p0, e34, List.mem_of_getElem? hp0, fun _ => hp0, fun h => by omega⟩⟩) ⟨rfl, rfl, rfl, rfl, rfl, rfl, rfl, rfl, rfl, rfl, rfl, rfl, rfl, rfl, rfl, rfl, rfl, rfl, rfl, rfl, (by first | rfl | exact ksub rfl (by first | omega | (simp; done) | (simp; omega))), trivial⟩ (fun _ s => s) ?_
      rintro ⟨i, z⟩ ⟨hi, hbz⟩
      dsimp only at hi hbz ⊢
      obtain ⟨pz, hz, hbz⟩ := hbz
      have hzi := hin pz hbz.1
      have hza : z.a = pz.1 ∧ z.b = pz.2 := by rw [hz]; exact ⟨rfl, rfl⟩
      have hze : (z.a.toNat, z.b.toNat) = pz := by rw [hza.1, hza.2]; rfl
      refine wp_sc ?_
      refine wp_sq ?_
      refine sq_v rfl (v_lss rfl rfl) rfl ?_
      refine sq_end ?_
      refine qs_n ?_
      refine wp_sc ?_
      refine wp_cd rfl (fun c39 => ?_) (fun c39 => ?_)
      · refine wp_sk ?_
        refine qs_n ?_
        refine wp_sc ?_
        refine wp_bl ?_
        refine wp_sc ?_
        refine wp_sq ?_
        obtain ⟨x40, hx40, hcs40⟩ := hc_S_32 (i) (by first | omega | (rw [List.length_set]; omega))
        refine sq_v rfl (v_indexAddr Try.underlying44 ty_107 rfl rfl rr_S_32 (by decide) (by omega) (by first | omega | (rw [List.length_set]; omega))) rfl ?_
        refine sq_v rfl (v_loadNE 1 ty_107 rfl rfl rr_S_32 (by have := rr_S_32.1; omega) rfl hcs40) rfl ?_
        refine sq_x rfl (x_alloc ty_107 rfl) rfl ?_; rintro _ _ ⟨b12, rfl, rfl⟩
        refine sq_m 0 rfl rfl (m_store 0 ty_107 rfl rfl rfl rfl (by simp [Value.oneCell']) rfl (Nat.le_of_ble_eq_true rfl)) rfl ?_; rintro _ _ ⟨rfl, rfl⟩
        refine sq_end ?_
        obtain ⟨pi, hpi, e40⟩ := stps_at hx40
        have hpin := hin pi (List.mem_of_getElem? hpi)
        have hxa : x40.a = pi.1 ∧ x40.b = pi.2 := by rw [e40]; exact ⟨rfl, rfl⟩
        have hxe : (x40.a.toNat, x40.b.toNat) = pi := by rw [hxa.1, hxa.2]; rfl
        refine qs_n ?_
        refine wp_sc ?_
        refine wp_rj 11 [(0, true), (1, true), (2, true), (3, true), (5, true), (6, true), (7, true), (8, true), (4, false), (9, false), (10, true)] mixed_ok (by kernel_rfl) ?_
        refine rj_v rfl rfl (v_move rfl) rfl ?_
        refine rj_v rfl rfl (v_fieldAddr fd_33_2 ty_25 (by decide) rfl) rfl ?_
        refine rj_v rfl rfl (v_loadB 5 ty_25 rfl rfl rfl) rfl ?_
        refine rj_v rfl rfl (v_loadNB 0 ty_107 rfl rfl rfl rfl) rfl ?_
        refine rj_v rfl rfl (v_move rfl) rfl ?_
        refine rj_v rfl rfl (v_fieldAddr fd_33_2 ty_25 (by decide) rfl) rfl ?_
        refine rj_v rfl rfl (v_loadB 5 ty_25 rfl rfl rfl) rfl ?_
        refine rj_v rfl rfl (v_loadNB 1 ty_107 rfl rfl rfl rfl) rfl ?_
        refine rj_u rfl rfl (x_callv rfl en_118 (fun w s => ct_w_l19Gain (dimOf ts) S _ _ _ _ _ w g _ hsp (s.get 4 rfl) (s.get 6 rfl) (r'.mono (s.get 6 rfl)) (by first | assumption | omega) hft (by omega) (by first | assumption | omega) (by omega) (by omega))) rfl ?_
        refine rj_u rfl rfl (x_callv rfl en_118 (fun w s => ct_w_l19Gain (dimOf ts) S _ _ _ _ _ w g _ hsp (s.get 4 rfl) (s.get 6 rfl) (r'.mono (s.get 6 rfl)) (by first | assumption | omega) hft (by omega) (by first | assumption | omega) (by omega) (by omega))) rfl ?_
        refine rj_v rfl rfl (v_lss rfl rfl) rfl ?_
        refine rj_end ?_
        refine qs_n ?_
        refine wp_cd rfl (fun c52 => ?_) (fun c52 => ?_)
        · refine wp_sq ?_
          refine sq_v rfl (v_loadNB 0 ty_107 rfl rfl rfl rfl) rfl ?_
          refine sq_m 1 rfl rfl (m_store 1 ty_107 rfl rfl rfl rfl (by simp [Value.oneCell']) rfl (Nat.le_of_ble_eq_true rfl)) rfl ?_; rintro _ _ ⟨rfl, rfl⟩
          refine sq_end ?_
          refine qs_bn ?_
          refine qs_n ?_
          refine wp_sq ?_
          refine sq_v rfl (v_add rfl rfl ((by unfold I64; omega))) rfl ?_
          refine sq_v rfl (v_move rfl) rfl ?_
          refine sq_end ?_
          have hdummy2 := hi
          exact qs_bk (i + 1, x40) ⟨by (try dsimp only); omega, ⟨pi, e40, hbz.yes hpi (by rw [hxe, hze] at c52; exact c52)⟩⟩ (by simp only; omega) ⟨rfl, rfl, rfl, rfl, rfl, rfl, rfl, rfl, rfl, rfl, rfl, rfl, rfl, rfl, rfl, rfl, rfl, rfl, rfl, rfl, (by first | rfl | exact ksub rfl (by first | omega | (simp; done) | (simp; omega))), trivial⟩ (fun _ s => s.pick [1, 2, 3, 4, 5, 6] (by decide) rfl)
        · refine wp_sk ?_
          refine qs_bn ?_
          refine qs_n ?_
          refine wp_sq ?_
          refine sq_v rfl (v_add rfl rfl ((by unfold I64; omega))) rfl ?_
          refine sq_v rfl (v_move rfl) rfl ?_
          refine sq_end ?_
          have hdummy2 := hi
          exact qs_bk (i + 1, z) ⟨by (try dsimp only); omega, ⟨pz, hz, hbz.no hpi (by rw [hxe, hze] at c52; exact c52)⟩⟩ (by simp only; omega) ⟨rfl, rfl, rfl, rfl, rfl, rfl, rfl, rfl, rfl, rfl, rfl, rfl, rfl, rfl, rfl, rfl, rfl, rfl, rfl, rfl, (by first | rfl | exact ksub rfl (by first | omega | (simp; done) | (simp; omega))), trivial⟩ (fun _ s => s.pick [1, 2, 3, 4, 5, 6] (by decide) rfl)
      · refine wp_ex ?_
        refine qs_x ?_
        refine qs_x ?_
        refine qs_bx ?_
        refine qs_n ?_
        refine wp_sc ?_
        refine wp_sq ?_
        refine sq_v rfl (v_move rfl) rfl ?_
        refine sq_v rfl (v_fieldAddr fd_33_2 ty_25 (by decide) rfl) rfl ?_
        refine sq_v rfl (v_loadB 4 ty_25 rfl rfl rfl) rfl ?_
        refine sq_v rfl (v_loadNB 0 ty_107 rfl rfl rfl rfl) rfl ?_
        have hpz : pz = pickP (dimOf ts) op S := (by have := hbz.2.2 (by omega); rw [List.take_of_length_le (by omega), hpk.1] at this; exact (Option.some.inj this).symm); have hst' : stepOk S z := ⟨live_ixs.2 ⟨by omega, by rw [hza.1, Int.toNat_natCast, hpz]; exact hpk.2.1⟩, live_ixs.2 ⟨by omega, by rw [hza.2, Int.toNat_natCast, hpz]; exact hpk.2.2.1⟩, by have := hpk.2.2.2; rw [← hpz] at this; omega⟩
        refine sq_m 3 rfl rfl (x_call rfl en_119 (fun w s => ct_s_l17Step (dimOf ts) S op _ bb _ _ w _ _ (s.get 3 rfl) (s.getR 3 5 rfl rfl (by decide)) hsp (r'.mono (s.getR 3 5 rfl rfl (by decide))) hfs hft hst' (by omega) hop)) rfl ?_; rintro _ h59 ⟨rfl, hsp'⟩
        refine sq_end ?_
        refine qs_n ?_
        refine wp_sq ?_
        refine sq_v rfl (v_move rfl) rfl ?_
        refine sq_v rfl (v_loadNB 0 ty_107 rfl rfl rfl rfl) rfl ?_
        refine sq_x rfl (x_buildS [.agg [num z.a, num z.b].toArray] Try.underlying44 ty_107 (by decide) rfl rfl rfl (by decide) (by decide) (by intro v hv; simp at hv; subst hv; rfl)) rfl ?_; intro v62 h62 (r62 : RowO 107 [num z.a, num z.b] 1 2 v62 h62)
        refine sq_m 3 rfl rfl (m_appS (ss := (ss ++ greedyTo (dimOf ts) op S0 j)) (us := ([⟨z.a, z.b⟩] : List Stp)) 3 0 Try.underlying44 ty_107 rfl rfl rfl rfl q rfl r62.toR (by first | omega | (simp only [List.length_cons, List.length_nil]; omega) | (simp only [List.length_append, List.length_cons, List.length_nil]; omega) | (rw [List.length_set]; omega) | (rw [List.length_replicate]; omega) | (simp; omega))) rfl ?_; intro v63 h_r63 r63
        obtain ⟨cs_S_63, rr_S_63, hc_S_63⟩ := r63.toR.at
        refine sq_v rfl (v_assign rfl) rfl ?_
        refine sq_end ?_
        refine qs_bn ?_
        exact qs_bk (j + 1, h59, v63, h_r63) ⟨by (try dsimp only); omega, by (try dsimp only); rw [greedy_step, ← hS, ← hpz]; have e1 : z.a.toNat = pz.1 := (by omega); have e2 : z.b.toNat = pz.2 := (by omega); rw [e1, e2] at hsp'; exact hsp', by (try dsimp only); rw [greedyTo, ← hS, ← hpz, ← List.append_assoc, ← hz]; exact r63⟩ (by simp only; omega) ⟨rfl, rfl, rfl, rfl, (by first | rfl | exact ksub rfl (by first | omega | (simp; done) | (simp; omega))), trivial⟩ (fun _ s => s.pick [3, 4, 5, 6] (by decide) rfl)
    · refine wp_ex ?_
      refine qs_x ?_
      refine qs_x ?_
      refine qs_bx ?_
      refine qs_n ?_
      refine wp_sc ?_
      refine wp_sq ?_
      refine sq_v rfl (v_move rfl) rfl ?_
      refine sq_v rfl (v_assign rfl) rfl ?_
      refine sq_v rfl (v_assign rfl) rfl ?_
      refine sq_end ?_
      refine qs_n ?_
      refine wp_rt ?_
      exact qs_ret2 rfl rfl rfl (fin_t 0 (i := 3) rfl rfl rfl ⟨_, by rw [show compB k p n ts op ss = true by simp [compB, hcp]], by rw [compS, if_pos hcp, ← hS0, show ts.length - 1 - ss.length = j by omega]; exact q⟩)
end Go.Proofs.Ytalfigjnaidmnaa
