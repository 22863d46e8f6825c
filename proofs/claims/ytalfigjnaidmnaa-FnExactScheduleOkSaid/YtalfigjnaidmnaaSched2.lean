/-
  Critical times and schedules, in the program and in the reference: the same answers.
  Conditions: none.
-/
import Derived.Test.YtalfigjnaidmnaaSched
import Derived.Test.YtalfigjnaidmnaaOffset
namespace Go.Proofs.Ytalfigjnaidmnaa
set_option maxRecDepth 100000
open Go.RowKit
noncomputable def startsTo (m : Int) (ss : List Stp) (co : List Int) : Nat → List Int
  | 0 => []
  | k + 1 => startsTo m ss co k ++ [rdyF (sumE (startsTo m ss co k) co) m [(ss.getD k ⟨0, 0⟩).a, (ss.getD k ⟨0, 0⟩).b]]
theorem startsTo_len (m : Int) (ss : List Stp) (co : List Int) : ∀ k, (startsTo m ss co k).length = k
  | 0 => rfl
  | k + 1 => by simp [startsTo, startsTo_len m ss co k]
theorem startsTo_take (m : Int) (ss : List Stp) (co : List Int) : ∀ n k, k ≤ n → (startsTo m ss co n).take k = startsTo m ss co k
  | 0, k, h => by have : k = 0 := by omega
                  subst this; rfl
  | n + 1, k, h => by
    have hl := startsTo_len m ss co n
    by_cases e : k = n + 1
    · subst e; rw [List.take_of_length_le (by rw [startsTo_len]; exact Nat.le_refl _)]
    · rw [startsTo, List.take_append_of_le_length (by omega)]
      exact startsTo_take m ss co n k (by omega)
theorem startsTo_get {m : Int} {ss : List Stp} {co : List Int} {n k j : Nat} (hk : k ≤ n) (hj : j < k) : (startsTo m ss co n).getD j 0 = (startsTo m ss co k).getD j 0 := by
  rw [← startsTo_take m ss co n k hk]
  simp [List.getD, hj]
theorem starts_at {m : Int} {ss : List Stp} {co : List Int} {n k : Nat} (hk : k < n) {x : Stp} (hx : ss[k]? = some x) (hlt : x.a < m + k ∧ x.b < m + k) : (startsTo m ss co n).getD k 0 = rdyF (sumE (startsTo m ss co n) co) m [x.a, x.b] := by
  have hl := startsTo_len m ss co k
  rw [startsTo_get (k := k + 1) (by omega) (by omega), startsTo]
  have e : ss.getD k ⟨0, 0⟩ = x := by simp [List.getD, hx]
  rw [e]
  have : ∀ (l : List Int) (y : Int), l.length = k → (l ++ [y]).getD k 0 = y := fun l y h => by simp [List.getD, ← h]
  rw [this _ _ hl]
  refine rdyF_congr fun y hy hm => ?_
  have hyk : y < m + k := by
    rcases List.mem_cons.1 hy with rfl | hy
    · exact hlt.1
    · simp at hy; subst hy; exact hlt.2
  simp only [sumE]
  rw [startsTo_get (n := n) (k := k) (by omega) (by omega)]
theorem starts_in {m : Int} {ss : List Stp} {co : List Int} {n : Nat} (hm : 0 ≤ m) (hn : n ≤ ss.length) (hlt : ∀ (k : Nat) x, ss[k]? = some x → x.a < m + k ∧ x.b < m + k) (hc : ∀ j, j < n → 1 ≤ co.getD j 0 ∧ co.getD j 0 ≤ 1000000000) :
    ∀ k, k ≤ n → ∀ j, j < k → 0 ≤ (startsTo m ss co n).getD j 0 ∧ (startsTo m ss co n).getD j 0 ≤ 1000000000 * j
  | 0, _, j, hj => by omega
  | k + 1, hk, j, hj => by
    have ih := starts_in hm hn hlt hc k (by omega)
    by_cases e : j = k
    · subst e
      have hx := List.getElem?_eq_getElem (l := ss) (i := j) (by omega)
      rw [starts_at (by omega) hx (hlt j _ hx)]
      refine rdyF_le (by omega) fun y hy hmy => ?_
      have hyk : y < m + j := by
        have := hlt j _ hx
        rcases List.mem_cons.1 hy with rfl | hy
        · exact this.1
        · simp at hy; subst hy; exact this.2
      have h1 := ih (y - m).toNat (by omega)
      have h2 := hc (y - m).toNat (by omega)
      simp only [sumE]
      omega
    · exact ih j (by omega)
theorem steps_lt {k p n : Int} {ts : List Ten} {op : List Int} {ss : List Stp} (h : orderL k p n ts op ss) (i : Nat) (x : Stp) (hx : ss[i]? = some x) : x.a < (ts.length : Int) + i ∧ x.b < (ts.length : Int) + i := by
  have hst := stepOk_at h.2.2 hx
  have hal := shTo_all (op := op) (s := sh0 ts) (ss := ss.take i)
  have hi := (List.getElem?_eq_some_iff.1 hx).1
  rw [show (sh0 ts).all.length = ts.length by simp [sh0], List.length_take] at hal
  have h1 := hst.1.2.1
  have h2 := hst.2.1.2.1
  omega
theorem prefix_in {S : List Int} {B : Int} {i m : Nat} (hB : 0 ≤ B) (h : ∀ j, j < i → 0 ≤ S.getD j 0 ∧ S.getD j 0 ≤ B) (j : Nat) : 0 ≤ (S.take i ++ List.replicate m 0).getD j 0 ∧ (S.take i ++ List.replicate m 0).getD j 0 ≤ B := by
  by_cases hj : j < (S.take i).length
  · rw [getD_append_left hj]
    have h1 : j < i := by simp at hj; omega
    have := h j h1
    simpa [List.getD, h1] using this
  · have : (S.take i ++ List.replicate m 0).getD j 0 = 0 := by
      simp only [List.getD]
      rw [List.getElem?_append_right (by omega), List.getElem?_replicate]
      split <;> rfl
    rw [this]; omega
noncomputable def critL (k p n : Int) (ts : List Ten) (op : List Int) (ss : List Stp) : Int :=
  @ite _ (orderL k p n ts op ss) (Classical.propDecidable _) (spanTo (startsTo ts.length ss (costsL (dimOf ts) op (sh0 ts) ss) ss.length) (costsL (dimOf ts) op (sh0 ts) ss) ss.length) (-1)
theorem spanTo_in' {st co : List Int} {B : Int} {n : Nat} (hB : 0 ≤ B) (h : ∀ j, j < n → 0 ≤ st.getD j 0 ∧ st.getD j 0 ≤ B) (h2 : ∀ j, j < n → 1 ≤ co.getD j 0 ∧ co.getD j 0 ≤ 1000000000) : ∀ m, m ≤ n → 0 ≤ spanTo st co m ∧ spanTo st co m ≤ B + 1000000000
  | 0, _ => by simp only [spanTo]; omega
  | m + 1, hm => by
    have := spanTo_in' hB h h2 m (by omega)
    have := h m (by omega)
    have := h2 m (by omega)
    simp only [spanTo]
    omega
set_option maxHeartbeats 1000000 in
theorem ct_s_CriticalTime (k p n : Int) (ts : List Ten) (op : List Int) (ss : List Stp) (vt vo v : Value) (w : World) (r : TensR ts vt (hp w)) (r' : IntsR op vo (hp w)) (rv : StepsR ss v (hp w)) (hs : op.length ≤ 1048576) (hss : ss.length ≤ 1048576) :
    Calls Try.prog 41 [netV k p n vt vo, v].toArray w (RetV w (num (critL k p n ts op ss))) := by
  refine calls_in Try.func41 rfl Try.ntmps41 rfl (Sat.start w) ?_
  have hle0 := r.le
  obtain ⟨cs_r, rr_r, hc_r⟩ := r.at
  have hle1 := r'.le
  have hle2 := rv.le
  obtain ⟨cs_rv, rr_rv, hc_rv⟩ := rv.at
  refine wp_sc ?_
  refine wp_sq ?_
  refine sq_x rfl (x_box rfl rfl) rfl ?_; rintro _ _ ⟨b2, rfl, rfl⟩
  refine sq_v rfl (v_assign rfl) rfl ?_
  refine sq_end ?_
  refine qs_n ?_
  refine wp_sc ?_
  refine wp_sc ?_
  refine wp_sq ?_
  refine sq_v rfl (v_loadNB 0 ty_33 rfl rfl rfl rfl) rfl ?_
  refine sq_v rfl (v_move rfl) rfl ?_
  refine sq_u rfl (x_callv rfl en_77 (fun w s => ct_s_OrderOk _ _ _ _ _ _ _ _ _ w (r.mono (s.get 1 rfl)) (r'.mono (s.get 1 rfl)) (rv.mono (s.get 1 rfl)) (by first | assumption | omega) (by first | assumption | omega))) rfl ?_
  refine sq_v rfl (v_not rfl) rfl ?_
  refine sq_end ?_
  refine qs_n ?_
  refine wp_cn _ rfl (fun c14 => ?_) (fun c14 => ?_)
  · refine wp_sc ?_
    refine wp_sq ?_
    refine sq_v rfl (v_assign rfl) rfl ?_
    refine sq_end ?_
    refine qs_n ?_
    refine wp_rt ?_
    refine qs_r ?_
    exact qs_ret1 rfl rfl (fin_q (i := 1) rfl (by rw [critL, if_neg (orderB_false.1 c14)]))
  · refine wp_sk ?_
    refine qs_n ?_
    refine wp_sc ?_
    refine wp_sq ?_
    refine sq_v rfl (v_loadNB 0 ty_33 rfl rfl rfl rfl) rfl ?_
    refine sq_v rfl (v_move rfl) rfl ?_
    have hord := orderB_true.1 c14; have hnet := hord.1; have h12 := hnet.2.1; have hsl := hord.2.1; obtain ⟨C, hC⟩ : ∃ C, C = costsL (dimOf ts) op (sh0 ts) ss := ⟨_, rfl⟩; have hci := costs_in hord; rw [← hC] at hci; have hcl : C.length = ss.length := (by rw [hC, costsL_len]); have hlt := steps_lt hord; obtain ⟨S, hS⟩ : ∃ S, S = startsTo ts.length ss C ss.length := ⟨_, rfl⟩; have hsi := starts_in (co := C) (n := ss.length) (Int.natCast_nonneg ts.length) (Nat.le_refl _) hlt hci ss.length (Nat.le_refl _); rw [← hS] at hsi; have hSl : S.length = ss.length := (by rw [hS, startsTo_len])
    refine sq_x rfl (x_call rfl en_78 (fun w s => ct_s_l17Run (dimOf ts) _ _ _ _ _ _ _ _ _ w _ (s.get 1 rfl) r (r'.mono (s.get 1 rfl)) (rv.mono (s.get 1 rfl)) (net_dmap hnet) (by first | assumption | omega) (by first | assumption | omega) (sh0_fine (net_axes hnet)) (net_fit hnet) hord.2.2 (by first | assumption | omega))) rfl ?_; rintro _ h18 ⟨bb, vc, g1, g2, rfl, hsp, rc, md⟩
    refine sq_v rfl (v_move rfl) rfl ?_
    refine sq_v rfl (v_extract rfl rfl) rfl ?_
    refine sq_v rfl (v_extract rfl rfl) rfl ?_
    refine sq_v rfl (v_assign rfl) rfl ?_
    refine sq_v rfl (v_assign rfl) rfl ?_
    refine sq_end ?_
    have rc' : IntsR C vc h18 := by rw [hC]; exact rc.toR.mono (md.le g2 (by simp))
    refine qs_n ?_
    refine wp_sc ?_
    refine wp_sq ?_
    refine sq_v rfl (v_move rfl) rfl ?_
    refine sq_v rfl (v_len Try.underlying44 rfl rv.sl) rfl ?_
    refine sq_x rfl (x_makeI Try.underlying25 ty_3 rfl rfl (by first | omega | (simp only [List.length_cons, List.length_nil]; omega) | (simp only [List.length_append, List.length_cons, List.length_nil]; omega) | (rw [List.length_set]; omega) | (rw [List.length_replicate]; omega) | (simp; omega)) (by first | omega | (simp only [List.length_cons, List.length_nil]; omega) | (simp only [List.length_append, List.length_cons, List.length_nil]; omega) | (rw [List.length_set]; omega) | (rw [List.length_replicate]; omega) | (simp; omega)) (by first | omega | (simp only [List.length_cons, List.length_nil]; omega) | (simp only [List.length_append, List.length_cons, List.length_nil]; omega) | (rw [List.length_set]; omega) | (rw [List.length_replicate]; omega) | (simp; omega))) rfl ?_; intro v23 h23 r23
    refine sq_v rfl (v_assign rfl) rfl ?_
    refine sq_end ?_
    refine qs_n ?_
    refine wp_sc ?_
    refine wp_sq ?_
    refine sq_v rfl (v_assign rfl) rfl ?_
    refine sq_end ?_
    refine qs_n ?_
    refine wp_sc ?_
    refine wp_sc ?_
    refine wp_sq ?_
    refine sq_v rfl (v_move rfl) rfl ?_
    refine sq_v rfl (v_len Try.underlying44 rfl rv.sl) rfl ?_
    refine sq_v rfl (v_move rfl) rfl ?_
    refine sq_end ?_
    refine qs_n ?_
    refine wp_bl ?_
    refine wp_lp (σ := Nat × PH × Int) (fun z_ => [(2, .pointer (some ⟨b2, 0, none⟩)), (4, num 0), (6, vc), (7, v23), (8, num z_.2.2), (24, v), (25, num ss.length), (26, num z_.1)]) (fun z_ => [z_.2.1, h18, box b2 [num k, num p, num n, vt, vo] 33, hp w]) (fun z_ => z_.1 ≤ ss.length ∧ z_.2.2 = spanTo S C z_.1 ∧ IntsO (S.take z_.1 ++ List.replicate (S.length - z_.1) 0) v23 z_.2.1) (fun z_ => ss.length - z_.1) (0, h23, 0) (⟨by (try dsimp only); omega, by (try dsimp only); rfl, by (try dsimp only); rw [hSl]; simpa using r23⟩) ⟨rfl, rfl, rfl, rfl, (by first | rfl | exact ksub rfl (by first | omega | (simp; done) | (simp; omega))), rfl, rfl, (by first | rfl | exact ksub rfl (by first | omega | (simp; done) | (simp; omega))), trivial⟩ (fun _ s => s) ?_
    rintro ⟨i, g, e⟩ ⟨hi, he, q⟩
    dsimp only at hi he q ⊢
    have hle_q := q.toR.le
    have hse := spanTo_in' (st := S) (co := C) (B := 12000000000) (by omega) (fun j hj => by have := hsi j hj; omega) hci i hi
    have hAl : (S.take i ++ List.replicate (S.length - i) 0).length = ss.length := by simp; omega
    have hAg : ∀ j : Nat, j < i → (S.take i ++ List.replicate (S.length - i) 0).getD j 0 = S.getD j 0 := fun j hj => by rw [getD_append_left (by simp; omega)]; simp [List.getD, hj]
    have hAb : ∀ j : Nat, j < (S.take i ++ List.replicate (S.length - i) 0).length → 0 ≤ (S.take i ++ List.replicate (S.length - i) 0).getD j 0 ∧ (S.take i ++ List.replicate (S.length - i) 0).getD j 0 ≤ 10000000000000 := fun j hj => prefix_in (B := 10000000000000) (by omega) (fun j hj => by have := hsi j (by omega); omega) j
    refine wp_sc ?_
    refine wp_sq ?_
    refine sq_v rfl (v_lss rfl rfl) rfl ?_
    refine sq_end ?_
    refine qs_n ?_
    refine wp_sc ?_
    refine wp_cd rfl (fun c27 => ?_) (fun c27 => ?_)
    · refine wp_sk ?_
      refine qs_n ?_
      refine wp_sc ?_
      refine wp_bl ?_
      refine wp_sc ?_
      refine wp_sq ?_
      refine sq_v rfl (v_move rfl) rfl ?_
      obtain ⟨x29, hx29, hcs29⟩ := hc_rv (i) (by first | omega | (rw [List.length_set]; omega))
      refine sq_v rfl (v_indexAddr Try.underlying44 ty_107 rfl rfl rr_rv (by decide) (by omega) (by first | omega | (rw [List.length_set]; omega))) rfl ?_
      refine sq_v rfl (v_loadNE 3 ty_107 rfl rfl rr_rv (by have := rr_rv.1; omega) rfl hcs29) rfl ?_
      refine sq_x rfl (x_alloc ty_107 rfl) rfl ?_; rintro _ _ ⟨b10, rfl, rfl⟩
      refine sq_v rfl (v_assign rfl) rfl ?_
      refine sq_m 0 rfl rfl (m_store 0 ty_107 rfl rfl rfl rfl (by simp [Value.oneCell']) rfl (Nat.le_of_ble_eq_true rfl)) rfl ?_; rintro _ _ ⟨rfl, rfl⟩
      refine sq_end ?_
      have hab := hlt i x29 hx29
      refine qs_n ?_
      refine wp_sc ?_
      refine wp_sq ?_
      refine sq_v rfl (v_move rfl) rfl ?_
      refine sq_v rfl (v_move rfl) rfl ?_
      refine sq_v rfl (v_fieldAddr fd_33_1 ty_31 (by decide) rfl) rfl ?_
      refine sq_v rfl (v_loadB 3 ty_31 rfl rfl rfl) rfl ?_
      refine sq_v rfl (v_len Try.underlying31 rfl r.sl) rfl ?_
      refine sq_v rfl (v_loadNB 0 ty_107 rfl rfl rfl rfl) rfl ?_
      refine sq_v rfl (v_move rfl) rfl ?_
      refine sq_v rfl (v_move rfl) rfl ?_
      refine sq_u rfl (x_callv rfl en_93 (fun w s => ct_s_l26Ready _ _ _ _ _ _ _ w (q.toR.mono (s.get 1 rfl)) (rc'.mono (s.get 2 rfl)) (by first | assumption | omega) (by omega) (by omega) (by omega) hAb (fun j hj => by have := hci j (by omega); omega))) rfl ?_
      refine sq_v rfl (v_idxI Try.underlying25 ty_3 rfl rfl q.toR (by first | omega | (simp only [List.length_cons, List.length_nil]; omega) | (simp only [List.length_append, List.length_cons, List.length_nil]; omega) | (rw [List.length_set]; omega) | (rw [List.length_replicate]; omega) | (simp; omega)) (by first | omega | (simp only [List.length_cons, List.length_nil]; omega) | (simp only [List.length_append, List.length_cons, List.length_nil]; omega) | (rw [List.length_set]; omega) | (rw [List.length_replicate]; omega) | (simp; omega))) rfl ?_
      refine sq_m 1 rfl rfl (m_storeI (k := i) 1 ty_3 rfl rfl rfl q (by first | omega | (simp only [List.length_cons, List.length_nil]; omega) | (simp only [List.length_append, List.length_cons, List.length_nil]; omega) | (rw [List.length_set]; omega) | (rw [List.length_replicate]; omega) | (simp; omega))) rfl ?_; rintro _ h_q9_10 ⟨rfl, q9_10⟩
      refine sq_end ?_
      have hSi : rdyF (sumE (S.take i ++ List.replicate (S.length - i) 0) C) ts.length [x29.a, x29.b] = S.getD i 0 := by
        rw [hS, starts_at (by omega) hx29 hab, ← hS]
        refine rdyF_congr fun y hy hmy => ?_
        have hyk : y < (ts.length : Int) + i := by
          rcases List.mem_cons.1 hy with rfl | hy
          · exact hab.1
          · simp at hy; subst hy; exact hab.2
        simp only [sumE]
        rw [hAg _ (by omega)]
      have hci' := hci i (by omega)
      have hsi' := hsi i (by omega)
      rw [hSi] at q9_10
      have hg : ((S.take i ++ List.replicate (S.length - i) 0).set i (S.getD i 0)).getD i 0 = S.getD i 0 := by simp only [List.getD]; rw [List.getElem?_set_self (by omega)]; rfl
      refine qs_n ?_
      refine wp_rj 12 [(0, true), (1, true), (2, true), (3, true), (4, true), (5, true), (6, true), (7, true), (8, true), (9, true), (10, true), (11, true)] mixed_ok (by kernel_rfl) ?_
      refine rj_v rfl rfl (v_move rfl) rfl ?_
      refine rj_v rfl rfl (v_move rfl) rfl ?_
      refine rj_v rfl rfl (v_move rfl) rfl ?_
      refine rj_v rfl rfl (v_idxI Try.underlying25 ty_3 rfl rfl q9_10.toR (by first | omega | (simp only [List.length_cons, List.length_nil]; omega) | (simp only [List.length_append, List.length_cons, List.length_nil]; omega) | (rw [List.length_set]; omega) | (rw [List.length_replicate]; omega) | (simp; omega)) (by first | omega | (simp only [List.length_cons, List.length_nil]; omega) | (simp only [List.length_append, List.length_cons, List.length_nil]; omega) | (rw [List.length_set]; omega) | (rw [List.length_replicate]; omega) | (simp; omega))) rfl ?_
      refine rj_v rfl rfl (v_loadI (k := i) 1 ty_3 rfl rfl q9_10.toR (by first | omega | (simp only [List.length_cons, List.length_nil]; omega) | (simp only [List.length_append, List.length_cons, List.length_nil]; omega) | (rw [List.length_set]; omega) | (rw [List.length_replicate]; omega) | (simp; omega))) rfl ?_
      refine rj_v rfl rfl (v_move rfl) rfl ?_
      refine rj_v rfl rfl (v_move rfl) rfl ?_
      refine rj_v rfl rfl (v_idxI Try.underlying25 ty_3 rfl rfl rc' (by first | omega | (simp only [List.length_cons, List.length_nil]; omega) | (simp only [List.length_append, List.length_cons, List.length_nil]; omega) | (rw [List.length_set]; omega) | (rw [List.length_replicate]; omega) | (simp; omega)) (by first | omega | (simp only [List.length_cons, List.length_nil]; omega) | (simp only [List.length_append, List.length_cons, List.length_nil]; omega) | (rw [List.length_set]; omega) | (rw [List.length_replicate]; omega) | (simp; omega))) rfl ?_
      refine rj_v rfl rfl (v_loadI (k := i) 2 ty_3 rfl rfl rc' (by first | omega | (simp only [List.length_cons, List.length_nil]; omega) | (simp only [List.length_append, List.length_cons, List.length_nil]; omega) | (rw [List.length_set]; omega) | (rw [List.length_replicate]; omega) | (simp; omega))) rfl ?_
      refine rj_v rfl rfl (v_add rfl rfl ((by unfold I64; omega))) rfl ?_
      refine rj_v rfl rfl (v_max rfl rfl) rfl ?_
      refine rj_v rfl rfl (v_assign rfl) rfl ?_
      refine rj_end ?_
      refine qs_bn ?_
      refine qs_n ?_
      refine wp_sq ?_
      refine sq_v rfl (v_add rfl rfl ((by unfold I64; omega))) rfl ?_
      refine sq_v rfl (v_move rfl) rfl ?_
      refine sq_end ?_
      exact qs_bk (i + 1, h_q9_10, max e (((S.take i ++ List.replicate (S.length - i) 0).set i (S.getD i 0)).getD i 0 + C.getD i 0)) ⟨by (try dsimp only); omega, by (try dsimp only); rw [he, hg]; rfl, by (try dsimp only); rw [← set_prefix (by omega)]; exact q9_10⟩ (by simp only; omega) ⟨rfl, rfl, rfl, rfl, (by first | rfl | exact ksub rfl (by first | omega | (simp; done) | (simp; omega))), rfl, rfl, (by first | rfl | exact ksub rfl (by first | omega | (simp; done) | (simp; omega))), trivial⟩ (fun _ s => s.pick [1, 2, 3, 4] (by decide) rfl)
    · refine wp_ex ?_
      refine qs_x ?_
      refine qs_x ?_
      refine qs_bx ?_
      refine qs_n ?_
      refine wp_sc ?_
      refine wp_sq ?_
      refine sq_v rfl (v_move rfl) rfl ?_
      refine sq_v rfl (v_assign rfl) rfl ?_
      refine sq_end ?_
      refine qs_n ?_
      refine wp_rt ?_
      exact qs_ret1 rfl rfl (fin_q (i := 3) rfl (by rw [critL, if_pos hord, ← hC, ← hS, he, show ss.length = i by omega]))
theorem mixT_get {S C : List Int} {i j : Nat} (h : j < i) (hi : i ≤ S.length) : (mixL ((List.range S.length).map fun j => S.getD j 0 + C.getD j 0) C i).getD j 0 = S.getD j 0 + C.getD j 0 := by
  unfold mixL
  rw [getD_append_left (by simp; omega)]
  have : j < S.length := by omega
  simp [List.getD, h, this]
set_option maxHeartbeats 1000000 in
theorem ct_i_CriticalTime (k p n : Int) (ts : List Ten) (op : List Int) (ss : List Stp) (vt vo v : Value) (w : World) (r : TensR ts vt (hp w)) (r' : IntsR op vo (hp w)) (rv : StepsR ss v (hp w)) (hs : op.length ≤ 1048576) :
    Calls Try.prog 42 [netV k p n vt vo, v].toArray w (RetV w (num (critL k p n ts op ss))) := by
  refine calls_in Try.func42 rfl Try.ntmps42 rfl (Sat.start w) ?_
  have hle0 := r.le
  obtain ⟨cs_r, rr_r, hc_r⟩ := r.at
  have hle1 := r'.le
  have hle2 := rv.le
  obtain ⟨cs_rv, rr_rv, hc_rv⟩ := rv.at
  refine wp_sc ?_
  refine wp_sq ?_
  refine sq_x rfl (x_box rfl rfl) rfl ?_; rintro _ _ ⟨b2, rfl, rfl⟩
  refine sq_v rfl (v_assign rfl) rfl ?_
  refine sq_end ?_
  refine qs_n ?_
  refine wp_sc ?_
  refine wp_sc ?_
  refine wp_sq ?_
  refine sq_v rfl (v_loadNB 0 ty_33 rfl rfl rfl rfl) rfl ?_
  refine sq_v rfl (v_move rfl) rfl ?_
  refine sq_u rfl (x_callv rfl en_81 (fun w s => ct_i_OrderOk _ _ _ _ _ _ _ _ _ w (r.mono (s.get 1 rfl)) (r'.mono (s.get 1 rfl)) (rv.mono (s.get 1 rfl)) (by first | assumption | omega))) rfl ?_
  refine sq_v rfl (v_not rfl) rfl ?_
  refine sq_end ?_
  refine qs_n ?_
  refine wp_cn _ rfl (fun c16 => ?_) (fun c16 => ?_)
  · refine wp_sc ?_
    refine wp_sq ?_
    refine sq_v rfl (v_assign rfl) rfl ?_
    refine sq_end ?_
    refine qs_n ?_
    refine wp_rt ?_
    refine qs_r ?_
    exact qs_ret1 rfl rfl (fin_q (i := 1) rfl (by rw [critL, if_neg (orderB_false.1 c16)]))
  · refine wp_sk ?_
    refine qs_n ?_
    refine wp_sc ?_
    refine wp_sq ?_
    refine sq_v rfl (v_fieldAddr fd_33_1 ty_31 (by decide) rfl) rfl ?_
    refine sq_v rfl (v_loadB 0 ty_31 rfl rfl rfl) rfl ?_
    refine sq_v rfl (v_len Try.underlying31 rfl r.sl) rfl ?_
    refine sq_v rfl (v_assign rfl) rfl ?_
    refine sq_end ?_
    refine qs_n ?_
    refine wp_sc ?_
    refine wp_sq ?_
    refine sq_v rfl (v_assign rfl) rfl ?_
    refine sq_end ?_
    refine qs_n ?_
    refine wp_sc ?_
    refine wp_sq ?_
    refine sq_v rfl (v_loadNB 0 ty_33 rfl rfl rfl rfl) rfl ?_
    refine sq_v rfl (v_move rfl) rfl ?_
    refine sq_x rfl (x_call rfl en_44 (fun w s => ct_i_OrderCosts _ _ _ _ _ _ _ _ _ w (r.mono (s.get 1 rfl)) (r'.mono (s.get 1 rfl)) (rv.mono (s.get 1 rfl)) (by first | assumption | omega))) rfl ?_; rintro v22 h22 r22
    refine sq_v rfl (v_assign rfl) rfl ?_
    refine sq_end ?_
    have hord := orderB_true.1 c16
    have hnet := hord.1
    have h12 := hnet.2.1
    have hsl := hord.2.1
    obtain ⟨C, hC⟩ : ∃ C, C = costsL (dimOf ts) op (sh0 ts) ss := ⟨_, rfl⟩
    have hci := costs_in hord
    rw [← hC] at hci
    have hcl : C.length = ss.length := by rw [hC, costsL_len]
    have hlt := steps_lt hord
    obtain ⟨S, hS⟩ : ∃ S, S = startsTo ts.length ss C ss.length := ⟨_, rfl⟩
    have hsi := starts_in (co := C) (n := ss.length) (Int.natCast_nonneg ts.length) (Nat.le_refl _) hlt hci ss.length (Nat.le_refl _)
    rw [← hS] at hsi
    have hSl : S.length = ss.length := by rw [hS, startsTo_len]
    rw [ord_eq hord, ← hC] at r22
    obtain ⟨T, hT⟩ : ∃ T, T = (List.range S.length).map fun j => S.getD j 0 + C.getD j 0 := ⟨_, rfl⟩
    have hTl : T.length = ss.length := by rw [hT]; simp [hSl]
    have hTg : ∀ j, j < ss.length → T.getD j 0 = S.getD j 0 + C.getD j 0 := fun j hj => by rw [hT]; simp [List.getD, show j < S.length by omega]
    refine qs_n ?_
    refine wp_sc ?_
    refine wp_sc ?_
    refine wp_sq ?_
    refine sq_v rfl (v_move rfl) rfl ?_
    refine sq_v rfl (v_len Try.underlying44 rfl rv.sl) rfl ?_
    refine sq_v rfl (v_move rfl) rfl ?_
    refine sq_end ?_
    refine qs_n ?_
    refine wp_bl ?_
    refine wp_lp (σ := Nat × PH × Int) (fun z_ => [(4, num 0), (5, num ts.length), (6, num z_.2.2), (7, v22), (23, v), (24, num ss.length), (25, num z_.1)]) (fun z_ => [z_.2.1, box b2 [num k, num p, num n, vt, vo] 33, hp w]) (fun z_ => z_.1 ≤ ss.length ∧ z_.2.2 = spanTo S C z_.1 ∧ IntsO (mixL T C z_.1) v22 z_.2.1) (fun z_ => ss.length - z_.1) (0, h22, 0) (⟨by (try dsimp only); omega, by (try dsimp only); rfl, by (try dsimp only); rw [mix_zero]; exact r22⟩) ⟨rfl, rfl, (by first | rfl | exact ksub rfl (by first | omega | (simp; done) | (simp; omega))), rfl, rfl, rfl, (by first | rfl | exact ksub rfl (by first | omega | (simp; done) | (simp; omega))), trivial⟩ (fun _ s => s) ?_
    rintro ⟨i, g, e⟩ ⟨hi, he, q⟩
    dsimp only at hi he q ⊢
    have hle_q := q.toR.le
    have hse := spanTo_in' (st := S) (co := C) (B := 12000000000) (by omega) (fun j hj => by have := hsi j hj; omega) hci i hi
    have hml := mix_len (A := T) (B := C) (k := i) (by omega) (by omega)
    have hmg : ∀ j, j < i → (mixL T C i).getD j 0 = S.getD j 0 + C.getD j 0 := fun j hj => by rw [hT]; exact mixT_get hj (by omega)
    have hmi := mix_get (A := T) (B := C) (k := i) (by omega) (Nat.le_refl i)
    refine wp_sc ?_
    refine wp_sq ?_
    refine sq_v rfl (v_lss rfl rfl) rfl ?_
    refine sq_end ?_
    refine qs_n ?_
    refine wp_sc ?_
    refine wp_cd rfl (fun c26 => ?_) (fun c26 => ?_)
    · refine wp_sk ?_
      refine qs_n ?_
      refine wp_sc ?_
      refine wp_bl ?_
      refine wp_sc ?_
      refine wp_sq ?_
      refine sq_v rfl (v_move rfl) rfl ?_
      obtain ⟨x28, hx28, hcs28⟩ := hc_rv (i) (by first | omega | (rw [List.length_set]; omega))
      refine sq_v rfl (v_indexAddr Try.underlying44 ty_107 rfl rfl rr_rv (by decide) (by omega) (by first | omega | (rw [List.length_set]; omega))) rfl ?_
      refine sq_v rfl (v_loadNE 2 ty_107 rfl rfl rr_rv (by have := rr_rv.1; omega) rfl hcs28) rfl ?_
      refine sq_x rfl (x_alloc ty_107 rfl) rfl ?_; rintro _ _ ⟨b9, rfl, rfl⟩
      refine sq_v rfl (v_assign rfl) rfl ?_
      refine sq_m 0 rfl rfl (m_store 0 ty_107 rfl rfl rfl rfl (by simp [Value.oneCell']) rfl (Nat.le_of_ble_eq_true rfl)) rfl ?_; rintro _ _ ⟨rfl, rfl⟩
      refine sq_end ?_
      have hab := hlt i x28 hx28
      have hci' := hci i (by omega)
      have hsi' := hsi i (by omega)
      refine qs_n ?_
      refine wp_sc ?_
      refine wp_sq ?_
      refine sq_v rfl (v_assign rfl) rfl ?_
      refine sq_end ?_
      refine qs_n ?_
      refine wp_sc ?_
      refine wp_sc ?_
      refine wp_sq ?_
      refine sq_v rfl (v_fieldAddr fd_107_0 ty_3 (by decide) rfl) rfl ?_
      refine sq_v rfl (v_loadB 0 ty_3 rfl rfl rfl) rfl ?_
      refine sq_v rfl (v_fieldAddr fd_107_1 ty_3 (by decide) rfl) rfl ?_
      refine sq_v rfl (v_loadB 0 ty_3 rfl rfl rfl) rfl ?_
      refine sq_x rfl (x_buildS [num (x28.a), num (x28.b)] Try.underlying25 ty_3 (by decide) rfl rfl rfl (by decide) (by decide) (by intro v hv; simp at hv; rcases hv with rfl | rfl <;> rfl)) rfl ?_; intro v34 h34 (r34 : IntsO [x28.a, x28.b] v34 h34)
      refine sq_v rfl (v_len Try.underlying25 rfl r34.toR.sl) rfl ?_
      refine sq_v rfl (v_move rfl) rfl ?_
      refine sq_end ?_
      refine qs_n ?_
      refine wp_bl ?_
      refine wp_lp (σ := Nat × Int) (fun z_ => [(4, num 0), (5, num ts.length), (6, num e), (7, v22), (8, num i), (9, .pointer (some ⟨b9, 0, none⟩)), (10, num z_.2), (23, v), (24, num ss.length), (25, num i), (26, .bool (decide ((i : Int) < ss.length))), (27, num i), (29, .agg [num x28.a, num x28.b].toArray), (30, .pointer (some ⟨b9, 0, none⟩)), (31, num x28.a), (32, .pointer (some ⟨b9, 1, none⟩)), (33, num x28.b), (34, v34), (35, num [x28.a, x28.b].length), (36, num z_.1)]) (fun z_ => [h34, box b9 [num x28.a, num x28.b] 107, g, box b2 [num k, num p, num n, vt, vo] 33, hp w]) (fun z_ => z_.1 ≤ 2 ∧ z_.2 = rdyF (sumE S C) ts.length (([x28.a, x28.b] : List Int).take z_.1)) (fun z_ => 2 - z_.1) (0, 0) (⟨by (try dsimp only); omega, by (try dsimp only); rfl⟩) ⟨rfl, rfl, rfl, rfl, rfl, rfl, (by first | rfl | exact ksub rfl (by first | omega | (simp; done) | (simp; omega))), rfl, rfl, rfl, rfl, rfl, rfl, rfl, rfl, rfl, rfl, rfl, rfl, (by first | rfl | exact ksub rfl (by first | omega | (simp; done) | (simp; omega))), trivial⟩ (fun _ s => s) ?_
      rintro ⟨j, b⟩ ⟨hj, hb⟩
      dsimp only at hj hb ⊢
      have hl2 : ([x28.a, x28.b] : List Int).length = 2 := rfl
      refine wp_sc ?_
      refine wp_sq ?_
      refine sq_v rfl (v_lss rfl rfl) rfl ?_
      refine sq_end ?_
      refine qs_n ?_
      refine wp_sc ?_
      refine wp_cd rfl (fun c37 => ?_) (fun c37 => ?_)
      · refine wp_sk ?_
        refine qs_n ?_
        refine wp_sc ?_
        refine wp_bl ?_
        refine wp_sc ?_
        refine wp_sq ?_
        refine sq_v rfl (v_idxI Try.underlying25 ty_3 rfl rfl r34.toR (by first | omega | (simp only [List.length_cons, List.length_nil]; omega) | (simp only [List.length_append, List.length_cons, List.length_nil]; omega) | (rw [List.length_set]; omega) | (rw [List.length_replicate]; omega) | (simp; omega)) (by first | omega | (simp only [List.length_cons, List.length_nil]; omega) | (simp only [List.length_append, List.length_cons, List.length_nil]; omega) | (rw [List.length_set]; omega) | (rw [List.length_replicate]; omega) | (simp; omega))) rfl ?_
        refine sq_v rfl (v_loadI (k := j) 0 ty_3 rfl rfl r34.toR (by first | omega | (simp only [List.length_cons, List.length_nil]; omega) | (simp only [List.length_append, List.length_cons, List.length_nil]; omega) | (rw [List.length_set]; omega) | (rw [List.length_replicate]; omega) | (simp; omega))) rfl ?_
        refine sq_v rfl (v_assign rfl) rfl ?_
        refine sq_end ?_
        have hy : ([x28.a, x28.b] : List Int).getD j 0 - ts.length < i := by rcases (show j = 0 ∨ j = 1 by omega) with rfl | rfl <;> simp <;> omega
        refine qs_n ?_
        refine wp_sc ?_
        refine wp_sq ?_
        refine sq_v rfl (v_move rfl) rfl ?_
        refine sq_v rfl (v_move rfl) rfl ?_
        refine sq_v rfl (v_geq rfl rfl) rfl ?_
        refine sq_end ?_
        refine qs_n ?_
        refine wp_cd rfl (fun c42 => ?_) (fun c42 => ?_)
        · refine wp_sq ?_
          refine sq_v rfl (v_move rfl) rfl ?_
          refine sq_v rfl (v_move rfl) rfl ?_
          refine sq_v rfl (v_move rfl) rfl ?_
          refine sq_v rfl (v_move rfl) rfl ?_
          refine sq_v rfl (v_sub rfl rfl ((by unfold I64; omega))) rfl ?_
          refine sq_v rfl (v_idxI Try.underlying25 ty_3 rfl rfl q.toR (by first | omega | (simp only [List.length_cons, List.length_nil]; omega) | (simp only [List.length_append, List.length_cons, List.length_nil]; omega) | (rw [List.length_set]; omega) | (rw [List.length_replicate]; omega) | (simp; omega)) (by first | omega | (simp only [List.length_cons, List.length_nil]; omega) | (simp only [List.length_append, List.length_cons, List.length_nil]; omega) | (rw [List.length_set]; omega) | (rw [List.length_replicate]; omega) | (simp; omega))) rfl ?_
          refine sq_v rfl (v_loadI  2 ty_3 rfl rfl q.toR (by first | omega | (simp only [List.length_cons, List.length_nil]; omega) | (simp only [List.length_append, List.length_cons, List.length_nil]; omega) | (rw [List.length_set]; omega) | (rw [List.length_replicate]; omega) | (simp; omega))) rfl ?_
          refine sq_v rfl (v_max rfl rfl) rfl ?_
          refine sq_v rfl (v_assign rfl) rfl ?_
          refine sq_end ?_
          refine qs_bn ?_
          refine qs_n ?_
          refine wp_sq ?_
          refine sq_v rfl (v_add rfl rfl ((by unfold I64; omega))) rfl ?_
          refine sq_v rfl (v_move rfl) rfl ?_
          refine sq_end ?_
          exact qs_bk (j + 1, max b ((mixL T C i).getD (([x28.a, x28.b] : List Int).getD j 0 - ts.length).toNat 0)) ⟨by (try dsimp only); omega, by (try dsimp only); rw [rdyF_yes (by omega) c42, ← hb, hmg _ (by omega)]; rfl⟩ (by simp only; omega) ⟨rfl, rfl, rfl, rfl, rfl, rfl, (by first | rfl | exact ksub rfl (by first | omega | (simp; done) | (simp; omega))), rfl, rfl, rfl, rfl, rfl, rfl, rfl, rfl, rfl, rfl, rfl, rfl, (by first | rfl | exact ksub rfl (by first | omega | (simp; done) | (simp; omega))), trivial⟩ (fun _ s => s)
        · refine wp_sk ?_
          refine qs_bn ?_
          refine qs_n ?_
          refine wp_sq ?_
          refine sq_v rfl (v_add rfl rfl ((by unfold I64; omega))) rfl ?_
          refine sq_v rfl (v_move rfl) rfl ?_
          refine sq_end ?_
          exact qs_bk (j + 1, b) ⟨by (try dsimp only); omega, by (try dsimp only); rw [rdyF_no (by omega) c42]; exact hb⟩ (by simp only; omega) ⟨rfl, rfl, rfl, rfl, rfl, rfl, (by first | rfl | exact ksub rfl (by first | omega | (simp; done) | (simp; omega))), rfl, rfl, rfl, rfl, rfl, rfl, rfl, rfl, rfl, rfl, rfl, rfl, (by first | rfl | exact ksub rfl (by first | omega | (simp; done) | (simp; omega))), trivial⟩ (fun _ s => s)
      · refine wp_ex ?_
        refine qs_x ?_
        refine qs_x ?_
        refine qs_bx ?_
        refine qs_n ?_
        refine wp_sc ?_
        refine wp_sq ?_
        have hbS : b = S.getD i 0 := (by rw [hb, show j = 2 by omega, hS, starts_at (by omega) hx28 hab, ← hS]; rfl)
        refine sq_v rfl (v_move rfl) rfl ?_
        refine sq_v rfl (v_move rfl) rfl ?_
        refine sq_v rfl (v_idxI Try.underlying25 ty_3 rfl rfl q.toR (by first | omega | (simp only [List.length_cons, List.length_nil]; omega) | (simp only [List.length_append, List.length_cons, List.length_nil]; omega) | (rw [List.length_set]; omega) | (rw [List.length_replicate]; omega) | (simp; omega)) (by first | omega | (simp only [List.length_cons, List.length_nil]; omega) | (simp only [List.length_append, List.length_cons, List.length_nil]; omega) | (rw [List.length_set]; omega) | (rw [List.length_replicate]; omega) | (simp; omega))) rfl ?_
        refine sq_v rfl (v_loadI (k := i) 2 ty_3 rfl rfl q.toR (by first | omega | (simp only [List.length_cons, List.length_nil]; omega) | (simp only [List.length_append, List.length_cons, List.length_nil]; omega) | (rw [List.length_set]; omega) | (rw [List.length_replicate]; omega) | (simp; omega))) rfl ?_
        refine sq_v rfl (v_move rfl) rfl ?_
        refine sq_v rfl (v_add rfl rfl ((by rw [hmi]; unfold I64; omega))) rfl ?_
        refine sq_v rfl (v_idxI Try.underlying25 ty_3 rfl rfl q.toR (by first | omega | (simp only [List.length_cons, List.length_nil]; omega) | (simp only [List.length_append, List.length_cons, List.length_nil]; omega) | (rw [List.length_set]; omega) | (rw [List.length_replicate]; omega) | (simp; omega)) (by first | omega | (simp only [List.length_cons, List.length_nil]; omega) | (simp only [List.length_append, List.length_cons, List.length_nil]; omega) | (rw [List.length_set]; omega) | (rw [List.length_replicate]; omega) | (simp; omega))) rfl ?_
        refine sq_m 2 rfl rfl (m_storeI (k := i) 2 ty_3 rfl rfl rfl q (by first | omega | (simp only [List.length_cons, List.length_nil]; omega) | (simp only [List.length_append, List.length_cons, List.length_nil]; omega) | (rw [List.length_set]; omega) | (rw [List.length_replicate]; omega) | (simp; omega))) rfl ?_; rintro _ h_q16_7 ⟨rfl, q16_7⟩
        refine sq_end ?_
        rw [hmi, hbS, show C.getD i 0 + S.getD i 0 = T.getD i 0 by rw [hTg i (by omega)]; omega, mix_set (by omega) (by omega)] at q16_7
        have hml' := mix_len (A := T) (B := C) (k := i + 1) (by omega) (by omega)
        have hg' : (mixL T C (i + 1)).getD i 0 = S.getD i 0 + C.getD i 0 := by rw [hT]; exact mixT_get (by omega) (by omega)
        refine qs_n ?_
        refine wp_sq ?_
        refine sq_v rfl (v_move rfl) rfl ?_
        refine sq_v rfl (v_move rfl) rfl ?_
        refine sq_v rfl (v_move rfl) rfl ?_
        refine sq_v rfl (v_idxI Try.underlying25 ty_3 rfl rfl q16_7.toR (by first | omega | (simp only [List.length_cons, List.length_nil]; omega) | (simp only [List.length_append, List.length_cons, List.length_nil]; omega) | (rw [List.length_set]; omega) | (rw [List.length_replicate]; omega) | (simp; omega)) (by first | omega | (simp only [List.length_cons, List.length_nil]; omega) | (simp only [List.length_append, List.length_cons, List.length_nil]; omega) | (rw [List.length_set]; omega) | (rw [List.length_replicate]; omega) | (simp; omega))) rfl ?_
        refine sq_v rfl (v_loadI (k := i) 2 ty_3 rfl rfl q16_7.toR (by first | omega | (simp only [List.length_cons, List.length_nil]; omega) | (simp only [List.length_append, List.length_cons, List.length_nil]; omega) | (rw [List.length_set]; omega) | (rw [List.length_replicate]; omega) | (simp; omega))) rfl ?_
        refine sq_v rfl (v_max rfl rfl) rfl ?_
        refine sq_v rfl (v_assign rfl) rfl ?_
        refine sq_end ?_
        refine qs_bn ?_
        refine qs_n ?_
        refine wp_sq ?_
        refine sq_v rfl (v_add rfl rfl ((by unfold I64; omega))) rfl ?_
        refine sq_v rfl (v_move rfl) rfl ?_
        refine sq_end ?_
        exact qs_bk (i + 1, h_q16_7, max e ((mixL T C (i + 1)).getD i 0)) ⟨by (try dsimp only); omega, by (try dsimp only); rw [he, hg']; rfl, by (try dsimp only); exact q16_7⟩ (by simp only; omega) ⟨rfl, rfl, (by first | rfl | exact ksub rfl (by first | omega | (simp; done) | (simp; omega))), rfl, rfl, rfl, (by first | rfl | exact ksub rfl (by first | omega | (simp; done) | (simp; omega))), trivial⟩ (fun _ s => s.pick [2, 3, 4] (by decide) rfl)
    · refine wp_ex ?_
      refine qs_x ?_
      refine qs_x ?_
      refine qs_bx ?_
      refine qs_n ?_
      refine wp_sc ?_
      refine wp_sq ?_
      refine sq_v rfl (v_move rfl) rfl ?_
      refine sq_v rfl (v_assign rfl) rfl ?_
      refine sq_end ?_
      refine qs_n ?_
      refine wp_rt ?_
      exact qs_ret1 rfl rfl (fin_q (i := 2) rfl (by rw [critL, if_pos hord, ← hC, ← hS, he, show ss.length = i by omega]))
/-! ### schedules -/
def runTo (st co : List Int) (k : Nat) : Nat → Int
  | 0 => 0
  | i + 1 => runTo st co k i + if st.getD i 0 ≤ st.getD k 0 ∧ st.getD k 0 < st.getD i 0 + co.getD i 0 then 1 else 0
theorem runTo_in (st co : List Int) (k : Nat) : ∀ i, 0 ≤ runTo st co k i ∧ runTo st co k i ≤ i
  | 0 => by simp [runTo]
  | i + 1 => by
    have := runTo_in st co k i
    simp only [runTo]
    split <;> omega
def schedAt (m : Int) (ss : List Stp) (st co : List Int) (wk : Int) (k : Nat) : Prop := ∀ x, ss[k]? = some x → runTo st co k ss.length ≤ wk ∧ rdyF (sumE st co) m [x.a, x.b] ≤ st.getD k 0
def schedL (k p n : Int) (ts : List Ten) (op : List Int) (ss : List Stp) (wk : Int) (st : List Int) : Prop :=
  orderL k p n ts op ss ∧ (1 ≤ wk ∧ wk ≤ 8) ∧ timesL st ss.length ∧ ∀ j, j < ss.length → schedAt ts.length ss st (costsL (dimOf ts) op (sh0 ts) ss) wk j
open Classical in
noncomputable def schedB (k p n : Int) (ts : List Ten) (op : List Int) (ss : List Stp) (wk : Int) (st : List Int) : Bool := decide (schedL k p n ts op ss wk st)
theorem schedB_no {k p n wk : Int} {ts : List Ten} {op st : List Int} {ss : List Stp} (h : ¬ schedL k p n ts op ss wk st) : Value.bool false = .bool (schedB k p n ts op ss wk st) := by simp [schedB, h]
theorem schedB_yes {k p n wk : Int} {ts : List Ten} {op st : List Int} {ss : List Stp} (h : schedL k p n ts op ss wk st) : Value.bool true = .bool (schedB k p n ts op ss wk st) := by simp [schedB, h]
set_option maxHeartbeats 1000000 in
theorem ct_s_ScheduleOk (k p n wk : Int) (ts : List Ten) (op : List Int) (ss : List Stp) (st : List Int) (vt vo v u : Value) (w : World) (r : TensR ts vt (hp w)) (r' : IntsR op vo (hp w)) (rv : StepsR ss v (hp w)) (rs : IntsR st u (hp w)) (hs : op.length ≤ 1048576) (hss : ss.length ≤ 1048576) :
    Calls Try.prog 56 [netV k p n vt vo, v, num wk, u].toArray w (RetV w (.bool (schedB k p n ts op ss wk st))) := by
  refine calls_in Try.func56 rfl Try.ntmps56 rfl (Sat.start w) ?_
  have hle0 := r.le
  obtain ⟨cs_r, rr_r, hc_r⟩ := r.at
  have hle1 := r'.le
  have hle2 := rv.le
  obtain ⟨cs_rv, rr_rv, hc_rv⟩ := rv.at
  have hle3 := rs.le
  refine wp_sc ?_
  refine wp_sq ?_
  refine sq_x rfl (x_box rfl rfl) rfl ?_; rintro _ _ ⟨b4, rfl, rfl⟩
  refine sq_v rfl (v_assign rfl) rfl ?_
  refine sq_end ?_
  refine qs_n ?_
  refine wp_sc ?_
  refine wp_sc ?_
  refine wp_sq ?_
  refine sq_v rfl (v_loadNB 0 ty_33 rfl rfl rfl rfl) rfl ?_
  refine sq_v rfl (v_move rfl) rfl ?_
  refine sq_u rfl (x_callv rfl en_77 (fun w s => ct_s_OrderOk _ _ _ _ _ _ _ _ _ w (r.mono (s.get 1 rfl)) (r'.mono (s.get 1 rfl)) (rv.mono (s.get 1 rfl)) (by first | assumption | omega) (by first | assumption | omega))) rfl ?_
  refine sq_bb 18 rfl (fun c18 => ?_) (fun c18 => ?_)
  · refine sq_v rfl (v_not rfl) rfl ?_
    refine sq_v rfl (v_move rfl) rfl ?_
    refine sq_v rfl (v_move rfl) rfl ?_
    refine sq_u rfl (x_callv rfl en_68 (fun w s => ct_s_l01In _ _ _ w)) rfl ?_
    refine sq_v rfl (v_not rfl) rfl ?_
    refine sq_v rfl (v_pickf rfl rfl) rfl ?_
    refine sq_bnd 24 rfl (fun c24 => ?_) (fun c24 => ?_)
    · refine sq_v rfl (v_move rfl) rfl ?_
      refine sq_s rfl rfl ?_
      refine sq_s rfl rfl ?_
      refine sq_s rfl rfl ?_
      refine sq_s rfl rfl ?_
      refine sq_v rfl (v_pickt rfl rfl) rfl ?_
      refine sq_end ?_
      refine qs_n ?_
      refine wp_ct rfl ?_
      refine wp_sc ?_
      refine wp_sq ?_
      refine sq_v rfl (v_assign rfl) rfl ?_
      refine sq_end ?_
      refine qs_n ?_
      refine wp_rt ?_
      refine qs_r ?_
      exact qs_ret1 rfl rfl (fin_q (i := 1) rfl (schedB_no (fun h => c24 h.2.1)))
    · refine sq_v rfl (v_move rfl) rfl ?_
      refine sq_v rfl (v_move rfl) rfl ?_
      refine sq_v rfl (v_move rfl) rfl ?_
      refine sq_u rfl (x_callv rfl en_91 (fun w s => ct_s_l26Times _ _ _ _ w (rv.mono (s.get 1 rfl)) (rs.mono (s.get 1 rfl)))) rfl ?_
      refine sq_v rfl (v_not rfl) rfl ?_
      refine sq_v rfl (v_pickf rfl rfl) rfl ?_
      refine sq_end ?_
      refine qs_n ?_
      refine wp_cn _ rfl (fun c30 => ?_) (fun c30 => ?_)
      · refine wp_sc ?_
        refine wp_sq ?_
        refine sq_v rfl (v_assign rfl) rfl ?_
        refine sq_end ?_
        refine qs_n ?_
        refine wp_rt ?_
        refine qs_r ?_
        exact qs_ret1 rfl rfl (fin_q (i := 1) rfl (schedB_no (fun h => timesB_false.1 c30 h.2.2.1)))
      · refine wp_sk ?_
        refine qs_n ?_
        refine wp_sc ?_
        refine wp_sq ?_
        refine sq_v rfl (v_loadNB 0 ty_33 rfl rfl rfl rfl) rfl ?_
        refine sq_v rfl (v_move rfl) rfl ?_
        have hord := orderB_true.1 c18; have hnet := hord.1; have h12 := hnet.2.1; have hsl := hord.2.1; have htm := timesB_true.1 c30; have htl := htm.1; obtain ⟨C, hC⟩ : ∃ C, C = costsL (dimOf ts) op (sh0 ts) ss := ⟨_, rfl⟩; have hci := costs_in hord; rw [← hC] at hci; have hcl : C.length = ss.length := (by rw [hC, costsL_len]); have hlt := steps_lt hord
        refine sq_x rfl (x_call rfl en_78 (fun w s => ct_s_l17Run (dimOf ts) _ _ _ _ _ _ _ _ _ w _ (s.get 1 rfl) r (r'.mono (s.get 1 rfl)) (rv.mono (s.get 1 rfl)) (net_dmap hnet) (by first | assumption | omega) (by first | assumption | omega) (sh0_fine (net_axes hnet)) (net_fit hnet) hord.2.2 (by first | assumption | omega))) rfl ?_; rintro _ h34 ⟨bb, vc, g1, g2, rfl, hsp, rc, md⟩
        refine sq_v rfl (v_move rfl) rfl ?_
        refine sq_v rfl (v_extract rfl rfl) rfl ?_
        refine sq_v rfl (v_extract rfl rfl) rfl ?_
        refine sq_v rfl (v_assign rfl) rfl ?_
        refine sq_v rfl (v_assign rfl) rfl ?_
        refine sq_end ?_
        have rc' : IntsR C vc h34 := by rw [hC]; exact rc.toR.mono (md.le g2 (by simp))
        refine qs_n ?_
        refine wp_sc ?_
        refine wp_sc ?_
        refine wp_sq ?_
        refine sq_v rfl (v_move rfl) rfl ?_
        refine sq_v rfl (v_len Try.underlying44 rfl rv.sl) rfl ?_
        refine sq_v rfl (v_move rfl) rfl ?_
        refine sq_end ?_
        refine qs_n ?_
        refine wp_bl ?_
        refine wp_lp (σ := Nat) (fun z_ => [(2, num wk), (3, u), (4, .pointer (some ⟨b4, 0, none⟩)), (8, .bool false), (10, vc), (37, v), (38, num ss.length), (39, num z_)]) (fun z_ => [h34, box b4 [num k, num p, num n, vt, vo] 33, hp w]) (fun z_ => z_ ≤ ss.length ∧ (∀ j, j < z_ → schedAt ts.length ss st C wk j)) (fun z_ => ss.length - z_) 0 (⟨by omega, fun j hj => by omega⟩) ⟨rfl, rfl, rfl, rfl, rfl, rfl, rfl, (by first | rfl | exact ksub rfl (by first | omega | (simp; done) | (simp; omega))), trivial⟩ (fun _ s => s) ?_
        rintro i ⟨hi, hv⟩
        refine wp_sc ?_
        refine wp_sq ?_
        refine sq_v rfl (v_lss rfl rfl) rfl ?_
        refine sq_end ?_
        refine qs_n ?_
        refine wp_sc ?_
        refine wp_cd rfl (fun c40 => ?_) (fun c40 => ?_)
        · refine wp_sk ?_
          refine qs_n ?_
          refine wp_sc ?_
          refine wp_bl ?_
          refine wp_sc ?_
          refine wp_sq ?_
          refine sq_v rfl (v_move rfl) rfl ?_
          obtain ⟨x42, hx42, hcs42⟩ := hc_rv (i) (by first | omega | (rw [List.length_set]; omega))
          refine sq_v rfl (v_indexAddr Try.underlying44 ty_107 rfl rfl rr_rv (by decide) (by omega) (by first | omega | (rw [List.length_set]; omega))) rfl ?_
          refine sq_v rfl (v_loadNE 2 ty_107 rfl rfl rr_rv (by have := rr_rv.1; omega) rfl hcs42) rfl ?_
          refine sq_x rfl (x_alloc ty_107 rfl) rfl ?_; rintro _ _ ⟨b12, rfl, rfl⟩
          refine sq_v rfl (v_assign rfl) rfl ?_
          refine sq_m 0 rfl rfl (m_store 0 ty_107 rfl rfl rfl rfl (by simp [Value.oneCell']) rfl (Nat.le_of_ble_eq_true rfl)) rfl ?_; rintro _ _ ⟨rfl, rfl⟩
          refine sq_end ?_
          have hab := hlt i x42 hx42
          have hti := htm.2 i (by omega)
          refine qs_n ?_
          refine wp_sc ?_
          refine wp_sq ?_
          refine sq_v rfl (v_assign rfl) rfl ?_
          refine sq_end ?_
          refine qs_n ?_
          refine wp_sc ?_
          refine wp_sc ?_
          refine wp_sq ?_
          refine sq_v rfl (v_move rfl) rfl ?_
          refine sq_v rfl (v_len Try.underlying25 rfl rs.sl) rfl ?_
          refine sq_v rfl (v_move rfl) rfl ?_
          refine sq_end ?_
          refine qs_n ?_
          refine wp_bl ?_
          refine wp_lp (σ := Nat × Int) (fun z_ => [(2, num wk), (3, u), (4, .pointer (some ⟨b4, 0, none⟩)), (8, .bool false), (10, vc), (11, num i), (12, .pointer (some ⟨b12, 0, none⟩)), (13, num z_.2), (37, v), (38, num ss.length), (39, num i), (40, .bool (decide ((i : Int) < ss.length))), (41, num i), (43, .agg [num x42.a, num x42.b].toArray), (44, u), (45, num st.length), (46, num z_.1)]) (fun z_ => [box b12 [num x42.a, num x42.b] 107, h34, box b4 [num k, num p, num n, vt, vo] 33, hp w]) (fun z_ => z_.1 ≤ st.length ∧ z_.2 = runTo st C i z_.1) (fun z_ => st.length - z_.1) (0, 0) (⟨by (try dsimp only); omega, by (try dsimp only); rfl⟩) ⟨rfl, rfl, rfl, rfl, rfl, rfl, rfl, (by first | rfl | exact ksub rfl (by first | omega | (simp; done) | (simp; omega))), rfl, rfl, rfl, rfl, rfl, rfl, rfl, rfl, (by first | rfl | exact ksub rfl (by first | omega | (simp; done) | (simp; omega))), trivial⟩ (fun _ s => s) ?_
          rintro ⟨j, q⟩ ⟨hj, hq⟩
          dsimp only at hj hq ⊢
          have hqi := runTo_in st C i j
          refine wp_sc ?_
          refine wp_sq ?_
          refine sq_v rfl (v_lss rfl rfl) rfl ?_
          refine sq_end ?_
          refine qs_n ?_
          refine wp_sc ?_
          refine wp_cd rfl (fun c47 => ?_) (fun c47 => ?_)
          · refine wp_sk ?_
            refine qs_n ?_
            refine wp_sc ?_
            refine wp_bl ?_
            refine wp_sc ?_
            refine wp_sq ?_
            refine sq_v rfl (v_move rfl) rfl ?_
            refine sq_v rfl (v_idxI Try.underlying25 ty_3 rfl rfl rs (by first | omega | (simp only [List.length_cons, List.length_nil]; omega) | (simp only [List.length_append, List.length_cons, List.length_nil]; omega) | (rw [List.length_set]; omega) | (rw [List.length_replicate]; omega) | (simp; omega)) (by first | omega | (simp only [List.length_cons, List.length_nil]; omega) | (simp only [List.length_append, List.length_cons, List.length_nil]; omega) | (rw [List.length_set]; omega) | (rw [List.length_replicate]; omega) | (simp; omega))) rfl ?_
            refine sq_v rfl (v_loadI (k := j) 3 ty_3 rfl rfl rs (by first | omega | (simp only [List.length_cons, List.length_nil]; omega) | (simp only [List.length_append, List.length_cons, List.length_nil]; omega) | (rw [List.length_set]; omega) | (rw [List.length_replicate]; omega) | (simp; omega))) rfl ?_
            refine sq_v rfl (v_assign rfl) rfl ?_
            refine sq_v rfl (v_assign rfl) rfl ?_
            refine sq_end ?_
            have htj := htm.2 j (by omega)
            have hcj := hci j (by omega)
            refine qs_n ?_
            refine wp_sc ?_
            refine wp_rj 19 [(0, true), (1, true), (2, true), (3, true), (4, true), (5, true), (6, true), (7, true), (8, true), (9, true), (10, true), (11, true), (12, true), (13, true), (14, true), (15, true), (16, true), (17, true), (18, true)] mixed_ok (by kernel_rfl) ?_
            refine rj_v rfl rfl (v_move rfl) rfl ?_
            refine rj_v rfl rfl (v_move rfl) rfl ?_
            refine rj_v rfl rfl (v_move rfl) rfl ?_
            refine rj_v rfl rfl (v_idxI Try.underlying25 ty_3 rfl rfl rs (by first | omega | (simp only [List.length_cons, List.length_nil]; omega) | (simp only [List.length_append, List.length_cons, List.length_nil]; omega) | (rw [List.length_set]; omega) | (rw [List.length_replicate]; omega) | (simp; omega)) (by first | omega | (simp only [List.length_cons, List.length_nil]; omega) | (simp only [List.length_append, List.length_cons, List.length_nil]; omega) | (rw [List.length_set]; omega) | (rw [List.length_replicate]; omega) | (simp; omega))) rfl ?_
            refine rj_v rfl rfl (v_loadI (k := i) 3 ty_3 rfl rfl rs (by first | omega | (simp only [List.length_cons, List.length_nil]; omega) | (simp only [List.length_append, List.length_cons, List.length_nil]; omega) | (rw [List.length_set]; omega) | (rw [List.length_replicate]; omega) | (simp; omega))) rfl ?_
            refine rj_v rfl rfl (v_leq rfl rfl) rfl ?_
            refine rj_bd 56 rfl (fun c56 => ?_) (fun c56 => ?_)
            · refine rj_v rfl rfl (v_move rfl) rfl ?_
              refine rj_v rfl rfl (v_move rfl) rfl ?_
              refine rj_v rfl rfl (v_move rfl) rfl ?_
              refine rj_v rfl rfl (v_idxI Try.underlying25 ty_3 rfl rfl rs (by first | omega | (simp only [List.length_cons, List.length_nil]; omega) | (simp only [List.length_append, List.length_cons, List.length_nil]; omega) | (rw [List.length_set]; omega) | (rw [List.length_replicate]; omega) | (simp; omega)) (by first | omega | (simp only [List.length_cons, List.length_nil]; omega) | (simp only [List.length_append, List.length_cons, List.length_nil]; omega) | (rw [List.length_set]; omega) | (rw [List.length_replicate]; omega) | (simp; omega))) rfl ?_
              refine rj_v rfl rfl (v_loadI (k := i) 3 ty_3 rfl rfl rs (by first | omega | (simp only [List.length_cons, List.length_nil]; omega) | (simp only [List.length_append, List.length_cons, List.length_nil]; omega) | (rw [List.length_set]; omega) | (rw [List.length_replicate]; omega) | (simp; omega))) rfl ?_
              refine rj_v rfl rfl (v_move rfl) rfl ?_
              refine rj_v rfl rfl (v_move rfl) rfl ?_
              refine rj_v rfl rfl (v_move rfl) rfl ?_
              refine rj_v rfl rfl (v_idxI Try.underlying25 ty_3 rfl rfl rc' (by first | omega | (simp only [List.length_cons, List.length_nil]; omega) | (simp only [List.length_append, List.length_cons, List.length_nil]; omega) | (rw [List.length_set]; omega) | (rw [List.length_replicate]; omega) | (simp; omega)) (by first | omega | (simp only [List.length_cons, List.length_nil]; omega) | (simp only [List.length_append, List.length_cons, List.length_nil]; omega) | (rw [List.length_set]; omega) | (rw [List.length_replicate]; omega) | (simp; omega))) rfl ?_
              refine rj_v rfl rfl (v_loadI (k := j) 1 ty_3 rfl rfl rc' (by first | omega | (simp only [List.length_cons, List.length_nil]; omega) | (simp only [List.length_append, List.length_cons, List.length_nil]; omega) | (rw [List.length_set]; omega) | (rw [List.length_replicate]; omega) | (simp; omega))) rfl ?_
              refine rj_v rfl rfl (v_add rfl rfl ((by unfold I64; omega))) rfl ?_
              refine rj_v rfl rfl (v_lss rfl rfl) rfl ?_
              refine rj_v rfl rfl (v_pickt rfl rfl) rfl ?_
              refine rj_end ?_
              refine qs_n ?_
              refine wp_cd rfl (fun c69 => ?_) (fun c69 => ?_)
              · refine wp_sq ?_
                refine sq_v rfl (v_move rfl) rfl ?_
                refine sq_v rfl (v_add rfl rfl ((by unfold I64; omega))) rfl ?_
                refine sq_v rfl (v_assign rfl) rfl ?_
                refine sq_end ?_
                refine qs_bn ?_
                refine qs_n ?_
                refine wp_sq ?_
                refine sq_v rfl (v_add rfl rfl ((by unfold I64; omega))) rfl ?_
                refine sq_v rfl (v_move rfl) rfl ?_
                refine sq_end ?_
                exact qs_bk (j + 1, q + 1) ⟨by (try dsimp only); omega, by (try dsimp only); rw [hq, runTo, if_pos ⟨c56, c69⟩]⟩ (by simp only; omega) ⟨rfl, rfl, rfl, rfl, rfl, rfl, rfl, (by first | rfl | exact ksub rfl (by first | omega | (simp; done) | (simp; omega))), rfl, rfl, rfl, rfl, rfl, rfl, rfl, rfl, (by first | rfl | exact ksub rfl (by first | omega | (simp; done) | (simp; omega))), trivial⟩ (fun _ s => s)
              · refine wp_sk ?_
                refine qs_bn ?_
                refine qs_n ?_
                refine wp_sq ?_
                refine sq_v rfl (v_add rfl rfl ((by unfold I64; omega))) rfl ?_
                refine sq_v rfl (v_move rfl) rfl ?_
                refine sq_end ?_
                exact qs_bk (j + 1, q) ⟨by (try dsimp only); omega, by (try dsimp only); rw [hq, runTo, if_neg (fun h => c69 h.2)]; omega⟩ (by simp only; omega) ⟨rfl, rfl, rfl, rfl, rfl, rfl, rfl, (by first | rfl | exact ksub rfl (by first | omega | (simp; done) | (simp; omega))), rfl, rfl, rfl, rfl, rfl, rfl, rfl, rfl, (by first | rfl | exact ksub rfl (by first | omega | (simp; done) | (simp; omega))), trivial⟩ (fun _ s => s)
            · refine rj_v rfl rfl (v_move rfl) rfl ?_
              refine rj_s rfl rfl rfl ?_
              refine rj_s rfl rfl rfl ?_
              refine rj_s rfl rfl rfl ?_
              refine rj_s rfl rfl rfl ?_
              refine rj_s rfl rfl rfl ?_
              refine rj_s rfl rfl rfl ?_
              refine rj_s rfl rfl rfl ?_
              refine rj_s rfl rfl rfl ?_
              refine rj_s rfl rfl rfl ?_
              refine rj_s rfl rfl rfl ?_
              refine rj_s rfl rfl rfl ?_
              refine rj_v rfl rfl (v_pickf rfl rfl) rfl ?_
              refine rj_end ?_
              refine qs_n ?_
              refine wp_cf rfl ?_
              refine wp_sk ?_
              refine qs_bn ?_
              refine qs_n ?_
              refine wp_sq ?_
              refine sq_v rfl (v_add rfl rfl ((by unfold I64; omega))) rfl ?_
              refine sq_v rfl (v_move rfl) rfl ?_
              refine sq_end ?_
              exact qs_bk (j + 1, q) ⟨by (try dsimp only); omega, by (try dsimp only); rw [hq, runTo, if_neg (fun h => c56 h.1)]; omega⟩ (by simp only; omega) ⟨rfl, rfl, rfl, rfl, rfl, rfl, rfl, (by first | rfl | exact ksub rfl (by first | omega | (simp; done) | (simp; omega))), rfl, rfl, rfl, rfl, rfl, rfl, rfl, rfl, (by first | rfl | exact ksub rfl (by first | omega | (simp; done) | (simp; omega))), trivial⟩ (fun _ s => s)
          · refine wp_ex ?_
            refine qs_x ?_
            refine qs_x ?_
            refine qs_bx ?_
            refine qs_n ?_
            refine wp_sc ?_
            refine wp_rj 17 [(0, true), (1, true), (2, true), (3, true), (4, true), (5, true), (6, true), (7, true), (8, true), (9, true), (10, true), (11, true), (12, true), (13, true), (14, false), (15, true), (16, true)] mixed_ok (by kernel_rfl) ?_
            refine rj_v rfl rfl (v_move rfl) rfl ?_
            refine rj_v rfl rfl (v_move rfl) rfl ?_
            refine rj_v rfl rfl (v_gtr rfl rfl) rfl ?_
            refine rj_bd 75 rfl (fun c75 => ?_) (fun c75 => ?_)
            · refine rj_v rfl rfl (v_move rfl) rfl ?_
              refine rj_s rfl rfl rfl ?_
              refine rj_s rfl rfl rfl ?_
              refine rj_s rfl rfl rfl ?_
              refine rj_s rfl rfl rfl ?_
              refine rj_s rfl rfl rfl ?_
              refine rj_s rfl rfl rfl ?_
              refine rj_s rfl rfl rfl ?_
              refine rj_s rfl rfl rfl ?_
              refine rj_s rfl rfl rfl ?_
              refine rj_s rfl rfl rfl ?_
              refine rj_fs rfl rfl rfl ?_
              refine rj_s rfl rfl rfl ?_
              refine rj_v rfl rfl (v_pickt rfl rfl) rfl ?_
              refine rj_end ?_
              have hjs : j = ss.length := by omega
              subst hjs
              refine qs_n ?_
              refine wp_ct rfl ?_
              refine wp_sc ?_
              refine wp_sq ?_
              refine sq_v rfl (v_assign rfl) rfl ?_
              refine sq_end ?_
              refine qs_n ?_
              refine wp_rt ?_
              refine qs_br ?_
              refine qs_r ?_
              refine qs_r ?_
              refine qs_br ?_
              refine qs_r ?_
              exact qs_ret1 rfl rfl (fin_q (i := 3) rfl (schedB_no (fun h => by have := (h.2.2.2 i (by omega) x42 hx42).1; rw [← hC] at this; omega)))
            · refine rj_v rfl rfl (v_move rfl) rfl ?_
              refine rj_v rfl rfl (v_move rfl) rfl ?_
              refine rj_v rfl rfl (v_move rfl) rfl ?_
              refine rj_v rfl rfl (v_idxI Try.underlying25 ty_3 rfl rfl rs (by first | omega | (simp only [List.length_cons, List.length_nil]; omega) | (simp only [List.length_append, List.length_cons, List.length_nil]; omega) | (rw [List.length_set]; omega) | (rw [List.length_replicate]; omega) | (simp; omega)) (by first | omega | (simp only [List.length_cons, List.length_nil]; omega) | (simp only [List.length_append, List.length_cons, List.length_nil]; omega) | (rw [List.length_set]; omega) | (rw [List.length_replicate]; omega) | (simp; omega))) rfl ?_
              refine rj_v rfl rfl (v_loadI (k := i) 3 ty_3 rfl rfl rs (by first | omega | (simp only [List.length_cons, List.length_nil]; omega) | (simp only [List.length_append, List.length_cons, List.length_nil]; omega) | (rw [List.length_set]; omega) | (rw [List.length_replicate]; omega) | (simp; omega))) rfl ?_
              refine rj_v rfl rfl (v_fieldAddr fd_33_1 ty_31 (by decide) rfl) rfl ?_
              refine rj_v rfl rfl (v_loadB 2 ty_31 rfl rfl rfl) rfl ?_
              refine rj_v rfl rfl (v_len Try.underlying31 rfl r.sl) rfl ?_
              refine rj_v rfl rfl (v_loadNB 0 ty_107 rfl rfl rfl rfl) rfl ?_
              refine rj_v rfl rfl (v_move rfl) rfl ?_
              refine rj_v rfl rfl (v_move rfl) rfl ?_
              refine rj_u rfl rfl (x_callv rfl en_93 (fun w s => ct_s_l26Ready _ _ _ _ _ _ _ w (rs.mono (s.get 3 rfl)) (rc'.mono (s.get 1 rfl)) (by omega) (by omega) (by omega) (by omega) (fun j hj => by have := htm.2 j hj; omega) (fun j hj => by have := hci j (by omega); omega))) rfl ?_
              refine rj_v rfl rfl (v_lss rfl rfl) rfl ?_
              refine rj_v rfl rfl (v_pickf rfl rfl) rfl ?_
              refine rj_end ?_
              have hjs : j = ss.length := by omega
              subst hjs
              refine qs_n ?_
              refine wp_cd rfl (fun c89 => ?_) (fun c89 => ?_)
              · refine wp_sc ?_
                refine wp_sq ?_
                refine sq_v rfl (v_assign rfl) rfl ?_
                refine sq_end ?_
                refine qs_n ?_
                refine wp_rt ?_
                refine qs_br ?_
                refine qs_r ?_
                refine qs_r ?_
                refine qs_br ?_
                refine qs_r ?_
                exact qs_ret1 rfl rfl (fin_q (i := 3) rfl (schedB_no (fun h => by have := (h.2.2.2 i (by omega) x42 hx42).2; rw [← hC] at this; omega)))
              · refine wp_sk ?_
                refine qs_bn ?_
                refine qs_n ?_
                refine wp_sq ?_
                refine sq_v rfl (v_add rfl rfl ((by unfold I64; omega))) rfl ?_
                refine sq_v rfl (v_move rfl) rfl ?_
                refine sq_end ?_
                exact qs_bk (i + 1) ⟨by omega, step_all hv (fun x hx => by rw [hx42] at hx; cases hx; exact ⟨by omega, by omega⟩)⟩ (by omega) ⟨rfl, rfl, rfl, rfl, rfl, rfl, rfl, (by first | rfl | exact ksub rfl (by first | omega | (simp; done) | (simp; omega))), trivial⟩ (fun _ s => s.pick [1, 2, 3] (by decide) rfl)
        · refine wp_ex ?_
          refine qs_x ?_
          refine qs_x ?_
          refine qs_bx ?_
          refine qs_n ?_
          refine wp_sc ?_
          refine wp_sq ?_
          refine sq_v rfl (v_assign rfl) rfl ?_
          refine sq_end ?_
          refine qs_n ?_
          refine wp_rt ?_
          exact qs_ret1 rfl rfl (fin_q (i := 2) rfl (schedB_yes ⟨hord, c24, htm, fun j hj => by rw [← hC]; exact hv j (by omega)⟩))
  · refine sq_v rfl (v_not rfl) rfl ?_
    refine sq_v rfl (v_move rfl) rfl ?_
    refine sq_s rfl rfl ?_
    refine sq_s rfl rfl ?_
    refine sq_s rfl rfl ?_
    refine sq_v rfl (v_pickt rfl rfl) rfl ?_
    refine sq_v rfl (v_move rfl) rfl ?_
    refine sq_s rfl rfl ?_
    refine sq_s rfl rfl ?_
    refine sq_s rfl rfl ?_
    refine sq_s rfl rfl ?_
    refine sq_v rfl (v_pickt rfl rfl) rfl ?_
    refine sq_end ?_
    refine qs_n ?_
    refine wp_ct rfl ?_
    refine wp_sc ?_
    refine wp_sq ?_
    refine sq_v rfl (v_assign rfl) rfl ?_
    refine sq_end ?_
    refine qs_n ?_
    refine wp_rt ?_
    refine qs_r ?_
    exact qs_ret1 rfl rfl (fin_q (i := 1) rfl (schedB_no (fun h => orderB_false.1 c18 h.1)))
set_option maxHeartbeats 1000000 in
theorem ct_i_ScheduleOk (k p n wk : Int) (ts : List Ten) (op : List Int) (ss : List Stp) (st : List Int) (vt vo v u : Value) (w : World) (r : TensR ts vt (hp w)) (r' : IntsR op vo (hp w)) (rv : StepsR ss v (hp w)) (rs : IntsR st u (hp w)) (hs : op.length ≤ 1048576) :
    Calls Try.prog 57 [netV k p n vt vo, v, num wk, u].toArray w (RetV w (.bool (schedB k p n ts op ss wk st))) := by
  refine calls_in Try.func57 rfl Try.ntmps57 rfl (Sat.start w) ?_
  have hle0 := r.le
  obtain ⟨cs_r, rr_r, hc_r⟩ := r.at
  have hle1 := r'.le
  have hle2 := rv.le
  obtain ⟨cs_rv, rr_rv, hc_rv⟩ := rv.at
  have hle3 := rs.le
  refine wp_sc ?_
  refine wp_sq ?_
  refine sq_x rfl (x_box rfl rfl) rfl ?_; rintro _ _ ⟨b4, rfl, rfl⟩
  refine sq_v rfl (v_assign rfl) rfl ?_
  refine sq_end ?_
  refine qs_n ?_
  refine wp_sc ?_
  refine wp_sc ?_
  refine wp_sq ?_
  refine sq_v rfl (v_loadNB 0 ty_33 rfl rfl rfl rfl) rfl ?_
  refine sq_v rfl (v_move rfl) rfl ?_
  refine sq_u rfl (x_callv rfl en_81 (fun w s => ct_i_OrderOk _ _ _ _ _ _ _ _ _ w (r.mono (s.get 1 rfl)) (r'.mono (s.get 1 rfl)) (rv.mono (s.get 1 rfl)) (by first | assumption | omega))) rfl ?_
  refine sq_bb 19 rfl (fun c19 => ?_) (fun c19 => ?_)
  · refine sq_v rfl (v_not rfl) rfl ?_
    refine sq_v rfl (v_move rfl) rfl ?_
    refine sq_v rfl (v_move rfl) rfl ?_
    refine sq_v rfl (v_lss rfl rfl) rfl ?_
    refine sq_v rfl (v_pickf rfl rfl) rfl ?_
    refine sq_bd 24 rfl (fun c24 => ?_) (fun c24 => ?_)
    · refine sq_v rfl (v_move rfl) rfl ?_
      refine sq_s rfl rfl ?_
      refine sq_s rfl rfl ?_
      refine sq_v rfl (v_pickt rfl rfl) rfl ?_
      refine sq_v rfl (v_move rfl) rfl ?_
      refine sq_s rfl rfl ?_
      refine sq_s rfl rfl ?_
      refine sq_s rfl rfl ?_
      refine sq_s rfl rfl ?_
      refine sq_v rfl (v_pickt rfl rfl) rfl ?_
      refine sq_end ?_
      refine qs_n ?_
      refine wp_ct rfl ?_
      refine wp_sc ?_
      refine wp_sq ?_
      refine sq_v rfl (v_assign rfl) rfl ?_
      refine sq_end ?_
      refine qs_n ?_
      refine wp_rt ?_
      refine qs_r ?_
      exact qs_ret1 rfl rfl (fin_q (i := 1) rfl (schedB_no (fun h => by first | (have := h.2.1; omega) | exact timesB_false.1 c34 h.2.2.1 | exact orderB_false.1 c19 h.1)))
    · refine sq_v rfl (v_move rfl) rfl ?_
      refine sq_v rfl (v_move rfl) rfl ?_
      refine sq_v rfl (v_gtr rfl rfl) rfl ?_
      refine sq_v rfl (v_pickf rfl rfl) rfl ?_
      refine sq_bd 28 rfl (fun c28 => ?_) (fun c28 => ?_)
      · refine sq_v rfl (v_move rfl) rfl ?_
        refine sq_s rfl rfl ?_
        refine sq_s rfl rfl ?_
        refine sq_s rfl rfl ?_
        refine sq_s rfl rfl ?_
        refine sq_v rfl (v_pickt rfl rfl) rfl ?_
        refine sq_end ?_
        refine qs_n ?_
        refine wp_ct rfl ?_
        refine wp_sc ?_
        refine wp_sq ?_
        refine sq_v rfl (v_assign rfl) rfl ?_
        refine sq_end ?_
        refine qs_n ?_
        refine wp_rt ?_
        refine qs_r ?_
        exact qs_ret1 rfl rfl (fin_q (i := 1) rfl (schedB_no (fun h => by first | (have := h.2.1; omega) | exact timesB_false.1 c34 h.2.2.1 | exact orderB_false.1 c19 h.1)))
      · refine sq_v rfl (v_move rfl) rfl ?_
        refine sq_v rfl (v_move rfl) rfl ?_
        refine sq_v rfl (v_move rfl) rfl ?_
        refine sq_u rfl (x_callv rfl en_92 (fun w s => ct_i_timesOk _ _ _ _ w (rv.mono (s.get 1 rfl)) (rs.mono (s.get 1 rfl)))) rfl ?_
        refine sq_v rfl (v_not rfl) rfl ?_
        refine sq_v rfl (v_pickf rfl rfl) rfl ?_
        refine sq_end ?_
        refine qs_n ?_
        refine wp_cn _ rfl (fun c34 => ?_) (fun c34 => ?_)
        · refine wp_sc ?_
          refine wp_sq ?_
          refine sq_v rfl (v_assign rfl) rfl ?_
          refine sq_end ?_
          refine qs_n ?_
          refine wp_rt ?_
          refine qs_r ?_
          exact qs_ret1 rfl rfl (fin_q (i := 1) rfl (schedB_no (fun h => by first | (have := h.2.1; omega) | exact timesB_false.1 c34 h.2.2.1 | exact orderB_false.1 c19 h.1)))
        · refine wp_sk ?_
          refine qs_n ?_
          refine wp_sc ?_
          refine wp_sq ?_
          refine sq_v rfl (v_loadNB 0 ty_33 rfl rfl rfl rfl) rfl ?_
          refine sq_v rfl (v_move rfl) rfl ?_
          refine sq_x rfl (x_call rfl en_44 (fun w s => ct_i_OrderCosts _ _ _ _ _ _ _ _ _ w (r.mono (s.get 1 rfl)) (r'.mono (s.get 1 rfl)) (rv.mono (s.get 1 rfl)) (by first | assumption | omega))) rfl ?_; rintro v37 h37 r37
          refine sq_v rfl (v_assign rfl) rfl ?_
          refine sq_end ?_
          have hord := orderB_true.1 c19
          have h12 := hord.1.2.1
          have hsl := hord.2.1
          have htm := timesB_true.1 c34
          have htl := htm.1
          obtain ⟨C, hC⟩ : ∃ C, C = costsL (dimOf ts) op (sh0 ts) ss := ⟨_, rfl⟩
          have hci := costs_in hord
          rw [← hC] at hci
          have hcl : C.length = ss.length := by rw [hC, costsL_len]
          have hlt := steps_lt hord
          rw [ord_eq hord, ← hC] at r37
          have hcl37 : (ordCosts k p n ts op ss).length = ss.length := by rw [ord_eq hord, ← hC, hcl]
          refine qs_n ?_
          refine wp_sc ?_
          refine wp_sq ?_
          refine sq_v rfl (v_fieldAddr fd_33_1 ty_31 (by decide) rfl) rfl ?_
          refine sq_v rfl (v_loadB 1 ty_31 rfl rfl rfl) rfl ?_
          refine sq_v rfl (v_len Try.underlying31 rfl r.sl) rfl ?_
          refine sq_v rfl (v_assign rfl) rfl ?_
          refine sq_end ?_
          refine qs_n ?_
          refine wp_sc ?_
          refine wp_sc ?_
          refine wp_sq ?_
          refine sq_v rfl (v_move rfl) rfl ?_
          refine sq_v rfl (v_len Try.underlying44 rfl rv.sl) rfl ?_
          refine sq_v rfl (v_move rfl) rfl ?_
          refine sq_end ?_
          refine qs_n ?_
          refine wp_bl ?_
          refine wp_lp (σ := Nat) (fun z_ => [(1, v), (2, num wk), (3, u), (8, .bool false), (9, v37), (10, num ts.length), (41, v), (42, num ss.length), (43, num z_)]) (fun z_ => [h37, box b4 [num k, num p, num n, vt, vo] 33, hp w]) (fun z_ => z_ ≤ ss.length ∧ (∀ j, j < z_ → schedAt ts.length ss st C wk j)) (fun z_ => ss.length - z_) 0 (⟨by omega, fun j hj => by omega⟩) ⟨rfl, rfl, rfl, rfl, rfl, rfl, rfl, rfl, (by first | rfl | exact ksub rfl (by first | omega | (simp; done) | (simp; omega))), trivial⟩ (fun _ s => s) ?_
          rintro i ⟨hi, hv⟩
          refine wp_sc ?_
          refine wp_sq ?_
          refine sq_v rfl (v_lss rfl rfl) rfl ?_
          refine sq_end ?_
          refine qs_n ?_
          refine wp_sc ?_
          refine wp_cd rfl (fun c44 => ?_) (fun c44 => ?_)
          · refine wp_sk ?_
            refine qs_n ?_
            refine wp_sc ?_
            refine wp_bl ?_
            refine wp_sc ?_
            refine wp_sq ?_
            refine sq_v rfl (v_move rfl) rfl ?_
            obtain ⟨x46, hx46, hcs46⟩ := hc_rv (i) (by first | omega | (rw [List.length_set]; omega))
            refine sq_v rfl (v_indexAddr Try.underlying44 ty_107 rfl rfl rr_rv (by decide) (by omega) (by first | omega | (rw [List.length_set]; omega))) rfl ?_
            refine sq_v rfl (v_loadNE 2 ty_107 rfl rfl rr_rv (by have := rr_rv.1; omega) rfl hcs46) rfl ?_
            refine sq_x rfl (x_alloc ty_107 rfl) rfl ?_; rintro _ _ ⟨b12, rfl, rfl⟩
            refine sq_v rfl (v_assign rfl) rfl ?_
            refine sq_m 0 rfl rfl (m_store 0 ty_107 rfl rfl rfl rfl (by simp [Value.oneCell']) rfl (Nat.le_of_ble_eq_true rfl)) rfl ?_; rintro _ _ ⟨rfl, rfl⟩
            refine sq_end ?_
            have hab := hlt i x46 hx46
            have hti := htm.2 i (by omega)
            refine qs_n ?_
            refine wp_sc ?_
            refine wp_sc ?_
            refine wp_sq ?_
            refine sq_v rfl (v_fieldAddr fd_107_0 ty_3 (by decide) rfl) rfl ?_
            refine sq_v rfl (v_loadB 0 ty_3 rfl rfl rfl) rfl ?_
            refine sq_v rfl (v_fieldAddr fd_107_1 ty_3 (by decide) rfl) rfl ?_
            refine sq_v rfl (v_loadB 0 ty_3 rfl rfl rfl) rfl ?_
            refine sq_x rfl (x_buildS [num (x46.a), num (x46.b)] Try.underlying25 ty_3 (by decide) rfl rfl rfl (by decide) (by decide) (by intro v hv; simp at hv; rcases hv with rfl | rfl <;> rfl)) rfl ?_; intro v52 h52 (r52 : IntsO [x46.a, x46.b] v52 h52)
            refine sq_v rfl (v_len Try.underlying25 rfl r52.toR.sl) rfl ?_
            refine sq_v rfl (v_move rfl) rfl ?_
            refine sq_end ?_
            refine qs_n ?_
            refine wp_bl ?_
            refine wp_lp (σ := Nat) (fun z_ => [(1, v), (2, num wk), (3, u), (8, .bool false), (9, v37), (10, num ts.length), (11, num i), (12, .pointer (some ⟨b12, 0, none⟩)), (41, v), (42, num ss.length), (43, num i), (44, .bool (decide ((i : Int) < ss.length))), (45, num i), (47, .agg [num x46.a, num x46.b].toArray), (48, .pointer (some ⟨b12, 0, none⟩)), (49, num x46.a), (50, .pointer (some ⟨b12, 1, none⟩)), (51, num x46.b), (52, v52), (53, num [x46.a, x46.b].length), (54, num z_)]) (fun z_ => [h52, box b12 [num x46.a, num x46.b] 107, h37, box b4 [num k, num p, num n, vt, vo] 33, hp w]) (fun z_ => z_ ≤ 2 ∧ (∀ y ∈ ([x46.a, x46.b] : List Int).take z_, ts.length ≤ y → sumE st C (y - ts.length) ≤ st.getD i 0)) (fun z_ => 2 - z_) 0 (⟨by omega, fun y hy => by simp at hy⟩) ⟨rfl, rfl, rfl, rfl, rfl, rfl, rfl, rfl, rfl, rfl, rfl, rfl, rfl, rfl, rfl, rfl, rfl, rfl, rfl, rfl, (by first | rfl | exact ksub rfl (by first | omega | (simp; done) | (simp; omega))), trivial⟩ (fun _ s => s) ?_
            rintro j ⟨hj, hq⟩
            have hl2 : ([x46.a, x46.b] : List Int).length = 2 := rfl
            refine wp_sc ?_
            refine wp_sq ?_
            refine sq_v rfl (v_lss rfl rfl) rfl ?_
            refine sq_end ?_
            refine qs_n ?_
            refine wp_sc ?_
            refine wp_cd rfl (fun c55 => ?_) (fun c55 => ?_)
            · refine wp_sk ?_
              refine qs_n ?_
              refine wp_sc ?_
              refine wp_bl ?_
              refine wp_sc ?_
              refine wp_sq ?_
              refine sq_v rfl (v_idxI Try.underlying25 ty_3 rfl rfl r52.toR (by first | omega | (simp only [List.length_cons, List.length_nil]; omega) | (simp only [List.length_append, List.length_cons, List.length_nil]; omega) | (rw [List.length_set]; omega) | (rw [List.length_replicate]; omega) | (simp; omega)) (by first | omega | (simp only [List.length_cons, List.length_nil]; omega) | (simp only [List.length_append, List.length_cons, List.length_nil]; omega) | (rw [List.length_set]; omega) | (rw [List.length_replicate]; omega) | (simp; omega))) rfl ?_
              refine sq_v rfl (v_loadI (k := j) 0 ty_3 rfl rfl r52.toR (by first | omega | (simp only [List.length_cons, List.length_nil]; omega) | (simp only [List.length_append, List.length_cons, List.length_nil]; omega) | (rw [List.length_set]; omega) | (rw [List.length_replicate]; omega) | (simp; omega))) rfl ?_
              refine sq_v rfl (v_assign rfl) rfl ?_
              refine sq_end ?_
              have hy : ([x46.a, x46.b] : List Int).getD j 0 - ts.length < i := by rcases (show j = 0 ∨ j = 1 by omega) with rfl | rfl <;> simp <;> omega
              have hym : ([x46.a, x46.b] : List Int).getD j 0 ∈ ([x46.a, x46.b] : List Int) := mem_getD (by omega)
              refine qs_n ?_
              refine wp_sc ?_
              refine wp_rj 23 [(0, true), (1, true), (2, true), (3, true), (4, true), (5, true), (6, true), (7, true), (8, true), (9, true), (10, true), (11, true), (12, true), (13, true), (14, true), (15, true), (16, true), (17, true), (18, true), (19, true), (20, true), (21, true), (22, true)] mixed_ok (by kernel_rfl) ?_
              refine rj_v rfl rfl (v_move rfl) rfl ?_
              refine rj_v rfl rfl (v_move rfl) rfl ?_
              refine rj_v rfl rfl (v_geq rfl rfl) rfl ?_
              refine rj_bd 60 rfl (fun c60 => ?_) (fun c60 => ?_)
              · refine rj_v rfl rfl (v_move rfl) rfl ?_
                refine rj_v rfl rfl (v_move rfl) rfl ?_
                refine rj_v rfl rfl (v_move rfl) rfl ?_
                refine rj_v rfl rfl (v_move rfl) rfl ?_
                refine rj_v rfl rfl (v_sub rfl rfl ((by unfold I64; omega))) rfl ?_
                refine rj_v rfl rfl (v_idxI Try.underlying25 ty_3 rfl rfl rs (by first | omega | (simp only [List.length_cons, List.length_nil]; omega) | (simp only [List.length_append, List.length_cons, List.length_nil]; omega) | (rw [List.length_set]; omega) | (rw [List.length_replicate]; omega) | (simp; omega)) (by first | omega | (simp only [List.length_cons, List.length_nil]; omega) | (simp only [List.length_append, List.length_cons, List.length_nil]; omega) | (rw [List.length_set]; omega) | (rw [List.length_replicate]; omega) | (simp; omega))) rfl ?_
                have hty := htm.2 (([x46.a, x46.b] : List Int).getD j 0 - ts.length).toNat (by omega); have hcy := hci (([x46.a, x46.b] : List Int).getD j 0 - ts.length).toNat (by omega)
                refine rj_v rfl rfl (v_loadI  4 ty_3 rfl rfl rs (by first | omega | (simp only [List.length_cons, List.length_nil]; omega) | (simp only [List.length_append, List.length_cons, List.length_nil]; omega) | (rw [List.length_set]; omega) | (rw [List.length_replicate]; omega) | (simp; omega))) rfl ?_
                refine rj_v rfl rfl (v_move rfl) rfl ?_
                refine rj_v rfl rfl (v_move rfl) rfl ?_
                refine rj_v rfl rfl (v_move rfl) rfl ?_
                refine rj_v rfl rfl (v_sub rfl rfl ((by unfold I64; omega))) rfl ?_
                refine rj_v rfl rfl (v_idxI Try.underlying25 ty_3 rfl rfl r37.toR (by first | omega | (simp only [List.length_cons, List.length_nil]; omega) | (simp only [List.length_append, List.length_cons, List.length_nil]; omega) | (rw [List.length_set]; omega) | (rw [List.length_replicate]; omega) | (simp; omega)) (by first | omega | (simp only [List.length_cons, List.length_nil]; omega) | (simp only [List.length_append, List.length_cons, List.length_nil]; omega) | (rw [List.length_set]; omega) | (rw [List.length_replicate]; omega) | (simp; omega))) rfl ?_
                refine rj_v rfl rfl (v_loadI  2 ty_3 rfl rfl r37.toR (by first | omega | (simp only [List.length_cons, List.length_nil]; omega) | (simp only [List.length_append, List.length_cons, List.length_nil]; omega) | (rw [List.length_set]; omega) | (rw [List.length_replicate]; omega) | (simp; omega))) rfl ?_
                refine rj_v rfl rfl (v_add rfl rfl ((by unfold I64; omega))) rfl ?_
                refine rj_v rfl rfl (v_move rfl) rfl ?_
                refine rj_v rfl rfl (v_move rfl) rfl ?_
                refine rj_v rfl rfl (v_idxI Try.underlying25 ty_3 rfl rfl rs (by first | omega | (simp only [List.length_cons, List.length_nil]; omega) | (simp only [List.length_append, List.length_cons, List.length_nil]; omega) | (rw [List.length_set]; omega) | (rw [List.length_replicate]; omega) | (simp; omega)) (by first | omega | (simp only [List.length_cons, List.length_nil]; omega) | (simp only [List.length_append, List.length_cons, List.length_nil]; omega) | (rw [List.length_set]; omega) | (rw [List.length_replicate]; omega) | (simp; omega))) rfl ?_
                refine rj_v rfl rfl (v_loadI (k := i) 4 ty_3 rfl rfl rs (by first | omega | (simp only [List.length_cons, List.length_nil]; omega) | (simp only [List.length_append, List.length_cons, List.length_nil]; omega) | (rw [List.length_set]; omega) | (rw [List.length_replicate]; omega) | (simp; omega))) rfl ?_
                refine rj_v rfl rfl (v_gtr rfl rfl) rfl ?_
                refine rj_v rfl rfl (v_pickt rfl rfl) rfl ?_
                refine rj_end ?_
                refine qs_n ?_
                refine wp_cd rfl (fun c80 => ?_) (fun c80 => ?_)
                · refine wp_sc ?_
                  refine wp_sq ?_
                  refine sq_v rfl (v_assign rfl) rfl ?_
                  refine sq_end ?_
                  refine qs_n ?_
                  refine wp_rt ?_
                  refine qs_br ?_
                  refine qs_r ?_
                  refine qs_r ?_
                  refine qs_br ?_
                  refine qs_r ?_
                  refine qs_br ?_
                  refine qs_r ?_
                  refine qs_r ?_
                  refine qs_br ?_
                  refine qs_r ?_
                  exact qs_ret1 rfl rfl (fin_q (i := 4) rfl (schedB_no (fun h => by have := (h.2.2.2 i (by omega) x46 hx46).2; rw [← hC] at this; have := (rdyF_iff (by omega)).1 this _ hym (by omega); simp only [sumE] at this; omega)))
                · refine wp_sk ?_
                  refine qs_bn ?_
                  refine qs_n ?_
                  refine wp_sq ?_
                  refine sq_v rfl (v_add rfl rfl ((by unfold I64; omega))) rfl ?_
                  refine sq_v rfl (v_move rfl) rfl ?_
                  refine sq_end ?_
                  exact qs_bk (j + 1) ⟨by omega, fun y hy hmy => by (rw [take_succ (by omega), List.mem_append] at hy; rcases hy with hy | hy; exact hq y hy hmy; simp at hy; subst hy; simp only [sumE]; simp only [List.getD] at *; omega)⟩ (by omega) ⟨rfl, rfl, rfl, rfl, rfl, rfl, rfl, rfl, rfl, rfl, rfl, rfl, rfl, rfl, rfl, rfl, rfl, rfl, rfl, rfl, (by first | rfl | exact ksub rfl (by first | omega | (simp; done) | (simp; omega))), trivial⟩ (fun _ s => s)
              · refine rj_v rfl rfl (v_move rfl) rfl ?_
                refine rj_s rfl rfl rfl ?_
                refine rj_s rfl rfl rfl ?_
                refine rj_s rfl rfl rfl ?_
                refine rj_s rfl rfl rfl ?_
                refine rj_s rfl rfl rfl ?_
                refine rj_s rfl rfl rfl ?_
                refine rj_s rfl rfl rfl ?_
                refine rj_s rfl rfl rfl ?_
                refine rj_s rfl rfl rfl ?_
                refine rj_s rfl rfl rfl ?_
                refine rj_s rfl rfl rfl ?_
                refine rj_s rfl rfl rfl ?_
                refine rj_s rfl rfl rfl ?_
                refine rj_s rfl rfl rfl ?_
                refine rj_s rfl rfl rfl ?_
                refine rj_s rfl rfl rfl ?_
                refine rj_s rfl rfl rfl ?_
                refine rj_s rfl rfl rfl ?_
                refine rj_v rfl rfl (v_pickf rfl rfl) rfl ?_
                refine rj_end ?_
                refine qs_n ?_
                refine wp_cf rfl ?_
                refine wp_sk ?_
                refine qs_bn ?_
                refine qs_n ?_
                refine wp_sq ?_
                refine sq_v rfl (v_add rfl rfl ((by unfold I64; omega))) rfl ?_
                refine sq_v rfl (v_move rfl) rfl ?_
                refine sq_end ?_
                exact qs_bk (j + 1) ⟨by omega, fun y hy hmy => by (rw [take_succ (by omega), List.mem_append] at hy; rcases hy with hy | hy; exact hq y hy hmy; simp at hy; subst hy; simp only [List.getD] at *; omega)⟩ (by omega) ⟨rfl, rfl, rfl, rfl, rfl, rfl, rfl, rfl, rfl, rfl, rfl, rfl, rfl, rfl, rfl, rfl, rfl, rfl, rfl, rfl, (by first | rfl | exact ksub rfl (by first | omega | (simp; done) | (simp; omega))), trivial⟩ (fun _ s => s)
            · refine wp_ex ?_
              refine qs_x ?_
              refine qs_x ?_
              refine qs_bx ?_
              refine qs_n ?_
              refine wp_sc ?_
              refine wp_sq ?_
              refine sq_v rfl (v_assign rfl) rfl ?_
              refine sq_end ?_
              have hj2 : ([x46.a, x46.b] : List Int).take j = [x46.a, x46.b] := by rw [show j = 2 by omega]; rfl
              rw [hj2] at hq
              have hqr : rdyF (sumE st C) ts.length [x46.a, x46.b] ≤ st.getD i 0 := (rdyF_iff (by omega)).2 hq
              refine qs_n ?_
              refine wp_sc ?_
              refine wp_sc ?_
              refine wp_sq ?_
              refine sq_v rfl (v_move rfl) rfl ?_
              refine sq_v rfl (v_len Try.underlying44 rfl rv.sl) rfl ?_
              refine sq_v rfl (v_move rfl) rfl ?_
              refine sq_end ?_
              refine qs_n ?_
              refine wp_bl ?_
              refine wp_lp (σ := Nat × Int) (fun z_ => [(1, v), (2, num wk), (3, u), (8, .bool false), (9, v37), (10, num ts.length), (11, num i), (12, .pointer (some ⟨b12, 0, none⟩)), (15, num z_.2), (41, v), (42, num ss.length), (43, num i), (44, .bool (decide ((i : Int) < ss.length))), (45, num i), (47, .agg [num x46.a, num x46.b].toArray), (48, .pointer (some ⟨b12, 0, none⟩)), (49, num x46.a), (50, .pointer (some ⟨b12, 1, none⟩)), (51, num x46.b), (52, v52), (53, num [x46.a, x46.b].length), (54, num j), (55, .bool (decide ((j : Int) < [x46.a, x46.b].length))), (82, v), (83, num ss.length), (84, num z_.1)]) (fun z_ => [h52, box b12 [num x46.a, num x46.b] 107, h37, box b4 [num k, num p, num n, vt, vo] 33, hp w]) (fun z_ => z_.1 ≤ st.length ∧ z_.2 = runTo st C i z_.1) (fun z_ => st.length - z_.1) (0, 0) (⟨by (try dsimp only); omega, by (try dsimp only); rfl⟩) ⟨rfl, rfl, rfl, rfl, rfl, rfl, rfl, rfl, (by first | rfl | exact ksub rfl (by first | omega | (simp; done) | (simp; omega))), rfl, rfl, rfl, rfl, rfl, rfl, rfl, rfl, rfl, rfl, rfl, rfl, rfl, rfl, rfl, rfl, (by first | rfl | exact ksub rfl (by first | omega | (simp; done) | (simp; omega))), trivial⟩ (fun _ s => s) ?_
              rintro ⟨j2, q⟩ ⟨hj2, hq2⟩
              dsimp only at hj2 hq2 ⊢
              have hqi := runTo_in st C i j2
              refine wp_sc ?_
              refine wp_sq ?_
              refine sq_v rfl (v_lss rfl rfl) rfl ?_
              refine sq_end ?_
              refine qs_n ?_
              refine wp_sc ?_
              refine wp_cd rfl (fun c85 => ?_) (fun c85 => ?_)
              · refine wp_sk ?_
                refine qs_n ?_
                refine wp_sc ?_
                refine wp_bl ?_
                refine wp_sc ?_
                refine wp_sq ?_
                refine sq_v rfl (v_move rfl) rfl ?_
                refine sq_v rfl (v_assign rfl) rfl ?_
                refine sq_end ?_
                have htj := htm.2 j2 (by omega)
                have hcj := hci j2 (by omega)
                refine qs_n ?_
                refine wp_sc ?_
                refine wp_rj 25 [(0, true), (1, true), (2, true), (3, true), (4, true), (5, true), (6, true), (7, true), (8, true), (9, true), (10, true), (11, true), (12, true), (13, true), (14, true), (15, true), (16, true), (17, true), (18, true), (19, true), (20, true), (21, true), (22, true), (23, true), (24, true)] mixed_ok (by kernel_rfl) ?_
                refine rj_v rfl rfl (v_move rfl) rfl ?_
                refine rj_v rfl rfl (v_move rfl) rfl ?_
                refine rj_v rfl rfl (v_idxI Try.underlying25 ty_3 rfl rfl rs (by first | omega | (simp only [List.length_cons, List.length_nil]; omega) | (simp only [List.length_append, List.length_cons, List.length_nil]; omega) | (rw [List.length_set]; omega) | (rw [List.length_replicate]; omega) | (simp; omega)) (by first | omega | (simp only [List.length_cons, List.length_nil]; omega) | (simp only [List.length_append, List.length_cons, List.length_nil]; omega) | (rw [List.length_set]; omega) | (rw [List.length_replicate]; omega) | (simp; omega))) rfl ?_
                refine rj_v rfl rfl (v_loadI (k := j2) 4 ty_3 rfl rfl rs (by first | omega | (simp only [List.length_cons, List.length_nil]; omega) | (simp only [List.length_append, List.length_cons, List.length_nil]; omega) | (rw [List.length_set]; omega) | (rw [List.length_replicate]; omega) | (simp; omega))) rfl ?_
                refine rj_v rfl rfl (v_move rfl) rfl ?_
                refine rj_v rfl rfl (v_move rfl) rfl ?_
                refine rj_v rfl rfl (v_idxI Try.underlying25 ty_3 rfl rfl rs (by first | omega | (simp only [List.length_cons, List.length_nil]; omega) | (simp only [List.length_append, List.length_cons, List.length_nil]; omega) | (rw [List.length_set]; omega) | (rw [List.length_replicate]; omega) | (simp; omega)) (by first | omega | (simp only [List.length_cons, List.length_nil]; omega) | (simp only [List.length_append, List.length_cons, List.length_nil]; omega) | (rw [List.length_set]; omega) | (rw [List.length_replicate]; omega) | (simp; omega))) rfl ?_
                refine rj_v rfl rfl (v_loadI (k := i) 4 ty_3 rfl rfl rs (by first | omega | (simp only [List.length_cons, List.length_nil]; omega) | (simp only [List.length_append, List.length_cons, List.length_nil]; omega) | (rw [List.length_set]; omega) | (rw [List.length_replicate]; omega) | (simp; omega))) rfl ?_
                refine rj_v rfl rfl (v_leq rfl rfl) rfl ?_
                refine rj_bd 95 rfl (fun c95 => ?_) (fun c95 => ?_)
                · refine rj_v rfl rfl (v_move rfl) rfl ?_
                  refine rj_v rfl rfl (v_move rfl) rfl ?_
                  refine rj_v rfl rfl (v_move rfl) rfl ?_
                  refine rj_v rfl rfl (v_idxI Try.underlying25 ty_3 rfl rfl rs (by first | omega | (simp only [List.length_cons, List.length_nil]; omega) | (simp only [List.length_append, List.length_cons, List.length_nil]; omega) | (rw [List.length_set]; omega) | (rw [List.length_replicate]; omega) | (simp; omega)) (by first | omega | (simp only [List.length_cons, List.length_nil]; omega) | (simp only [List.length_append, List.length_cons, List.length_nil]; omega) | (rw [List.length_set]; omega) | (rw [List.length_replicate]; omega) | (simp; omega))) rfl ?_
                  refine rj_v rfl rfl (v_loadI (k := i) 4 ty_3 rfl rfl rs (by first | omega | (simp only [List.length_cons, List.length_nil]; omega) | (simp only [List.length_append, List.length_cons, List.length_nil]; omega) | (rw [List.length_set]; omega) | (rw [List.length_replicate]; omega) | (simp; omega))) rfl ?_
                  refine rj_v rfl rfl (v_move rfl) rfl ?_
                  refine rj_v rfl rfl (v_move rfl) rfl ?_
                  refine rj_v rfl rfl (v_idxI Try.underlying25 ty_3 rfl rfl rs (by first | omega | (simp only [List.length_cons, List.length_nil]; omega) | (simp only [List.length_append, List.length_cons, List.length_nil]; omega) | (rw [List.length_set]; omega) | (rw [List.length_replicate]; omega) | (simp; omega)) (by first | omega | (simp only [List.length_cons, List.length_nil]; omega) | (simp only [List.length_append, List.length_cons, List.length_nil]; omega) | (rw [List.length_set]; omega) | (rw [List.length_replicate]; omega) | (simp; omega))) rfl ?_
                  refine rj_v rfl rfl (v_loadI (k := j2) 4 ty_3 rfl rfl rs (by first | omega | (simp only [List.length_cons, List.length_nil]; omega) | (simp only [List.length_append, List.length_cons, List.length_nil]; omega) | (rw [List.length_set]; omega) | (rw [List.length_replicate]; omega) | (simp; omega))) rfl ?_
                  refine rj_v rfl rfl (v_move rfl) rfl ?_
                  refine rj_v rfl rfl (v_move rfl) rfl ?_
                  refine rj_v rfl rfl (v_idxI Try.underlying25 ty_3 rfl rfl r37.toR (by first | omega | (simp only [List.length_cons, List.length_nil]; omega) | (simp only [List.length_append, List.length_cons, List.length_nil]; omega) | (rw [List.length_set]; omega) | (rw [List.length_replicate]; omega) | (simp; omega)) (by first | omega | (simp only [List.length_cons, List.length_nil]; omega) | (simp only [List.length_append, List.length_cons, List.length_nil]; omega) | (rw [List.length_set]; omega) | (rw [List.length_replicate]; omega) | (simp; omega))) rfl ?_
                  refine rj_v rfl rfl (v_loadI (k := j2) 2 ty_3 rfl rfl r37.toR (by first | omega | (simp only [List.length_cons, List.length_nil]; omega) | (simp only [List.length_append, List.length_cons, List.length_nil]; omega) | (rw [List.length_set]; omega) | (rw [List.length_replicate]; omega) | (simp; omega))) rfl ?_
                  refine rj_v rfl rfl (v_add rfl rfl ((by unfold I64; omega))) rfl ?_
                  refine rj_v rfl rfl (v_lss rfl rfl) rfl ?_
                  refine rj_v rfl rfl (v_pickt rfl rfl) rfl ?_
                  refine rj_end ?_
                  refine qs_n ?_
                  refine wp_cd rfl (fun c111 => ?_) (fun c111 => ?_)
                  · refine wp_sq ?_
                    refine sq_v rfl (v_move rfl) rfl ?_
                    refine sq_v rfl (v_add rfl rfl ((by unfold I64; omega))) rfl ?_
                    refine sq_v rfl (v_assign rfl) rfl ?_
                    refine sq_end ?_
                    refine qs_bn ?_
                    refine qs_n ?_
                    refine wp_sq ?_
                    refine sq_v rfl (v_add rfl rfl ((by unfold I64; omega))) rfl ?_
                    refine sq_v rfl (v_move rfl) rfl ?_
                    refine sq_end ?_
                    exact qs_bk (j2 + 1, q + 1) ⟨by (try dsimp only); omega, by (try dsimp only); rw [hq2, runTo, if_pos ⟨by omega, by omega⟩]⟩ (by simp only; omega) ⟨rfl, rfl, rfl, rfl, rfl, rfl, rfl, rfl, (by first | rfl | exact ksub rfl (by first | omega | (simp; done) | (simp; omega))), rfl, rfl, rfl, rfl, rfl, rfl, rfl, rfl, rfl, rfl, rfl, rfl, rfl, rfl, rfl, rfl, (by first | rfl | exact ksub rfl (by first | omega | (simp; done) | (simp; omega))), trivial⟩ (fun _ s => s)
                  · refine wp_sk ?_
                    refine qs_bn ?_
                    refine qs_n ?_
                    refine wp_sq ?_
                    refine sq_v rfl (v_add rfl rfl ((by unfold I64; omega))) rfl ?_
                    refine sq_v rfl (v_move rfl) rfl ?_
                    refine sq_end ?_
                    exact qs_bk (j2 + 1, q) ⟨by (try dsimp only); omega, by (try dsimp only); rw [hq2, runTo, if_neg (by omega)]; omega⟩ (by simp only; omega) ⟨rfl, rfl, rfl, rfl, rfl, rfl, rfl, rfl, (by first | rfl | exact ksub rfl (by first | omega | (simp; done) | (simp; omega))), rfl, rfl, rfl, rfl, rfl, rfl, rfl, rfl, rfl, rfl, rfl, rfl, rfl, rfl, rfl, rfl, (by first | rfl | exact ksub rfl (by first | omega | (simp; done) | (simp; omega))), trivial⟩ (fun _ s => s)
                · refine rj_v rfl rfl (v_move rfl) rfl ?_
                  refine rj_s rfl rfl rfl ?_
                  refine rj_s rfl rfl rfl ?_
                  refine rj_s rfl rfl rfl ?_
                  refine rj_s rfl rfl rfl ?_
                  refine rj_s rfl rfl rfl ?_
                  refine rj_s rfl rfl rfl ?_
                  refine rj_s rfl rfl rfl ?_
                  refine rj_s rfl rfl rfl ?_
                  refine rj_s rfl rfl rfl ?_
                  refine rj_s rfl rfl rfl ?_
                  refine rj_s rfl rfl rfl ?_
                  refine rj_s rfl rfl rfl ?_
                  refine rj_s rfl rfl rfl ?_
                  refine rj_s rfl rfl rfl ?_
                  refine rj_v rfl rfl (v_pickf rfl rfl) rfl ?_
                  refine rj_end ?_
                  refine qs_n ?_
                  refine wp_cf rfl ?_
                  refine wp_sk ?_
                  refine qs_bn ?_
                  refine qs_n ?_
                  refine wp_sq ?_
                  refine sq_v rfl (v_add rfl rfl ((by unfold I64; omega))) rfl ?_
                  refine sq_v rfl (v_move rfl) rfl ?_
                  refine sq_end ?_
                  exact qs_bk (j2 + 1, q) ⟨by (try dsimp only); omega, by (try dsimp only); rw [hq2, runTo, if_neg (by omega)]; omega⟩ (by simp only; omega) ⟨rfl, rfl, rfl, rfl, rfl, rfl, rfl, rfl, (by first | rfl | exact ksub rfl (by first | omega | (simp; done) | (simp; omega))), rfl, rfl, rfl, rfl, rfl, rfl, rfl, rfl, rfl, rfl, rfl, rfl, rfl, rfl, rfl, rfl, (by first | rfl | exact ksub rfl (by first | omega | (simp; done) | (simp; omega))), trivial⟩ (fun _ s => s)
              · refine wp_ex ?_
                refine qs_x ?_
                refine qs_x ?_
                refine qs_bx ?_
                refine qs_n ?_
                refine wp_sc ?_
                refine wp_sq ?_
                refine sq_v rfl (v_move rfl) rfl ?_
                refine sq_v rfl (v_move rfl) rfl ?_
                refine sq_v rfl (v_gtr rfl rfl) rfl ?_
                refine sq_end ?_
                refine qs_n ?_
                refine wp_cd rfl (fun c117 => ?_) (fun c117 => ?_)
                · refine wp_sc ?_
                  refine wp_sq ?_
                  refine sq_v rfl (v_assign rfl) rfl ?_
                  refine sq_end ?_
                  refine qs_n ?_
                  refine wp_rt ?_
                  refine qs_br ?_
                  refine qs_r ?_
                  refine qs_r ?_
                  refine qs_br ?_
                  refine qs_r ?_
                  exact qs_ret1 rfl rfl (fin_q (i := 4) rfl (schedB_no (fun h => by have := (h.2.2.2 i (by omega) x46 hx46).1; rw [← hC, show ss.length = j2 by omega] at this; omega)))
                · refine wp_sk ?_
                  refine qs_bn ?_
                  refine qs_n ?_
                  refine wp_sq ?_
                  refine sq_v rfl (v_add rfl rfl ((by unfold I64; omega))) rfl ?_
                  refine sq_v rfl (v_move rfl) rfl ?_
                  refine sq_end ?_
                  exact qs_bk (i + 1) ⟨by omega, step_all hv (fun x hx => by rw [hx46] at hx; cases hx; rw [show ss.length = j2 by omega]; exact ⟨by omega, by omega⟩)⟩ (by omega) ⟨rfl, rfl, rfl, rfl, rfl, rfl, rfl, rfl, (by first | rfl | exact ksub rfl (by first | omega | (simp; done) | (simp; omega))), trivial⟩ (fun _ s => s.pick [2, 3, 4] (by decide) rfl)
          · refine wp_ex ?_
            refine qs_x ?_
            refine qs_x ?_
            refine qs_bx ?_
            refine qs_n ?_
            refine wp_sc ?_
            refine wp_sq ?_
            refine sq_v rfl (v_assign rfl) rfl ?_
            refine sq_end ?_
            refine qs_n ?_
            refine wp_rt ?_
            exact qs_ret1 rfl rfl (fin_q (i := 2) rfl (schedB_yes ⟨hord, by omega, htm, fun j hj => by rw [← hC]; exact hv j (by omega)⟩))
  · refine sq_v rfl (v_not rfl) rfl ?_
    refine sq_v rfl (v_move rfl) rfl ?_
    refine sq_s rfl rfl ?_
    refine sq_s rfl rfl ?_
    refine sq_v rfl (v_pickt rfl rfl) rfl ?_
    refine sq_v rfl (v_move rfl) rfl ?_
    refine sq_s rfl rfl ?_
    refine sq_s rfl rfl ?_
    refine sq_v rfl (v_pickt rfl rfl) rfl ?_
    refine sq_v rfl (v_move rfl) rfl ?_
    refine sq_s rfl rfl ?_
    refine sq_s rfl rfl ?_
    refine sq_s rfl rfl ?_
    refine sq_s rfl rfl ?_
    refine sq_v rfl (v_pickt rfl rfl) rfl ?_
    refine sq_end ?_
    refine qs_n ?_
    refine wp_ct rfl ?_
    refine wp_sc ?_
    refine wp_sq ?_
    refine sq_v rfl (v_assign rfl) rfl ?_
    refine sq_end ?_
    refine qs_n ?_
    refine wp_rt ?_
    refine qs_r ?_
    exact qs_ret1 rfl rfl (fin_q (i := 1) rfl (schedB_no (fun h => by first | (have := h.2.1; omega) | exact timesB_false.1 c34 h.2.2.1 | exact orderB_false.1 c19 h.1)))
end Go.Proofs.Ytalfigjnaidmnaa
