/-
  Parts of the proof of FnExactDecompositionValue: laws of heaps, contracts of functions.
  Conditions: none.
-/
import Derived.Test.YthlmjnihihbckaaGreatQDecompositionValue6
namespace Go.Proofs.YthlmjnihihbckaaGreat
set_option maxRecDepth 100000
open Go.RowKit
theorem jnB_step {k p n : Int} {t : Ten} {us : List Ten} {i : Nat} (h : ∀ j, j < i → jnFit k p n t us j) (h1 : jnFit k p n t us i) : ∀ j, j < i + 1 → jnFit k p n t us j := fun j hj => by
  by_cases c : j < i
  · exact h j c
  · rw [show j = i by omega]; exact h1
set_option maxHeartbeats 4000000 in
theorem ct_s_l21Join (k p n : Int) (f : Int → Int) (t : Ten) (us : List Ten) (a b c v : Value) (w : World) (r1 : IntsR t.l a (hp w)) (r2 : IntsR t.d b (hp w)) (r3 : IntsR t.x c (hp w)) (r : TensR us v (hp w)) (ht : goodT k p n f t) (hu : ∀ u ∈ us, goodT k p n f u) (hl : us.length ≤ 1000) :
    Calls Tryz.prog 98 [ringV k p n, tenV a b c, v].toArray w (Ret w emp (JnR k p n t us [a, b, c])) := by
  refine calls_in Tryz.func98 rfl Tryz.ntmps98 rfl (Sat.start w) ?_; have hle0 := r1.le; have hle1 := r2.le; have hle2 := r3.le; have hle3 := r.le; obtain ⟨cs_r, rr_r, hc_r⟩ := r.at; refine wp_sc (wp_sq ?_); refine sq_x rfl (x_box rfl rfl) rfl ?_; rintro _ _ ⟨b3, rfl, rfl⟩; refine sq_x rfl (x_box rfl rfl) rfl ?_; rintro _ _ ⟨b4, rfl, rfl⟩; refine sq_x rfl (x_alloc ty_34 rfl) rfl ?_; rintro _ _ ⟨b6, rfl, rfl⟩; refine sq_v rfl (v_assign rfl) rfl (sq_end (qs_n (wp_sc (wp_sc (wp_sq (sq_v rfl (v_move rfl) rfl (sq_v rfl (v_len Tryz.underlying38 rfl r.sl) rfl (sq_v rfl (v_move rfl) rfl (sq_end (qs_s [PUn emp (hp w), box b6 [.slice none 0 0, .slice none 0 0, .slice none 0 0] 34, box b4 [a, b, c] 34, box b3 [num k, num p, num n] 37] (fun _ s => Sat.merge (emp_sat (s.pick (HS' := [hp w, box b6 [.slice none 0 0, .slice none 0 0, .slice none 0 0] 34, box b4 [a, b, c] 34, box b3 [num k, num p, num n] 37]) [3, 0, 1, 2] (by decide) rfl))) (qs_n (wp_bl ?_)))))))))))); refine wp_lp (σ := Nat × Value × Value × Value × PH) (fun z_ => [(3, .pointer (some ⟨b3, 0, none⟩)), (4, .pointer (some ⟨b4, 0, none⟩)), (6, .pointer (some ⟨b6, 0, none⟩)), (7, .bool false), (11, v), (12, num us.length), (13, num z_.1)]) (fun z_ => [(PUn z_.2.2.2.2 (hp w)), box b6 [.slice none 0 0, .slice none 0 0, .slice none 0 0] 34, box b4 [z_.2.1, z_.2.2.1, z_.2.2.2.1] 34, box b3 [num k, num p, num n] 37]) (fun z_ => z_.1 ≤ us.length ∧ PDj z_.2.2.2.2 (hp w) ∧ (∀ j, j < z_.1 → jnFit k p n t us j) ∧ ((z_.1 = 0 ∧ [z_.2.1, z_.2.2.1, z_.2.2.2.1] = [a, b, c]) ∨ TriO (jnTo k p n t us z_.1) z_.2.1 z_.2.2.1 z_.2.2.2.1 z_.2.2.2.2) ∧ IntsR (jnTo k p n t us z_.1).l z_.2.1 (PUn z_.2.2.2.2 (hp w)) ∧ IntsR (jnTo k p n t us z_.1).d z_.2.2.1 (PUn z_.2.2.2.2 (hp w)) ∧ IntsR (jnTo k p n t us z_.1).x z_.2.2.2.1 (PUn z_.2.2.2.2 (hp w))) (fun z_ => us.length - z_.1) (0, a, b, c, emp) (⟨by (try dsimp only); omega, PDj.emp _, fun j hj => by omega, .inl ⟨rfl, rfl⟩, r1.mono (PLe.un_r (PDj.emp _)), r2.mono (PLe.un_r (PDj.emp _)), r3.mono (PLe.un_r (PDj.emp _))⟩) ⟨rfl, rfl, rfl, rfl, rfl, rfl, (by first | rfl | exact ksub rfl (by first | omega | (simp; done) | (simp; omega))), trivial⟩ (fun _ s => s) ?_; rintro ⟨i, va, vb, vc, hl2⟩ ⟨hi, hdj, hfit, hst, q1, q2, q3⟩; dsimp only at hi hdj hfit hst q1 q2 q3 ⊢; obtain ⟨csU, rrU, hcU⟩ := (r.mono (PLe.un_r hdj)).at; have hgd := jn_good ht hu i hi hfit; have hln := ten_len hgd.1.1; refine wp_sc (wp_sq (sq_v rfl (v_lss rfl rfl) rfl (sq_end (qs_n (wp_sc ?_))))); refine wp_cd rfl (fun c14 => ?_) (fun c14 => ?_)
  · refine wp_sk (qs_n (wp_sc (wp_bl (wp_sc (wp_sq ?_))))); obtain ⟨t15, a15, b15, c15, ht15, hcs15, rl15, rd15, rx15⟩ := hcU (i) (by first | omega | (rw [List.length_set]; omega)); refine sq_v rfl (v_indexAddr Tryz.underlying38 ty_34 rfl rfl rrU (by decide) (by omega) (by omega)) rfl ?_; refine sq_v rfl (v_loadNE 0 ty_34 rfl rfl rrU (by have := rrU.1; omega) rfl hcs15) rfl ?_; refine sq_x rfl (x_alloc ty_34 rfl) rfl ?_; rintro _ _ ⟨b9, rfl, rfl⟩; refine sq_m 0 rfl rfl (m_store 0 ty_34 rfl rfl rfl rfl (by simp [rl15.sl.one, rd15.sl.one, rx15.sl.one]) rfl (Nat.le_of_ble_eq_true rfl)) rfl ?_; rintro _ _ ⟨rfl, rfl⟩; refine sq_end ?_; have hu15 := hu t15 (List.mem_of_getElem? ht15); have hln15 := ten_len hu15.1; have e15 : us.getD i noTen = t15 := getD_ten ht15; have hfi : jnFit k p n t us i ↔ pairP k p n (jnTo k p n t us i) t15 ((jnTo k p n t us i).l ++ t15.l) := by unfold jnFit; rw [e15]
    refine qs_n (wp_sc (wp_rj 5 [(0, true), (1, true), (3, true), (4, true), (2, false), (5, false), (6, false)] mixed_ok (by kernel_rfl) (rj_v rfl rfl (v_fieldAddr fd_34_0 ty_25 (by decide) rfl) rfl (rj_v rfl rfl (v_loadB 3 ty_25 rfl rfl rfl) rfl (rj_v rfl rfl (v_fieldAddr fd_34_0 ty_25 (by decide) rfl) rfl (rj_v rfl rfl (v_loadB 0 ty_25 rfl rfl rfl) rfl ?_)))))); refine rj_x rfl rfl (x_call rfl en_112 (fun w s => ct_s_l05Ints _ _ w (q1.mono (s.get 1 rfl)) (by first | assumption | omega))) rfl ?_; rintro v19 h19 r19; refine rj_m 0 rfl rfl rfl rfl (m_appI 0 2 Tryz.underlying25 ty_3 rfl rfl rfl rfl r19 rfl rl15 (by first | omega | (simp; omega) | (simp only [List.length_append, List.length_cons, List.length_nil]; omega) | (rw [List.length_set]; omega))) rfl ?_; intro v22 h_r22 r22; refine rj_fv rfl rfl (v_assign rfl) rfl (rj_end (qs_n (wp_sc (wp_sc (wp_sq (sq_v rfl (v_loadNB 4 ty_34 rfl rfl rfl rfl) rfl (sq_v rfl (v_loadNB 1 ty_34 rfl rfl rfl rfl) rfl (sq_v rfl (v_move rfl) rfl (sq_u rfl (x_callv rfl en_65 (fun w s => ct_u_l08Fits k p n f _ _ _ _ _ _ _ _ _ _ w (q1.mono (s.get 2 rfl)) (q2.mono (s.get 2 rfl)) (q3.mono (s.get 2 rfl)) (rl15.mono (s.get 2 rfl)) (rd15.mono (s.get 2 rfl)) (rx15.mono (s.get 2 rfl)) (r22.toR.mono (s.get 0 rfl)) hgd.1.1 hu15.1 hgd.1.2 hu15.2)) rfl (sq_v rfl (v_not rfl) rfl (sq_end (qs_n ?_)))))))))))); refine wp_cn _ rfl (fun c27 => ?_) (fun c27 => ?_)
    · refine wp_sc (wp_sq (sq_v rfl (v_build [.slice none 0 0, .slice none 0 0, .slice none 0 0] rfl (by kernel_rfl)) rfl ?_)); refine sq_m 3 rfl rfl (m_store 3 ty_34 rfl rfl rfl rfl (by simp [one_sl]) rfl (Nat.le_of_ble_eq_true rfl)) rfl ?_; rintro _ _ ⟨rfl, rfl⟩; refine sq_v rfl (v_assign rfl) rfl (sq_end (qs_n (wp_rt (qs_r (qs_br (qs_r (qs_r (qs_br (qs_r (qs_s [hl2, hp w, box b6 [.slice none 0 0, .slice none 0 0, .slice none 0 0] 34] (fun _ s => Sat.part hdj (s.pick [2, 3] (by decide) rfl)) ?_)))))))))); exact qs_retct 2 rfl ty_34 rfl rfl rfl rfl (fin_e (i := 1) rfl ⟨_, _, _, false, rfl, ⟨fun e => (by cases e), fun h => absurd (hfi.1 (h i (by omega))) (pairB_false.1 c27)⟩, fun e => (by cases e), rfl, rfl, rfl⟩)
    · refine wp_sk (qs_n (wp_sq (sq_v rfl (v_loadNB 5 ty_37 rfl rfl rfl rfl) rfl (sq_v rfl (v_loadNB 4 ty_34 rfl rfl rfl rfl) rfl (sq_v rfl (v_loadNB 1 ty_34 rfl rfl rfl rfl) rfl (sq_v rfl (v_move rfl) rfl ?_)))))); refine sq_x rfl (x_call rfl en_66 (fun w s => ct_u_l08Pair _ _ _ _ _ _ _ _ _ _ _ _ _ w (q1.mono (s.get 2 rfl)) (q2.mono (s.get 2 rfl)) (q3.mono (s.get 2 rfl)) (rl15.mono (s.get 2 rfl)) (rd15.mono (s.get 2 rfl)) (rx15.mono (s.get 2 rfl)) (r22.toR.mono (s.get 0 rfl)) (pairB_true.1 c27))) rfl ?_; rintro _ h33 ⟨va33, vb33, vc33, rfl, o33⟩; refine sq_m 5 rfl rfl (m_store 5 ty_34 rfl rfl rfl rfl (by simp [o33.toR.1.sl.one, o33.toR.2.1.sl.one, o33.toR.2.2.sl.one]) rfl (Nat.le_of_ble_eq_true rfl)) rfl ?_; rintro _ _ ⟨rfl, rfl⟩; refine sq_end (qs_bn (qs_n (wp_sq ?_))); refine sq_v rfl (v_add rfl rfl ((by unfold I64; omega))) rfl ?_; refine sq_v rfl (v_move rfl) rfl (sq_end ?_); refine qs_dj 3 0 rfl rfl rfl (fun hdm => ?_); have o33' : TriO (jnTo k p n t us (i + 1)) va33 vb33 vc33 h33 := by rw [jnTo, e15]; exact o33
      exact qs_bk (i + 1, va33, vb33, vc33, h33) ⟨by (try dsimp only); omega, (hdm.mono (PLe.un_r hdj)).symm, jnB_step hfit (hfi.2 (pairB_true.1 c27)), .inr o33', o33'.toR.1.mono (PLe.un_l _ _), o33'.toR.2.1.mono (PLe.un_l _ _), o33'.toR.2.2.mono (PLe.un_l _ _)⟩ (by simp only; omega) ⟨rfl, rfl, rfl, rfl, rfl, rfl, (by first | rfl | exact ksub rfl (by first | omega | (simp; done) | (simp; omega))), trivial⟩ (fun _ s => Sat.merge ((Sat.part hdj (s.pick (HS' := [PUn hl2 (hp w), h33, box b6 [.slice none 0 0, .slice none 0 0, .slice none 0 0] 34, box b4 [va33, vb33, vc33] 34, box b3 [num k, num p, num n] 37]) [3, 0, 4, 5, 6] (by decide) rfl)).pick (HS' := [h33, hp w, box b6 [.slice none 0 0, .slice none 0 0, .slice none 0 0] 34, box b4 [va33, vb33, vc33] 34, box b3 [num k, num p, num n] 37]) [2, 1, 3, 4, 5] (by decide) rfl))
  · refine wp_ex (qs_x (qs_x (qs_bx (qs_n (wp_sc (wp_sq (sq_v rfl (v_loadNB 2 ty_34 rfl rfl rfl rfl) rfl ?_))))))); refine sq_m 1 rfl rfl (m_store 1 ty_34 rfl rfl rfl rfl (by simp [q1.sl.one, q2.sl.one, q3.sl.one]) rfl (Nat.le_of_ble_eq_true rfl)) rfl ?_; rintro _ _ ⟨rfl, rfl⟩; refine sq_v rfl (v_assign rfl) rfl (sq_end (qs_n (wp_rt (qs_s [hl2, box b6 [va, vb, vc] 34, hp w] (fun _ s => (Sat.part hdj (s.pick (HS' := [PUn hl2 (hp w), box b6 [va, vb, vc] 34]) [0, 1] (by decide) rfl)).pick [0, 2, 1] (by decide) rfl) ?_)))); have ei : i = us.length := by omega
    subst ei; exact qs_retct 1 rfl ty_34 rfl rfl rfl rfl (fin_t 0 (i := 2) rfl rfl rfl ⟨_, _, _, true, rfl, ⟨fun _ => hfit, fun _ => rfl⟩, fun _ => hst.imp (fun h => ⟨List.eq_nil_of_length_eq_zero h.1, h.2⟩) id, q1.sl.one, q2.sl.one, q3.sl.one⟩)
theorem TensL.at0 {us : List Ten} {cs : List Value} {h : PH} (hT : TensL us cs h) : ∀ i, i < us.length → ∃ t a b c, us[i]? = some t ∧ (cs.drop (i * 3)).take 3 = [a, b, c] ∧ IntsR t.l a h ∧ IntsR t.d b h ∧ IntsR t.x c h := fun i hi => by
  have ht := List.getElem?_eq_getElem (l := us) (i := i) (by omega); obtain ⟨a, b, c, e, r1, r2, r3⟩ := hT.2 i _ ht; exact ⟨_, a, b, c, ht, e, r1, r2, r3⟩
theorem TensL.drop {us : List Ten} {cs : List Value} {h : PH} (hT : TensL us cs h) (m : Nat) (hm : m ≤ us.length) : TensL (us.drop m) (cs.drop (m * 3)) h := by
  refine ⟨by rw [List.length_drop, List.length_drop, hT.1]; omega, fun i t e => ?_⟩; rw [List.getElem?_drop] at e; have := hT.2 (m + i) t e; rw [List.drop_drop, show m * 3 + i * 3 = (m + i) * 3 by omega]; exact this
theorem TensR.subL {us : List Ten} {v : Value} {h : PH} (r : TensR us v h) {lo : Nat} (h1 : lo ≤ us.length) : TensR (us.drop lo) (subV v lo us.length 3) h := by
  obtain ⟨cs, rr, hc⟩ := r; have q := RowR.sub rr h1 (Nat.le_refl _); refine ⟨_, by rw [List.length_drop]; exact q, fun i t e => ?_⟩; have hi := (List.getElem?_eq_some_iff.1 e).1; rw [List.length_drop] at hi; rw [List.getElem?_drop] at e; have := hc (lo + i) t e; rw [List.drop_take, List.take_take, List.drop_drop, Nat.min_eq_left (by omega), show lo * 3 + i * 3 = (lo + i) * 3 by omega]; exact this
set_option maxHeartbeats 4000000 in
theorem ct_i_joinAll (k p n : Int) (f : Int → Int) (t : Ten) (us : List Ten) (cs : List Value) (v : Value) (w : World) (rr : RowR cs (t :: us).length 3 v (hp w)) (hT : TensL (t :: us) cs (hp w)) (ht : goodT k p n f t) (hu : ∀ u ∈ us, goodT k p n f u) (hl : us.length ≤ 1000) :
    Calls Tryz.prog 105 [ringV k p n, v].toArray w (Ret w emp (JnR k p n t us ((cs.drop (0 * 3)).take 3))) := by
  have r : TensR (t :: us) v (hp w) := hT.tens rr; have hcl : (t :: us).length = us.length + 1 := rfl; have hdl : ((t :: us).drop 1).length = us.length := rfl; have rT1 : TensR us (subV v 1 (t :: us).length 3) (hp w) := r.subL (lo := 1) (by omega); refine calls_in Tryz.func105 rfl Tryz.ntmps105 rfl (Sat.start w) (wp_sc (wp_sq ?_)); refine sq_x rfl (x_box rfl rfl) rfl ?_; rintro _ _ ⟨b2, rfl, rfl⟩; refine sq_x rfl (x_alloc ty_34 rfl) rfl ?_; rintro _ _ ⟨b4, rfl, rfl⟩; refine sq_v rfl (v_assign rfl) rfl (sq_end (qs_n (wp_sc (wp_sq (sq_v rfl (v_move rfl) rfl ?_))))); obtain ⟨t12, a12, b12, c12, ht12, hcs12, rl12, rd12, rx12⟩ := hT.at0 (0) (by first | omega | (rw [List.length_set]; omega)); refine sq_v rfl (v_indexAddr Tryz.underlying38 ty_34 rfl rfl rr (by decide) (by omega) (by omega)) rfl ?_; refine sq_v rfl (v_loadNE 2 ty_34 rfl rfl rr (by have := rr.1; omega) rfl hcs12) rfl ?_; refine sq_x rfl (x_alloc ty_34 rfl) rfl ?_; rintro _ _ ⟨b6, rfl, rfl⟩; refine sq_m 0 rfl rfl (m_store 0 ty_34 rfl rfl rfl rfl (by simp [rl12.sl.one, rd12.sl.one, rx12.sl.one]) rfl (Nat.le_of_ble_eq_true rfl)) rfl ?_; rintro _ _ ⟨rfl, rfl⟩; refine sq_end (qs_n (wp_sc (wp_sc (wp_sq (sq_v rfl (v_move rfl) rfl (sq_v rfl (v_sliceL Tryz.underlying38 ty_34 rfl rfl  rr (by omega) (by omega)) rfl ?_)))))); obtain ⟨cs_T_15, rr_T_15, hc_T_15⟩ := (r.subL (lo := 1) (by omega)).at; refine sq_v rfl (v_len Tryz.underlying38 rfl (r.subL (lo := 1) (by omega)).sl) rfl (sq_v rfl (v_move rfl) rfl (sq_end ?_)); have e12 : t = t12 := by simpa using ht12
  subst e12; rw [hcs12]; refine qs_s [PUn emp (hp w), box b6 [a12, b12, c12] 34, box b4 [.slice none 0 0, .slice none 0 0, .slice none 0 0] 34, box b2 [num k, num p, num n] 37] (fun _ s => Sat.merge (emp_sat (s.pick (HS' := [hp w, box b6 [a12, b12, c12] 34, box b4 [.slice none 0 0, .slice none 0 0, .slice none 0 0] 34, box b2 [num k, num p, num n] 37]) [3, 0, 1, 2] (by decide) rfl))) (qs_n (wp_bl ?_)); refine wp_lp (σ := Nat × Value × Value × Value × PH) (fun z_ => [(2, .pointer (some ⟨b2, 0, none⟩)), (4, .pointer (some ⟨b4, 0, none⟩)), (5, .bool false), (6, .pointer (some ⟨b6, 0, none⟩)), (15, subV v 1 (t :: us).length 3), (16, num ((t :: us).drop 1).length), (17, num z_.1)]) (fun z_ => [(PUn z_.2.2.2.2 (hp w)), box b6 [z_.2.1, z_.2.2.1, z_.2.2.2.1] 34, box b4 [.slice none 0 0, .slice none 0 0, .slice none 0 0] 34, box b2 [num k, num p, num n] 37]) (fun z_ => z_.1 ≤ us.length ∧ PDj z_.2.2.2.2 (hp w) ∧ (∀ j, j < z_.1 → jnFit k p n t us j) ∧ ((z_.1 = 0 ∧ [z_.2.1, z_.2.2.1, z_.2.2.2.1] = [a12, b12, c12]) ∨ TriO (jnTo k p n t us z_.1) z_.2.1 z_.2.2.1 z_.2.2.2.1 z_.2.2.2.2) ∧ IntsR (jnTo k p n t us z_.1).l z_.2.1 (PUn z_.2.2.2.2 (hp w)) ∧ IntsR (jnTo k p n t us z_.1).d z_.2.2.1 (PUn z_.2.2.2.2 (hp w)) ∧ IntsR (jnTo k p n t us z_.1).x z_.2.2.2.1 (PUn z_.2.2.2.2 (hp w))) (fun z_ => us.length - z_.1) (0, a12, b12, c12, emp) (⟨by (try dsimp only); omega, PDj.emp _, fun j hj => by omega, .inl ⟨rfl, rfl⟩, rl12.mono (PLe.un_r (PDj.emp _)), rd12.mono (PLe.un_r (PDj.emp _)), rx12.mono (PLe.un_r (PDj.emp _))⟩) ⟨rfl, rfl, rfl, rfl, rfl, rfl, (by first | rfl | exact ksub rfl (by first | omega | (simp; done) | (simp; omega))), trivial⟩ (fun _ s => s) ?_; rintro ⟨i, va, vb, vc, hl2⟩ ⟨hi, hdj, hfit, hst, q1, q2, q3⟩; dsimp only at hi hdj hfit hst q1 q2 q3 ⊢; obtain ⟨csU, rrU, hcU⟩ := (rT1.mono (PLe.un_r hdj)).at; have hgd := jn_good ht hu i hi hfit; have hln := ten_len hgd.1.1; refine wp_sc (wp_sq (sq_v rfl (v_lss rfl rfl) rfl (sq_end (qs_n (wp_sc ?_))))); refine wp_cd rfl (fun c18 => ?_) (fun c18 => ?_)
  · refine wp_sk (qs_n (wp_sc (wp_bl (wp_sc (wp_sq ?_))))); obtain ⟨t19, a19, b19, c19, ht19, hcs19, rl19, rd19, rx19⟩ := hcU (i) (by first | omega | (rw [List.length_set]; omega)); refine sq_v rfl (v_indexAddr Tryz.underlying38 ty_34 rfl rfl rrU (by decide) (by omega) (by omega)) rfl ?_; refine sq_v rfl (v_loadNE 0 ty_34 rfl rfl rrU (by have := rrU.1; omega) rfl hcs19) rfl ?_; refine sq_x rfl (x_alloc ty_34 rfl) rfl ?_; rintro _ _ ⟨b8, rfl, rfl⟩; refine sq_m 0 rfl rfl (m_store 0 ty_34 rfl rfl rfl rfl (by simp [rl19.sl.one, rd19.sl.one, rx19.sl.one]) rfl (Nat.le_of_ble_eq_true rfl)) rfl ?_; rintro _ _ ⟨rfl, rfl⟩; refine sq_end ?_; have ht19' : us[i]? = some t19 := ht19; have hu19 := hu t19 (List.mem_of_getElem? ht19'); have hln19 := ten_len hu19.1; have hjc := jn_congr (k := k) (p := p) (n := n) (t := t) ht19'; refine qs_n (wp_sc ?_); refine wp_ra (σ := Nat × PH × PH × Value × Value × Value × Value) 14 (fun z_ => IntsO (joinI ((jnTo k p n t us i).l) t19.l) z_.2.2.2.1 z_.2.2.1 ∧ TriO (pairR k p n (jnTo k p n t us i) t19 (joinI ((jnTo k p n t us i).l) t19.l)) z_.2.2.2.2.1 z_.2.2.2.2.2.1 z_.2.2.2.2.2.2 z_.2.1) (fun z_ => [(2, .pointer (some ⟨b2, 0, none⟩)), (4, .pointer (some ⟨b4, 0, none⟩)), (5, .bool false), (6, .pointer (some ⟨b6, 0, none⟩)), (8, .pointer (some ⟨b8, 0, none⟩)), (9, .pointer (some ⟨z_.1, 0, none⟩)), (10, .bool (pairB k p n (jnTo k p n t us i) t19 (joinI ((jnTo k p n t us i).l) t19.l))), (15, subV v 1 (t :: us).length 3), (16, num ((t :: us).drop 1).length), (17, num i), (18, .bool (decide ((i : Int) < ((t :: us).drop 1).length))), (20, .agg [a19, b19, c19].toArray)]) (fun z_ => [box z_.1 [z_.2.2.2.2.1, z_.2.2.2.2.2.1, z_.2.2.2.2.2.2] 34, z_.2.1, z_.2.2.1, box b8 [a19, b19, c19] 34, (PUn hl2 (hp w)), box b6 [va, vb, vc] 34, box b4 [.slice none 0 0, .slice none 0 0, .slice none 0 0] 34, box b2 [num k, num p, num n] 37]) mixed_ok (by kernel_rfl) ?_ ?_
    · refine rak_of (rak_v (i := 0) (by kernel_rfl) rfl rfl (v_loadNB 4 ty_37 rfl rfl rfl rfl) rfl (rak_v (i := 1) (by kernel_rfl) rfl rfl (v_loadNB 2 ty_34 rfl rfl rfl rfl) rfl (rak_v (i := 2) (by kernel_rfl) rfl rfl (v_loadNB 0 ty_34 rfl rfl rfl rfl) rfl (rak_v (i := 3) (by kernel_rfl) rfl rfl (v_fieldAddr fd_34_0 ty_25 (by decide) rfl) rfl (rak_v (i := 4) (by kernel_rfl) rfl rfl (v_loadB 2 ty_25 rfl rfl rfl) rfl (rak_v (i := 5) (by kernel_rfl) rfl rfl (v_fieldAddr fd_34_0 ty_25 (by decide) rfl) rfl (rak_v (i := 6) (by kernel_rfl) rfl rfl (v_loadB 0 ty_25 rfl rfl rfl) rfl ?_))))))); refine rak_2 (i := 7) (j := 12) (by kernel_rfl) ?_ ?_
      · refine rok_x rfl rfl (x_call rfl en_117 (fun w s => ct_i_joinLabels _ _ _ _ w (q1.mono (s.get 1 rfl)) (rl19.mono (s.get 1 rfl)) (by first | assumption | omega))) rfl ?_; rintro v29 h29 r29; refine rak_2 (i := 8) (j := 12) (by kernel_rfl) ?_ ?_
        · refine rok_x rfl rfl (x_call rfl en_73 (fun w s => ct_i_ContractPair _ _ _ _ _ _ _ _ _ _ _ _ _ w (q1.mono (s.get 2 rfl)) (q2.mono (s.get 2 rfl)) (q3.mono (s.get 2 rfl)) (rl19.mono (s.get 2 rfl)) (rd19.mono (s.get 2 rfl)) (rx19.mono (s.get 2 rfl)) (r29.toR.mono (s.get 0 rfl)))) rfl ?_; rintro _ h30 ⟨va30, vb30, vc30, rfl, o30⟩; refine rak_rk [(9, true), (10, true), (11, true), (12, false), (13, false), (14, false)] (by kernel_rfl) rfl (rk_v rfl rfl (v_move rfl) rfl (rk_v rfl rfl (v_extract rfl rfl) rfl (rk_v rfl rfl (v_extract rfl rfl) rfl ?_))); refine rk_xb rfl rfl (x_alloc ty_34 rfl) rfl ?_; rintro _ _ ⟨b9, rfl, rfl⟩; refine rk_m 0 rfl rfl rfl rfl (m_store 0 ty_34 rfl rfl rfl rfl (by simp [o30.toR.1.sl.one, o30.toR.2.1.sl.one, o30.toR.2.2.sl.one]) rfl (Nat.le_of_ble_eq_true rfl)) rfl ?_; rintro _ _ ⟨rfl, rfl⟩; refine rk_fv rfl rfl (v_assign rfl) rfl (rk_end ?_); exact qs_mid (b9, h30, h29, v29, va30, vb30, vc30) ⟨r29, o30⟩ ⟨rfl, rfl, rfl, rfl, rfl, rfl, rfl, rfl, rfl, rfl, rfl, rfl, trivial⟩ (fun _ s => s.pick [0, 1, 2, 3, 4, 5, 6, 7] (by decide) rfl)
        · refine rok_xb rfl rfl (x_alloc ty_34 rfl) rfl ?_; rintro _ _ ⟨b9, rfl, rfl⟩; refine rak_rk [(8, false), (9, true), (10, true), (11, true), (13, false), (14, false)] (by kernel_rfl) rfl ?_; refine rk_x rfl rfl (x_call rfl en_73 (fun w s => ct_i_ContractPair _ _ _ _ _ _ _ _ _ _ _ _ _ w (q1.mono (s.get 3 rfl)) (q2.mono (s.get 3 rfl)) (q3.mono (s.get 3 rfl)) (rl19.mono (s.get 3 rfl)) (rd19.mono (s.get 3 rfl)) (rx19.mono (s.get 3 rfl)) (r29.toR.mono (s.get 1 rfl)))) rfl ?_; rintro _ h30 ⟨va30, vb30, vc30, rfl, o30⟩; refine rk_v rfl rfl (v_move rfl) rfl (rk_v rfl rfl (v_extract rfl rfl) rfl (rk_v rfl rfl (v_extract rfl rfl) rfl ?_)); refine rk_m 1 rfl rfl rfl rfl (m_store 1 ty_34 rfl rfl rfl rfl (by simp [o30.toR.1.sl.one, o30.toR.2.1.sl.one, o30.toR.2.2.sl.one]) rfl (Nat.le_of_ble_eq_true rfl)) rfl ?_; rintro _ _ ⟨rfl, rfl⟩; refine rk_fv rfl rfl (v_assign rfl) rfl (rk_end ?_); exact qs_mid (b9, h30, h29, v29, va30, vb30, vc30) ⟨r29, o30⟩ ⟨rfl, rfl, rfl, rfl, rfl, rfl, rfl, rfl, rfl, rfl, rfl, rfl, trivial⟩ (fun _ s => s.pick [1, 0, 2, 3, 4, 5, 6, 7] (by decide) rfl)
      · refine rok_xb rfl rfl (x_alloc ty_34 rfl) rfl ?_; rintro _ _ ⟨b9, rfl, rfl⟩; refine rak_rk [(7, false), (8, false), (9, true), (10, true), (11, true), (13, false), (14, false)] (by kernel_rfl) rfl ?_; refine rk_x rfl rfl (x_call rfl en_117 (fun w s => ct_i_joinLabels _ _ _ _ w (q1.mono (s.get 2 rfl)) (rl19.mono (s.get 2 rfl)) (by first | assumption | omega))) rfl ?_; rintro v29 h29 r29; refine rk_x rfl rfl (x_call rfl en_73 (fun w s => ct_i_ContractPair _ _ _ _ _ _ _ _ _ _ _ _ _ w (q1.mono (s.get 3 rfl)) (q2.mono (s.get 3 rfl)) (q3.mono (s.get 3 rfl)) (rl19.mono (s.get 3 rfl)) (rd19.mono (s.get 3 rfl)) (rx19.mono (s.get 3 rfl)) (r29.toR.mono (s.get 0 rfl)))) rfl ?_; rintro _ h30 ⟨va30, vb30, vc30, rfl, o30⟩; refine rk_v rfl rfl (v_move rfl) rfl (rk_v rfl rfl (v_extract rfl rfl) rfl (rk_v rfl rfl (v_extract rfl rfl) rfl ?_)); refine rk_m 2 rfl rfl rfl rfl (m_store 2 ty_34 rfl rfl rfl rfl (by simp [o30.toR.1.sl.one, o30.toR.2.1.sl.one, o30.toR.2.2.sl.one]) rfl (Nat.le_of_ble_eq_true rfl)) rfl ?_; rintro _ _ ⟨rfl, rfl⟩; refine rk_fv rfl rfl (v_assign rfl) rfl (rk_end ?_); exact qs_mid (b9, h30, h29, v29, va30, vb30, vc30) ⟨r29, o30⟩ ⟨rfl, rfl, rfl, rfl, rfl, rfl, rfl, rfl, rfl, rfl, rfl, rfl, trivial⟩ (fun _ s => s.pick [2, 0, 1, 3, 4, 5, 6, 7] (by decide) rfl)
    · rintro ⟨b9, h30, h29, v29, va30, vb30, vc30⟩ ⟨r29, o30⟩; dsimp only at r29 o30 ⊢; have hjc := jn_congr (k := k) (p := p) (n := n) (t := t) ht19'; rw [hjc.1] at o30; refine qs_n (wp_sc (wp_sc (wp_sq (sq_v rfl (v_move rfl) rfl (sq_v rfl (v_not rfl) rfl (sq_end (qs_n ?_))))))); refine wp_cn _ rfl (fun c34 => ?_) (fun c34 => ?_)
      · refine wp_sc (wp_sq (sq_v rfl (v_build [.slice none 0 0, .slice none 0 0, .slice none 0 0] rfl (by kernel_rfl)) rfl ?_)); refine sq_m 6 rfl rfl (m_store 6 ty_34 rfl rfl rfl rfl (by simp [one_sl]) rfl (Nat.le_of_ble_eq_true rfl)) rfl ?_; rintro _ _ ⟨rfl, rfl⟩; refine sq_v rfl (v_assign rfl) rfl (sq_end (qs_n (wp_rt (qs_r (qs_br (qs_r (qs_r (qs_br (qs_r (qs_s [hl2, hp w, box b4 [.slice none 0 0, .slice none 0 0, .slice none 0 0] 34] (fun _ s => Sat.part hdj (s.pick [4, 6] (by decide) rfl)) ?_)))))))))); exact qs_retct 2 rfl ty_34 rfl rfl rfl rfl (fin_e (i := 1) rfl ⟨_, _, _, false, rfl, ⟨fun e => (by cases e), fun h => absurd (hjc.2.2 (h i (by omega))) (pairB_false.1 c34)⟩, fun e => (by cases e), rfl, rfl, rfl⟩)
      · refine wp_sk (qs_n (wp_sq (sq_v rfl (v_loadNB 0 ty_34 rfl rfl rfl rfl) rfl ?_))); refine sq_m 5 rfl rfl (m_store 5 ty_34 rfl rfl rfl rfl (by simp [o30.toR.1.sl.one, o30.toR.2.1.sl.one, o30.toR.2.2.sl.one]) rfl (Nat.le_of_ble_eq_true rfl)) rfl ?_; rintro _ _ ⟨rfl, rfl⟩; refine sq_end (qs_bn (qs_n (wp_sq ?_))); refine sq_v rfl (v_add rfl rfl ((by unfold I64; omega))) rfl ?_; refine sq_v rfl (v_move rfl) rfl (sq_end ?_); refine qs_dj 4 1 rfl rfl rfl (fun hdm => ?_); exact qs_bk (i + 1, va30, vb30, vc30, h30) ⟨by (try dsimp only); omega, (hdm.mono (PLe.un_r hdj)).symm, jnB_step hfit (hjc.2.1 (pairB_true.1 c34)), .inr o30, o30.toR.1.mono (PLe.un_l _ _), o30.toR.2.1.mono (PLe.un_l _ _), o30.toR.2.2.mono (PLe.un_l _ _)⟩ (by simp only; omega) ⟨rfl, rfl, rfl, rfl, rfl, rfl, (by first | rfl | exact ksub rfl (by first | omega | (simp; done) | (simp; omega))), trivial⟩ (fun _ s => Sat.merge ((Sat.part hdj (s.pick (HS' := [PUn hl2 (hp w), h30, box b6 [va30, vb30, vc30] 34, box b4 [.slice none 0 0, .slice none 0 0, .slice none 0 0] 34, box b2 [num k, num p, num n] 37]) [4, 1, 5, 6, 7] (by decide) rfl)).pick (HS' := [h30, hp w, box b6 [va30, vb30, vc30] 34, box b4 [.slice none 0 0, .slice none 0 0, .slice none 0 0] 34, box b2 [num k, num p, num n] 37]) [2, 1, 3, 4, 5] (by decide) rfl))
  · refine wp_ex (qs_x (qs_x (qs_bx (qs_n (wp_sc (wp_sq (sq_v rfl (v_loadNB 1 ty_34 rfl rfl rfl rfl) rfl ?_))))))); refine sq_m 2 rfl rfl (m_store 2 ty_34 rfl rfl rfl rfl (by simp [q1.sl.one, q2.sl.one, q3.sl.one]) rfl (Nat.le_of_ble_eq_true rfl)) rfl ?_; rintro _ _ ⟨rfl, rfl⟩; refine sq_v rfl (v_assign rfl) rfl (sq_end (qs_n (wp_rt (qs_s [hl2, box b4 [va, vb, vc] 34, hp w] (fun _ s => (Sat.part hdj (s.pick (HS' := [PUn hl2 (hp w), box b4 [va, vb, vc] 34]) [0, 2] (by decide) rfl)).pick [0, 2, 1] (by decide) rfl) ?_)))); have ei : i = us.length := by have : ((t :: us).drop 1).length = us.length := rfl; omega
    subst ei; exact qs_retct 1 rfl ty_34 rfl rfl rfl rfl (fin_t 0 (i := 2) rfl rfl rfl ⟨_, _, _, true, rfl, ⟨fun _ => hfit, fun _ => rfl⟩, fun _ => hst.imp (fun h => ⟨List.eq_nil_of_length_eq_zero h.1, h.2⟩) id, q1.sl.one, q2.sl.one, q3.sl.one⟩)
end Go.Proofs.YthlmjnihihbckaaGreat
namespace Go.Proofs.YthlmjnihihbckaaGreat
set_option maxRecDepth 100000
open Go.RowKit
theorem dotTo_cons (a b : Int) (xs ys : List Int) : ∀ m, dotTo (a :: xs) (b :: ys) (m + 1) = a * b + dotTo xs ys m
  | 0 => by simp [dotTo]
  | m + 1 => by
    have ih := dotTo_cons a b xs ys m; rw [dotTo, ih, dotTo]; simp only [List.getD_cons_succ]
    omega
theorem dotL_cons (a b : Int) (xs ys : List Int) : dotL (a :: xs) (b :: ys) = a * b + dotL xs ys := by
  unfold dotL
  rw [List.length_cons, dotTo_cons]
theorem steps_skip {labels ls ds : List Int} {l d : Int} (h : l ∉ labels) : stepsL labels (l :: ls) (d :: ds) = stepsL labels ls ds :=
  List.map_congr_left fun x hx => by simp only [strOf]; rw [if_neg (fun e => h (by rw [← e]; exact hx))]
theorem sl_full : ∀ {ls ds is : List Int}, ls.Nodup → ls.length = ds.length → is.length = ls.length → dotL (stepsL ls ls ds) is = offL ds is
  | [], [], [], _, _, _ => by simp [dotL, stepsL, dotTo, offL]
  | l :: ls, d :: ds, i :: is, hn, hl, hi => by
    have hn' := List.nodup_cons.1 hn; have ih := sl_full (ls := ls) (ds := ds) (is := is) hn'.2 (by simpa using hl) (by simpa using hi); have e : stepsL (l :: ls) (l :: ls) (d :: ds) = prodI ds :: stepsL ls ls ds := by
      rw [← steps_skip (l := l) (d := d) hn'.1]
      simp [stepsL, strOf]
    rw [e, dotL_cons, ih, offL, Int.mul_comm]
  | [], _ :: _, _, _, hl, _ => by simp at hl
  | _ :: _, [], _, _, hl, _ => by simp at hl
  | [], [], _ :: _, _, _, hi => by simp at hi
  | _ :: _, _ :: _, [], _, _, hi => by simp at hi
theorem sl_dot : ∀ {ls ds is : List Int} {j : Nat} (v : Int), ls.Nodup → ls.length = ds.length → j < ls.length → is.length + 1 = ls.length → v * strOf ls ds (ls.getD j 0) + dotL (stepsL (ls.eraseIdx j) ls ds) is = offL ds (is.insertIdx j v)
  | l :: ls, d :: ds, is, 0, v, hn, hl, _, hi => by
    have hn' := List.nodup_cons.1 hn; have h := sl_full (ls := ls) (ds := ds) (is := is) hn'.2 (by simpa using hl) (by simpa using hi); rw [List.eraseIdx_zero, List.tail_cons, steps_skip hn'.1, h]
    simp [strOf, offL]
  | l :: ls, d :: ds, i :: is, j + 1, v, hn, hl, hj, hi => by
    have hn' := List.nodup_cons.1 hn; have hj' : j < ls.length := by simpa using hj
    have ih := sl_dot (ls := ls) (ds := ds) (is := is) (j := j) v hn'.2 (by simpa using hl) hj' (by simpa using hi); have hne : ls.getD j 0 ≠ l := fun e => hn'.1 (e ▸ mem_getD hj'); have hm : l ∉ ls.eraseIdx j := fun h => hn'.1 (List.mem_of_mem_eraseIdx h); have e : stepsL (l :: ls.eraseIdx j) (l :: ls) (d :: ds) = prodI ds :: stepsL (ls.eraseIdx j) ls ds := by
      rw [← steps_skip (l := l) (d := d) hm]
      simp [stepsL, strOf]
    rw [List.eraseIdx_cons_succ, e, dotL_cons, List.insertIdx_succ_cons, offL, ← ih, List.getD_cons_succ]; simp only [strOf]; rw [if_neg hne, Int.mul_comm (prodI ds)]
    omega
  | [], _, _, _, _, _, _, hj, _ => by simp at hj
  | _ :: _, [], _, _, _, _, hl, _, _ => by simp at hl
  | l :: ls, _ :: _, [], j + 1, _, _, _, hj, hi => by
    have h1 : (l :: ls).length = ls.length + 1 := rfl; have h2 : ([] : List Int).length = 0 := rfl
    omega
theorem idxL_cons (d : Int) (ds : List Int) (n : Int) : idxL (d :: ds) n = (n / prodI ds % d) :: idxL ds n := by
  unfold idxL
  rw [List.length_cons, List.range_succ_eq_map, List.map_cons, List.map_map]
  rfl
theorem idxL_shift : ∀ {ds : List Int} (_ : ∀ d ∈ ds, 1 ≤ d) (q m : Int), idxL ds (q * prodI ds + m) = idxL ds m
  | [], _, q, m => rfl
  | d :: ds, hd, q, m => by
    have h1 := prodI_one (ds := ds) fun x hx => hd x (by simp [hx]); have hd1 := hd d (by simp); have ih := idxL_shift (ds := ds) (fun x hx => hd x (by simp [hx])) (q * d) m; have e : q * prodI (d :: ds) + m = q * d * prodI ds + m := by rw [prodI_cons, Int.mul_assoc]
    rw [e, idxL_cons, idxL_cons, ih]
    congr 1
    rw [Int.add_comm, Int.add_mul_ediv_right _ _ (by omega), Int.add_mul_emod_self_right]
theorem range_blocks (b : Nat) : ∀ a : Nat, List.range (a * b) = (List.range a).flatMap fun q => (List.range b).map fun r => q * b + r
  | 0 => by simp
  | a + 1 => by
    rw [Nat.add_mul, Nat.one_mul, List.range_add, range_blocks b a, List.range_succ, List.flatMap_append]
    simp
theorem one_block {α : Type} (g : Nat → List α) {v : Nat} : ∀ {a : Nat}, v < a → (List.range a).flatMap (fun q => if q = v then g q else []) = g v
  | 0, h => by omega
  | a + 1, h => by
    rw [List.range_succ, List.flatMap_append]
    by_cases e : a = v
    · subst e; have h0 : (List.range a).flatMap (fun q => if q = a then g q else []) = [] := List.flatMap_eq_nil_iff.2 fun q hq => by
        have := List.mem_range.1 hq; rw [if_neg (by omega)]
      rw [h0]; simp
    · rw [one_block g (show v < a by omega)]; simp [e]
theorem flatMap_congr' {α β : Type} {l : List α} {f g : α → List β} (h : ∀ x ∈ l, f x = g x) : l.flatMap f = l.flatMap g := by
  induction l with
  | nil => rfl
  | cons x l ih => rw [List.flatMap_cons, List.flatMap_cons, h x (by simp), ih fun y hy => h y (by simp [hy])]
theorem filter_flatMap {α β : Type} (p : β → Bool) (f : α → List β) (l : List α) : (l.flatMap f).filter p = l.flatMap fun x => (f x).filter p := by
  induction l with
  | nil => rfl
  | cons x l ih => rw [List.flatMap_cons, List.flatMap_cons, List.filter_append, ih]
theorem map_flatMap' {α β γ : Type} (g : β → γ) (f : α → List β) (l : List α) : (l.flatMap f).map g = l.flatMap fun x => (f x).map g := by
  induction l with
  | nil => rfl
  | cons x l ih => rw [List.flatMap_cons, List.flatMap_cons, List.map_append, ih]
def slHas (ds : List Int) (j : Nat) (v : Int) (n : Nat) : Bool := decide ((idxL ds n).getD j 0 = v)
def slTo (ds : List Int) (j : Nat) (v : Int) (m : Nat) : List Nat := (List.range m).filter (slHas ds j v)
def slAt (ds : List Int) (j : Nat) (v : Int) (m : Nat) : Nat := (offL ds ((idxL (ds.eraseIdx j) m).insertIdx j v)).toNat
theorem ins_in {ds is : List Int} {j : Nat} {v : Int} (hj : j < ds.length) (hv : 0 ≤ v ∧ v < ds.getD j 0) (h : idxIn (ds.eraseIdx j) is) : idxIn ds (is.insertIdx j v) := by
  have hl := h.1; rw [List.length_eraseIdx_of_lt hj] at hl; refine ⟨by rw [List.length_insertIdx_of_le_length (by omega)]; omega, fun i hi => ?_⟩
  rcases Nat.lt_trichotomy i j with c | c | c
  · have e1 : (is.insertIdx j v).getD i 0 = is.getD i 0 := by simp only [List.getD]; rw [List.getElem?_insertIdx_of_lt c]
    have e2 : (ds.eraseIdx j).getD i 0 = ds.getD i 0 := by simp only [List.getD]; rw [List.getElem?_eraseIdx_of_lt c]
    have := h.2 i (by rw [List.length_eraseIdx_of_lt hj]; omega); rw [e1, ← e2]; exact this
  · subst c; have e1 : (is.insertIdx i v).getD i 0 = v := by simp only [List.getD]; rw [List.getElem?_insertIdx_self, if_pos (by omega)]; rfl
    rw [e1]; exact hv
  · have e1 : (is.insertIdx j v).getD i 0 = is.getD (i - 1) 0 := by simp only [List.getD]; rw [List.getElem?_insertIdx_of_gt c]
    have e2 : (ds.eraseIdx j).getD (i - 1) 0 = ds.getD i 0 := by
      simp only [List.getD]; rw [List.getElem?_eraseIdx_of_ge (by omega), show i - 1 + 1 = i by omega]
    have := h.2 (i - 1) (by rw [List.length_eraseIdx_of_lt hj]; omega); rw [e1, ← e2]; exact this
theorem erase_mem {ds : List Int} {j : Nat} {p : Int → Prop} (h : ∀ d ∈ ds, p d) : ∀ d ∈ ds.eraseIdx j, p d := fun d hd => h d (List.mem_of_mem_eraseIdx hd)
theorem sl_in {ds : List Int} (hd : ∀ d ∈ ds, 1 ≤ d) {j : Nat} (hj : j < ds.length) {v : Int} (hv : 0 ≤ v ∧ v < ds.getD j 0) (m : Int) : 0 ≤ offL ds ((idxL (ds.eraseIdx j) m).insertIdx j v) ∧ offL ds ((idxL (ds.eraseIdx j) m).insertIdx j v) ≤ prodI ds - 1 :=
  offL_in hd (ins_in hj hv (idxL_in (erase_mem hd) m))
theorem sl_eq : ∀ {ds : List Int} (_ : ∀ d ∈ ds, 1 ≤ d) {j : Nat} (_ : j < ds.length) {v : Int} (_ : 0 ≤ v ∧ v < ds.getD j 0), slTo ds j v (prodI ds).toNat = (List.range (prodI (ds.eraseIdx j)).toNat).map (slAt ds j v)
  | [], _, j, hj, _, _ => by simp at hj
  | d :: ds, hd, 0, _, v, hv => by
    have hd' : ∀ x ∈ ds, 1 ≤ x := fun x hx => hd x (by simp [hx]); have hd1 := hd d (by simp); have hP := prodI_one hd'; have hv' : 0 ≤ v ∧ v < d := by simpa using hv
    have eP : (prodI (d :: ds)).toNat = d.toNat * (prodI ds).toNat := by rw [prodI_cons, Int.toNat_mul (by omega) (by omega)]
    rw [slTo, eP, range_blocks, filter_flatMap, List.eraseIdx_zero, List.tail_cons]; have e : ∀ q ∈ List.range d.toNat, ((List.range (prodI ds).toNat).map fun r => q * (prodI ds).toNat + r).filter (slHas (d :: ds) 0 v) = if q = v.toNat then (List.range (prodI ds).toNat).map fun r => q * (prodI ds).toNat + r else [] := fun q hq => by
      have hq' := List.mem_range.1 hq; have hdig : ∀ r, r < (prodI ds).toNat → slHas (d :: ds) 0 v (q * (prodI ds).toNat + r) = decide (q = v.toNat) := fun r hr => by
        unfold slHas
        rw [idxL_cons]; have e1 : ((q * (prodI ds).toNat + r : Nat) : Int) = r + q * prodI ds := by
          rw [Int.natCast_add, Int.natCast_mul, show (((prodI ds).toNat : Nat) : Int) = prodI ds by omega, Int.add_comm]
        rw [e1, Int.add_mul_ediv_right _ _ (by omega), Int.ediv_eq_zero_of_lt (by omega) (by omega), Int.zero_add, Int.emod_eq_of_lt (by omega) (by omega), Bool.eq_iff_iff, decide_eq_true_eq, decide_eq_true_eq]; simp only [List.getD_cons_zero]
        omega
      by_cases c : q = v.toNat
      · rw [if_pos c, List.filter_eq_self]; intro x hx; obtain ⟨r, hr, rfl⟩ := List.mem_map.1 hx; rw [hdig r (List.mem_range.1 hr)]; simpa using c
      · rw [if_neg c, List.filter_eq_nil_iff]; intro x hx; obtain ⟨r, hr, rfl⟩ := List.mem_map.1 hx; rw [hdig r (List.mem_range.1 hr)]; simpa using c
    rw [flatMap_congr' e, one_block _ (show v.toNat < d.toNat by omega)]; refine List.map_congr_left fun r hr => ?_; have hr' := List.mem_range.1 hr
    unfold slAt
    rw [List.eraseIdx_zero, List.tail_cons, List.insertIdx_zero, offL, offL_idx hd' (by omega) (by omega), Int.toNat_add (Int.mul_nonneg hv'.1 (by omega)) (by omega), Int.toNat_mul hv'.1 (by omega)]
    simp
  | d :: ds, hd, j + 1, hj, v, hv => by
    have hd' : ∀ x ∈ ds, 1 ≤ x := fun x hx => hd x (by simp [hx]); have hd1 := hd d (by simp); have hP := prodI_one hd'; have hj' : j < ds.length := by simpa using hj
    have hv' : 0 ≤ v ∧ v < ds.getD j 0 := by simpa using hv
    have he := erase_mem (j := j) hd'; have hP' := prodI_one he; have ih := sl_eq hd' hj' hv'; have eP : (prodI (d :: ds)).toNat = d.toNat * (prodI ds).toNat := by rw [prodI_cons, Int.toNat_mul (by omega) (by omega)]
    have eP' : (prodI ((d :: ds).eraseIdx (j + 1))).toNat = d.toNat * (prodI (ds.eraseIdx j)).toNat := by rw [List.eraseIdx_cons_succ, prodI_cons, Int.toNat_mul (by omega) (by omega)]
    rw [slTo, eP, eP', range_blocks, range_blocks, filter_flatMap, map_flatMap']; refine flatMap_congr' fun q hq => ?_; have hq' := List.mem_range.1 hq; rw [List.filter_map]; have e2 : (slHas (d :: ds) (j + 1) v ∘ fun r => q * (prodI ds).toNat + r) = slHas ds j v := by
      funext r
      simp only [Function.comp, slHas]; rw [idxL_cons, List.getD_cons_succ]; have e1 : ((q * (prodI ds).toNat + r : Nat) : Int) = q * prodI ds + r := by
        rw [Int.natCast_add, Int.natCast_mul, show (((prodI ds).toNat : Nat) : Int) = prodI ds by omega]
      rw [e1, idxL_shift hd']
    rw [e2]; have ih' : (List.range (prodI ds).toNat).filter (slHas ds j v) = (List.range (prodI (ds.eraseIdx j)).toNat).map (slAt ds j v) := ih; rw [ih', List.map_map, List.map_map]; refine List.map_congr_left fun m hm => ?_; have hm' := List.mem_range.1 hm; have hin := sl_in hd' hj' hv' m; simp only [Function.comp, slAt]; have e1 : ((q * (prodI (ds.eraseIdx j)).toNat + m : Nat) : Int) = m + q * prodI (ds.eraseIdx j) := by
      rw [Int.natCast_add, Int.natCast_mul, show (((prodI (ds.eraseIdx j)).toNat : Nat) : Int) = prodI (ds.eraseIdx j) by omega, Int.add_comm]
    rw [List.eraseIdx_cons_succ, idxL_cons, e1, Int.add_mul_ediv_right _ _ (by omega), Int.ediv_eq_zero_of_lt (by omega) (by omega), Int.zero_add, Int.emod_eq_of_lt (by omega) (by omega), List.insertIdx_succ_cons, offL, Int.add_comm (m : Int), idxL_shift he,
      Int.toNat_add (Int.mul_nonneg (by omega) (by omega)) hin.1, Int.toNat_mul (by omega) (by omega)]
    simp
end Go.Proofs.YthlmjnihihbckaaGreat
namespace Go.Proofs.YthlmjnihihbckaaGreat
set_option maxRecDepth 100000
open Go.RowKit
theorem one_drop_none {α : Type} {l : List α} {k : Nat} (h : l[k]? = none) : (l.drop (k * 1)).take 1 = [] := by
  rw [Nat.mul_one, List.drop_of_length_le (List.getElem?_eq_none_iff.1 h)]; rfl
theorem mem_dropK {α : Type} {l : List α} {p q : Nat} {t : α} : ∀ k, t ∈ dropK 1 l p q k ↔ ∃ m, m < k ∧ m ≠ p ∧ m ≠ q ∧ l[m]? = some t
  | 0 => by simp [dropK]
  | k + 1 => by
    have ih := mem_dropK (l := l) (p := p) (q := q) (t := t) k; have hx : t ∈ (l.drop (k * 1)).take 1 ↔ l[k]? = some t := by
      cases h : l[k]? with
      | none => rw [one_drop_none h]; simp
      | some x => rw [one_drop h]; simp [eq_comm]
    by_cases hc : k ≠ p ∧ k ≠ q
    · rw [dropK_yes hc, List.mem_append, ih, hx]
      constructor
      · rintro (⟨m, h1, h2⟩ | h)
        · exact ⟨m, by omega, h2⟩
        · exact ⟨k, by omega, hc.1, hc.2, h⟩
      · rintro ⟨m, h1, h2, h3, h4⟩
        by_cases e : m = k
        · subst e; exact .inr h4
        · exact .inl ⟨m, by omega, h2, h3, h4⟩
    · rw [dropK_no hc, ih]
      constructor
      · rintro ⟨m, h1, h2⟩; exact ⟨m, by omega, h2⟩
      · rintro ⟨m, h1, h2, h3, h4⟩; have : m ≠ k := fun e => hc (e ▸ ⟨h2, h3⟩); exact ⟨m, by omega, h2, h3, h4⟩
def needS (ts : List Ten) (op : List Int) (i j m : Nat) : List Int := op ++ (dropK 1 ts i j m).flatMap (·.l)
section
variable {ts : List Ten} {op : List Int} {i j k : Nat} {t : Ten}
end
theorem net_has {k p n : Int} {ts : List Ten} {op : List Int} (h : netL k p n ts op) {x : Int} (hx : x ∈ op) : ∃ t ∈ ts, x ∈ t.l := by
  obtain ⟨j, hj, e⟩ := getD_of_mem hx; have ho := (open_at h.2.2.2.2 hj).2; rw [e] at ho; exact dimOf_mem (by omega)
def mgLo (i j : Int) : Nat := (min i j).toNat
def mgHi (i j : Int) : Nat := (max i j).toNat
def mgA (ts : List Ten) (i j : Int) : Ten := ts.getD (mgLo i j) noTen
def mgB (ts : List Ten) (i j : Int) : Ten := ts.getD (mgHi i j) noTen
def mergN (ts : List Ten) (op : List Int) (i j : Int) : List Int := needS ts op i.toNat j.toNat ts.length
def mergP (k p n : Int) (ts : List Ten) (op : List Int) (i j : Int) : Prop := netL k p n ts op ∧ (0 ≤ i ∧ i < ts.length) ∧ (0 ≤ j ∧ j < ts.length) ∧ i ≠ j ∧ pairP k p n (mgA ts i j) (mgB ts i j) (mergN ts op i j)
noncomputable def mergT (k p n : Int) (ts : List Ten) (op : List Int) (i j : Int) : Ten := pairR k p n (mgA ts i j) (mgB ts i j) (mergN ts op i j)
noncomputable def mergL (k p n : Int) (ts : List Ten) (op : List Int) (i j : Int) (m : Nat) : List Ten := dropK 1 (ts.set (mgLo i j) (mergT k p n ts op i j)) (mgHi i j) (mgHi i j) m
section
variable {k p n : Int} {ts : List Ten} {op : List Int} {i j : Int}
theorem merg_hi {m : Nat} (h : (m : Int) = max i j) : mergL k p n ts op i j (m + 1) = mergL k p n ts op i j m := by
  have e : m = mgHi i j := by unfold mgHi; omega
  unfold mergL
  rw [dropK_no (by omega)]
theorem merg_len (m : Nat) : (mergL k p n ts op i j m).length ≤ m := by
  have := dropK_len (m := 1) (cs := ts.set (mgLo i j) (mergT k p n ts op i j)) (p := mgHi i j) (q := mgHi i j) m
  unfold mergL; omega
theorem mergP.mem (h : mergP k p n ts op i j) {t : Ten} : t ∈ mergL k p n ts op i j ts.length ↔ t = mergT k p n ts op i j ∨ ∃ m, m < ts.length ∧ m ≠ mgLo i j ∧ m ≠ mgHi i j ∧ ts[m]? = some t := by
  obtain ⟨_, hi, hj, hne, _⟩ := h; have e : mgLo i j ≠ mgHi i j := by unfold mgLo mgHi; omega
  have e2 : mgLo i j < ts.length := by unfold mgLo; omega
  rw [mergL, mem_dropK]
  constructor
  · rintro ⟨m, h1, h2, _, h4⟩
    by_cases c : mgLo i j = m
    · subst c; rw [List.getElem?_set_self h1] at h4
      cases h4; exact .inl rfl
    · rw [List.getElem?_set_ne c] at h4; exact .inr ⟨m, h1, Ne.symm c, h2, h4⟩
  · rintro (rfl | ⟨m, h1, h2, h3, h4⟩)
    · exact ⟨mgLo i j, e2, e, e, List.getElem?_set_self e2⟩
    · exact ⟨m, h1, h3, h3, by rw [List.getElem?_set_ne (Ne.symm h2)]; exact h4⟩
theorem mergP.less (h : mergP k p n ts op i j) : (mergL k p n ts op i j ts.length).length + 1 ≤ ts.length := by
  obtain ⟨_, hi, hj, hne, _⟩ := h; have e : mgHi i j < ts.length := by unfold mgHi; omega
  have hs : ∀ (c m : Nat), mgHi i j < m → m = mgHi i j + 1 + c → (mergL k p n ts op i j m).length + 1 ≤ m := by
    intro c
    induction c with
    | zero =>
      intro m hm e; have := merg_len (k := k) (p := p) (n := n) (ts := ts) (op := op) (i := i) (j := j) (mgHi i j); rw [show m = mgHi i j + 1 by omega, merg_hi (by unfold mgHi; omega)]
      omega
    | succ c ih =>
      intro m hm e; have ih := ih (mgHi i j + 1 + c) (by omega) rfl; have e3 : mgHi i j + 1 + c ≠ mgHi i j := by omega
      rw [show m = (mgHi i j + 1 + c) + 1 by omega, mergL, dropK_yes ⟨e3, e3⟩, List.length_append, List.length_take]
      unfold mergL at ih
      omega
  exact hs (ts.length - (mgHi i j + 1)) ts.length e (by omega)
end
end Go.Proofs.YthlmjnihihbckaaGreat
namespace Go.Proofs.YthlmjnihihbckaaGreat
set_option maxRecDepth 100000
open Go.RowKit
theorem prod_erase : ∀ {ds : List Int} {j : Nat}, j < ds.length → prodI (ds.eraseIdx j) * ds.getD j 0 = prodI ds
  | [], j, h => by simp at h
  | d :: ds, 0, _ => by rw [List.eraseIdx_zero, List.tail_cons, prodI_cons, Int.mul_comm]; rfl
  | d :: ds, j + 1, h => by
    have ih := prod_erase (ds := ds) (j := j) (by simpa using h); rw [List.eraseIdx_cons_succ, prodI_cons, prodI_cons, List.getD_cons_succ, Int.mul_assoc, ih]
def slJ (t : Ten) (x : Int) : Nat := (findI t.l x).toNat
def slX (wd : Int) (t : Ten) (j : Nat) (v : Int) (m : Nat) : List Int := (slTo t.d j v m).flatMap fun (n : Nat) => elt t.x wd n
noncomputable def slT (k n : Int) (t : Ten) (x v : Int) : Ten := ⟨t.l.eraseIdx (slJ t x), t.d.eraseIdx (slJ t x), slX (widthI k n) t (slJ t x) v (prodI t.d).toNat⟩
/-- The numbers as the program meets them. -/
def slY (wd : Int) (t : Ten) (j : Nat) (v : Int) (m : Nat) : List Int := ((List.range m).map (slAt t.d j v)).flatMap fun (n : Nat) => elt t.x wd n
theorem slY_step {wd : Int} {t : Ten} {j m : Nat} {v : Int} : slY wd t j v (m + 1) = slY wd t j v m ++ elt t.x wd (slAt t.d j v m) := by
  unfold slY
  rw [List.range_succ, List.map_append, List.flatMap_append]
  simp
structure SlOK (k p n : Int) (t : Ten) (x v : Int) : Prop where
  ten : tensorL k p n t.l t.d t.x
  mem : x ∈ t.l
  val : 0 ≤ v ∧ v < t.d.getD (slJ t x) 0
section
variable {k p n : Int} {t : Ten} {x v : Int}
theorem sl_j (h : tensorL k p n t.l t.d t.x) (hx : x ∈ t.l) : slJ t x < t.l.length ∧ slJ t x < t.d.length ∧ t.l.getD (slJ t x) 0 = x := by
  have hg := findI_get hx; have ha := ten_axes h; exact ⟨hg.1, by rw [← ha.2.1]; exact hg.1, hg.2⟩
theorem SlOK.eq (h : SlOK k p n t x v) : slX (widthI k n) t (slJ t x) v (prodI t.d).toNat = slY (widthI k n) t (slJ t x) v (prodI (t.d.eraseIdx (slJ t x))).toNat := by
  have hj := sl_j h.ten h.mem
  unfold slX slY
  rw [sl_eq (fun d hd => (dims_mem (axes_dims (ten_axes h.ten)) d hd).1) hj.2.1 h.val]
theorem SlOK.at_ (h : SlOK k p n t x v) (m : Nat) : slAt t.d (slJ t x) v m < (prodI t.d).toNat ∧ ((slAt t.d (slJ t x) v m : Nat) : Int) = v * strOf t.l t.d x + dotL (stepsL (t.l.eraseIdx (slJ t x)) t.l t.d) (idxL (t.d.eraseIdx (slJ t x)) m) := by
  have hj := sl_j h.ten h.mem; have ha := ten_axes h.ten; have hd : ∀ d ∈ t.d, 1 ≤ d := fun d hd => (dims_mem (axes_dims ha) d hd).1; have hin := sl_in hd hj.2.1 h.val m; have hs := sl_dot (ls := t.l) (ds := t.d) (is := idxL (t.d.eraseIdx (slJ t x)) m) (j := slJ t x) v (axes_nodup ha) ha.2.1 hj.1 (by rw [idxL_len, List.length_eraseIdx_of_lt hj.2.1]; have := hj.2.1; have := ha.2.1; omega); rw [hj.2.2] at hs
  unfold slAt
  omega
theorem SlOK.dims (h : SlOK k p n t x v) : dimsIn (t.d.eraseIdx (slJ t x)) ∧ 1 ≤ prodI (t.d.eraseIdx (slJ t x)) ∧ prodI (t.d.eraseIdx (slJ t x)) ≤ 4096 := by
  have hj := sl_j h.ten h.mem; have ha := ten_axes h.ten; have hm := erase_mem (j := slJ t x) (dims_mem (axes_dims ha)); have hp1 := prodI_one fun d hd => (hm d hd).1; have hpe := prod_erase hj.2.1; have hd := axes_dims ha (slJ t x) hj.2.1; have hp := ten_prod h.ten; have h1 : prodI (t.d.eraseIdx (slJ t x)) * 1 ≤ prodI (t.d.eraseIdx (slJ t x)) * t.d.getD (slJ t x) 0 := Int.mul_le_mul_of_nonneg_left hd.1 (by omega); exact ⟨fun j hj => hm _ (mem_getD hj), hp1, by omega⟩
theorem SlOK.el (h : SlOK k p n t x v) (m : Nat) : InR k p n (elt t.x (widthI k n) (slAt t.d (slJ t x) v m)) := by
  have := (h.at_ m).1; exact elt_inR h.ten (by omega) (by omega)
theorem SlOK.all (h : SlOK k p n t x v) : ∀ m : Nat, ((slY (widthI k n) t (slJ t x) v m).length : Int) = m * widthI k n ∧ ∀ a ∈ slY (widthI k n) t (slJ t x) v m, 0 ≤ a ∧ a ≤ topI k p n
  | 0 => by simp [slY]
  | m + 1 => by
    have ih := SlOK.all h m; have he := h.el m; have hw := width_range h.ten.1; rw [slY_step]; refine ⟨?_, fun a ha => ?_⟩
    · rw [List.length_append, he.1, Int.natCast_add, ih.1, show ((m + 1 : Nat) : Int) = (m : Int) + 1 from rfl, Int.add_mul, Int.one_mul]; omega
    · rcases List.mem_append.1 ha with ha | ha
      · exact ih.2 a ha
      · exact he.2 a ha
theorem SlOK.axes (h : SlOK k p n t x v) : axesL (t.l.eraseIdx (slJ t x)) (t.d.eraseIdx (slJ t x)) := by
  have hj := sl_j h.ten h.mem; have ha := ten_axes h.ten; have hl := List.length_eraseIdx_of_lt hj.1; have hl2 := List.length_eraseIdx_of_lt hj.2.1; have hn : (t.l.eraseIdx (slJ t x)).Nodup := (axes_nodup ha).sublist (List.eraseIdx_sublist _ _); refine ⟨by rw [hl]; have := ha.1; omega, by rw [hl, hl2, ha.2.1], fun i hi => ⟨?_, h.dims.1 i (by rw [hl] at hi; rw [hl2]; have := ha.2.1; omega), nodup_not_take hn hi⟩⟩; obtain ⟨q, hq, e⟩ := getD_of_mem (List.mem_of_mem_eraseIdx (mem_getD hi)); rw [← e]; exact (ha.2.2 q hq).1
theorem SlOK.out (h : SlOK k p n t x v) : tensorL k p n (slT k n t x v).l (slT k n t x v).d (slT k n t x v).x := by
  have hd := h.dims; have ha := h.axes; have hx := h.all (prodI (t.d.eraseIdx (slJ t x))).toNat; refine ⟨h.ten.1, sizeI_ge.2 ⟨ha, hd.2.2⟩, ?_, fun a hm => ?_⟩
  · show ((slX (widthI k n) t (slJ t x) v (prodI t.d).toNat).length : Int) = sizeI (t.l.eraseIdx (slJ t x)) (t.d.eraseIdx (slJ t x)) * widthI k n
    rw [h.eq, sizeI_yes ha hd.2.2, hx.1, show (((prodI (t.d.eraseIdx (slJ t x))).toNat : Nat) : Int) = prodI (t.d.eraseIdx (slJ t x)) by omega]
  · have hm' : a ∈ slX (widthI k n) t (slJ t x) v (prodI t.d).toNat := hm; rw [h.eq] at hm'; exact hx.2 a hm'
end
end Go.Proofs.YthlmjnihihbckaaGreat
namespace Go.Proofs.YthlmjnihihbckaaGreat
set_option maxRecDepth 100000
open Go.RowKit
section
variable {k p n : Int} {ts : List Ten} {op ls : List Int}
theorem one_good (h : ringL k p n) (f : Int → Int) : goodT k p n f (oneT k p n) := ⟨one_ten h, rfl⟩
end
/-- A slice of rows of which nothing is wanted by itself. -/
structure Row0 : Prop where
theorem Row0.at (_ : Row0) : ∃ _ _ : Unit, True := ⟨(), (), trivial⟩
theorem RowR.subL {cs : List Value} {m sz : Nat} {v : Value} {h : PH} (_ : RowR cs m sz v h) {lo : Nat} (_ : lo ≤ m) : Row0 := ⟨⟩
theorem TensL.append {a b : List Ten} {ca cb : List Value} {h : PH} (ra : TensL a ca h) (rb : TensL b cb h) : TensL (a ++ b) (ca ++ cb) h := by
  refine ⟨by rw [List.length_append, List.length_append, ra.1, rb.1]; omega, fun i t e => ?_⟩
  by_cases hi : i < a.length
  · rw [List.getElem?_append_left hi] at e; have := ra.2 i t e; have e2 : ((ca ++ cb).drop (i * 3)).take 3 = (ca.drop (i * 3)).take 3 := by
      rw [List.drop_append, List.take_append]; have hl : 3 - (ca.drop (i * 3)).length = 0 := by rw [List.length_drop, ra.1]; omega
      rw [hl, List.take_zero, List.append_nil]
    rw [e2]; exact this
  · rw [List.getElem?_append_right (by omega)] at e; have := rb.2 _ t e; have e2 : ((ca ++ cb).drop (i * 3)).take 3 = (cb.drop ((i - a.length) * 3)).take 3 := by
      rw [List.drop_append, List.drop_of_length_le (by rw [ra.1]; omega), List.nil_append, ra.1, show i * 3 - a.length * 3 = (i - a.length) * 3 by omega]
    rw [e2]; exact this
end Go.Proofs.YthlmjnihihbckaaGreat
namespace Go.Proofs.YthlmjnihihbckaaGreat
set_option maxRecDepth 100000
open Go.RowKit
theorem sum_goodT {k p n : Int} {f : Int → Int} {t : Ten} (h : goodT k p n f t) (ks : List Int) : goodT k p n f (sumR k p n t ks) ∧ ∀ x, x ∈ (sumR k p n t ks).l ↔ x ∈ t.l ∧ x ∈ ks := by
  obtain ⟨s1, s2, s3⟩ := sum_ten h.1 ks; have hm : ∀ y, y ∈ (sumR k p n t ks).l ↔ y ∈ t.l ∧ y ∈ ks := fun y => by
    rw [s2, mem_keep]; exact ⟨fun h => ⟨h.1.resolve_right (by simp [oneT]), h.2⟩, fun h => ⟨.inl h.1, h.2⟩⟩
  refine ⟨⟨s1, ?_⟩, hm⟩; rw [s3, ← s2]; refine List.map_congr_left fun y hy => ?_; have hy1 := ((hm y).1 hy).1; rw [dimJ_yes hy1, h.2, map_getD (findI_get hy1).1, (findI_get hy1).2]
section
variable {k p n : Int} {ts : List Ten} {op : List Int} {bs : List (List Int)} {ps : List Int}
def dvL (ts : List Ten) (bs : List (List Int)) (ps : List Int) (g : Nat → Ten) (i : Nat) : List Ten := (ts.filter fun t => decide (homeI bs t.l = i)) ++ ((List.range bs.length).filter fun j => decide (i < j ∧ ps.getD j 0 = i)).map g
noncomputable def dvJ (k p n : Int) (ts : List Ten) (bs : List (List Int)) (ps : List Int) (g : Nat → Ten) (i : Nat) : Ten := jnT k p n (oneT k p n) (dvL ts bs ps g i)
noncomputable def dvM (k p n : Int) (ts : List Ten) (bs : List (List Int)) (ps : List Int) (g : Nat → Ten) (i : Nat) : Ten := if 0 < i then sumR k p n (dvJ k p n ts bs ps g i) (bs.getD (ps.getD i 0).toNat []) else dvJ k p n ts bs ps g i
noncomputable def dvG (k p n : Int) (ts : List Ten) (bs : List (List Int)) (ps : List Int) : Nat → Nat → Ten
  | 0 => fun _ => noTen
  | c + 1 => fun j => if j = bs.length - 1 - c then dvM k p n ts bs ps (dvG k p n ts bs ps c) (bs.length - 1 - c) else dvG k p n ts bs ps c j
def dvFit (k p n : Int) (ts : List Ten) (bs : List (List Int)) (ps : List Int) (c : Nat) : Prop := jnP k p n (oneT k p n) (dvL ts bs ps (dvG k p n ts bs ps c) (bs.length - 1 - c))
def dvP (k p n : Int) (ts : List Ten) (op : List Int) (bs : List (List Int)) (ps : List Int) : Prop := decP k p n ts op bs ps ∧ ∀ c, c < bs.length → dvFit k p n ts bs ps c
theorem dvG_new {c j : Nat} (e : j = bs.length - 1 - c) : dvG k p n ts bs ps (c + 1) j = dvM k p n ts bs ps (dvG k p n ts bs ps c) j := by
  show (if j = bs.length - 1 - c then dvM k p n ts bs ps (dvG k p n ts bs ps c) (bs.length - 1 - c) else dvG k p n ts bs ps c j) = _
  rw [if_pos e, ← e]
theorem dvG_old {c j : Nat} (e : j ≠ bs.length - 1 - c) : dvG k p n ts bs ps (c + 1) j = dvG k p n ts bs ps c j := by
  show (if j = bs.length - 1 - c then dvM k p n ts bs ps (dvG k p n ts bs ps c) (bs.length - 1 - c) else dvG k p n ts bs ps c j) = _
  rw [if_neg e]
/-- What is right of each message, and which labels it surely holds. -/
theorem dv_good (hnet : netL k p n ts op) (hb : bagsP ts bs ps) : ∀ c, c ≤ bs.length → (∀ q, q < c → dvFit k p n ts bs ps q) → ∀ j, bs.length - c ≤ j → j < bs.length →
    goodT k p n (dimOf ts) (dvG k p n ts bs ps c j) ∧ ∀ x, (∃ t ∈ ts, homeI bs t.l = j ∧ x ∈ t.l) ∨ (∃ m, j < m ∧ m < bs.length ∧ ps.getD m 0 = j ∧ x ∈ (dvG k p n ts bs ps c m).l) → (j = 0 ∨ x ∈ bs.getD (ps.getD j 0).toNat []) → x ∈ (dvG k p n ts bs ps c j).l
  | 0, _, _, j, h1, h2 => by omega
  | c + 1, hc, hf, j, h1, h2 => by
    have ih := dv_good hnet hb c (by omega) (fun q hq => hf q (by omega)); have hgood : ∀ u ∈ dvL ts bs ps (dvG k p n ts bs ps c) (bs.length - 1 - c), goodT k p n (dimOf ts) u := fun u hu => by
      rcases List.mem_append.1 hu with h | h
      · have ht := (List.mem_filter.1 h).1; exact ⟨hnet.2.2.1 u ht, net_dmap hnet u ht⟩
      · obtain ⟨m, hm, rfl⟩ := List.mem_map.1 h; have h3 := List.mem_filter.1 hm; have h4 := List.mem_range.1 h3.1; have h5 := of_decide_eq_true h3.2; exact (ih m (by omega) h4).1
    obtain ⟨g1, g2⟩ := jnT_good (one_good hnet.1 (dimOf ts)) hgood (hf c (by omega))
    by_cases e : j = bs.length - 1 - c
    · have eG : dvG k p n ts bs ps (c + 1) j = dvM k p n ts bs ps (dvG k p n ts bs ps c) j := dvG_new e; rw [← e] at g1 g2; have hin : ∀ x, (∃ t ∈ ts, homeI bs t.l = j ∧ x ∈ t.l) ∨ (∃ m, j < m ∧ m < bs.length ∧ ps.getD m 0 = j ∧ x ∈ (dvG k p n ts bs ps (c + 1) m).l) → x ∈ (dvJ k p n ts bs ps (dvG k p n ts bs ps c) j).l := fun x hx => by
        refine (g2 x).2 (.inr ?_)
        rcases hx with ⟨t, ht, hh, hxt⟩ | ⟨m, m1, m2, m3, m4⟩
        · exact ⟨t, List.mem_append.2 (.inl (List.mem_filter.2 ⟨ht, decide_eq_true hh⟩)), hxt⟩
        · have em : dvG k p n ts bs ps (c + 1) m = dvG k p n ts bs ps c m := dvG_old (fun e2 => by rw [e, e2] at m1; exact Nat.lt_irrefl _ m1); rw [em] at m4; exact ⟨_, List.mem_append.2 (.inr (List.mem_map.2 ⟨m, List.mem_filter.2 ⟨List.mem_range.2 m2, decide_eq_true ⟨m1, m3⟩⟩, rfl⟩)), m4⟩
      rw [eG]
      unfold dvM
      by_cases h0 : 0 < j
      · rw [if_pos h0]; have hs := sum_goodT g1 (bs.getD (ps.getD j 0).toNat []); exact ⟨hs.1, fun x hx hp => (hs.2 x).2 ⟨hin x hx, hp.resolve_left (by omega)⟩⟩
      · rw [if_neg h0]; exact ⟨g1, fun x hx _ => hin x hx⟩
    · have eG : dvG k p n ts bs ps (c + 1) j = dvG k p n ts bs ps c j := dvG_old e; rw [eG]; have h3 := ih j (by omega) h2; have hlo : bs.length - 1 - c ≤ j := by omega
      refine ⟨h3.1, fun x hx hp => h3.2 x (hx.imp id (fun ⟨m, m1, m2, m3, m4⟩ => ⟨m, m1, m2, m3, ?_⟩)) hp⟩; have em : dvG k p n ts bs ps (c + 1) m = dvG k p n ts bs ps c m := dvG_old (fun e2 => by rw [e2] at m1; exact absurd m1 (Nat.not_lt.2 hlo)); rw [em] at m4; exact m4
theorem tops_two {x : Int} {a b : Nat} (ha : topIs bs ps x a) (hb : topIs bs ps x b) (hab : a < b) : ∀ m, b < m → 2 ≤ topsTo bs ps x m
  | m + 1, hm => by
    by_cases e : b = m
    · subst e; rw [tops_yes hb]; have := tops_mono ha b hab; omega
    · have := tops_two ha hb hab m (by omega)
      by_cases h2 : topIs bs ps x m
      · rw [tops_yes h2]; omega
      · rw [tops_no h2]; omega
/-- A label of the root: each other bag that holds it has a parent that does. -/
theorem up_has (hd : decP k p n ts op bs ps) {x : Int} (hx : x ∈ op) {j : Nat} (h0 : 0 < j) (hj : j < bs.length) (hxj : x ∈ bs.getD j []) : x ∈ bs.getD (ps.getD j 0).toNat [] := by
  by_cases h : x ∈ bs.getD (ps.getD j 0).toNat []
  · exact h
  · have hl : x ∈ labelsL ts := by
      obtain ⟨t, ht, hxt⟩ := net_has hd.1 hx; exact net_label hd.1 ht hxt
    have h1 := hd.2.2.2.2 x hl; have h2 := tops_two (bs := bs) (ps := ps) (x := x) (a := 0) (b := j) ⟨hd.2.2.1 x hx, .inl rfl⟩ ⟨hxj, .inr h⟩ h0 bs.length hj
    omega
theorem home_in {ls : List Int} : ∀ {bs : List (List Int)} {i : Nat}, 0 ≤ homeF ls bs i → ∃ m : Nat, homeF ls bs i = ((i + m : Nat) : Int) ∧ m < bs.length ∧ ∀ x ∈ ls, x ∈ bs.getD m []
  | [], i, h => by simp [homeF] at h
  | b :: r, i, h => by
    rw [homeF] at h ⊢
    by_cases hb : ∀ x ∈ ls, x ∈ b
    · rw [if_pos hb]; exact ⟨0, rfl, by simp, fun x hx => by simpa using hb x hx⟩
    · rw [if_neg hb] at h ⊢; obtain ⟨m, h1, h2, h3⟩ := home_in h; exact ⟨m + 1, by rw [h1]; congr 1; omega, by simp; omega, fun x hx => by have := h3 x hx; simpa using this⟩
/-- The label reaches every message on the way from its home to the root. -/
theorem dv_reach (hd : decP k p n ts op bs ps) (hf : ∀ q, q < bs.length → dvFit k p n ts bs ps q) {x : Int} (hx : x ∈ op) : ∀ j, j < bs.length → x ∈ bs.getD j [] → x ∈ (dvG k p n ts bs ps bs.length j).l → x ∈ (dvG k p n ts bs ps bs.length 0).l := by
  intro j
  induction j using Nat.strongRecOn with
  | ind j ih =>
    intro hj hxj hm
    by_cases h0 : j = 0
    · subst h0; exact hm
    · have hp := hd.2.1.2.2.2.1 j hj (by omega); have hup := up_has hd hx (by omega) hj hxj; refine ih (ps.getD j 0).toNat (by omega) (by omega) hup ?_; have hg := (dv_good hd.1 hd.2.1 bs.length (Nat.le_refl _) hf (ps.getD j 0).toNat (by omega) (by omega)).2 x (.inr ⟨j, by omega, hj, by omega, hm⟩); refine hg ?_
      by_cases h1 : (ps.getD j 0).toNat = 0
      · exact .inl h1
      · exact .inr (up_has hd hx (by omega) (by omega) hup)
/-- The last message is a tensor of the network's kind that holds the open labels. -/
theorem dv_fin (hd : decP k p n ts op bs ps) (hf : ∀ q, q < bs.length → dvFit k p n ts bs ps q) : goodT k p n (dimOf ts) (dvG k p n ts bs ps bs.length 0) ∧ ∀ x ∈ op, x ∈ (dvG k p n ts bs ps bs.length 0).l := by
  have hl := hd.2.1.1; refine ⟨(dv_good hd.1 hd.2.1 bs.length (Nat.le_refl _) hf 0 (by omega) (by omega)).1, fun x hx => ?_⟩; obtain ⟨t, ht, hxt⟩ := net_has hd.1 hx; obtain ⟨m, h1, h2, h3⟩ := home_in (hd.2.2.2.1 t ht); have hxm := h3 x hxt; refine dv_reach hd hf hx m h2 hxm ((dv_good hd.1 hd.2.1 bs.length (Nat.le_refl _) hf m (by omega) h2).2 x (.inl ⟨t, ht, by rw [homeI, h1]; simp, hxt⟩) ?_)
  by_cases h0 : m = 0
  · exact .inl h0
  · exact .inr (up_has hd hx (by omega) h2 hxm)
end
end Go.Proofs.YthlmjnihihbckaaGreat
namespace Go.Proofs.YthlmjnihihbckaaGreat
set_option maxRecDepth 100000
open Go.RowKit
/-- The tensors at home in bag i, of the first j. -/
def dvA (bs : List (List Int)) (i : Nat) (ts : List Ten) (j : Nat) : List Ten := (ts.take j).filter fun t => decide (homeI bs t.l = i)
/-- The messages of bag i's children, of the first m bags. -/
def dvC (ps : List Int) (g : Nat → Ten) (i m : Nat) : List Ten := ((List.range m).filter fun j => decide (i < j ∧ ps.getD j 0 = i)).map g
theorem dvA_yes {bs : List (List Int)} {i : Nat} {ts : List Ten} {j : Nat} {t : Ten} (h : ts[j]? = some t) (hh : homeI bs t.l = i) : dvA bs i ts (j + 1) = dvA bs i ts j ++ [t] := by
  rw [dvA, take_ten h, List.filter_append, List.filter_cons_of_pos (by simpa using hh)]; rfl
theorem dvA_no {bs : List (List Int)} {i : Nat} {ts : List Ten} {j : Nat} {t : Ten} (h : ts[j]? = some t) (hh : homeI bs t.l ≠ i) : dvA bs i ts (j + 1) = dvA bs i ts j := by
  rw [dvA, take_ten h, List.filter_append, List.filter_cons_of_neg (by simpa using hh)]; simp [dvA]
theorem dvC_yes {ps : List Int} {g : Nat → Ten} {i m : Nat} (h : i < m ∧ ps.getD m 0 = i) : dvC ps g i (m + 1) = dvC ps g i m ++ [g m] := by
  rw [dvC, List.range_succ, List.filter_append, List.filter_cons_of_pos (by simpa using h), List.map_append]; rfl
theorem dvC_no {ps : List Int} {g : Nat → Ten} {i m : Nat} (h : ¬ (i < m ∧ ps.getD m 0 = i)) : dvC ps g i (m + 1) = dvC ps g i m := by
  rw [dvC, List.range_succ, List.filter_append, List.filter_cons_of_neg (by simpa using h), List.map_append]; simp [dvC]
theorem dvC_start {ps : List Int} {g : Nat → Ten} {i : Nat} : dvC ps g i (i + 1) = [] := by
  rw [dvC, List.filter_eq_nil_iff.2 (fun j hj => by have := List.mem_range.1 hj; simp; omega)]; rfl
theorem dvA_len (bs : List (List Int)) (i : Nat) (ts : List Ten) (j : Nat) : (dvA bs i ts j).length ≤ j := by
  refine Nat.le_trans (List.length_filter_le _ _) ?_; rw [List.length_take]; omega
theorem dvC_len (ps : List Int) (g : Nat → Ten) (i m : Nat) : (dvC ps g i m).length ≤ m := by
  rw [dvC, List.length_map]; refine Nat.le_trans (List.length_filter_le _ _) ?_; rw [List.length_range]; omega
theorem dvL_eq (ts : List Ten) (bs : List (List Int)) (ps : List Int) (g : Nat → Ten) (i : Nat) : dvL ts bs ps g i = dvA bs i ts ts.length ++ dvC ps g i bs.length := by
  rw [dvL, dvA, dvC, List.take_length]
/-- The messages behind c steps. -/
noncomputable def dvMs (k p n : Int) (ts : List Ten) (bs : List (List Int)) (ps : List Int) (c : Nat) : List Ten := (List.range bs.length).map (dvG k p n ts bs ps c)
theorem dvMs_len {k p n : Int} {ts : List Ten} {bs : List (List Int)} {ps : List Int} {c : Nat} : (dvMs k p n ts bs ps c).length = bs.length := by simp [dvMs]
theorem dvMs_get {k p n : Int} {ts : List Ten} {bs : List (List Int)} {ps : List Int} {c j : Nat} (h : j < bs.length) : (dvMs k p n ts bs ps c)[j]? = some (dvG k p n ts bs ps c j) := by simp [dvMs, h]
theorem dvMs_zero {k p n : Int} {ts : List Ten} {bs : List (List Int)} {ps : List Int} : dvMs k p n ts bs ps 0 = List.replicate bs.length noTen := by
  refine List.eq_replicate_iff.2 ⟨dvMs_len, fun x hx => ?_⟩; obtain ⟨j, _, rfl⟩ := List.mem_map.1 hx
  rfl
theorem dvMs_step {k p n : Int} {ts : List Ten} {bs : List (List Int)} {ps : List Int} {c : Nat} (hc : c < bs.length) : dvMs k p n ts bs ps (c + 1) = (dvMs k p n ts bs ps c).set (bs.length - 1 - c) (dvM k p n ts bs ps (dvG k p n ts bs ps c) (bs.length - 1 - c)) := by
  apply List.ext_getElem?
  intro j
  by_cases hj : j < bs.length
  · rw [dvMs_get hj]
    by_cases e : j = bs.length - 1 - c
    · rw [dvG_new e, ← e, List.getElem?_set_self (by rw [dvMs_len]; exact hj)]
    · rw [dvG_old e, List.getElem?_set_ne (Ne.symm e), dvMs_get hj]
  · rw [List.getElem?_eq_none (by rw [dvMs_len]; omega), List.getElem?_eq_none (by rw [List.length_set, dvMs_len]; omega)]
end Go.Proofs.YthlmjnihihbckaaGreat
namespace Go.Proofs.YthlmjnihihbckaaGreat
set_option maxRecDepth 100000
open Go.RowKit
structure Opr where
  k : Int
  a : Int
  b : Int
  c : Int
  l : List Int
def OpR (o : Opr) (cs : List Value) (h : PH) : Prop := ∃ v, cs = [num o.k, num o.a, num o.b, num o.c, v] ∧ IntsR o.l v h
theorem OpR.mono {o : Opr} {cs : List Value} {h h' : PH} (r : OpR o cs h) (l : PLe h h') : OpR o cs h' := by
  obtain ⟨v, e, r1⟩ := r; exact ⟨v, e, r1.mono l⟩
def OpsR (os : List Opr) (v : Value) (h : PH) : Prop := RowsR 5 OpR os v h
theorem OpsR.mono {os : List Opr} {v : Value} {h h' : PH} (r : OpsR os v h) (l : PLe h h') : OpsR os v h' := RowsR.mono (R := OpR) OpR.mono r l
theorem OpsR.sl {os : List Opr} {v : Value} {h : PH} (r : OpsR os v h) : SlL v os.length := RowsR.sl r
theorem OpsR.le {os : List Opr} {v : Value} {h : PH} (r : OpsR os v h) : (os.length : Int) ≤ 9223372036854775807 := RowsR.le r
theorem OpsR.at {os : List Opr} {v : Value} {h : PH} (r : OpsR os v h) : ∃ cells, RowR cells os.length 5 v h ∧ ∀ i, i < os.length → ∃ o a, os[i]? = some o ∧ (cells.drop (i * 5)).take 5 = [num o.k, num o.a, num o.b, num o.c, a] ∧ IntsR o.l a h := by
  obtain ⟨cells, rr, hc⟩ := r; refine ⟨cells, rr, fun i hi => ?_⟩; have ht : os[i]? = some os[i] := List.getElem?_eq_getElem hi; obtain ⟨a, e, r1⟩ := hc i _ ht; exact ⟨_, a, ht, e, r1⟩
theorem OpsR.subH {os : List Opr} {v : Value} {h : PH} (r : OpsR os v h) {hi : Nat} (h2 : hi ≤ os.length) : OpsR (os.take hi) (subV v 0 hi 5) h := by
  obtain ⟨cells, rr, hc⟩ := r; have := RowR.sub rr (Nat.zero_le hi) h2; refine ⟨_, by rw [List.length_take, Nat.min_eq_left h2]; simpa using this, fun i x hx => ?_⟩; have hlt : i < hi := by
    have := (List.getElem?_eq_some_iff.1 hx).1
    simp at this; omega
  have hx' : os[i]? = some x := by rwa [List.getElem?_take, if_pos hlt] at hx
  have := hc i x hx'; have e : ((cells.take ((hi - 0) * 5)).drop (i * 5)).take 5 = (cells.drop (i * 5)).take 5 := by
    rw [List.drop_take, List.take_take]
    congr 1
    omega
  show OpR x (((((cells.drop (0 * 5)).take ((hi - 0) * 5))).drop (i * 5)).take 5) h
  rw [Nat.zero_mul, List.drop_zero, e]; exact this
structure OpL (os : List Opr) (cs : List Value) (hs : List PH) : Prop where
  l1 : cs.length = os.length * 5
  l2 : hs.length = os.length
  own : ∀ (i : Nat) (o : Opr), os[i]? = some o → ∃ v h, (cs.drop (i * 5)).take 5 = [num o.k, num o.a, num o.b, num o.c, v] ∧ hs[i]? = some h ∧ IntsO o.l v h
theorem OpL.nil : OpL [] [] [] := ⟨rfl, rfl, fun i xs h => by simp at h⟩
theorem OpL.snoc {os : List Opr} {cs : List Value} {hs : List PH} (r : OpL os cs hs) {o : Opr} {v : Value} {h : PH} (q : IntsO o.l v h) : OpL (os ++ [o]) (cs ++ [num o.k, num o.a, num o.b, num o.c, v]) (hs ++ [h]) := by
  refine ⟨by simp [r.l1]; omega, by simp [r.l2], fun i y e => ?_⟩
  by_cases hi : i < os.length
  · rw [List.getElem?_append_left hi] at e; have e2 : ((cs ++ [num o.k, num o.a, num o.b, num o.c, v]).drop (i * 5)).take 5 = (cs.drop (i * 5)).take 5 := by
      rw [List.drop_append, List.take_append]; have hl : 5 - (cs.drop (i * 5)).length = 0 := by simp [r.l1]; omega
      rw [hl, List.take_zero, List.append_nil]
    rw [e2, List.getElem?_append_left (by rw [r.l2]; exact hi)]; exact r.own i y e
  · have hlt := (List.getElem?_eq_some_iff.1 e).1
    simp at hlt
    have : i = os.length := by omega
    subst this; rw [List.getElem?_append_right (by omega)] at e
    simp at e
    subst e; refine ⟨v, h, ?_, ?_, q⟩
    · rw [← r.l1, List.drop_left]; rfl
    · rw [← r.l2, List.getElem?_append_right (by omega)]; simp
/-- Operations that own their parts. -/
def OpsO (os : List Opr) (v : Value) (h : PH) : Prop := ∃ cs h0 hs, RowO 99 cs os.length 5 v h0 ∧ OpL os cs hs ∧ Made h (h0 :: hs)
theorem OpsO.toR {os : List Opr} {v : Value} {h : PH} (r : OpsO os v h) : OpsR os v h := by
  obtain ⟨cs, h0, hs, r0, o, m⟩ := r; refine ⟨cs, r0.toR.mono (m.le h0 (by simp)), fun i x hx => ?_⟩; obtain ⟨u, g, e, hg, q⟩ := o.own i x hx; exact ⟨u, e, q.toR.mono (m.le g (by simp [List.mem_of_getElem? hg]))⟩
end Go.Proofs.YthlmjnihihbckaaGreat
namespace Go.Proofs.YthlmjnihihbckaaGreat
set_option maxRecDepth 100000
open Go.RowKit
structure Mach where
  S : List Ten
  F : List Bool
  D : List Bool
/-- A register's labels. -/
def Mach.ten (s : Mach) (i : Nat) : Ten := s.S.getD i noTen
def Mach.lab (s : Mach) (i : Nat) : List Int := if s.F.getD i false = true then (s.ten i).l else []
def tenF (f : Int → Int) (t : Ten) : Prop := t.d = t.l.map f ∧ t.l.Nodup ∧ (∀ x ∈ t.l, 0 ≤ x ∧ x ≤ 99) ∧ ∀ x ∈ t.l, 1 ≤ f x ∧ f x ≤ 8
theorem tenF.few {f : Int → Int} {t : Ten} (h : tenF f t) : t.l.length ≤ 100 := few_labels h.2.1 h.2.2.1
theorem tenF_no (f : Int → Int) : tenF f noTen := ⟨rfl, List.nodup_nil, fun x h => (List.not_mem_nil h).elim, fun x h => (List.not_mem_nil h).elim⟩
structure Mach.ok (f : Int → Int) (s : Mach) : Prop where
  len : s.S.length = s.F.length
  ten : ∀ t ∈ s.S, tenF f t
theorem Mach.ok.at {f : Int → Int} {s : Mach} (h : s.ok f) (i : Nat) : tenF f (s.ten i) := by
  unfold Mach.ten
  by_cases hi : i < s.S.length
  · have : s.S.getD i noTen = s.S[i] := by simp [List.getD, hi]
    rw [this]; exact h.ten _ (List.getElem_mem hi)
  · have : s.S.getD i noTen = noTen := by simp [List.getD, Nat.le_of_not_lt hi]
    rw [this]; exact tenF_no f
def regIn (s : Mach) (a : Int) : Prop := 0 ≤ a ∧ a < s.F.length
instance (s : Mach) (a : Int) : Decidable (regIn s a) := by unfold regIn; infer_instance
noncomputable def keepI (s : Mach) (o : Opr) : List Int := (joinI (s.ten o.b.toNat).l (s.ten o.c.toNat).l).filter fun x => decide (x ∈ o.l)
noncomputable def Mach.load (ts : List Ten) (s : Mach) (o : Opr) : Mach := ⟨s.S.set o.a.toNat (ts.getD o.b.toNat noTen), s.F.set o.a.toNat true, s.D.set o.b.toNat true⟩
noncomputable def Mach.pair (f : Int → Int) (s : Mach) (o : Opr) : Mach := ⟨s.S.set o.a.toNat ⟨keepI s o, (keepI s o).map f, []⟩, ((s.F.set o.b.toNat false).set o.c.toNat false).set o.a.toNat true, s.D⟩
noncomputable def Mach.next (f : Int → Int) (ts : List Ten) (s : Mach) (o : Opr) : Mach := if o.k = 1 then s.load ts o else s.pair f o
theorem set_ok {f : Int → Int} {S : List Ten} (h : ∀ t ∈ S, tenF f t) {i : Nat} {t : Ten} (ht : tenF f t) : ∀ u ∈ S.set i t, tenF f u := fun u hu => by
  rcases List.mem_or_eq_of_mem_set hu with hu | rfl
  · exact h u hu
  · exact ht
theorem keepI_ok {f : Int → Int} {s : Mach} (h : s.ok f) (o : Opr) : tenF f ⟨keepI s o, (keepI s o).map f, []⟩ := by
  have hb := h.at o.b.toNat; have hc := h.at o.c.toNat; have hm : ∀ x ∈ keepI s o, x ∈ (s.ten o.b.toNat).l ∨ x ∈ (s.ten o.c.toNat).l := fun x hx => mem_joinI.1 (List.mem_filter.1 hx).1; exact ⟨rfl, List.Pairwise.filter _ (joinI_nodup hb.2.1 hc.2.1), fun x hx => (hm x hx).elim (hb.2.2.1 x) (hc.2.2.1 x), fun x hx => (hm x hx).elim (hb.2.2.2 x) (hc.2.2.2 x)⟩
theorem Mach.ok.next {f : Int → Int} {ts : List Ten} {s : Mach} (h : s.ok f) (hts : ∀ t ∈ ts, tenF f t) (o : Opr) : (s.next f ts o).ok f := by
  unfold Mach.next
  split
  · refine ⟨by simp [Mach.load, h.len], set_ok h.ten ?_⟩
    by_cases hi : o.b.toNat < ts.length
    · have e : ts.getD o.b.toNat noTen = ts[o.b.toNat] := by simp [List.getD, hi]
      rw [e]; exact hts _ (List.getElem_mem hi)
    · have e : ts.getD o.b.toNat noTen = noTen := by simp [List.getD, Nat.le_of_not_lt hi]
      rw [e]; exact tenF_no f
  · exact ⟨by simp [Mach.pair, h.len], set_ok h.ten (keepI_ok h o)⟩
end Go.Proofs.YthlmjnihihbckaaGreat
namespace Go.Proofs.YthlmjnihihbckaaGreat
set_option maxRecDepth 100000
open Go.RowKit
structure MaR (s : Mach) (vs vf vd : Value) (b : Nat) (h : PH) : Prop where
  c0 : cellP h b 0 = some vs
  c1 : cellP h b 1 = some vf
  c2 : cellP h b 2 = some vd
  S : TensR s.S vs h
  F : BoolsR s.F vf h
  D : BoolsR s.D vd h
theorem TensL.blank (h : PH) : ∀ m, TensL (List.replicate m noTen) (List.replicate m [Value.slice none 0 0, .slice none 0 0, .slice none 0 0]).flatten h
  | 0 => TensL.nil h
  | m + 1 => by
    have := (TensL.blank h m).snoc (t := noTen) (IntsR.nil h) (IntsR.nil h) (IntsR.nil h); rw [← List.replicate_succ'] at this; rw [show (List.replicate (m + 1) [Value.slice none 0 0, .slice none 0 0, .slice none 0 0]).flatten = (List.replicate m [Value.slice none 0 0, .slice none 0 0, .slice none 0 0]).flatten ++ [Value.slice none 0 0, .slice none 0 0, .slice none 0 0] by rw [List.replicate_succ', List.flatten_append]; simp]; exact this
theorem TensL.put {ts : List Ten} {cs : List Value} {h : PH} (r : TensL ts cs h) {i : Nat} {t : Ten} {a b c : Value} (hi : i < ts.length) (r1 : IntsR t.l a h) (r2 : IntsR t.d b h) (r3 : IntsR t.x c h) : TensL (ts.set i t) (cs.take (i * 3) ++ [a, b, c] ++ cs.drop (i * 3 + 3)) h := by
  have hl := r.1; have key : ∀ m, (m < i * 3 ∨ i * 3 + 3 ≤ m) → (cs.take (i * 3) ++ [a, b, c] ++ cs.drop (i * 3 + 3))[m]? = cs[m]? := fun m hm => by
    rcases hm with hm | hm
    · rw [List.append_assoc, List.getElem?_append_left (by simp; omega), List.getElem?_take, if_pos hm]
    · rw [List.getElem?_append_right (by simp; omega)]; simp only [List.length_append, List.length_take, List.length_cons, List.length_nil, List.getElem?_drop]
      congr 1
      omega
  refine ⟨by simp [hl]; omega, fun j y e => ?_⟩
  by_cases hj : j = i
  · subst hj; rw [List.getElem?_set_self hi] at e
    cases e
    have e2 : ((cs.take (j * 3) ++ [a, b, c] ++ cs.drop (j * 3 + 3)).drop (j * 3)).take 3 = [a, b, c] := by
      have e3 : (cs.take (j * 3)).length = j * 3 := by simp; omega
      rw [List.append_assoc, List.drop_append, e3, Nat.sub_self, List.drop_of_length_le (by omega), List.nil_append, List.drop_zero]
      rfl
    rw [e2]; exact ⟨a, b, c, rfl, r1, r2, r3⟩
  · rw [List.getElem?_set_ne (Ne.symm hj)] at e; have e2 : ((cs.take (i * 3) ++ [a, b, c] ++ cs.drop (i * 3 + 3)).drop (j * 3)).take 3 = (cs.drop (j * 3)).take 3 := by
      apply List.ext_getElem?
      intro m; rw [List.getElem?_take, List.getElem?_take]
      split
      · rw [List.getElem?_drop, List.getElem?_drop, key _ (by omega)]
      · rfl
    rw [e2]; exact r.2 j y e
theorem MaR.of {s : Mach} {vs vf vd : Value} {bb : Nat} {h h0 hf hd X : PH} {cs : List Value} (hb : PLe (box bb [vs, vf, vd] 163) h) (ra : RowO 34 cs s.S.length 3 vs h0) (la : PLe h0 h) (rt : TensL s.S cs X) (lx : PLe X h) (rf : BoolsO s.F vf hf) (lf : PLe hf h) (rd : BoolsO s.D vd hd) (ld : PLe hd h) : MaR s vs vf vd bb h :=
  ⟨cellP.mono hb (by rw [cellP_box]; rfl), cellP.mono hb (by rw [cellP_box]; rfl), cellP.mono hb (by rw [cellP_box]; rfl), (rt.mono lx).tens (ra.toR.mono la), rf.toR.mono lf, rd.toR.mono ld⟩
end Go.Proofs.YthlmjnihihbckaaGreat
namespace Go.Proofs.YthlmjnihihbckaaGreat
set_option maxRecDepth 100000
open Go.RowKit
section
variable {k p n : Int} {ts : List Ten} {op : List Int} {bs : List (List Int)} {ps : List Int}
noncomputable def dvE (k p n : Int) (ts : List Ten) (bs : List (List Int)) (ps : List Int) : Ten := dvG k p n ts bs ps bs.length 0
open Classical in
noncomputable def dvR (k p n : Int) (ts : List Ten) (op : List Int) (bs : List (List Int)) (ps : List Int) : Ten := if dvP k p n ts op bs ps then finT k p n (dvE k p n ts bs ps) op else noTen
noncomputable def dvB (k p n : Int) (ts : List Ten) (op : List Int) (bs : List (List Int)) (ps : List Int) : Bool := dB (dvP k p n ts op bs ps)
theorem DvNo (h : ¬ dvP k p n ts op bs ps) : TenB (dvR k p n ts op bs ps) (dvB k p n ts op bs ps) (.tuple [tenV (.slice none 0 0) (.slice none 0 0) (.slice none 0 0), .bool false].toArray) emp :=
  ⟨.slice none 0 0, .slice none 0 0, .slice none 0 0, by rw [dvB, dB_no h], by rw [dvR, if_neg h]; exact triO_none⟩
theorem DvYes {a b c : Value} {g : PH} (h : dvP k p n ts op bs ps) (r : TriO (finT k p n (dvE k p n ts bs ps) op) a b c g) : TenB (dvR k p n ts op bs ps) (dvB k p n ts op bs ps) (.tuple [tenV a b c, .bool true].toArray) g :=
  ⟨a, b, c, by rw [dvB, dB_yes h], by rw [dvR, if_pos h]; exact r⟩
theorem dvP.fin (h : dvP k p n ts op bs ps) : finP k p n ts op (dvE k p n ts bs ps) := by
  obtain ⟨g1, g2⟩ := dv_fin h.1 h.2; exact ⟨h.1.1, g1.1, g2⟩
theorem dv_size : 0 ≤ tenSize (dvR k p n ts op bs ps) ∧ tenSize (dvR k p n ts op bs ps) ≤ 30000 := by
  refine ⟨tenSize_nn _, ?_⟩
  by_cases h : dvP k p n ts op bs ps
  · have hf := h.fin; have ht := perm_ten hf.perm; have h2 := ten_len ht; have hs := sizeI_ge.1 ht.2.1; have hw := width_range ht.1; have hlen := ht.2.2.1; rw [sizeI_yes hs.1 hs.2] at hlen; have hm : prodI (permT k n (sumR k p n (dvE k p n ts bs ps) op) op).d * widthI k n ≤ 4096 * 6 := Int.mul_le_mul hs.2 hw.2 (by omega) (by omega); rw [dvR, if_pos h]
    show tenSize (permT k n (sumR k p n (dvE k p n ts bs ps) op) op) ≤ 30000
    simp only [tenSize]
    omega
  · rw [dvR, if_neg h]; simp [tenSize, noTen]
/-- The tensors that a bag joins. -/
noncomputable def dvX (k p n : Int) (ts : List Ten) (bs : List (List Int)) (ps : List Int) (c m : Nat) : List Ten := dvA bs (bs.length - 1 - c) ts ts.length ++ dvC ps (dvG k p n ts bs ps c) (bs.length - 1 - c) m
theorem dvX_all (c : Nat) : dvX k p n ts bs ps c bs.length = dvL ts bs ps (dvG k p n ts bs ps c) (bs.length - 1 - c) := (dvL_eq _ _ _ _ _).symm
theorem dvX_len (c : Nat) {m : Nat} (hm : m ≤ bs.length) : (dvX k p n ts bs ps c m).length ≤ ts.length + bs.length := by
  unfold dvX
  rw [List.length_append]; have h1 := dvA_len bs (bs.length - 1 - c) ts ts.length; have h2 := dvC_len ps (dvG k p n ts bs ps c) (bs.length - 1 - c) m
  omega
theorem dvX_good (hnet : netL k p n ts op) (hb : bagsP ts bs ps) {c m : Nat} (hc : c < bs.length) (hm : m ≤ bs.length) (hf : ∀ q, q < c → dvFit k p n ts bs ps q) : ∀ u ∈ dvX k p n ts bs ps c m, goodT k p n (dimOf ts) u := fun u hu => by
  rcases List.mem_append.1 hu with h | h
  · have ht := (List.mem_filter.1 h).1; rw [List.take_length] at ht; exact ⟨hnet.2.2.1 u ht, net_dmap hnet u ht⟩
  · obtain ⟨q, hq, rfl⟩ := List.mem_map.1 h; have h3 := List.mem_filter.1 hq; have h4 := List.mem_range.1 h3.1; have h5 := of_decide_eq_true h3.2; exact (dv_good hnet hb c (by omega) hf q (by omega) (by omega)).1
theorem dvFit_at {c : Nat} (h : jnP k p n (oneT k p n) (dvX k p n ts bs ps c bs.length)) : dvFit k p n ts bs ps c := by
  unfold dvFit; rw [← dvX_all]; exact h
theorem dvFit_of {c : Nat} (h : dvFit k p n ts bs ps c) : jnP k p n (oneT k p n) (dvX k p n ts bs ps c bs.length) := by
  unfold dvFit at h; rw [dvX_all]; exact h
theorem dvX_jn (c : Nat) : jnT k p n (oneT k p n) (dvX k p n ts bs ps c bs.length) = dvJ k p n ts bs ps (dvG k p n ts bs ps c) (bs.length - 1 - c) := by rw [dvX_all]; rfl
end
set_option maxHeartbeats 8000000 in
theorem ct_s_DecompositionValue (k p n : Int) (ts : List Ten) (op : List Int) (bs : List (List Int)) (ps : List Int) (vt vo va vb : Value) (w : World) (r : TensR ts vt (hp w)) (r' : IntsR op vo (hp w)) (rb : LLR bs va (hp w)) (rp : IntsR ps vb (hp w)) (hs : op.length ≤ 1048576) :
    Calls Tryz.prog 27 [netV k p n vt vo, decV va vb].toArray w (Ret w emp (TenB (dvR k p n ts op bs ps) (dvB k p n ts op bs ps))) := by
  refine calls_in Tryz.func27 rfl Tryz.ntmps27 rfl (Sat.start w) ?_; have hle0 := r.le; obtain ⟨cs_r, rr_r, hc_r⟩ := r.at; have hle1 := r'.le; have hle2 := rb.le; obtain ⟨cs_rb, rr_rb, hc_rb⟩ := rb.at; have hle3 := rp.le; refine wp_sc (wp_sq ?_); refine sq_x rfl (x_box rfl rfl) rfl ?_; rintro _ _ ⟨b2, rfl, rfl⟩; refine sq_x rfl (x_box rfl rfl) rfl ?_; rintro _ _ ⟨b3, rfl, rfl⟩; refine sq_x rfl (x_alloc ty_34 rfl) rfl ?_; rintro _ _ ⟨b4, rfl, rfl⟩; refine sq_v rfl (v_assign rfl) rfl (sq_end (qs_n (wp_sc (wp_sc (wp_sq (sq_v rfl (v_loadNB 2 ty_40 rfl rfl rfl rfl) rfl (sq_v rfl (v_loadNB 1 ty_60 rfl rfl rfl rfl) rfl (sq_u rfl (x_callv rfl en_96 (fun w s => ct_s_DecompositionOk _ _ _ _ _ _ _ _ _ _ _ w (r.mono (s.get 3 rfl)) (r'.mono (s.get 3 rfl)) (rb.mono (s.get 3 rfl)) (rp.mono (s.get 3 rfl)) (by first | assumption | omega))) rfl (sq_v rfl (v_not rfl) rfl (sq_end (qs_n ?_))))))))))); refine wp_cn _ rfl (fun c17 => ?_) (fun c17 => ?_)
  · refine wp_sc (wp_sq (sq_v rfl (v_build [.slice none 0 0, .slice none 0 0, .slice none 0 0] rfl (by kernel_rfl)) rfl ?_)); refine sq_m 0 rfl rfl (m_store 0 ty_34 rfl rfl rfl rfl (by simp [one_sl]) rfl (Nat.le_of_ble_eq_true rfl)) rfl ?_; rintro _ _ ⟨rfl, rfl⟩; refine sq_v rfl (v_assign rfl) rfl (sq_end (qs_n (wp_rt (qs_r ?_)))); exact qs_retct 0 rfl ty_34 rfl rfl rfl rfl (fin_e (i := 3) rfl (DvNo (fun h => by have := dB_yes h.1; rw [c17] at this; cases this)))
  · refine wp_sk (qs_n (wp_sc (wp_sq ?_))); have hd := dB_true.1 c17; have hnet := hd.1; have hbg := hd.2.1; have hring := hnet.1; have h12 := hnet.2.1; have hbl := hbg.1; have hpl := hbg.2.1; refine sq_v rfl (v_fieldAddr fd_60_0 ty_55 (by decide) rfl) rfl (sq_v rfl (v_loadB 1 ty_55 rfl rfl rfl) rfl (sq_v rfl (v_len Tryz.underlying55 rfl rb.sl) rfl ?_)); refine sq_x rfl (x_make Tryz.underlying38 ty_34 rfl rfl rfl rfl (by omega) (by omega) (by omega)) rfl ?_; intro v22 h22 r22; refine sq_v rfl (v_assign rfl) rfl (sq_end (qs_n (wp_sc (wp_sc (wp_sq (sq_v rfl (v_fieldAddr fd_60_0 ty_55 (by decide) rfl) rfl (sq_v rfl (v_loadB 2 ty_55 rfl rfl rfl) rfl (sq_v rfl (v_len Tryz.underlying55 rfl rb.sl) rfl ?_)))))))); refine sq_v rfl (v_sub rfl rfl ((by unfold I64; omega))) rfl ?_; refine sq_v rfl (v_assign rfl) rfl (sq_end (qs_s [PUn emp (hp w), h22, box b4 [.slice none 0 0, .slice none 0 0, .slice none 0 0] 34, box b3 [va, vb] 60, box b2 [num k, num p, num n, vt, vo] 40] (fun _ s => Sat.merge (emp_sat (s.pick (HS' := [hp w, h22, box b4 [.slice none 0 0, .slice none 0 0, .slice none 0 0] 34, box b3 [va, vb] 60, box b2 [num k, num p, num n, vt, vo] 40]) [4, 0, 1, 2, 3] (by decide) rfl))) (qs_n (wp_bl ?_)))); refine wp_lp (σ := Nat × PH × (List Value) × PH) (fun z_ => [(2, .pointer (some ⟨b2, 0, none⟩)), (3, .pointer (some ⟨b3, 0, none⟩)), (4, .pointer (some ⟨b4, 0, none⟩)), (5, .bool false), (6, v22), (7, num ((bs.length : Int) - 1 - z_.1))]) (fun z_ => [(PUn z_.2.1 (hp w)), z_.2.2.2, box b4 [.slice none 0 0, .slice none 0 0, .slice none 0 0] 34, box b3 [va, vb] 60, box b2 [num k, num p, num n, vt, vo] 40]) (fun z_ => z_.1 ≤ bs.length ∧ PDj z_.2.1 (hp w) ∧ (∀ q, q < z_.1 → dvFit k p n ts bs ps q) ∧ TensL (dvMs k p n ts bs ps z_.1) z_.2.2.1 (PUn z_.2.1 (hp w)) ∧ RowO (34) z_.2.2.1 (dvMs k p n ts bs ps z_.1).length 3 v22 z_.2.2.2) (fun z_ => bs.length - z_.1) (0, emp, _, h22) (⟨by (try dsimp only); omega, PDj.emp _, fun j hj => by omega, by (try dsimp only); rw [dvMs_zero]; exact TensL.blank _ _, by (try dsimp only); rw [dvMs_len]; exact r22⟩) ⟨rfl, rfl, rfl, rfl, rfl, (by first | rfl | exact ksub rfl (by first | omega | (simp; done) | (simp; omega))), trivial⟩ (fun _ s => s) ?_; rintro ⟨c, hl, cm, hm⟩ ⟨hc, hdj, hfit, hT, rr⟩; dsimp only at hc hdj hfit hT rr ⊢; obtain ⟨csT, rrT, hcT⟩ := (r.mono (PLe.un_r hdj)).at; obtain ⟨csB, rrB, hcB⟩ := (rb.mono (PLe.un_r hdj)).at; have hrl := dvMs_len (k := k) (p := p) (n := n) (ts := ts) (bs := bs) (ps := ps) (c := c); refine wp_sc (wp_sc (wp_sq (sq_v rfl (v_move rfl) rfl (sq_v rfl (v_geq rfl rfl) rfl (sq_end (qs_n ?_)))))); refine wp_cd rfl (fun c28 => ?_) (fun c28 => ?_)
    · refine wp_sk (qs_n (wp_sc (wp_bl (wp_sc (wp_sq ?_))))); refine sq_x rfl (x_build0 Tryz.underlying38 ty_34) rfl ?_; intro v31 h31 r31; refine sq_v rfl (v_assign rfl) rfl (sq_end (qs_n (wp_sc (wp_sc (wp_sq (sq_v rfl (v_fieldAddr fd_40_1 ty_38 (by decide) rfl) rfl (sq_v rfl (v_loadB 5 ty_38 rfl rfl rfl) rfl (sq_v rfl (v_len Tryz.underlying38 rfl (r.mono (PLe.un_r hdj)).sl) rfl (sq_v rfl (v_move rfl) rfl (sq_end (qs_n (wp_bl ?_)))))))))))); refine wp_lp (σ := Nat × Value × PH × (List Value)) (fun z_ => [(2, .pointer (some ⟨b2, 0, none⟩)), (3, .pointer (some ⟨b3, 0, none⟩)), (4, .pointer (some ⟨b4, 0, none⟩)), (5, .bool false), (6, v22), (7, num ((bs.length : Int) - 1 - c)), (8, z_.2.1), (27, num ((bs.length : Int) - 1 - c)), (28, .bool (decide ((0 : Int) ≤ (bs.length : Int) - 1 - c))), (31, v31), (32, .pointer (some ⟨b2, 3, none⟩)), (33, vt), (34, num ts.length), (35, num z_.1)]) (fun z_ => [z_.2.2.1, (PUn hl (hp w)), hm, box b4 [.slice none 0 0, .slice none 0 0, .slice none 0 0] 34, box b3 [va, vb] 60, box b2 [num k, num p, num n, vt, vo] 40]) (fun z_ => z_.1 ≤ ts.length ∧ TensL (dvA bs (bs.length - 1 - c) ts z_.1) z_.2.2.2 (PUn hl (hp w)) ∧ RowO (34) z_.2.2.2 (dvA bs (bs.length - 1 - c) ts z_.1).length 3 z_.2.1 z_.2.2.1) (fun z_ => ts.length - z_.1) (0, v31, h31, []) (⟨by (try dsimp only); omega, TensL.nil _, r31⟩) ⟨rfl, rfl, rfl, rfl, rfl, rfl, (by first | rfl | exact ksub rfl (by first | omega | (simp; done) | (simp; omega))), rfl, rfl, rfl, rfl, rfl, rfl, (by first | rfl | exact ksub rfl (by first | omega | (simp; done) | (simp; omega))), trivial⟩ (fun _ s => s) ?_; rintro ⟨j, vl, hr, cl⟩ ⟨hj, hTl, qr⟩; dsimp only at hj hTl qr ⊢; have hal := dvA_len bs (bs.length - 1 - c) ts j; refine wp_sc (wp_sq (sq_v rfl (v_lss rfl rfl) rfl (sq_end (qs_n (wp_sc ?_))))); refine wp_cd rfl (fun c36 => ?_) (fun c36 => ?_)
      · refine wp_sk (qs_n (wp_sc (wp_bl (wp_sc (wp_sq ?_))))); obtain ⟨t37, a37, b37, c37, ht37, hcs37, rl37, rd37, rx37⟩ := hcT (j) (by first | omega | (rw [List.length_set]; omega)); refine sq_v rfl (v_indexAddr Tryz.underlying38 ty_34 rfl rfl rrT (by decide) (by omega) (by omega)) rfl ?_; refine sq_v rfl (v_loadNE 1 ty_34 rfl rfl rrT (by have := rrT.1; omega) rfl hcs37) rfl ?_; refine sq_x rfl (x_alloc ty_34 rfl) rfl ?_; rintro _ _ ⟨b10, rfl, rfl⟩; refine sq_m 0 rfl rfl (m_store 0 ty_34 rfl rfl rfl rfl (by simp [rl37.sl.one, rd37.sl.one, rx37.sl.one]) rfl (Nat.le_of_ble_eq_true rfl)) rfl ?_; rintro _ _ ⟨rfl, rfl⟩; refine sq_end (qs_n (wp_sc (wp_sq (sq_v rfl (v_loadNB 5 ty_60 rfl rfl rfl rfl) rfl (sq_v rfl (v_fieldAddr fd_34_0 ty_25 (by decide) rfl) rfl (sq_v rfl (v_loadB 0 ty_25 rfl rfl rfl) rfl (sq_u rfl (x_callv rfl en_97 (fun w s => ct_s_l22Bag _ _ _ _ _ _ w ((rb.mono (PLe.un_r hdj)).mono (s.get 2 rfl)) ((rp.mono (PLe.un_r hdj)).mono (s.get 2 rfl)) (rl37.mono (s.get 2 rfl)))) rfl (sq_v rfl (v_move rfl) rfl (sq_v rfl (v_eql rfl rfl) rfl (sq_end (qs_n ?_))))))))))); refine wp_cd rfl (fun c44 => ?_) (fun c44 => ?_)
        · refine wp_sq (sq_v rfl (v_move rfl) rfl (sq_v rfl (v_loadNB 0 ty_34 rfl rfl rfl rfl) rfl ?_)); refine sq_x rfl (x_buildS [.agg [a37, b37, c37].toArray] Tryz.underlying38 ty_34 (by decide) rfl rfl rfl (by decide) (by decide) (by intro v hv; simp at hv; subst hv; rfl)) rfl ?_; intro v47 h47 (r47 : RowO 34 [a37, b37, c37] 1 3 v47 h47); refine sq_m 2 rfl rfl (m_append 2 0 Tryz.underlying38 ty_34 rfl rfl (by decide) rfl rfl rfl qr rfl r47.toR (by simp [rl37.sl.one, rd37.sl.one, rx37.sl.one]) (by unfold maxLen; omega) (by omega)) rfl ?_; intro v48 h_r48 (r48 : RowO 34 (cl ++ [a37, b37, c37]) ((dvA bs (bs.length - 1 - c) ts j).length + 1) 3 v48 h_r48); refine sq_v rfl (v_assign rfl) rfl (sq_end (qs_bn (qs_n (wp_sq ?_)))); refine sq_v rfl (v_add rfl rfl ((by unfold I64; omega))) rfl ?_; refine sq_v rfl (v_move rfl) rfl (sq_end ?_); exact qs_bk (j + 1, v48, h_r48, cl ++ [a37, b37, c37]) ⟨by (try dsimp only); omega, by (try dsimp only); rw [dvA_yes ht37 (by omega)]; exact hTl.snoc rl37 rd37 rx37, by (try dsimp only); rw [dvA_yes ht37 (by omega), List.length_append]; exact r48⟩ (by simp only; omega) ⟨rfl, rfl, rfl, rfl, rfl, rfl, (by first | rfl | exact ksub rfl (by first | omega | (simp; done) | (simp; omega))), rfl, rfl, rfl, rfl, rfl, rfl, (by first | rfl | exact ksub rfl (by first | omega | (simp; done) | (simp; omega))), trivial⟩ (fun _ s => s.pick [2, 3, 4, 5, 6, 7] (by decide) rfl)
        · refine wp_sk (qs_bn (qs_n (wp_sq ?_))); refine sq_v rfl (v_add rfl rfl ((by unfold I64; omega))) rfl ?_; refine sq_v rfl (v_move rfl) rfl (sq_end ?_); exact qs_bk (j + 1, vl, hr, cl) ⟨by (try dsimp only); omega, by (try dsimp only); rw [dvA_no ht37 (by omega)]; exact hTl, by (try dsimp only); rw [dvA_no ht37 (by omega)]; exact qr⟩ (by simp only; omega) ⟨rfl, rfl, rfl, rfl, rfl, rfl, (by first | rfl | exact ksub rfl (by first | omega | (simp; done) | (simp; omega))), rfl, rfl, rfl, rfl, rfl, rfl, (by first | rfl | exact ksub rfl (by first | omega | (simp; done) | (simp; omega))), trivial⟩ (fun _ s => s.pick [1, 2, 3, 4, 5, 6] (by decide) rfl)
      · refine wp_ex (qs_x (qs_x (qs_bx (qs_n (wp_sc (wp_sc (wp_sq (sq_v rfl (v_move rfl) rfl ?_)))))))); refine sq_v rfl (v_add rfl rfl ((by unfold I64; omega))) rfl ?_; refine sq_v rfl (v_assign rfl) rfl (sq_end (qs_n (wp_bl ?_))); refine wp_lp (σ := Nat × Value × PH × (List Value)) (fun z_ => [(2, .pointer (some ⟨b2, 0, none⟩)), (3, .pointer (some ⟨b3, 0, none⟩)), (4, .pointer (some ⟨b4, 0, none⟩)), (5, .bool false), (6, v22), (7, num ((bs.length : Int) - 1 - c)), (8, z_.2.1), (11, num z_.1), (27, num ((bs.length : Int) - 1 - c)), (28, .bool (decide ((0 : Int) ≤ (bs.length : Int) - 1 - c))), (31, v31), (32, .pointer (some ⟨b2, 3, none⟩)), (33, vt), (34, num ts.length), (35, num j), (36, .bool (decide ((j : Int) < ts.length))), (50, num ((bs.length : Int) - 1 - c)), (51, num (((bs.length : Int) - 1 - c) + 1))]) (fun z_ => [z_.2.2.1, (PUn hl (hp w)), hm, box b4 [.slice none 0 0, .slice none 0 0, .slice none 0 0] 34, box b3 [va, vb] 60, box b2 [num k, num p, num n, vt, vo] 40]) (fun z_ => (bs.length - 1 - c < z_.1 ∧ z_.1 ≤ bs.length) ∧ TensL (dvX k p n ts bs ps c z_.1) z_.2.2.2 (PUn hl (hp w)) ∧ RowO (34) z_.2.2.2 (dvX k p n ts bs ps c z_.1).length 3 z_.2.1 z_.2.2.1) (fun z_ => bs.length - z_.1) ((bs.length - 1 - c + 1), vl, hr, cl) (⟨by (try dsimp only); omega, by (try dsimp only); unfold dvX; rw [dvC_start, List.append_nil]; rw [show j = ts.length by omega] at hTl; exact hTl, by (try dsimp only); unfold dvX; rw [dvC_start, List.append_nil]; rw [show j = ts.length by omega] at qr; exact qr⟩) ⟨rfl, rfl, rfl, rfl, rfl, rfl, (by first | rfl | exact ksub rfl (by first | omega | (simp; done) | (simp; omega))), (by first | rfl | exact ksub rfl (by first | omega | (simp; done) | (simp; omega))), rfl, rfl, rfl, rfl, rfl, rfl, rfl, rfl, rfl, rfl, trivial⟩ (fun _ s => s) ?_; rintro ⟨m, vl, hr, cl⟩ ⟨hm1, hTl, qr⟩; dsimp only at hm1 hTl qr ⊢; have hxl := dvX_len (k := k) (p := p) (n := n) (ts := ts) (bs := bs) (ps := ps) c hm1.2; have hug := dvX_good (m := m) hnet hbg (by omega) hm1.2 hfit; refine wp_sc (wp_sc (wp_sq (sq_v rfl (v_move rfl) rfl (sq_v rfl (v_fieldAddr fd_60_0 ty_55 (by decide) rfl) rfl (sq_v rfl (v_loadB 4 ty_55 rfl rfl rfl) rfl (sq_v rfl (v_len Tryz.underlying55 rfl (rb.mono (PLe.un_r hdj)).sl) rfl (sq_v rfl (v_lss rfl rfl) rfl (sq_end (qs_n ?_))))))))); refine wp_cd rfl (fun c56 => ?_) (fun c56 => ?_)
        · refine wp_sk (qs_n (wp_sc (wp_bl (wp_sc (wp_sq (sq_v rfl (v_fieldAddr fd_60_1 ty_25 (by decide) rfl) rfl (sq_v rfl (v_loadB 4 ty_25 rfl rfl rfl) rfl (sq_v rfl (v_move rfl) rfl ?_)))))))); refine sq_v rfl (v_idxI Tryz.underlying25 ty_3 rfl rfl (rp.mono (PLe.un_r hdj)) (by first | omega | (simp; omega) | (simp only [List.length_append, List.length_cons, List.length_nil]; omega) | (rw [List.length_set]; omega)) (by first | omega | (simp; omega) | (simp only [List.length_append, List.length_cons, List.length_nil]; omega) | (rw [List.length_set]; omega))) rfl ?_; refine sq_v rfl (v_loadI (k := m) 1 ty_3 rfl rfl (rp.mono (PLe.un_r hdj)) (by first | omega | (simp; omega) | (simp only [List.length_append, List.length_cons, List.length_nil]; omega) | (rw [List.length_set]; omega))) rfl ?_; refine sq_v rfl (v_move rfl) rfl (sq_v rfl (v_eql rfl rfl) rfl (sq_end (qs_n ?_))); refine wp_cd rfl (fun c65 => ?_) (fun c65 => ?_)
          · refine wp_sq (sq_v rfl (v_move rfl) rfl (sq_v rfl (v_move rfl) rfl (sq_v rfl (v_move rfl) rfl ?_))); obtain ⟨t69, a69, b69, c69, ht69, hcs69, rl69, rd69, rx69⟩ := hT.at0 (m) (by first | omega | (rw [List.length_set]; omega)); refine sq_v rfl (v_indexAddr Tryz.underlying38 ty_34 rfl rfl rr.toR (by decide) (by omega) (by omega)) rfl ?_; refine sq_v rfl (v_loadNE 2 ty_34 rfl rfl rr.toR (by have := rr.toR.1; omega) rfl hcs69) rfl ?_; refine sq_x rfl (x_buildS [.agg [a69, b69, c69].toArray] Tryz.underlying38 ty_34 (by decide) rfl rfl rfl (by decide) (by decide) (by intro v hv; simp at hv; subst hv; rfl)) rfl ?_; intro v71 h71 (r71 : RowO 34 [a69, b69, c69] 1 3 v71 h71); refine sq_m 1 rfl rfl (m_append 1 0 Tryz.underlying38 ty_34 rfl rfl (by decide) rfl rfl rfl qr rfl r71.toR (by simp [rl69.sl.one, rd69.sl.one, rx69.sl.one]) (by unfold maxLen; omega) (by omega)) rfl ?_; intro v72 h_r72 (r72 : RowO 34 (cl ++ [a69, b69, c69]) ((dvX k p n ts bs ps c m).length + 1) 3 v72 h_r72); refine sq_v rfl (v_assign rfl) rfl (sq_end (qs_bn (qs_n (wp_sq (sq_v rfl (v_move rfl) rfl ?_))))); refine sq_v rfl (v_add rfl rfl ((by unfold I64; omega))) rfl ?_; refine sq_v rfl (v_assign rfl) rfl (sq_end ?_); have e69 : dvG k p n ts bs ps c m = t69 := Option.some.inj ((dvMs_get (by omega)).symm.trans ht69); exact qs_bk (m + 1, v72, h_r72, cl ++ [a69, b69, c69]) ⟨by (try dsimp only); omega, by (try dsimp only); unfold dvX; rw [dvC_yes ⟨by omega, by omega⟩, ← List.append_assoc, e69]; exact hTl.snoc rl69 rd69 rx69, by (try dsimp only); unfold dvX; rw [dvC_yes ⟨by omega, by omega⟩, ← List.append_assoc, List.length_append]; exact r72⟩ (by simp only; omega) ⟨rfl, rfl, rfl, rfl, rfl, rfl, (by first | rfl | exact ksub rfl (by first | omega | (simp; done) | (simp; omega))), (by first | rfl | exact ksub rfl (by first | omega | (simp; done) | (simp; omega))), rfl, rfl, rfl, rfl, rfl, rfl, rfl, rfl, rfl, rfl, trivial⟩ (fun _ s => s.pick [1, 2, 3, 4, 5, 6] (by decide) rfl)
          · refine wp_sk (qs_bn (qs_n (wp_sq (sq_v rfl (v_move rfl) rfl ?_)))); refine sq_v rfl (v_add rfl rfl ((by unfold I64; omega))) rfl ?_; refine sq_v rfl (v_assign rfl) rfl (sq_end ?_); exact qs_bk (m + 1, vl, hr, cl) ⟨by (try dsimp only); omega, by (try dsimp only); unfold dvX; rw [dvC_no (by omega)]; exact hTl, by (try dsimp only); unfold dvX; rw [dvC_no (by omega)]; exact qr⟩ (by simp only; omega) ⟨rfl, rfl, rfl, rfl, rfl, rfl, (by first | rfl | exact ksub rfl (by first | omega | (simp; done) | (simp; omega))), (by first | rfl | exact ksub rfl (by first | omega | (simp; done) | (simp; omega))), rfl, rfl, rfl, rfl, rfl, rfl, rfl, rfl, rfl, rfl, trivial⟩ (fun _ s => s)
        · refine wp_ex (qs_x (qs_x (qs_bx (qs_n (wp_sc ?_))))); refine wp_ra (σ := Nat × PH × PH × Value × Value × Value × Value × Bool) 13 (fun z_ => IntsO (oneL k p n) z_.2.2.2.1 z_.2.2.1 ∧ (z_.2.2.2.2.2.2.2 = true ↔ jnP k p n (oneT k p n) (dvX k p n ts bs ps c m)) ∧ (z_.2.2.2.2.2.2.2 = true → TenR (jnT k p n (oneT k p n) (dvX k p n ts bs ps c m)) [z_.2.2.2.2.1, z_.2.2.2.2.2.1, z_.2.2.2.2.2.2.1] z_.2.2.1 ∨ TriO (jnT k p n (oneT k p n) (dvX k p n ts bs ps c m)) z_.2.2.2.2.1 z_.2.2.2.2.2.1 z_.2.2.2.2.2.2.1 z_.2.1) ∧ z_.2.2.2.2.1.oneCell' = true ∧ z_.2.2.2.2.2.1.oneCell' = true ∧ z_.2.2.2.2.2.2.1.oneCell' = true) (fun z_ => [(2, .pointer (some ⟨b2, 0, none⟩)), (3, .pointer (some ⟨b3, 0, none⟩)), (4, .pointer (some ⟨b4, 0, none⟩)), (5, .bool false), (6, v22), (7, num ((bs.length : Int) - 1 - c)), (8, vl), (11, num m), (12, .pointer (some ⟨z_.1, 0, none⟩)), (13, .bool z_.2.2.2.2.2.2.2), (27, num ((bs.length : Int) - 1 - c)), (28, .bool (decide ((0 : Int) ≤ (bs.length : Int) - 1 - c))), (31, v31), (32, .pointer (some ⟨b2, 3, none⟩)), (33, vt), (34, num ts.length), (35, num j), (36, .bool (decide ((j : Int) < ts.length))), (50, num ((bs.length : Int) - 1 - c)), (51, num (((bs.length : Int) - 1 - c) + 1)), (52, num m), (53, .pointer (some ⟨b3, 0, none⟩)), (54, va), (55, num bs.length), (56, .bool (decide ((m : Int) < bs.length)))]) (fun z_ => [box z_.1 [z_.2.2.2.2.1, z_.2.2.2.2.2.1, z_.2.2.2.2.2.2.1] 34, z_.2.1, z_.2.2.1, hr, (PUn hl (hp w)), hm, box b4 [.slice none 0 0, .slice none 0 0, .slice none 0 0] 34, box b3 [va, vb] 60, box b2 [num k, num p, num n, vt, vo] 40]) mixed_ok (by kernel_rfl) ?_ ?_
          · refine rak_of (rak_v (i := 0) (by kernel_rfl) rfl rfl (v_fieldAddr fd_40_0 ty_37 (by decide) rfl) rfl (rak_v (i := 1) (by kernel_rfl) rfl rfl (v_loadNB 5 ty_37 rfl rfl rfl rfl) rfl (rak_v (i := 2) (by kernel_rfl) rfl rfl (v_fieldAddr fd_40_0 ty_37 (by decide) rfl) rfl (rak_v (i := 3) (by kernel_rfl) rfl rfl (v_loadNB 5 ty_37 rfl rfl rfl rfl) rfl (rak_v (i := 6) (by kernel_rfl) rfl rfl (v_move rfl) rfl ?_))))); refine rak_2 (i := 4) (j := 11) (by kernel_rfl) ?_ ?_
            · refine rok_x rfl rfl (x_call rfl en_99 (fun w s => ct_s_l02One _ _ _ w (by first | assumption | omega))) rfl ?_; rintro v78 h78 r78; refine rak_v (i := 5) (by kernel_rfl) rfl rfl (v_build [.slice none 0 0, .slice none 0 0, v78] rfl (by obtain ⟨_, _, rfl⟩ := r78.toR.sl; kernel_rfl)) rfl ?_; refine rak_2 (i := 7) (j := 11) (by kernel_rfl) ?_ ?_
              · refine rok_x rfl rfl (x_call rfl en_98 (fun w s => ct_s_l21Join k p n (dimOf ts) (oneT k p n) (dvX k p n ts bs ps c m) _ _ _ _ w (IntsR.nil _) (IntsR.nil _) (r78.toR.mono (s.get 0 rfl)) ((hTl.mono (s.get 2 rfl)).tens (qr.toR.mono (s.get 1 rfl))) (one_good hring _) hug (by omega))) rfl ?_; rintro _ h81 ⟨ja, jb, jc, jbb, rfl, hbb, hyes, o1, o2, o3⟩; refine rak_rk [(8, true), (9, true), (10, true), (11, false), (12, false), (13, false)] (by kernel_rfl) rfl (rk_v rfl rfl (v_move rfl) rfl (rk_v rfl rfl (v_extract rfl rfl) rfl (rk_v rfl rfl (v_extract rfl rfl) rfl ?_))); refine rk_xb rfl rfl (x_alloc ty_34 rfl) rfl ?_; rintro _ _ ⟨b12, rfl, rfl⟩; refine rk_m 0 rfl rfl rfl rfl (m_store 0 ty_34 rfl rfl rfl rfl (by simp [o1, o2, o3]) rfl (Nat.le_of_ble_eq_true rfl)) rfl ?_; rintro _ _ ⟨rfl, rfl⟩; refine rk_fv rfl rfl (v_assign rfl) rfl (rk_end ?_)
                replace hyes := fun hq => jn_or (hyes hq) (X := h78) ⟨_, _, _, rfl, IntsR.nil _, IntsR.nil _, r78.toR⟩
                exact qs_mid (b12, h81, h78, v78, ja, jb, jc, jbb) ⟨r78, hbb, hyes, o1, o2, o3⟩ ⟨rfl, rfl, rfl, rfl, rfl, rfl, rfl, rfl, rfl, rfl, rfl, rfl, rfl, rfl, rfl, rfl, rfl, rfl, rfl, rfl, rfl, rfl, rfl, rfl, rfl, trivial⟩ (fun _ s => s.pick [0, 1, 2, 3, 4, 5, 6, 7, 8] (by decide) rfl)
              · refine rok_xb rfl rfl (x_alloc ty_34 rfl) rfl ?_; rintro _ _ ⟨b12, rfl, rfl⟩; refine rak_rk [(7, false), (8, true), (9, true), (10, true), (12, false), (13, false)] (by kernel_rfl) rfl ?_; refine rk_x rfl rfl (x_call rfl en_98 (fun w s => ct_s_l21Join k p n (dimOf ts) (oneT k p n) (dvX k p n ts bs ps c m) _ _ _ _ w (IntsR.nil _) (IntsR.nil _) (r78.toR.mono (s.get 1 rfl)) ((hTl.mono (s.get 3 rfl)).tens (qr.toR.mono (s.get 2 rfl))) (one_good hring _) hug (by omega))) rfl ?_; rintro _ h81 ⟨ja, jb, jc, jbb, rfl, hbb, hyes, o1, o2, o3⟩; refine rk_v rfl rfl (v_move rfl) rfl (rk_v rfl rfl (v_extract rfl rfl) rfl (rk_v rfl rfl (v_extract rfl rfl) rfl ?_)); refine rk_m 1 rfl rfl rfl rfl (m_store 1 ty_34 rfl rfl rfl rfl (by simp [o1, o2, o3]) rfl (Nat.le_of_ble_eq_true rfl)) rfl ?_; rintro _ _ ⟨rfl, rfl⟩; refine rk_fv rfl rfl (v_assign rfl) rfl (rk_end ?_)
                replace hyes := fun hq => jn_or (hyes hq) (X := h78) ⟨_, _, _, rfl, IntsR.nil _, IntsR.nil _, r78.toR⟩
                exact qs_mid (b12, h81, h78, v78, ja, jb, jc, jbb) ⟨r78, hbb, hyes, o1, o2, o3⟩ ⟨rfl, rfl, rfl, rfl, rfl, rfl, rfl, rfl, rfl, rfl, rfl, rfl, rfl, rfl, rfl, rfl, rfl, rfl, rfl, rfl, rfl, rfl, rfl, rfl, rfl, trivial⟩ (fun _ s => s.pick [1, 0, 2, 3, 4, 5, 6, 7, 8] (by decide) rfl)
            · refine rok_xb rfl rfl (x_alloc ty_34 rfl) rfl ?_; rintro _ _ ⟨b12, rfl, rfl⟩; refine rak_rk [(4, false), (5, true), (7, false), (8, true), (9, true), (10, true), (12, false), (13, false)] (by kernel_rfl) rfl ?_; refine rk_x rfl rfl (x_call rfl en_99 (fun w s => ct_s_l02One _ _ _ w (by first | assumption | omega))) rfl ?_; rintro v78 h78 r78; refine rk_v rfl rfl (v_build [.slice none 0 0, .slice none 0 0, v78] rfl (by obtain ⟨_, _, rfl⟩ := r78.toR.sl; kernel_rfl)) rfl ?_; refine rk_x rfl rfl (x_call rfl en_98 (fun w s => ct_s_l21Join k p n (dimOf ts) (oneT k p n) (dvX k p n ts bs ps c m) _ _ _ _ w (IntsR.nil _) (IntsR.nil _) (r78.toR.mono (s.get 0 rfl)) ((hTl.mono (s.get 3 rfl)).tens (qr.toR.mono (s.get 2 rfl))) (one_good hring _) hug (by omega))) rfl ?_; rintro _ h81 ⟨ja, jb, jc, jbb, rfl, hbb, hyes, o1, o2, o3⟩; refine rk_v rfl rfl (v_move rfl) rfl (rk_v rfl rfl (v_extract rfl rfl) rfl (rk_v rfl rfl (v_extract rfl rfl) rfl ?_)); refine rk_m 2 rfl rfl rfl rfl (m_store 2 ty_34 rfl rfl rfl rfl (by simp [o1, o2, o3]) rfl (Nat.le_of_ble_eq_true rfl)) rfl ?_; rintro _ _ ⟨rfl, rfl⟩; refine rk_fv rfl rfl (v_assign rfl) rfl (rk_end ?_)
              replace hyes := fun hq => jn_or (hyes hq) (X := h78) ⟨_, _, _, rfl, IntsR.nil _, IntsR.nil _, r78.toR⟩
              exact qs_mid (b12, h81, h78, v78, ja, jb, jc, jbb) ⟨r78, hbb, hyes, o1, o2, o3⟩ ⟨rfl, rfl, rfl, rfl, rfl, rfl, rfl, rfl, rfl, rfl, rfl, rfl, rfl, rfl, rfl, rfl, rfl, rfl, rfl, rfl, rfl, rfl, rfl, rfl, rfl, trivial⟩ (fun _ s => s.pick [2, 0, 1, 3, 4, 5, 6, 7, 8] (by decide) rfl)
          · rintro ⟨b12, h81, h78, v78, ja, jb, jc, jbb⟩ ⟨r78, hbb, hyes, o1, o2, o3⟩; dsimp only at r78 hbb hyes o1 o2 o3 ⊢; refine qs_n (wp_sc (wp_sc (wp_sq (sq_v rfl (v_move rfl) rfl (sq_v rfl (v_not rfl) rfl (sq_end ?_)))))); refine qs_dj 2 1 rfl rfl rfl (fun hd8 => ?_); have em : m = bs.length := by omega
            have ei0 : ((bs.length : Int) - 1 - c).toNat = bs.length - 1 - c := by omega
            rw [em] at hbb hyes; rw [dvX_jn] at hyes; have hrd := fun hq => ten_or (hyes hq) (Y := PUn h78 h81) (PLe.un_r hd8) (PLe.un_l _ _); refine qs_s [PUn h78 h81, PUn hl (hp w), hm, box b12 [ja, jb, jc] 34, box b4 [.slice none 0 0, .slice none 0 0, .slice none 0 0] 34, box b3 [va, vb] 60, box b2 [num k, num p, num n, vt, vo] 40] (fun _ s => Sat.merge (s.pick [2, 1, 4, 5, 0, 6, 7, 8] (by decide) rfl)) (qs_n ?_); refine wp_cn _ rfl (fun c85 => ?_) (fun c85 => ?_)
            · refine wp_sc (wp_sq (sq_v rfl (v_build [.slice none 0 0, .slice none 0 0, .slice none 0 0] rfl (by kernel_rfl)) rfl ?_)); refine sq_m 4 rfl rfl (m_store 4 ty_34 rfl rfl rfl rfl (by simp [one_sl]) rfl (Nat.le_of_ble_eq_true rfl)) rfl ?_; rintro _ _ ⟨rfl, rfl⟩; refine sq_v rfl (v_assign rfl) rfl (sq_end (qs_n (wp_rt (qs_r (qs_br (qs_r (qs_r (qs_br (qs_r (qs_s [hl, hp w, box b4 [.slice none 0 0, .slice none 0 0, .slice none 0 0] 34] (fun _ s => Sat.part hdj (s.pick [1, 4] (by decide) rfl)) ?_)))))))))); exact qs_retct 2 rfl ty_34 rfl rfl rfl rfl (fin_e (i := 1) rfl (DvNo (fun h => by have := hbb.2 (dvFit_of (h.2 c (by omega))); rw [c85] at this; cases this)))
            · refine wp_sk (qs_n (wp_sc (wp_sc (wp_sq ?_)))); obtain ⟨q1, q2, q3⟩ := hrd c85; have hfc := dvFit_at (hbb.1 c85); have hgJ := (jnT_good (one_good hring (dimOf ts)) (dvX_good (m := bs.length) hnet hbg (by omega) (Nat.le_refl _) hfit) (hbb.1 c85)).1; rw [dvX_jn] at hgJ; refine sq_v rfl (v_move rfl) rfl (sq_v rfl (v_gtr rfl rfl) rfl (sq_end (qs_n ?_))); refine wp_cd rfl (fun c88 => ?_) (fun c88 => ?_)
              · refine wp_rj 13 [(0, true), (1, true), (2, true), (3, true), (4, true), (5, true), (6, true), (7, true), (8, true), (9, true), (10, true), (11, true), (12, false), (13, false)] mixed_ok (by kernel_rfl) ?_; have hpar := hbg.2.2.2.1 (bs.length - 1 - c) (by omega) (by omega); have hpe : ps.getD ((bs.length : Int) - 1 - c : Int).toNat 0 = ps.getD (bs.length - 1 - c) 0 := (by rw [ei0])
                refine rj_v rfl rfl (v_fieldAddr fd_40_0 ty_37 (by decide) rfl) rfl (rj_v rfl rfl (v_loadNB 6 ty_37 rfl rfl rfl rfl) rfl (rj_v rfl rfl (v_loadNB 3 ty_34 rfl rfl rfl rfl) rfl (rj_v rfl rfl (v_fieldAddr fd_60_0 ty_55 (by decide) rfl) rfl (rj_v rfl rfl (v_loadB 5 ty_55 rfl rfl rfl) rfl (rj_v rfl rfl (v_fieldAddr fd_60_1 ty_25 (by decide) rfl) rfl (rj_v rfl rfl (v_loadB 5 ty_25 rfl rfl rfl) rfl (rj_v rfl rfl (v_move rfl) rfl ?_))))))); refine rj_v rfl rfl (v_idxI Tryz.underlying25 ty_3 rfl rfl (rp.mono (PLe.un_r hdj)) (by first | omega | (simp; omega) | (simp only [List.length_append, List.length_cons, List.length_nil]; omega) | (rw [List.length_set]; omega)) (by first | omega | (simp; omega) | (simp only [List.length_append, List.length_cons, List.length_nil]; omega) | (rw [List.length_set]; omega))) rfl ?_; refine rj_v rfl rfl (v_loadI  1 ty_3 rfl rfl (rp.mono (PLe.un_r hdj)) (by first | omega | (simp; omega) | (simp only [List.length_append, List.length_cons, List.length_nil]; omega) | (rw [List.length_set]; omega))) rfl ?_; obtain ⟨l99, a99, hl99, hcs99, rl99⟩ := hcB ((ps.getD ((bs.length : Int) - 1 - c : Int).toNat 0 : Int).toNat) (by first | omega | (rw [List.length_set]; omega)); refine rj_v rfl rfl (v_indexAddr Tryz.underlying55 ty_25 rfl rfl rrB (by decide) (by omega) (by omega)) rfl (rj_v rfl rfl (v_loadE 1 ty_25 rfl rfl rrB (sub_get hcs99 (j := 0) rfl)) rfl ?_); refine rj_x rfl rfl (x_call rfl en_100 (fun w s => ct_s_l08Sum k p n (dvJ k p n ts bs ps (dvG k p n ts bs ps c) (bs.length - 1 - c)) _ _ _ _ _ w (q1.mono (s.get 0 rfl)) (q2.mono (s.get 0 rfl)) (q3.mono (s.get 0 rfl)) (rl99.mono (s.get 1 rfl)) hgJ.1)) rfl ?_; rintro _ h101 ⟨va101, vb101, vc101, rfl, o101⟩; refine rj_m 4 rfl rfl rfl rfl (m_store 4 ty_34 rfl rfl rfl rfl (by simp [o101.toR.1.sl.one, o101.toR.2.1.sl.one, o101.toR.2.2.sl.one]) rfl (Nat.le_of_ble_eq_true rfl)) rfl ?_; rintro _ _ ⟨rfl, rfl⟩; refine rj_end ?_; have e99 : bs.getD (ps.getD (bs.length - 1 - c) 0).toNat [] = l99 := by rw [← hpe]; exact ll_getD hl99
                refine qs_n (wp_sq (sq_v rfl (v_move rfl) rfl (sq_v rfl (v_move rfl) rfl (sq_v rfl (v_loadNB 4 ty_34 rfl rfl rfl rfl) rfl ?_)))); obtain ⟨t105, a105, b105, c105, ht105, hcs105, rl105, rd105, rx105⟩ := hT.at0 (((bs.length : Int) - 1 - c : Int).toNat) (by first | omega | (rw [List.length_set]; omega)); refine sq_v rfl (v_indexAddr Tryz.underlying38 ty_34 rfl rfl rr.toR (by decide) (by omega) (by omega)) rfl ?_
                (first | refine sq_m 3 rfl rfl (m_storeE 3 ty_34 rfl rfl (us := [va101, vb101, vc101]) rfl rfl (fun u hu => by simp only [List.mem_cons, List.not_mem_nil, or_false] at hu; rcases hu with rfl | rfl | rfl; exact o101.toR.1.sl.one; exact o101.toR.2.1.sl.one; exact o101.toR.2.2.sl.one) rfl rr (by decide) (by have := rr.1; omega)) rfl ?_ | refine sq_m 3 rfl rfl (m_storeE 3 ty_34 rfl rfl (us := [ja, jb, jc]) rfl rfl (fun u hu => by simp only [List.mem_cons, List.not_mem_nil, or_false] at hu; rcases hu with rfl | rfl | rfl; exact o1; exact o2; exact o3) rfl rr (by decide) (by have := rr.1; omega)) rfl ?_); rintro _ h24 ⟨rfl, r24⟩
                refine sq_end (qs_bn (qs_n (wp_sq (sq_v rfl (v_move rfl) rfl ?_)))); refine sq_v rfl (v_sub rfl rfl ((by unfold I64; omega))) rfl ?_; refine sq_v rfl (v_assign rfl) rfl (sq_end ?_); refine qs_dj 2 0 rfl rfl rfl (fun hdm => ?_); simp only [ei0] at r24; have hd1 : PDj hl (h101) := hdm.mono (PLe.un_l _ _); have hd2 : PDj (h101) (hp w) := (hdm.mono (PLe.un_r hdj)).symm; have hdjN : PDj (PUn hl (h101)) (hp w) := PDj.un hdj hd2; have hMM : PLe (PUn hl (hp w)) (PUn (PUn hl (h101)) (hp w)) := PUn.mono_l (PLe.un_l _ _) hdjN; have hHM : PLe (h101) (PUn (PUn hl (h101)) (hp w)) := (PLe.un_r hd1).trans (PLe.un_l _ _); have eM : dvM k p n ts bs ps (dvG k p n ts bs ps c) (bs.length - 1 - c) = sumR k p n (dvJ k p n ts bs ps (dvG k p n ts bs ps c) (bs.length - 1 - c)) l99 := by rw [dvM, if_pos (by omega), e99]
                have hTN : TensL (dvMs k p n ts bs ps (c + 1)) (cm.take ((bs.length - 1 - c) * 3) ++ [va101, vb101, vc101] ++ cm.drop ((bs.length - 1 - c) * 3 + 3)) (PUn (PUn hl (h101)) (hp w)) := by rw [dvMs_step (by omega), eM]; exact (hT.mono hMM).put (by rw [dvMs_len]; omega) (o101.toR.1.mono hHM) (o101.toR.2.1.mono hHM) (o101.toR.2.2.mono hHM)
                exact qs_bk (c + 1, PUn hl (h101), _, h24) ⟨by (try dsimp only); omega, hdjN, fun q hq => by (by_cases h : q < c; exact hfit q h; rw [show q = c by omega]; exact hfc), hTN, by (try dsimp only); rw [dvMs_len] at r24 ⊢; exact r24⟩ (by simp only; omega) ⟨rfl, rfl, rfl, rfl, rfl, (by first | rfl | exact ksub rfl (by first | omega | (simp; done) | (simp; omega))), trivial⟩ (fun _ s => Sat.merge (Sat.merge ((Sat.part hdj (s.pick (HS' := [PUn hl (hp w), h101, h24, box b4 [.slice none 0 0, .slice none 0 0, .slice none 0 0] 34, box b3 [va, vb] 60, box b2 [num k, num p, num n, vt, vo] 40]) [2, 0, 3, 5, 6, 7] (by decide) rfl)).pick (HS' := [hl, h101, hp w, h24, box b4 [.slice none 0 0, .slice none 0 0, .slice none 0 0] 34, box b3 [va, vb] 60, box b2 [num k, num p, num n, vt, vo] 40]) [0, 2, 1, 3, 4, 5, 6] (by decide) rfl)))
              · refine wp_sk (qs_n (wp_sq (sq_v rfl (v_move rfl) rfl (sq_v rfl (v_move rfl) rfl (sq_v rfl (v_loadNB 3 ty_34 rfl rfl rfl rfl) rfl ?_))))); obtain ⟨t105, a105, b105, c105, ht105, hcs105, rl105, rd105, rx105⟩ := hT.at0 (((bs.length : Int) - 1 - c : Int).toNat) (by first | omega | (rw [List.length_set]; omega)); refine sq_v rfl (v_indexAddr Tryz.underlying38 ty_34 rfl rfl rr.toR (by decide) (by omega) (by omega)) rfl ?_
                (first | refine sq_m 2 rfl rfl (m_storeE 2 ty_34 rfl rfl (us := [va101, vb101, vc101]) rfl rfl (fun u hu => by simp only [List.mem_cons, List.not_mem_nil, or_false] at hu; rcases hu with rfl | rfl | rfl; exact o101.toR.1.sl.one; exact o101.toR.2.1.sl.one; exact o101.toR.2.2.sl.one) rfl rr (by decide) (by have := rr.1; omega)) rfl ?_ | refine sq_m 2 rfl rfl (m_storeE 2 ty_34 rfl rfl (us := [ja, jb, jc]) rfl rfl (fun u hu => by simp only [List.mem_cons, List.not_mem_nil, or_false] at hu; rcases hu with rfl | rfl | rfl; exact o1; exact o2; exact o3) rfl rr (by decide) (by have := rr.1; omega)) rfl ?_); rintro _ h24 ⟨rfl, r24⟩
                refine sq_end (qs_bn (qs_n (wp_sq (sq_v rfl (v_move rfl) rfl ?_)))); refine sq_v rfl (v_sub rfl rfl ((by unfold I64; omega))) rfl ?_; refine sq_v rfl (v_assign rfl) rfl (sq_end ?_); refine qs_dj 1 0 rfl rfl rfl (fun hdm => ?_); simp only [ei0] at r24; have hd1 : PDj hl (PUn h78 h81) := hdm.mono (PLe.un_l _ _); have hd2 : PDj (PUn h78 h81) (hp w) := (hdm.mono (PLe.un_r hdj)).symm; have hdjN : PDj (PUn hl (PUn h78 h81)) (hp w) := PDj.un hdj hd2; have hMM : PLe (PUn hl (hp w)) (PUn (PUn hl (PUn h78 h81)) (hp w)) := PUn.mono_l (PLe.un_l _ _) hdjN; have hHM : PLe (PUn h78 h81) (PUn (PUn hl (PUn h78 h81)) (hp w)) := (PLe.un_r hd1).trans (PLe.un_l _ _); have eM : dvM k p n ts bs ps (dvG k p n ts bs ps c) (bs.length - 1 - c) = (dvJ k p n ts bs ps (dvG k p n ts bs ps c) (bs.length - 1 - c)) := by rw [dvM, if_neg (by omega)]
                have hTN : TensL (dvMs k p n ts bs ps (c + 1)) (cm.take ((bs.length - 1 - c) * 3) ++ [ja, jb, jc] ++ cm.drop ((bs.length - 1 - c) * 3 + 3)) (PUn (PUn hl (PUn h78 h81)) (hp w)) := by rw [dvMs_step (by omega), eM]; exact (hT.mono hMM).put (by rw [dvMs_len]; omega) (q1.mono hHM) (q2.mono hHM) (q3.mono hHM)
                exact qs_bk (c + 1, PUn hl (PUn h78 h81), _, h24) ⟨by (try dsimp only); omega, hdjN, fun q hq => by (by_cases h : q < c; exact hfit q h; rw [show q = c by omega]; exact hfc), hTN, by (try dsimp only); rw [dvMs_len] at r24 ⊢; exact r24⟩ (by simp only; omega) ⟨rfl, rfl, rfl, rfl, rfl, (by first | rfl | exact ksub rfl (by first | omega | (simp; done) | (simp; omega))), trivial⟩ (fun _ s => Sat.merge (Sat.merge ((Sat.part hdj (s.pick (HS' := [PUn hl (hp w), PUn h78 h81, h24, box b4 [.slice none 0 0, .slice none 0 0, .slice none 0 0] 34, box b3 [va, vb] 60, box b2 [num k, num p, num n, vt, vo] 40]) [1, 0, 2, 4, 5, 6] (by decide) rfl)).pick (HS' := [hl, PUn h78 h81, hp w, h24, box b4 [.slice none 0 0, .slice none 0 0, .slice none 0 0] 34, box b3 [va, vb] 60, box b2 [num k, num p, num n, vt, vo] 40]) [0, 2, 1, 3, 4, 5, 6] (by decide) rfl)))
    · refine wp_ex (qs_x (qs_x (qs_bx (qs_n (wp_sc (wp_rj 5 [(0, true), (1, true), (2, true), (3, true), (4, false), (5, false), (6, false)] mixed_ok (by kernel_rfl) (rj_v rfl rfl (v_loadNB 4 ty_40 rfl rfl rfl rfl) rfl (rj_v rfl rfl (v_move rfl) rfl ?_)))))))); obtain ⟨t108, a108, b108, c108, ht108, hcs108, rl108, rd108, rx108⟩ := hT.at0 (0) (by first | omega | (rw [List.length_set]; omega)); refine rj_v rfl rfl (v_indexAddr Tryz.underlying38 ty_34 rfl rfl rr.toR (by decide) (by omega) (by omega)) rfl ?_; refine rj_v rfl rfl (v_loadNE 1 ty_34 rfl rfl rr.toR (by have := rr.toR.1; omega) rfl hcs108) rfl ?_; have ec : c = bs.length := (by omega); have hdv : dvP k p n ts op bs ps := ⟨hd, fun q hq => hfit q (by omega)⟩; have hfin := hdv.fin; have e108 : t108 = dvE k p n ts bs ps := (by have h0 := dvMs_get (k := k) (p := p) (n := n) (ts := ts) (ps := ps) (c := c) (show 0 < bs.length by omega); have h1 := Option.some.inj (ht108.symm.trans h0); rw [h1, ec]; rfl); subst e108; refine rj_x rfl rfl (x_call rfl en_67 (fun w s => ct_s_l18Finish k p n _ _ (dvE k p n ts bs ps) _ _ _ _ _ w ((r.mono (PLe.un_r hdj)).mono (s.get 0 rfl)) ((r'.mono (PLe.un_r hdj)).mono (s.get 0 rfl)) (rl108.mono (s.get 0 rfl)) (rd108.mono (s.get 0 rfl)) (rx108.mono (s.get 0 rfl)) hfin.2.1 ((net_open hnet).1) hfin.2.2)) rfl ?_; rintro _ h110 ⟨va110, vb110, vc110, rfl, o110⟩; refine rj_m 3 rfl rfl rfl rfl (m_store 3 ty_34 rfl rfl rfl rfl (by simp [o110.toR.1.sl.one, o110.toR.2.1.sl.one, o110.toR.2.2.sl.one]) rfl (Nat.le_of_ble_eq_true rfl)) rfl ?_; rintro _ _ ⟨rfl, rfl⟩; refine rj_fv rfl rfl (v_assign rfl) rfl (rj_end (qs_n (wp_rt (qs_s [hl, hp w, h110, box b4 [va110, vb110, vc110] 34] (fun _ s => Sat.part hdj (s.pick [1, 0, 3] (by decide) rfl)) ?_)))); exact qs_retct 3 rfl ty_34 rfl rfl rfl rfl (fin_t 2 (i := 1) rfl rfl rfl (DvYes hdv o110))
end Go.Proofs.YthlmjnihihbckaaGreat
namespace Go.Proofs.YthlmjnihihbckaaGreat
set_option maxRecDepth 100000
open Go.RowKit
set_option maxHeartbeats 8000000 in
theorem ct_i_DecompositionValue (k p n : Int) (ts : List Ten) (op : List Int) (bs : List (List Int)) (ps : List Int) (vt vo va vb : Value) (w : World) (r : TensR ts vt (hp w)) (r' : IntsR op vo (hp w)) (rb : LLR bs va (hp w)) (rp : IntsR ps vb (hp w)) (hs : op.length ≤ 1048576) :
    Calls Tryz.prog 29 [netV k p n vt vo, decV va vb].toArray w (Ret w emp (TenB (dvR k p n ts op bs ps) (dvB k p n ts op bs ps))) := by
  refine calls_in Tryz.func29 rfl Tryz.ntmps29 rfl (Sat.start w) ?_; have hle0 := r.le; obtain ⟨cs_r, rr_r, hc_r⟩ := r.at; have hle1 := r'.le; have hle2 := rb.le; obtain ⟨cs_rb, rr_rb, hc_rb⟩ := rb.at; have hle3 := rp.le; refine wp_sc (wp_sq ?_); refine sq_x rfl (x_box rfl rfl) rfl ?_; rintro _ _ ⟨b2, rfl, rfl⟩; refine sq_x rfl (x_box rfl rfl) rfl ?_; rintro _ _ ⟨b3, rfl, rfl⟩; refine sq_x rfl (x_alloc ty_34 rfl) rfl ?_; rintro _ _ ⟨b4, rfl, rfl⟩; refine sq_v rfl (v_assign rfl) rfl (sq_end (qs_n (wp_sc (wp_sc (wp_sq (sq_v rfl (v_loadNB 2 ty_40 rfl rfl rfl rfl) rfl (sq_v rfl (v_loadNB 1 ty_60 rfl rfl rfl rfl) rfl (sq_u rfl (x_callv rfl en_102 (fun w s => ct_i_DecompositionOk _ _ _ _ _ _ _ _ _ _ _ w (r.mono (s.get 3 rfl)) (r'.mono (s.get 3 rfl)) (rb.mono (s.get 3 rfl)) (rp.mono (s.get 3 rfl)) (by first | assumption | omega))) rfl (sq_v rfl (v_not rfl) rfl (sq_end (qs_n ?_))))))))))); refine wp_cn _ rfl (fun c17 => ?_) (fun c17 => ?_)
  · refine wp_sc (wp_sq (sq_v rfl (v_build [.slice none 0 0, .slice none 0 0, .slice none 0 0] rfl (by kernel_rfl)) rfl ?_)); refine sq_m 0 rfl rfl (m_store 0 ty_34 rfl rfl rfl rfl (by simp [one_sl]) rfl (Nat.le_of_ble_eq_true rfl)) rfl ?_; rintro _ _ ⟨rfl, rfl⟩; refine sq_v rfl (v_assign rfl) rfl (sq_end (qs_n (wp_rt (qs_r ?_)))); exact qs_retct 0 rfl ty_34 rfl rfl rfl rfl (fin_e (i := 3) rfl (DvNo (fun h => by have := dB_yes h.1; rw [c17] at this; cases this)))
  · refine wp_sk (qs_n (wp_sc (wp_sq ?_))); have hd := dB_true.1 c17; have hnet := hd.1; have hbg := hd.2.1; have hring := hnet.1; have h12 := hnet.2.1; have hbl := hbg.1; have hpl := hbg.2.1; refine sq_v rfl (v_fieldAddr fd_60_0 ty_55 (by decide) rfl) rfl (sq_v rfl (v_loadB 1 ty_55 rfl rfl rfl) rfl (sq_v rfl (v_len Tryz.underlying55 rfl rb.sl) rfl ?_)); refine sq_x rfl (x_make Tryz.underlying38 ty_34 rfl rfl rfl rfl (by omega) (by omega) (by omega)) rfl ?_; intro v22 h22 r22; refine sq_v rfl (v_assign rfl) rfl (sq_end (qs_n (wp_sc (wp_sc (wp_sq (sq_v rfl (v_fieldAddr fd_60_0 ty_55 (by decide) rfl) rfl (sq_v rfl (v_loadB 2 ty_55 rfl rfl rfl) rfl (sq_v rfl (v_len Tryz.underlying55 rfl rb.sl) rfl ?_)))))))); refine sq_v rfl (v_sub rfl rfl ((by unfold I64; omega))) rfl ?_; refine sq_v rfl (v_assign rfl) rfl (sq_end (qs_s [PUn emp (hp w), h22, box b4 [.slice none 0 0, .slice none 0 0, .slice none 0 0] 34, box b3 [va, vb] 60, box b2 [num k, num p, num n, vt, vo] 40] (fun _ s => Sat.merge (emp_sat (s.pick (HS' := [hp w, h22, box b4 [.slice none 0 0, .slice none 0 0, .slice none 0 0] 34, box b3 [va, vb] 60, box b2 [num k, num p, num n, vt, vo] 40]) [4, 0, 1, 2, 3] (by decide) rfl))) (qs_n (wp_bl ?_)))); refine wp_lp (σ := Nat × PH × (List Value) × PH) (fun z_ => [(2, .pointer (some ⟨b2, 0, none⟩)), (3, .pointer (some ⟨b3, 0, none⟩)), (4, .pointer (some ⟨b4, 0, none⟩)), (5, .bool false), (6, v22), (7, num ((bs.length : Int) - 1 - z_.1))]) (fun z_ => [(PUn z_.2.1 (hp w)), z_.2.2.2, box b4 [.slice none 0 0, .slice none 0 0, .slice none 0 0] 34, box b3 [va, vb] 60, box b2 [num k, num p, num n, vt, vo] 40]) (fun z_ => z_.1 ≤ bs.length ∧ PDj z_.2.1 (hp w) ∧ (∀ q, q < z_.1 → dvFit k p n ts bs ps q) ∧ TensL (dvMs k p n ts bs ps z_.1) z_.2.2.1 (PUn z_.2.1 (hp w)) ∧ RowO (34) z_.2.2.1 (dvMs k p n ts bs ps z_.1).length 3 v22 z_.2.2.2) (fun z_ => bs.length - z_.1) (0, emp, _, h22) (⟨by (try dsimp only); omega, PDj.emp _, fun j hj => by omega, by (try dsimp only); rw [dvMs_zero]; exact TensL.blank _ _, by (try dsimp only); rw [dvMs_len]; exact r22⟩) ⟨rfl, rfl, rfl, rfl, rfl, (by first | rfl | exact ksub rfl (by first | omega | (simp; done) | (simp; omega))), trivial⟩ (fun _ s => s) ?_; rintro ⟨c, hl, cm, hm⟩ ⟨hc, hdj, hfit, hT, rr⟩; dsimp only at hc hdj hfit hT rr ⊢; obtain ⟨csT, rrT, hcT⟩ := (r.mono (PLe.un_r hdj)).at; obtain ⟨csB, rrB, hcB⟩ := (rb.mono (PLe.un_r hdj)).at; have hrl := dvMs_len (k := k) (p := p) (n := n) (ts := ts) (bs := bs) (ps := ps) (c := c); refine wp_sc (wp_sc (wp_sq (sq_v rfl (v_move rfl) rfl (sq_v rfl (v_geq rfl rfl) rfl (sq_end (qs_n ?_)))))); refine wp_cd rfl (fun c28 => ?_) (fun c28 => ?_)
    · refine wp_sk (qs_n (wp_sc (wp_bl (wp_sc (wp_sq (sq_v rfl (v_fieldAddr fd_40_0 ty_37 (by decide) rfl) rfl (sq_v rfl (v_loadNB 4 ty_37 rfl rfl rfl rfl) rfl ?_))))))); refine sq_x rfl (x_call rfl en_103 (fun w s => ct_i_scalarOne _ _ _ w (by first | assumption | omega))) rfl ?_; rintro _ h33 ⟨va33, vb33, vc33, rfl, o33⟩; refine sq_x rfl (x_buildS [.agg [va33, vb33, vc33].toArray] Tryz.underlying38 ty_34 (by decide) rfl rfl rfl (by decide) (by decide) (by intro v hv; simp at hv; subst hv; rfl)) rfl ?_; intro v34 h34 (r34 : RowO 34 [va33, vb33, vc33] 1 3 v34 h34); refine sq_v rfl (v_assign rfl) rfl (sq_end (qs_n (wp_sc (wp_sc (wp_sq (sq_v rfl (v_fieldAddr fd_40_1 ty_38 (by decide) rfl) rfl (sq_v rfl (v_loadB 6 ty_38 rfl rfl rfl) rfl (sq_v rfl (v_len Tryz.underlying38 rfl (r.mono (PLe.un_r hdj)).sl) rfl (sq_v rfl (v_move rfl) rfl (sq_end (qs_n (wp_bl ?_)))))))))))); refine wp_lp (σ := Nat × Value × PH × (List Value)) (fun z_ => [(2, .pointer (some ⟨b2, 0, none⟩)), (3, .pointer (some ⟨b3, 0, none⟩)), (4, .pointer (some ⟨b4, 0, none⟩)), (5, .bool false), (6, v22), (7, num ((bs.length : Int) - 1 - c)), (8, z_.2.1), (27, num ((bs.length : Int) - 1 - c)), (28, .bool (decide ((0 : Int) ≤ (bs.length : Int) - 1 - c))), (31, .pointer (some ⟨b2, 0, none⟩)), (32, .agg [num k, num p, num n].toArray), (33, .agg [va33, vb33, vc33].toArray), (34, v34), (35, .pointer (some ⟨b2, 3, none⟩)), (36, vt), (37, num ts.length), (38, num z_.1)]) (fun z_ => [z_.2.2.1, h33, (PUn hl (hp w)), hm, box b4 [.slice none 0 0, .slice none 0 0, .slice none 0 0] 34, box b3 [va, vb] 60, box b2 [num k, num p, num n, vt, vo] 40]) (fun z_ => z_.1 ≤ ts.length ∧ TensL (dvA bs (bs.length - 1 - c) ts z_.1) z_.2.2.2 (PUn hl (hp w)) ∧ RowO (34) ([va33, vb33, vc33] ++ z_.2.2.2) (1 + (dvA bs (bs.length - 1 - c) ts z_.1).length) 3 z_.2.1 z_.2.2.1) (fun z_ => ts.length - z_.1) (0, v34, h34, []) (⟨by (try dsimp only); omega, TensL.nil _, r34⟩) ⟨rfl, rfl, rfl, rfl, rfl, rfl, (by first | rfl | exact ksub rfl (by first | omega | (simp; done) | (simp; omega))), rfl, rfl, rfl, rfl, rfl, rfl, rfl, rfl, rfl, (by first | rfl | exact ksub rfl (by first | omega | (simp; done) | (simp; omega))), trivial⟩ (fun _ s => s) ?_; rintro ⟨j, vl, hr, cl⟩ ⟨hj, hTl, qr⟩; dsimp only at hj hTl qr ⊢; have hal := dvA_len bs (bs.length - 1 - c) ts j; refine wp_sc (wp_sq (sq_v rfl (v_lss rfl rfl) rfl (sq_end (qs_n (wp_sc ?_))))); refine wp_cd rfl (fun c39 => ?_) (fun c39 => ?_)
      · refine wp_sk (qs_n (wp_sc (wp_bl (wp_sc (wp_sq ?_))))); obtain ⟨t40, a40, b40, c40, ht40, hcs40, rl40, rd40, rx40⟩ := hcT (j) (by first | omega | (rw [List.length_set]; omega)); refine sq_v rfl (v_indexAddr Tryz.underlying38 ty_34 rfl rfl rrT (by decide) (by omega) (by omega)) rfl ?_; refine sq_v rfl (v_loadNE 2 ty_34 rfl rfl rrT (by have := rrT.1; omega) rfl hcs40) rfl ?_; refine sq_x rfl (x_alloc ty_34 rfl) rfl ?_; rintro _ _ ⟨b10, rfl, rfl⟩; refine sq_m 0 rfl rfl (m_store 0 ty_34 rfl rfl rfl rfl (by simp [rl40.sl.one, rd40.sl.one, rx40.sl.one]) rfl (Nat.le_of_ble_eq_true rfl)) rfl ?_; rintro _ _ ⟨rfl, rfl⟩; refine sq_end (qs_n (wp_sc (wp_sq (sq_v rfl (v_loadNB 6 ty_60 rfl rfl rfl rfl) rfl (sq_v rfl (v_fieldAddr fd_34_0 ty_25 (by decide) rfl) rfl (sq_v rfl (v_loadB 0 ty_25 rfl rfl rfl) rfl (sq_u rfl (x_callv rfl en_104 (fun w s => ct_i_homeBag _ _ _ _ _ _ w ((rb.mono (PLe.un_r hdj)).mono (s.get 3 rfl)) ((rp.mono (PLe.un_r hdj)).mono (s.get 3 rfl)) (rl40.mono (s.get 3 rfl)))) rfl (sq_v rfl (v_move rfl) rfl (sq_v rfl (v_eql rfl rfl) rfl (sq_end (qs_n ?_))))))))))); refine wp_cd rfl (fun c47 => ?_) (fun c47 => ?_)
        · refine wp_sq (sq_v rfl (v_move rfl) rfl (sq_v rfl (v_loadNB 0 ty_34 rfl rfl rfl rfl) rfl ?_)); refine sq_x rfl (x_buildS [.agg [a40, b40, c40].toArray] Tryz.underlying38 ty_34 (by decide) rfl rfl rfl (by decide) (by decide) (by intro v hv; simp at hv; subst hv; rfl)) rfl ?_; intro v50 h50 (r50 : RowO 34 [a40, b40, c40] 1 3 v50 h50); refine sq_m 2 rfl rfl (m_append 2 0 Tryz.underlying38 ty_34 rfl rfl (by decide) rfl rfl rfl qr rfl r50.toR (by simp [rl40.sl.one, rd40.sl.one, rx40.sl.one]) (by unfold maxLen; omega) (by omega)) rfl ?_; intro v51 h_r51 (r51 : RowO 34 (([va33, vb33, vc33] ++ cl) ++ [a40, b40, c40]) ((1 + (dvA bs (bs.length - 1 - c) ts j).length) + 1) 3 v51 h_r51); refine sq_v rfl (v_assign rfl) rfl (sq_end (qs_bn (qs_n (wp_sq ?_)))); refine sq_v rfl (v_add rfl rfl ((by unfold I64; omega))) rfl ?_; refine sq_v rfl (v_move rfl) rfl (sq_end ?_); exact qs_bk (j + 1, v51, h_r51, cl ++ [a40, b40, c40]) ⟨by (try dsimp only); omega, by (try dsimp only); rw [dvA_yes ht40 (by omega)]; exact hTl.snoc rl40 rd40 rx40, by (try dsimp only); rw [dvA_yes ht40 (by omega), List.length_append, ← List.append_assoc, ← Nat.add_assoc]; exact r51⟩ (by simp only; omega) ⟨rfl, rfl, rfl, rfl, rfl, rfl, (by first | rfl | exact ksub rfl (by first | omega | (simp; done) | (simp; omega))), rfl, rfl, rfl, rfl, rfl, rfl, rfl, rfl, rfl, (by first | rfl | exact ksub rfl (by first | omega | (simp; done) | (simp; omega))), trivial⟩ (fun _ s => s.pick [2, 3, 4, 5, 6, 7, 8] (by decide) rfl)
        · refine wp_sk (qs_bn (qs_n (wp_sq ?_))); refine sq_v rfl (v_add rfl rfl ((by unfold I64; omega))) rfl ?_; refine sq_v rfl (v_move rfl) rfl (sq_end ?_); exact qs_bk (j + 1, vl, hr, cl) ⟨by (try dsimp only); omega, by (try dsimp only); rw [dvA_no ht40 (by omega)]; exact hTl, by (try dsimp only); rw [dvA_no ht40 (by omega)]; exact qr⟩ (by simp only; omega) ⟨rfl, rfl, rfl, rfl, rfl, rfl, (by first | rfl | exact ksub rfl (by first | omega | (simp; done) | (simp; omega))), rfl, rfl, rfl, rfl, rfl, rfl, rfl, rfl, rfl, (by first | rfl | exact ksub rfl (by first | omega | (simp; done) | (simp; omega))), trivial⟩ (fun _ s => s.pick [1, 2, 3, 4, 5, 6, 7] (by decide) rfl)
      · refine wp_ex (qs_x (qs_x (qs_bx (qs_n (wp_sc (wp_sc (wp_sq (sq_v rfl (v_move rfl) rfl ?_)))))))); refine sq_v rfl (v_add rfl rfl ((by unfold I64; omega))) rfl ?_; refine sq_v rfl (v_assign rfl) rfl (sq_end (qs_n (wp_bl ?_))); refine wp_lp (σ := Nat × Value × PH × (List Value)) (fun z_ => [(2, .pointer (some ⟨b2, 0, none⟩)), (3, .pointer (some ⟨b3, 0, none⟩)), (4, .pointer (some ⟨b4, 0, none⟩)), (5, .bool false), (6, v22), (7, num ((bs.length : Int) - 1 - c)), (8, z_.2.1), (11, num z_.1), (27, num ((bs.length : Int) - 1 - c)), (28, .bool (decide ((0 : Int) ≤ (bs.length : Int) - 1 - c))), (31, .pointer (some ⟨b2, 0, none⟩)), (32, .agg [num k, num p, num n].toArray), (33, .agg [va33, vb33, vc33].toArray), (34, v34), (35, .pointer (some ⟨b2, 3, none⟩)), (36, vt), (37, num ts.length), (38, num j), (39, .bool (decide ((j : Int) < ts.length))), (53, num ((bs.length : Int) - 1 - c)), (54, num (((bs.length : Int) - 1 - c) + 1))]) (fun z_ => [z_.2.2.1, h33, (PUn hl (hp w)), hm, box b4 [.slice none 0 0, .slice none 0 0, .slice none 0 0] 34, box b3 [va, vb] 60, box b2 [num k, num p, num n, vt, vo] 40]) (fun z_ => (bs.length - 1 - c < z_.1 ∧ z_.1 ≤ bs.length) ∧ TensL (dvX k p n ts bs ps c z_.1) z_.2.2.2 (PUn hl (hp w)) ∧ RowO (34) ([va33, vb33, vc33] ++ z_.2.2.2) (1 + (dvX k p n ts bs ps c z_.1).length) 3 z_.2.1 z_.2.2.1) (fun z_ => bs.length - z_.1) ((bs.length - 1 - c + 1), vl, hr, cl) (⟨by (try dsimp only); omega, by (try dsimp only); unfold dvX; rw [dvC_start, List.append_nil]; rw [show j = ts.length by omega] at hTl; exact hTl, by (try dsimp only); unfold dvX; rw [dvC_start, List.append_nil]; rw [show j = ts.length by omega] at qr; exact qr⟩) ⟨rfl, rfl, rfl, rfl, rfl, rfl, (by first | rfl | exact ksub rfl (by first | omega | (simp; done) | (simp; omega))), (by first | rfl | exact ksub rfl (by first | omega | (simp; done) | (simp; omega))), rfl, rfl, rfl, rfl, rfl, rfl, rfl, rfl, rfl, rfl, rfl, rfl, rfl, trivial⟩ (fun _ s => s) ?_; rintro ⟨m, vl, hr, cl⟩ ⟨hm1, hTl, qr⟩; dsimp only at hm1 hTl qr ⊢; have hxl := dvX_len (k := k) (p := p) (n := n) (ts := ts) (bs := bs) (ps := ps) c hm1.2; have hug := dvX_good (m := m) hnet hbg (by omega) hm1.2 hfit; refine wp_sc (wp_sc (wp_sq (sq_v rfl (v_move rfl) rfl (sq_v rfl (v_fieldAddr fd_60_0 ty_55 (by decide) rfl) rfl (sq_v rfl (v_loadB 5 ty_55 rfl rfl rfl) rfl (sq_v rfl (v_len Tryz.underlying55 rfl (rb.mono (PLe.un_r hdj)).sl) rfl (sq_v rfl (v_lss rfl rfl) rfl (sq_end (qs_n ?_))))))))); refine wp_cd rfl (fun c59 => ?_) (fun c59 => ?_)
        · refine wp_sk (qs_n (wp_sc (wp_bl (wp_sc (wp_sq (sq_v rfl (v_fieldAddr fd_60_1 ty_25 (by decide) rfl) rfl (sq_v rfl (v_loadB 5 ty_25 rfl rfl rfl) rfl (sq_v rfl (v_move rfl) rfl ?_)))))))); refine sq_v rfl (v_idxI Tryz.underlying25 ty_3 rfl rfl (rp.mono (PLe.un_r hdj)) (by first | omega | (simp; omega) | (simp only [List.length_append, List.length_cons, List.length_nil]; omega) | (rw [List.length_set]; omega)) (by first | omega | (simp; omega) | (simp only [List.length_append, List.length_cons, List.length_nil]; omega) | (rw [List.length_set]; omega))) rfl ?_; refine sq_v rfl (v_loadI (k := m) 2 ty_3 rfl rfl (rp.mono (PLe.un_r hdj)) (by first | omega | (simp; omega) | (simp only [List.length_append, List.length_cons, List.length_nil]; omega) | (rw [List.length_set]; omega))) rfl ?_; refine sq_v rfl (v_move rfl) rfl (sq_v rfl (v_eql rfl rfl) rfl (sq_end (qs_n ?_))); refine wp_cd rfl (fun c68 => ?_) (fun c68 => ?_)
          · refine wp_sq (sq_v rfl (v_move rfl) rfl (sq_v rfl (v_move rfl) rfl (sq_v rfl (v_move rfl) rfl ?_))); obtain ⟨t72, a72, b72, c72, ht72, hcs72, rl72, rd72, rx72⟩ := hT.at0 (m) (by first | omega | (rw [List.length_set]; omega)); refine sq_v rfl (v_indexAddr Tryz.underlying38 ty_34 rfl rfl rr.toR (by decide) (by omega) (by omega)) rfl ?_; refine sq_v rfl (v_loadNE 3 ty_34 rfl rfl rr.toR (by have := rr.toR.1; omega) rfl hcs72) rfl ?_; refine sq_x rfl (x_buildS [.agg [a72, b72, c72].toArray] Tryz.underlying38 ty_34 (by decide) rfl rfl rfl (by decide) (by decide) (by intro v hv; simp at hv; subst hv; rfl)) rfl ?_; intro v74 h74 (r74 : RowO 34 [a72, b72, c72] 1 3 v74 h74); refine sq_m 1 rfl rfl (m_append 1 0 Tryz.underlying38 ty_34 rfl rfl (by decide) rfl rfl rfl qr rfl r74.toR (by simp [rl72.sl.one, rd72.sl.one, rx72.sl.one]) (by unfold maxLen; omega) (by omega)) rfl ?_; intro v75 h_r75 (r75 : RowO 34 (([va33, vb33, vc33] ++ cl) ++ [a72, b72, c72]) ((1 + (dvX k p n ts bs ps c m).length) + 1) 3 v75 h_r75); refine sq_v rfl (v_assign rfl) rfl (sq_end (qs_bn (qs_n (wp_sq (sq_v rfl (v_move rfl) rfl ?_))))); refine sq_v rfl (v_add rfl rfl ((by unfold I64; omega))) rfl ?_; refine sq_v rfl (v_assign rfl) rfl (sq_end ?_); have e72 : dvG k p n ts bs ps c m = t72 := Option.some.inj ((dvMs_get (by omega)).symm.trans ht72); exact qs_bk (m + 1, v75, h_r75, cl ++ [a72, b72, c72]) ⟨by (try dsimp only); omega, by (try dsimp only); unfold dvX; rw [dvC_yes ⟨by omega, by omega⟩, ← List.append_assoc, e72]; exact hTl.snoc rl72 rd72 rx72, by (try dsimp only); have e : 1 + (dvX k p n ts bs ps c (m + 1)).length = 1 + (dvX k p n ts bs ps c m).length + 1 := (by unfold dvX; rw [dvC_yes ⟨by omega, by omega⟩]; simp only [List.length_append, List.length_cons, List.length_nil]; omega); rw [e, ← List.append_assoc]; exact r75⟩ (by simp only; omega) ⟨rfl, rfl, rfl, rfl, rfl, rfl, (by first | rfl | exact ksub rfl (by first | omega | (simp; done) | (simp; omega))), (by first | rfl | exact ksub rfl (by first | omega | (simp; done) | (simp; omega))), rfl, rfl, rfl, rfl, rfl, rfl, rfl, rfl, rfl, rfl, rfl, rfl, rfl, trivial⟩ (fun _ s => s.pick [1, 2, 3, 4, 5, 6, 7] (by decide) rfl)
          · refine wp_sk (qs_bn (qs_n (wp_sq (sq_v rfl (v_move rfl) rfl ?_)))); refine sq_v rfl (v_add rfl rfl ((by unfold I64; omega))) rfl ?_; refine sq_v rfl (v_assign rfl) rfl (sq_end ?_); exact qs_bk (m + 1, vl, hr, cl) ⟨by (try dsimp only); omega, by (try dsimp only); unfold dvX; rw [dvC_no (by omega)]; exact hTl, by (try dsimp only); unfold dvX; rw [dvC_no (by omega)]; exact qr⟩ (by simp only; omega) ⟨rfl, rfl, rfl, rfl, rfl, rfl, (by first | rfl | exact ksub rfl (by first | omega | (simp; done) | (simp; omega))), (by first | rfl | exact ksub rfl (by first | omega | (simp; done) | (simp; omega))), rfl, rfl, rfl, rfl, rfl, rfl, rfl, rfl, rfl, rfl, rfl, rfl, rfl, trivial⟩ (fun _ s => s)
        · refine wp_ex (qs_x (qs_x (qs_bx (qs_n (wp_sc (wp_sq (sq_v rfl (v_fieldAddr fd_40_0 ty_37 (by decide) rfl) rfl (sq_v rfl (v_loadNB 6 ty_37 rfl rfl rfl rfl) rfl (sq_v rfl (v_move rfl) rfl ?_))))))))); refine sq_x rfl (x_call rfl en_105 (fun w s => ct_i_joinAll k p n (dimOf ts) (oneT k p n) (dvX k p n ts bs ps c m) ([va33, vb33, vc33] ++ cl) _ w (by have q := qr.toR.mono (s.get 0 rfl); rw [Nat.add_comm] at q; exact q) (TensL.append (a := [oneT k p n]) (((TensL.nil _).snoc (t := oneT k p n) o33.toR.1 o33.toR.2.1 o33.toR.2.2).mono (s.get 1 rfl)) (hTl.mono (s.get 2 rfl))) (one_good hring _) hug (by omega))) rfl ?_; rintro _ h80 ⟨ja, jb, jc, jbb, rfl, hbb, hyes0, o1, o2, o3⟩; refine sq_v rfl (v_move rfl) rfl (sq_v rfl (v_extract rfl rfl) rfl (sq_v rfl (v_extract rfl rfl) rfl ?_)); refine sq_x rfl (x_alloc ty_34 rfl) rfl ?_; rintro _ _ ⟨b12, rfl, rfl⟩; refine sq_m 0 rfl rfl (m_store 0 ty_34 rfl rfl rfl rfl (by simp [o1, o2, o3]) rfl (Nat.le_of_ble_eq_true rfl)) rfl ?_; rintro _ _ ⟨rfl, rfl⟩; refine sq_v rfl (v_assign rfl) rfl (sq_end (qs_n (wp_sc (wp_sc (wp_sq (sq_v rfl (v_move rfl) rfl (sq_v rfl (v_not rfl) rfl (sq_end ?_)))))))); refine qs_dj 3 1 rfl rfl rfl (fun hd8 => ?_); have em : m = bs.length := by omega
          have ei0 : ((bs.length : Int) - 1 - c).toNat = bs.length - 1 - c := by omega
          have hyes := fun hq => jn_or (hyes0 hq) (X := h33) ⟨_, _, _, rfl, o33.toR.1, o33.toR.2.1, o33.toR.2.2⟩; rw [em] at hbb hyes; rw [dvX_jn] at hyes; have hrd := fun hq => ten_or (hyes hq) (Y := PUn h33 h80) (PLe.un_r hd8) (PLe.un_l _ _); refine qs_s [PUn h33 h80, PUn hl (hp w), hm, box b12 [ja, jb, jc] 34, box b4 [.slice none 0 0, .slice none 0 0, .slice none 0 0] 34, box b3 [va, vb] 60, box b2 [num k, num p, num n, vt, vo] 40] (fun _ s => Sat.merge (s.pick [3, 1, 4, 5, 0, 6, 7, 8] (by decide) rfl)) (qs_n ?_); refine wp_cn _ rfl (fun c84 => ?_) (fun c84 => ?_)
          · refine wp_sc (wp_sq (sq_v rfl (v_build [.slice none 0 0, .slice none 0 0, .slice none 0 0] rfl (by kernel_rfl)) rfl ?_)); refine sq_m 4 rfl rfl (m_store 4 ty_34 rfl rfl rfl rfl (by simp [one_sl]) rfl (Nat.le_of_ble_eq_true rfl)) rfl ?_; rintro _ _ ⟨rfl, rfl⟩; refine sq_v rfl (v_assign rfl) rfl (sq_end (qs_n (wp_rt (qs_r (qs_br (qs_r (qs_r (qs_br (qs_r (qs_s [hl, hp w, box b4 [.slice none 0 0, .slice none 0 0, .slice none 0 0] 34] (fun _ s => Sat.part hdj (s.pick [1, 4] (by decide) rfl)) ?_)))))))))); exact qs_retct 2 rfl ty_34 rfl rfl rfl rfl (fin_e (i := 1) rfl (DvNo (fun h => by have := hbb.2 (dvFit_of (h.2 c (by omega))); rw [c84] at this; cases this)))
          · refine wp_sk (qs_n (wp_sc (wp_sc (wp_sq ?_)))); obtain ⟨q1, q2, q3⟩ := hrd c84; have hfc := dvFit_at (hbb.1 c84); refine sq_v rfl (v_move rfl) rfl (sq_v rfl (v_gtr rfl rfl) rfl (sq_end (qs_n ?_))); refine wp_cd rfl (fun c87 => ?_) (fun c87 => ?_)
            · refine wp_rj 13 [(0, true), (1, true), (2, true), (3, true), (4, true), (5, true), (6, true), (7, true), (8, true), (9, true), (10, true), (11, true), (12, false), (13, false)] mixed_ok (by kernel_rfl) ?_; have hpar := hbg.2.2.2.1 (bs.length - 1 - c) (by omega) (by omega); have hpe : ps.getD ((bs.length : Int) - 1 - c : Int).toNat 0 = ps.getD (bs.length - 1 - c) 0 := (by rw [ei0])
              refine rj_v rfl rfl (v_fieldAddr fd_40_0 ty_37 (by decide) rfl) rfl (rj_v rfl rfl (v_loadNB 6 ty_37 rfl rfl rfl rfl) rfl (rj_v rfl rfl (v_loadNB 3 ty_34 rfl rfl rfl rfl) rfl (rj_v rfl rfl (v_fieldAddr fd_60_0 ty_55 (by decide) rfl) rfl (rj_v rfl rfl (v_loadB 5 ty_55 rfl rfl rfl) rfl (rj_v rfl rfl (v_fieldAddr fd_60_1 ty_25 (by decide) rfl) rfl (rj_v rfl rfl (v_loadB 5 ty_25 rfl rfl rfl) rfl (rj_v rfl rfl (v_move rfl) rfl ?_))))))); refine rj_v rfl rfl (v_idxI Tryz.underlying25 ty_3 rfl rfl (rp.mono (PLe.un_r hdj)) (by first | omega | (simp; omega) | (simp only [List.length_append, List.length_cons, List.length_nil]; omega) | (rw [List.length_set]; omega)) (by first | omega | (simp; omega) | (simp only [List.length_append, List.length_cons, List.length_nil]; omega) | (rw [List.length_set]; omega))) rfl ?_; refine rj_v rfl rfl (v_loadI  1 ty_3 rfl rfl (rp.mono (PLe.un_r hdj)) (by first | omega | (simp; omega) | (simp only [List.length_append, List.length_cons, List.length_nil]; omega) | (rw [List.length_set]; omega))) rfl ?_; obtain ⟨l98, a98, hl98, hcs98, rl98⟩ := hcB ((ps.getD ((bs.length : Int) - 1 - c : Int).toNat 0 : Int).toNat) (by first | omega | (rw [List.length_set]; omega)); refine rj_v rfl rfl (v_indexAddr Tryz.underlying55 ty_25 rfl rfl rrB (by decide) (by omega) (by omega)) rfl (rj_v rfl rfl (v_loadE 1 ty_25 rfl rfl rrB (sub_get hcs98 (j := 0) rfl)) rfl ?_); refine rj_x rfl rfl (x_call rfl en_60 (fun w s => ct_i_SumLabels k p n (dvJ k p n ts bs ps (dvG k p n ts bs ps c) (bs.length - 1 - c)) _ _ _ _ _ w (q1.mono (s.get 0 rfl)) (q2.mono (s.get 0 rfl)) (q3.mono (s.get 0 rfl)) (rl98.mono (s.get 1 rfl)))) rfl ?_; rintro _ h100 ⟨va100, vb100, vc100, rfl, o100⟩; refine rj_m 4 rfl rfl rfl rfl (m_store 4 ty_34 rfl rfl rfl rfl (by simp [o100.toR.1.sl.one, o100.toR.2.1.sl.one, o100.toR.2.2.sl.one]) rfl (Nat.le_of_ble_eq_true rfl)) rfl ?_; rintro _ _ ⟨rfl, rfl⟩; refine rj_end ?_; have e98 : bs.getD (ps.getD (bs.length - 1 - c) 0).toNat [] = l98 := by rw [← hpe]; exact ll_getD hl98
              refine qs_n (wp_sq (sq_v rfl (v_move rfl) rfl (sq_v rfl (v_move rfl) rfl (sq_v rfl (v_loadNB 4 ty_34 rfl rfl rfl rfl) rfl ?_)))); obtain ⟨t104, a104, b104, c104, ht104, hcs104, rl104, rd104, rx104⟩ := hT.at0 (((bs.length : Int) - 1 - c : Int).toNat) (by first | omega | (rw [List.length_set]; omega)); refine sq_v rfl (v_indexAddr Tryz.underlying38 ty_34 rfl rfl rr.toR (by decide) (by omega) (by omega)) rfl ?_
              (first | refine sq_m 3 rfl rfl (m_storeE 3 ty_34 rfl rfl (us := [va100, vb100, vc100]) rfl rfl (fun u hu => by simp only [List.mem_cons, List.not_mem_nil, or_false] at hu; rcases hu with rfl | rfl | rfl; exact o100.toR.1.sl.one; exact o100.toR.2.1.sl.one; exact o100.toR.2.2.sl.one) rfl rr (by decide) (by have := rr.1; omega)) rfl ?_ | refine sq_m 3 rfl rfl (m_storeE 3 ty_34 rfl rfl (us := [ja, jb, jc]) rfl rfl (fun u hu => by simp only [List.mem_cons, List.not_mem_nil, or_false] at hu; rcases hu with rfl | rfl | rfl; exact o1; exact o2; exact o3) rfl rr (by decide) (by have := rr.1; omega)) rfl ?_); rintro _ h24 ⟨rfl, r24⟩
              refine sq_end (qs_bn (qs_n (wp_sq (sq_v rfl (v_move rfl) rfl ?_)))); refine sq_v rfl (v_sub rfl rfl ((by unfold I64; omega))) rfl ?_; refine sq_v rfl (v_assign rfl) rfl (sq_end ?_); refine qs_dj 2 0 rfl rfl rfl (fun hdm => ?_); simp only [ei0] at r24; have hd1 : PDj hl (h100) := hdm.mono (PLe.un_l _ _); have hd2 : PDj (h100) (hp w) := (hdm.mono (PLe.un_r hdj)).symm; have hdjN : PDj (PUn hl (h100)) (hp w) := PDj.un hdj hd2; have hMM : PLe (PUn hl (hp w)) (PUn (PUn hl (h100)) (hp w)) := PUn.mono_l (PLe.un_l _ _) hdjN; have hHM : PLe (h100) (PUn (PUn hl (h100)) (hp w)) := (PLe.un_r hd1).trans (PLe.un_l _ _); have eM : dvM k p n ts bs ps (dvG k p n ts bs ps c) (bs.length - 1 - c) = sumR k p n (dvJ k p n ts bs ps (dvG k p n ts bs ps c) (bs.length - 1 - c)) l98 := by rw [dvM, if_pos (by omega), e98]
              have hTN : TensL (dvMs k p n ts bs ps (c + 1)) (cm.take ((bs.length - 1 - c) * 3) ++ [va100, vb100, vc100] ++ cm.drop ((bs.length - 1 - c) * 3 + 3)) (PUn (PUn hl (h100)) (hp w)) := by rw [dvMs_step (by omega), eM]; exact (hT.mono hMM).put (by rw [dvMs_len]; omega) (o100.toR.1.mono hHM) (o100.toR.2.1.mono hHM) (o100.toR.2.2.mono hHM)
              exact qs_bk (c + 1, PUn hl (h100), _, h24) ⟨by (try dsimp only); omega, hdjN, fun q hq => by (by_cases h : q < c; exact hfit q h; rw [show q = c by omega]; exact hfc), hTN, by (try dsimp only); rw [dvMs_len] at r24 ⊢; exact r24⟩ (by simp only; omega) ⟨rfl, rfl, rfl, rfl, rfl, (by first | rfl | exact ksub rfl (by first | omega | (simp; done) | (simp; omega))), trivial⟩ (fun _ s => Sat.merge (Sat.merge ((Sat.part hdj (s.pick (HS' := [PUn hl (hp w), h100, h24, box b4 [.slice none 0 0, .slice none 0 0, .slice none 0 0] 34, box b3 [va, vb] 60, box b2 [num k, num p, num n, vt, vo] 40]) [2, 0, 3, 5, 6, 7] (by decide) rfl)).pick (HS' := [hl, h100, hp w, h24, box b4 [.slice none 0 0, .slice none 0 0, .slice none 0 0] 34, box b3 [va, vb] 60, box b2 [num k, num p, num n, vt, vo] 40]) [0, 2, 1, 3, 4, 5, 6] (by decide) rfl)))
            · refine wp_sk (qs_n (wp_sq (sq_v rfl (v_move rfl) rfl (sq_v rfl (v_move rfl) rfl (sq_v rfl (v_loadNB 3 ty_34 rfl rfl rfl rfl) rfl ?_))))); obtain ⟨t104, a104, b104, c104, ht104, hcs104, rl104, rd104, rx104⟩ := hT.at0 (((bs.length : Int) - 1 - c : Int).toNat) (by first | omega | (rw [List.length_set]; omega)); refine sq_v rfl (v_indexAddr Tryz.underlying38 ty_34 rfl rfl rr.toR (by decide) (by omega) (by omega)) rfl ?_
              (first | refine sq_m 2 rfl rfl (m_storeE 2 ty_34 rfl rfl (us := [va100, vb100, vc100]) rfl rfl (fun u hu => by simp only [List.mem_cons, List.not_mem_nil, or_false] at hu; rcases hu with rfl | rfl | rfl; exact o100.toR.1.sl.one; exact o100.toR.2.1.sl.one; exact o100.toR.2.2.sl.one) rfl rr (by decide) (by have := rr.1; omega)) rfl ?_ | refine sq_m 2 rfl rfl (m_storeE 2 ty_34 rfl rfl (us := [ja, jb, jc]) rfl rfl (fun u hu => by simp only [List.mem_cons, List.not_mem_nil, or_false] at hu; rcases hu with rfl | rfl | rfl; exact o1; exact o2; exact o3) rfl rr (by decide) (by have := rr.1; omega)) rfl ?_); rintro _ h24 ⟨rfl, r24⟩
              refine sq_end (qs_bn (qs_n (wp_sq (sq_v rfl (v_move rfl) rfl ?_)))); refine sq_v rfl (v_sub rfl rfl ((by unfold I64; omega))) rfl ?_; refine sq_v rfl (v_assign rfl) rfl (sq_end ?_); refine qs_dj 1 0 rfl rfl rfl (fun hdm => ?_); simp only [ei0] at r24; have hd1 : PDj hl (PUn h33 h80) := hdm.mono (PLe.un_l _ _); have hd2 : PDj (PUn h33 h80) (hp w) := (hdm.mono (PLe.un_r hdj)).symm; have hdjN : PDj (PUn hl (PUn h33 h80)) (hp w) := PDj.un hdj hd2; have hMM : PLe (PUn hl (hp w)) (PUn (PUn hl (PUn h33 h80)) (hp w)) := PUn.mono_l (PLe.un_l _ _) hdjN; have hHM : PLe (PUn h33 h80) (PUn (PUn hl (PUn h33 h80)) (hp w)) := (PLe.un_r hd1).trans (PLe.un_l _ _); have eM : dvM k p n ts bs ps (dvG k p n ts bs ps c) (bs.length - 1 - c) = (dvJ k p n ts bs ps (dvG k p n ts bs ps c) (bs.length - 1 - c)) := by rw [dvM, if_neg (by omega)]
              have hTN : TensL (dvMs k p n ts bs ps (c + 1)) (cm.take ((bs.length - 1 - c) * 3) ++ [ja, jb, jc] ++ cm.drop ((bs.length - 1 - c) * 3 + 3)) (PUn (PUn hl (PUn h33 h80)) (hp w)) := by rw [dvMs_step (by omega), eM]; exact (hT.mono hMM).put (by rw [dvMs_len]; omega) (q1.mono hHM) (q2.mono hHM) (q3.mono hHM)
              exact qs_bk (c + 1, PUn hl (PUn h33 h80), _, h24) ⟨by (try dsimp only); omega, hdjN, fun q hq => by (by_cases h : q < c; exact hfit q h; rw [show q = c by omega]; exact hfc), hTN, by (try dsimp only); rw [dvMs_len] at r24 ⊢; exact r24⟩ (by simp only; omega) ⟨rfl, rfl, rfl, rfl, rfl, (by first | rfl | exact ksub rfl (by first | omega | (simp; done) | (simp; omega))), trivial⟩ (fun _ s => Sat.merge (Sat.merge ((Sat.part hdj (s.pick (HS' := [PUn hl (hp w), PUn h33 h80, h24, box b4 [.slice none 0 0, .slice none 0 0, .slice none 0 0] 34, box b3 [va, vb] 60, box b2 [num k, num p, num n, vt, vo] 40]) [1, 0, 2, 4, 5, 6] (by decide) rfl)).pick (HS' := [hl, PUn h33 h80, hp w, h24, box b4 [.slice none 0 0, .slice none 0 0, .slice none 0 0] 34, box b3 [va, vb] 60, box b2 [num k, num p, num n, vt, vo] 40]) [0, 2, 1, 3, 4, 5, 6] (by decide) rfl)))
    · refine wp_ex (qs_x (qs_x (qs_bx (qs_n (wp_sc (wp_rj 7 [(0, true), (1, true), (2, true), (3, true), (4, false), (5, true), (6, true), (7, false), (8, false)] mixed_ok (by kernel_rfl) (rj_v rfl rfl (v_loadNB 4 ty_40 rfl rfl rfl rfl) rfl (rj_v rfl rfl (v_move rfl) rfl ?_)))))))); obtain ⟨t107, a107, b107, c107, ht107, hcs107, rl107, rd107, rx107⟩ := hT.at0 (0) (by first | omega | (rw [List.length_set]; omega)); refine rj_v rfl rfl (v_indexAddr Tryz.underlying38 ty_34 rfl rfl rr.toR (by decide) (by omega) (by omega)) rfl ?_; refine rj_v rfl rfl (v_loadNE 1 ty_34 rfl rfl rr.toR (by have := rr.toR.1; omega) rfl hcs107) rfl ?_; have ec : c = bs.length := (by omega); have hdv : dvP k p n ts op bs ps := ⟨hd, fun q hq => hfit q (by omega)⟩; have hfin := hdv.fin; have hfb : finB k p n ts op (dvE k p n ts bs ps) = true := (by simp [finB, hfin]); have e107 : t107 = dvE k p n ts bs ps := (by have h0 := dvMs_get (k := k) (p := p) (n := n) (ts := ts) (ps := ps) (c := c) (show 0 < bs.length by omega); have h1 := Option.some.inj (ht107.symm.trans h0); rw [h1, ec]; rfl); subst e107; refine rj_x rfl rfl (x_call rfl en_74 (fun w s => ct_i_FinishTensor k p n _ _ (dvE k p n ts bs ps) _ _ _ _ _ w ((r.mono (PLe.un_r hdj)).mono (s.get 0 rfl)) ((r'.mono (PLe.un_r hdj)).mono (s.get 0 rfl)) (rl107.mono (s.get 0 rfl)) (rd107.mono (s.get 0 rfl)) (rx107.mono (s.get 0 rfl)) (by first | assumption | omega))) rfl ?_; rintro _ h109 ⟨va109, vb109, vc109, rfl, o109⟩; refine rj_v rfl rfl (v_extract rfl rfl) rfl (rj_v rfl rfl (v_extract rfl rfl) rfl ?_); refine rj_m 3 rfl rfl rfl rfl (m_store 3 ty_34 rfl rfl rfl rfl (by simp [o109.toR.1.sl.one, o109.toR.2.1.sl.one, o109.toR.2.2.sl.one]) rfl (Nat.le_of_ble_eq_true rfl)) rfl ?_; rintro _ _ ⟨rfl, rfl⟩; refine rj_fv rfl rfl (v_assign rfl) rfl (rj_end (qs_n (wp_rt (qs_s [hl, hp w, h109, box b4 [va109, vb109, vc109] 34] (fun _ s => Sat.part hdj (s.pick [1, 0, 3] (by decide) rfl)) ?_)))); rw [finR, if_pos hfin] at o109; rw [hfb]; exact qs_retct 3 rfl ty_34 rfl rfl rfl rfl (fin_t 2 (i := 1) rfl rfl rfl (DvYes hdv o109))
end Go.Proofs.YthlmjnihihbckaaGreat
